/- A part of the proof: 5 texts joined. -/
import Derived.Test.YtljeinlapkgjeaaPwA21
import Derived.Test.YtljeinlapkgjeaaPwA12
import Derived.Test.YtljeinlapkgjeaaPwA13
import Derived.Test.YtljeinlapkgjeaaPwA15
import Derived.Test.YtljeinlapkgjeaaPwA11
import Derived.KernelRfl
set_option linter.all false
/- What stanzas' bytes are read as: plain laws. -/
namespace Go.Proofs.Ytljeinlapkgjeaa
def rdA (S : ByteArray) (a : Nat) : RdD := ⟨S, a, 0⟩
theorem num_at (S : ByteArray) (a w : Nat) (bs rest : List UInt8) (h : S.data.toList.drop a = bs ++ rest) (hl : bs.length = w) (ha : a ≤ S.size) : numL (rdA S a) w = (rdA S (a + w), (beN bs : Int)) := by
  have hsz : S.size = a + bs.length + rest.length := by
    have := congrArg List.length h
    rw [List.length_drop, bl_len, List.length_append] at this
    omega
  have hf : faultL (rdA S a) = 0 := faultL_ok rfl (by simp [rdA]) (by simp only [rdA]; omega)
  have el : leftL (rdA S a) = S.size - (a : Int) := if_neg (by rw [hf]; simp)
  have h2 : ¬ leftL (rdA S a) < w := by rw [el]; omega
  rw [numL_ok hf h2]
  have e : (((rdA S a).s.data.toList.drop (rdA S a).at_.toNat).take w) = bs := by
    show (S.data.toList.drop (a : Int).toNat).take w = bs
    rw [Int.toNat_natCast, h, ← hl, List.take_left]
  rw [e]; rfl
theorem num_cut (S : ByteArray) (a w : Nat) (h : S.size < a + w) (ha : a ≤ S.size) : (numL (rdA S a) w).1.bad ≠ 0 := by
  have hf : faultL (rdA S a) = 0 := faultL_ok rfl (by simp [rdA]) (by simp only [rdA]; omega)
  have el : leftL (rdA S a) = S.size - (a : Int) := if_neg (by rw [hf]; simp)
  rw [numL_short hf (by rw [el]; omega)]; simp
theorem beN_one (n : Nat) (h : n < 256) : beN [UInt8.ofNat n] = n := by
  simp only [beN, List.foldl_cons, List.foldl_nil, UInt8.toNat_ofNat']; omega
theorem sayB_one (t : ByteArray) : sayB t = [UInt8.ofNat t.size] ++ t.data.toList := rfl
theorem text_at (S : ByteArray) (a most : Nat) (t : ByteArray) (rest : List UInt8) (h : S.data.toList.drop a = sayB t ++ rest) (ht : t.size ≤ most) (hm : most ≤ 255) (ha : a ≤ S.size) : octTextL (rdA S a) most = (rdA S (a + (sayB t).length), t) := by
  rw [sayB_one, List.append_assoc] at h
  have hn := num_at S a 1 _ _ h rfl ha
  rw [beN_one _ (by omega)] at hn
  have hsz : S.size = a + 1 + t.size + rest.length := by
    have := congrArg List.length h
    rw [List.length_drop, bl_len, List.length_append, List.length_append, bl_len, List.length_singleton] at this
    omega
  have hb : (numL (rdA S a) 1).1.bad = 0 := by rw [hn]; rfl
  obtain ⟨_, _, _, _, _, _, _, _, hleft⟩ := num1_facts _ hb
  unfold octTextL
  rw [hleft, hn]
  rw [if_neg (by simp [rdA]), if_neg (by simp only; omega), if_neg (by show ¬ ((S.size : Int) - ((a : Int) + 1) < (t.size : Int)); omega)]
  have e2 : (rdA S a).s.extract (rdA S (a + 1)).at_.toNat ((rdA S (a + 1)).at_ + (t.size : Int)).toNat = t := by
    show S.extract ((a + 1 : Nat) : Int).toNat (((a + 1 : Nat) : Int) + (t.size : Int)).toNat = t
    rw [Int.toNat_natCast, show (((a + 1 : Nat) : Int) + (t.size : Int)).toNat = a + 1 + t.size by omega]
    apply bl_inj
    rw [ext_list _ _ _ (by omega), Nat.add_sub_cancel_left, ← List.drop_drop, h]
    simp only [List.singleton_append, List.drop_succ_cons, List.drop_zero]
    rw [← bl_len t, List.take_left]
  rw [e2, sayB_len]
  simp only [rdA, Prod.mk.injEq, RdD.mk.injEq, true_and, and_true]
  omega
theorem beL1 (n : Nat) : beL n 1 = [UInt8.ofNat n] := by simp [beL]
theorem beN_L6 (n : Nat) (h : n < 256 ^ 6) : beN (beL n 6) = n := by
  rw [p256] at h
  simp only [beL, beN, List.foldl_cons, List.foldl_nil, UInt8.toNat_ofNat', Nat.reducePow]
  omega
theorem u8_eq {n : Nat} {b : UInt8} (h : n % 256 = b.toNat) : UInt8.ofNat n = b := by
  apply UInt8.toNat_inj.1; rw [UInt8.toNat_ofNat']; exact h
theorem beL_N6 (b0 b1 b2 b3 b4 b5 : UInt8) : beL (beN [b0, b1, b2, b3, b4, b5]) 6 = [b0, b1, b2, b3, b4, b5] := by
  have h0 := b0.toNat_lt
  have h1 := b1.toNat_lt
  have h2 := b2.toNat_lt
  have h3 := b3.toNat_lt
  have h4 := b4.toNat_lt
  have h5 := b5.toNat_lt
  simp only [beL, beN, List.foldl_cons, List.foldl_nil, Nat.reducePow]
  rw [u8_eq (b := b0) (by omega), u8_eq (b := b1) (by omega), u8_eq (b := b2) (by omega), u8_eq (b := b3) (by omega), u8_eq (b := b4) (by omega), u8_eq (b := b5) (by omega)]
/-- a field, out of another stanza. -/
def setF1 (s x : StzD) (c : UInt8) : StzD :=
  if c = 117 then { x with user := s.user } else if c = 114 then { x with res := s.res } else if c = 109 then { x with name := s.name } else if c = 115 then { x with show_ := s.show_ } else if c = 112 then { x with prio := s.prio } else if c = 99 then { x with code := s.code } else { x with n := s.n }
def letterS (c : UInt8) : Prop := c = 117 ∨ c = 114 ∨ c = 109 ∨ c = 115 ∨ c = 112 ∨ c = 99 ∨ c = 110
theorem readF_at (S : ByteArray) (a : Nat) (s x : StzD) (c : UInt8) (rest : List UInt8) (hc : letterS c) (ho : okF s c) (h : S.data.toList.drop a = fieldB s c ++ rest) (ha : a ≤ S.size) : readF (rdA S a, x) c = (rdA S (a + (fieldB s c).length), setF1 s x c) := by
  rcases hc with rfl | rfl | rfl | rfl | rfl | rfl | rfl
  · rw [fld117] at h ⊢; rw [rf117, show octTextL (rdA S a) 33 = _ from text_at S a 33 _ _ h (ok117 ho) (by decide) ha]; rfl
  · rw [fld114] at h ⊢; rw [rf114, show octTextL (rdA S a) 12 = _ from text_at S a 12 _ _ h (ok114 ho) (by decide) ha]; rfl
  · rw [fld109] at h ⊢; rw [rf109, show octTextL (rdA S a) 24 = _ from text_at S a 24 _ _ h (ok109 ho) (by decide) ha]; rfl
  · obtain ⟨g1, g2, g3⟩ := lay_show (ok115 ho)
    rw [fld115] at h ⊢; rw [rf115, num_at S a 1 _ _ h rfl ha, beL1, beN_one _ g3]
    simp only [List.length_singleton, Prod.mk.injEq, true_and]
    show { x with show_ := (s.show_.toNat : Int) - 0 } = { x with show_ := s.show_ }
    rw [← g1, Int.add_sub_cancel]
  · obtain ⟨g1, g2, g3⟩ := lay_prio (ok112 ho)
    rw [fld112] at h ⊢; rw [rf112, num_at S a 1 _ _ h rfl ha, beL1, beN_one _ g3]
    simp only [List.length_singleton, Prod.mk.injEq, true_and]
    show { x with prio := ((s.prio + 128).toNat : Int) - 128 } = { x with prio := s.prio }
    rw [← g1, Int.add_sub_cancel]
  · obtain ⟨g1, g2, g3⟩ := lay_code (ok99 ho)
    rw [fld99] at h ⊢; rw [rf99, num_at S a 1 _ _ h rfl ha, beL1, beN_one _ g3]
    simp only [List.length_singleton, Prod.mk.injEq, true_and]
    show { x with code := (s.code.toNat : Int) - 0 } = { x with code := s.code }
    rw [← g1, Int.add_sub_cancel]
  · obtain ⟨g1, g2⟩ := lay_n (ok110 ho)
    rw [fld110] at h ⊢; rw [rf110, num_at S a 6 _ _ h rfl ha, beN_L6 _ g2]
    refine Prod.ext rfl ?_
    show { x with n := (s.n.toNat : Int) - 0 } = { x with n := s.n }
    rw [← g1, Int.add_sub_cancel]
theorem fold_at (s : StzD) : ∀ (L : List UInt8) (S : ByteArray) (a : Nat) (x : StzD) (rest : List UInt8), (∀ c ∈ L, letterS c ∧ okF s c) → S.data.toList.drop a = bodyB s L ++ rest → a ≤ S.size → L.foldl readF (rdA S a, x) = (rdA S (a + (bodyB s L).length), L.foldl (setF1 s) x)
  | [], S, a, x, rest, _, _, _ => by simp [bodyB]
  | c :: L, S, a, x, rest, hL, h, ha => by
    have e : bodyB s (c :: L) = fieldB s c ++ bodyB s L := by simp [bodyB]
    rw [e, List.append_assoc] at h
    obtain ⟨h1, h2⟩ := hL c (by simp)
    have hsz : a + (fieldB s c).length ≤ S.size := by
      have := congrArg List.length h
      rw [List.length_drop, bl_len, List.length_append] at this
      have := (field_len h2).1
      omega
    rw [List.foldl_cons, readF_at S a s x c _ h1 h2 h ha, fold_at s L S _ _ rest (fun d hd => hL d (List.mem_cons_of_mem _ hd)) (by rw [← List.drop_drop, h, List.drop_left]) hsz, e, List.length_append, Nat.add_assoc]
    rfl
theorem set_fold (s : StzD) (L : List UInt8) (hL : ∀ c ∈ L, letterS c) : ∀ x : StzD, L.foldl (setF1 s) x = ⟨x.kind, if L.any (· == 117) then s.user else x.user, if L.any (· == 114) then s.res else x.res, if L.any (· == 109) then s.name else x.name, if L.any (· == 115) then s.show_ else x.show_, if L.any (· == 112) then s.prio else x.prio, if L.any (· == 99) then s.code else x.code, if L.any (· == 110) then s.n else x.n⟩ := by
  induction L with
  | nil => intro x; rfl
  | cons c L ih =>
    intro x
    rw [List.foldl_cons, ih (fun d hd => hL d (by simp [hd]))]
    simp only [List.any_cons]
    rcases hL c (by simp) with rfl | rfl | rfl | rfl | rfl | rfl | rfl
    all_goals simp [setF1]
theorem letters (k : Nat) : ∀ c ∈ hasN k, letterS c := hasN_in k
theorem set_all {s : StzD} (h : extraL s = false) : (hasN s.kind.toNat).foldl (setF1 s) (kS s.kind) = s := by
  rw [set_fold s _ (letters _)]
  simp only [extraL, Bool.or_eq_false_iff, Bool.and_eq_false_iff, hasC] at h
  obtain ⟨⟨⟨h1, h2⟩, h3⟩, ⟨⟨h4, h5⟩, h6⟩, h7⟩ := h
  have emp : ∀ {u : ByteArray} {b : Bool}, (!u.toList.isEmpty) = false ∨ (!b) = false → (if b = true then u else (⟨#[]⟩ : ByteArray)) = u := by
    intro u b hh
    cases b with
    | true => rfl
    | false =>
      rcases hh with hh | hh
      · simp only [Bool.false_eq_true, if_false]
        apply bl_inj
        rw [ByteArray.toList_eq] at hh
        simp only [Bool.not_eq_false', List.isEmpty_iff] at hh
        rw [hh]
      · cases hh
  have num : ∀ {n : Int} {b : Bool}, (n != 0) = false ∨ (!b) = false → (if b = true then n else (0 : Int)) = n := by
    intro n b hh
    cases b with
    | true => rfl
    | false =>
      rcases hh with hh | hh
      · simp only [bne_eq_false_iff_eq] at hh; simp [hh]
      · cases hh
  show (⟨s.kind, if _ then s.user else ⟨#[]⟩, if _ then s.res else ⟨#[]⟩, if _ then s.name else ⟨#[]⟩, if _ then s.show_ else 0, if _ then s.prio else 0, if _ then s.code else 0, if _ then s.n else 0⟩ : StzD) = s
  rw [emp h1, emp h2, emp h3, num h4, num h5, num h6, num h7]
end Go.Proofs.Ytljeinlapkgjeaa
/- What stanzas' bytes are read as, and what is read is put as: plain laws. -/
namespace Go.Proofs.Ytljeinlapkgjeaa
def encS (s : StzD) : List UInt8 := s.kind :: bodyB s (hasN s.kind.toNat)
theorem let_ok {s : StzD} (h : checkS s = 0) : ∀ c ∈ hasN s.kind.toNat, letterS c ∧ okF s c := fun c hc => ⟨letters _ c hc, check_ok h c hc⟩
theorem foldR_enc {s : StzD} (h : checkS s = 0) (w : List UInt8) : foldR s.kind (bodyB s (hasN s.kind.toNat) ++ w) = (rdA (ba (bodyB s (hasN s.kind.toNat) ++ w)) (bodyB s (hasN s.kind.toNat)).length, s) := by
  have := fold_at s (hasN s.kind.toNat) (ba (bodyB s (hasN s.kind.toNat) ++ w)) 0 (kS s.kind) w (let_ok h) (by rw [ba_list, List.drop_zero]) (Nat.zero_le _)
  rw [set_all (check_parts h).2.1, Nat.zero_add] at this
  exact this
theorem done_at (S : ByteArray) (n : Nat) (h : n ≤ S.size) : doneL (rdA S n) = if n < S.size then 4 else 0 := by
  have hf : faultL (rdA S n) = 0 := faultL_ok rfl (by simp [rdA]) (by simp only [rdA]; omega)
  unfold doneL
  rw [if_neg (by rw [hf]; simp)]
  by_cases hl : n < S.size
  · rw [if_pos hl]; exact if_pos (show (n : Int) < (S.size : Int) by omega)
  · rw [if_neg hl]; exact if_neg (show ¬ (n : Int) < (S.size : Int) by omega)
theorem read_enc {s : StzD} (h : checkS s = 0) : readL (encS s) = (s, 0) := by
  have hf := foldR_enc h []
  rw [List.append_nil] at hf
  have hd : doneL (foldR s.kind (bodyB s (hasN s.kind.toNat))).1 = 0 := by
    rw [hf, done_at _ _ (by rw [ba_size]; exact Nat.le_refl _), if_neg (by rw [ba_size]; omega)]
  have := readL_o (k := s.kind) (rest := bodyB s (hasN s.kind.toNat)) (check_parts h).1 hd (by rw [hf]; exact h)
  rw [hf] at this
  exact this
theorem read_more {s : StzD} (h : checkS s = 0) (w : List UInt8) (hw : w ≠ []) : readL (encS s ++ w) = (zS, 4) := by
  have hf := foldR_enc h w
  have hl : 0 < w.length := List.length_pos_iff.2 hw
  have hd : doneL (foldR s.kind (bodyB s (hasN s.kind.toNat) ++ w)).1 = 4 := by
    rw [hf, done_at _ _ (by rw [ba_size, List.length_append]; omega), if_pos (by rw [ba_size, List.length_append]; omega)]
  have := readL_d (k := s.kind) (rest := bodyB s (hasN s.kind.toNat) ++ w) (check_parts h).1 (by rw [hd]; decide)
  rw [hd] at this
  exact this
/-- how long a field may be. -/
def fmax (c : UInt8) : Nat := if c = 117 then 34 else if c = 114 then 13 else if c = 109 then 25 else if c = 110 then 6 else 1
theorem field_max {s : StzD} {c : UInt8} (hc : letterS c) (h : okF s c) : (fieldB s c).length ≤ fmax c := by
  have b1 : ∀ n, (beL n 1).length = 1 := fun _ => rfl
  have b6 : ∀ n, (beL n 6).length = 6 := fun _ => rfl
  rcases hc with rfl | rfl | rfl | rfl | rfl | rfl | rfl
  · rw [fld117, sayB_len]; have := ok117 h; show _ ≤ 34; omega
  · rw [fld114, sayB_len]; have := ok114 h; show _ ≤ 13; omega
  · rw [fld109, sayB_len]; have := ok109 h; show _ ≤ 25; omega
  · rw [fld115, b1]; decide
  · rw [fld112, b1]; decide
  · rw [fld99, b1]; decide
  · rw [fld110, b6]; decide
theorem body_max {s : StzD} : ∀ {L : List UInt8}, (∀ c ∈ L, letterS c ∧ okF s c) → (bodyB s L).length ≤ (L.map fmax).sum
  | [], _ => by simp [bodyB]
  | c :: L, h => by
    have h1 := body_max (s := s) (L := L) (fun d hd => h d (List.mem_cons_of_mem _ hd))
    have h2 := field_max (h c (by simp)).1 (h c (by simp)).2
    have e : bodyB s (c :: L) = fieldB s c ++ bodyB s L := by simp [bodyB]
    rw [e, List.length_append, List.map_cons, List.sum_cons]; omega
theorem ite_p {p : Prop} [Decidable p] {a b : List UInt8} {Q : List UInt8 → Prop} (ha : Q a) (hb : Q b) : Q (if p then a else b) := by split <;> assumption
theorem sum_max (k : Nat) : ((hasN k).map fmax).sum ≤ 80 := by
  have : (fun l : List UInt8 => (l.map fmax).sum ≤ 80) (hasN k) := by
    unfold hasN
    repeat' (refine ite_p (Q := fun l : List UInt8 => (l.map fmax).sum ≤ 80) ?_ ?_)
    all_goals decide
  exact this
theorem has_nodup (k : Nat) : (hasN k).Nodup := by
  unfold hasN
  repeat' (refine ite_p (Q := List.Nodup) ?_ ?_)
  all_goals decide
theorem enc_len {s : StzD} (h : checkS s = 0) : 0 < (encS s).length ∧ (encS s).length ≤ 81 := by
  have := body_max (let_ok h)
  have := sum_max s.kind.toNat
  unfold encS
  rw [List.length_cons]; omega
theorem done_bad {r : RdD} (h : r.bad ≠ 0) : doneL r ≠ 0 := by
  unfold doneL
  rw [faultL_bad h, if_pos h]; exact h
theorem numL_mono (r : RdD) (w : Nat) (h : r.bad ≠ 0) : (numL r w).1.bad ≠ 0 := by
  rw [numL_bad (by rw [faultL_bad h]; exact h), faultL_bad h]; exact h
theorem textL_mono (r : RdD) (m : Int) (h : (numL r 1).1.bad ≠ 0) : (octTextL r m).1.bad ≠ 0 := by
  unfold octTextL
  rw [if_pos h]; exact h
theorem readF_mono (r : RdD) (x : StzD) (c : UInt8) (h : r.bad ≠ 0) : (readF (r, x) c).1.bad ≠ 0 := by
  have h1 := numL_mono r 1 h
  have h6 := numL_mono r 6 h
  unfold readF
  repeat' split
  all_goals first | exact textL_mono _ _ h1 | exact h1 | exact h6
theorem fold_mono : ∀ (L : List UInt8) (x : RdD × StzD), x.1.bad ≠ 0 → (L.foldl readF x).1.bad ≠ 0
  | [], _, h => h
  | c :: L, x, h => fold_mono L _ (readF_mono x.1 x.2 c h)
theorem drop_size {S : ByteArray} {a : Nat} {l : List UInt8} (h : S.data.toList.drop a = l) (ha : a ≤ S.size) : S.size = a + l.length := by
  have := congrArg List.length h
  rw [List.length_drop, bl_len] at this
  omega
theorem text_cut (S : ByteArray) (a most : Nat) (t : ByteArray) (h : S.data.toList.drop a = (sayB t).dropLast) (ht : t.size ≤ most) (hm : most ≤ 255) (ha : a ≤ S.size) : (octTextL (rdA S a) most).1.bad ≠ 0 := by
  have hsz := drop_size h ha
  rw [List.length_dropLast, sayB_len] at hsz
  by_cases h0 : t.size = 0
  · exact textL_mono _ _ (num_cut S a 1 (by omega) ha)
  · have hd : (sayB t).dropLast = [UInt8.ofNat t.size] ++ t.data.toList.dropLast := by
      rw [sayB_one, List.dropLast_append_of_ne_nil (fun e => h0 (by rw [← bl_len, e]; rfl))]
    rw [hd] at h
    have hn := num_at S a 1 _ _ h rfl ha
    rw [beN_one _ (by omega)] at hn
    have hb : (numL (rdA S a) 1).1.bad = 0 := by rw [hn]; rfl
    obtain ⟨_, _, _, _, _, _, _, _, hleft⟩ := num1_facts _ hb
    unfold octTextL
    rw [hleft, hn]
    rw [if_neg (by simp [rdA]), if_neg (by simp only; omega), if_pos (by show ((S.size : Int) - ((a : Int) + 1) < (t.size : Int)); omega)]
    simp
theorem readF_cut (S : ByteArray) (a : Nat) (s x : StzD) (c : UInt8) (hc : letterS c) (ho : okF s c) (h : S.data.toList.drop a = (fieldB s c).dropLast) (ha : a ≤ S.size) : (readF (rdA S a, x) c).1.bad ≠ 0 := by
  have hsz := drop_size h ha
  rw [List.length_dropLast] at hsz
  have b1 : ∀ n, (beL n 1).length = 1 := fun _ => rfl
  have b6 : ∀ n, (beL n 6).length = 6 := fun _ => rfl
  rcases hc with rfl | rfl | rfl | rfl | rfl | rfl | rfl
  · rw [fld117] at h; exact text_cut S a 33 _ h (ok117 ho) (by decide) ha
  · rw [fld114] at h; exact text_cut S a 12 _ h (ok114 ho) (by decide) ha
  · rw [fld109] at h; exact text_cut S a 24 _ h (ok109 ho) (by decide) ha
  · rw [fld115, b1] at hsz; exact num_cut S a 1 (by omega) ha
  · rw [fld112, b1] at hsz; exact num_cut S a 1 (by omega) ha
  · rw [fld99, b1] at hsz; exact num_cut S a 1 (by omega) ha
  · rw [fld110, b6] at hsz; exact num_cut S a 6 (by omega) ha
theorem read_less {s : StzD} (h : checkS s = 0) : (readL (encS s).dropLast).2 ≠ 0 := by
  have hlo := let_ok h
  unfold encS
  generalize hL : hasN s.kind.toNat = L at hlo
  rcases List.eq_nil_or_concat L with rfl | ⟨L', c, rfl⟩
  · simp [bodyB, readL]
  · rw [List.concat_eq_append] at *
    have hc := hlo c (by simp)
    have hb : bodyB s (L' ++ [c]) = bodyB s L' ++ fieldB s c := by simp [bodyB]
    have hne : fieldB s c ≠ [] := fun e => by have := (field_len hc.2).1; rw [e] at this; simp at this
    have hd : (s.kind :: bodyB s (L' ++ [c])).dropLast = s.kind :: (bodyB s L' ++ (fieldB s c).dropLast) := by
      rw [hb, List.dropLast_cons_of_ne_nil (by simp [hne]), List.dropLast_append_of_ne_nil hne]
    rw [hd]
    generalize hS : bodyB s L' ++ (fieldB s c).dropLast = rest
    have h1 := fold_at s L' (ba rest) 0 (kS s.kind) (fieldB s c).dropLast (fun d hd => hlo d (by simp [hd])) (by rw [ba_list, List.drop_zero, hS]) (Nat.zero_le _)
    have hr : (foldR s.kind rest).1.bad ≠ 0 := by
      unfold foldR
      rw [hL, List.foldl_append, show L'.foldl readF (⟨ba rest, 0, 0⟩, kS s.kind) = _ from h1, Nat.zero_add]
      refine readF_cut _ _ s _ c hc.1 hc.2 ?_ ?_
      · rw [ba_list, ← hS, List.drop_left]
      · rw [ba_size, ← hS, List.length_append]; omega
    have hdn := done_bad hr
    rw [readL_d (check_parts h).1 hdn]
    exact hdn
theorem num_inv (S : ByteArray) (a w : Nat) (ha : a ≤ S.size) (h : (numL (rdA S a) w).1.bad = 0) : ∃ bs : List UInt8, bs.length = w ∧ S.data.toList.drop a = bs ++ S.data.toList.drop (a + w) ∧ numL (rdA S a) w = (rdA S (a + w), (beN bs : Int)) ∧ a + w ≤ S.size := by
  by_cases hlt : S.size < a + w
  · exact absurd h (num_cut S a w hlt ha)
  · have hl : ((S.data.toList.drop a).take w).length = w := by rw [List.length_take, List.length_drop, bl_len]; omega
    have hd : S.data.toList.drop a = (S.data.toList.drop a).take w ++ S.data.toList.drop (a + w) := by rw [← List.drop_drop, List.take_append_drop]
    exact ⟨_, hl, hd, num_at S a w _ _ hd hl ha, by omega⟩
theorem text_inv (S : ByteArray) (a : Nat) (m : Int) (ha : a ≤ S.size) (h : (octTextL (rdA S a) m).1.bad = 0) : ∃ (t : ByteArray), octTextL (rdA S a) m = (rdA S (a + (sayB t).length), t) ∧ S.data.toList.drop a = sayB t ++ S.data.toList.drop (a + (sayB t).length) ∧ a + (sayB t).length ≤ S.size := by
  by_cases hb : (numL (rdA S a) 1).1.bad = 0
  · obtain ⟨bs, hl, hd, hn, hle⟩ := num_inv S a 1 ha hb
    obtain ⟨_, _, _, _, _, _, _, _, hleft⟩ := num1_facts _ hb
    match bs, hl with
    | [b], _ =>
      have hbn : beN [b] = b.toNat := by simp [beN]
      rw [hbn] at hn
      have hbl := b.toNat_lt
      unfold octTextL at h ⊢
      rw [hleft, hn] at h ⊢
      rw [if_neg (by simp [rdA])] at h ⊢
      by_cases c1 : m < ((rdA S (a + 1), (b.toNat : Int)) : RdD × Int).2
      · rw [if_pos c1] at h; simp [rdA] at h
      · rw [if_neg c1] at h ⊢
        by_cases c2 : ((rdA S a).s.size : Int) - ((rdA S a).at_ + 1) < ((rdA S (a + 1), (b.toNat : Int)) : RdD × Int).2
        · rw [if_pos c2] at h; simp [rdA] at h
        · rw [if_neg c2]
          have c3 : a + 1 + b.toNat ≤ S.size := by
            have : ¬ ((S.size : Int) - ((a : Int) + 1) < (b.toNat : Int)) := c2
            omega
          have hx : (rdA S a).s.extract (rdA S (a + 1)).at_.toNat ((rdA S (a + 1)).at_ + (b.toNat : Int)).toNat = S.extract (a + 1) (a + 1 + b.toNat) := by
            show S.extract ((a + 1 : Nat) : Int).toNat (((a + 1 : Nat) : Int) + (b.toNat : Int)).toNat = _
            rw [Int.toNat_natCast, show (((a + 1 : Nat) : Int) + (b.toNat : Int)).toNat = a + 1 + b.toNat by omega]
          have hts := ext_size S (a + 1) (a + 1 + b.toNat) c3
          have htl := ext_list S (a + 1) (a + 1 + b.toNat) c3
          rw [Nat.add_sub_cancel_left] at hts htl
          refine ⟨S.extract (a + 1) (a + 1 + b.toNat), ?_, ?_, ?_⟩
          · simp only [hx]
            rw [sayB_len, hts]
            simp only [rdA, Prod.mk.injEq, RdD.mk.injEq, true_and, and_true]
            omega
          · rw [sayB_len, sayB_one, hts, htl, hd, u8_eq (b := b) (by omega), List.append_assoc]
            congr 1
            rw [show a + (1 + b.toNat) = (a + 1) + b.toNat by omega, ← List.drop_drop (i := b.toNat), List.take_append_drop]
          · rw [sayB_len, hts]; omega
  · exact absurd h (textL_mono _ _ hb)
theorem readF_inv (S : ByteArray) (a : Nat) (x : StzD) (c : UInt8) (hc : letterS c) (ha : a ≤ S.size) (h : (readF (rdA S a, x) c).1.bad = 0) : ∃ a', (readF (rdA S a, x) c).1 = rdA S a' ∧ a' ≤ S.size ∧ S.data.toList.drop a = fieldB (readF (rdA S a, x) c).2 c ++ S.data.toList.drop a' := by
  rcases hc with rfl | rfl | rfl | rfl | rfl | rfl | rfl
  · rw [rf117] at h ⊢
    obtain ⟨t, e, hd, hle⟩ := text_inv S a 33 ha h
    rw [fld117, e]; exact ⟨_, rfl, hle, hd⟩
  · rw [rf114] at h ⊢
    obtain ⟨t, e, hd, hle⟩ := text_inv S a 12 ha h
    rw [fld114, e]; exact ⟨_, rfl, hle, hd⟩
  · rw [rf109] at h ⊢
    obtain ⟨t, e, hd, hle⟩ := text_inv S a 24 ha h
    rw [fld109, e]; exact ⟨_, rfl, hle, hd⟩
  · rw [rf115] at h ⊢
    obtain ⟨bs, hl, hd, e, hle⟩ := num_inv S a 1 ha h
    match bs, hl with
    | [b], _ =>
      have hbn : beN [b] = b.toNat := by simp [beN]
      have hbl := b.toNat_lt
      rw [fld115, e, hbn, beL1, show ((b.toNat : Int) - 0).toNat = b.toNat by omega, u8_eq (b := b) (by omega)]
      exact ⟨_, rfl, hle, hd⟩
  · rw [rf112] at h ⊢
    obtain ⟨bs, hl, hd, e, hle⟩ := num_inv S a 1 ha h
    match bs, hl with
    | [b], _ =>
      have hbn : beN [b] = b.toNat := by simp [beN]
      have hbl := b.toNat_lt
      rw [fld112, e, hbn, beL1, show ((b.toNat : Int) - 128 + 128).toNat = b.toNat by omega, u8_eq (b := b) (by omega)]
      exact ⟨_, rfl, hle, hd⟩
  · rw [rf99] at h ⊢
    obtain ⟨bs, hl, hd, e, hle⟩ := num_inv S a 1 ha h
    match bs, hl with
    | [b], _ =>
      have hbn : beN [b] = b.toNat := by simp [beN]
      have hbl := b.toNat_lt
      rw [fld99, e, hbn, beL1, show ((b.toNat : Int) - 0).toNat = b.toNat by omega, u8_eq (b := b) (by omega)]
      exact ⟨_, rfl, hle, hd⟩
  · rw [rf110] at h ⊢
    obtain ⟨bs, hl, hd, e, hle⟩ := num_inv S a 6 ha h
    match bs, hl with
    | [b0, b1, b2, b3, b4, b5], _ =>
      rw [fld110, e, show ((beN [b0, b1, b2, b3, b4, b5] : Int) - 0).toNat = beN [b0, b1, b2, b3, b4, b5] by omega, beL_N6]
      exact ⟨_, rfl, hle, hd⟩
theorem readF_keep (r : RdD) (x : StzD) (c d : UInt8) (hc : letterS c) (hd : letterS d) (hne : c ≠ d) : fieldB (readF (r, x) d).2 c = fieldB x c := by
  rcases hc with rfl | rfl | rfl | rfl | rfl | rfl | rfl <;> rcases hd with rfl | rfl | rfl | rfl | rfl | rfl | rfl <;> first
    | exact absurd rfl hne
    | (simp only [fld117, fld114, fld109, fld115, fld112, fld99, fld110, rf117, rf114, rf109, rf115, rf112, rf99, rf110]; done)
theorem fold_keep (c : UInt8) (hc : letterS c) : ∀ (L : List UInt8) (x : RdD × StzD), (∀ d ∈ L, letterS d) → c ∉ L → fieldB (L.foldl readF x).2 c = fieldB x.2 c
  | [], _, _, _ => rfl
  | d :: L, x, hL, hn => by
    simp only [List.mem_cons, not_or] at hn
    rw [List.foldl_cons, fold_keep c hc L _ (fun e he => hL e (List.mem_cons_of_mem _ he)) hn.2]
    exact readF_keep x.1 x.2 c d hc (hL d (by simp)) hn.1
theorem fold_inv : ∀ (L : List UInt8) (S : ByteArray) (a : Nat) (x : StzD), L.Nodup → (∀ d ∈ L, letterS d) → a ≤ S.size → (L.foldl readF (rdA S a, x)).1.bad = 0 → ∃ a', (L.foldl readF (rdA S a, x)).1 = rdA S a' ∧ a' ≤ S.size ∧ S.data.toList.drop a = bodyB (L.foldl readF (rdA S a, x)).2 L ++ S.data.toList.drop a'
  | [], S, a, x, _, _, ha, _ => ⟨a, rfl, ha, by simp [bodyB]⟩
  | c :: L, S, a, x, hn, hL, ha, h => by
    rw [List.nodup_cons] at hn
    rw [List.foldl_cons] at h ⊢
    by_cases hb : (readF (rdA S a, x) c).1.bad = 0
    · obtain ⟨a1, e1, h1, h2⟩ := readF_inv S a x c (hL c (by simp)) ha hb
      obtain ⟨x1, hx1⟩ : ∃ x1, (readF (rdA S a, x) c).2 = x1 := ⟨_, rfl⟩
      have e2 : readF (rdA S a, x) c = (rdA S a1, x1) := Prod.ext e1 hx1
      rw [e2] at h ⊢
      rw [hx1] at h2
      obtain ⟨a2, e3, h3, h4⟩ := fold_inv L S a1 x1 hn.2 (fun d hd => hL d (List.mem_cons_of_mem _ hd)) h1 h
      refine ⟨a2, e3, h3, ?_⟩
      have hk := fold_keep c (hL c (by simp)) L (rdA S a1, x1) (fun d hd => hL d (List.mem_cons_of_mem _ hd)) hn.1
      have eb : ∀ z, bodyB z (c :: L) = fieldB z c ++ bodyB z L := fun z => by simp [bodyB]
      rw [eb, hk, h2, h4, List.append_assoc]
    · exact absurd h (fold_mono L _ hb)
/-- what is read is put as it was. -/
theorem enc_read {b : List UInt8} {z : StzD} (h : readL b = (z, 0)) : checkS z = 0 ∧ encS z = b := by
  cases b with
  | nil => simp [readL] at h
  | cons k rest =>
    by_cases h1 : knownN k.toNat = true
    · by_cases h2 : doneL (foldR k rest).1 = 0
      · by_cases h3 : checkS (foldR k rest).2 = 0
        · rw [readL_o h1 h2 h3] at h
          simp only [Prod.mk.injEq, and_true] at h
          rw [h] at h3
          refine ⟨h3, ?_⟩
          have hbad : (foldR k rest).1.bad = 0 := by
            by_cases hb : (foldR k rest).1.bad = 0
            · exact hb
            · exact absurd h2 (done_bad hb)
          obtain ⟨a', e, h4, h5⟩ := fold_inv (hasN k.toNat) (ba rest) 0 (kS k) (has_nodup _) (letters _) (Nat.zero_le _) hbad
          change (foldR k rest).1 = _ at e
          change _ = bodyB (foldR k rest).2 _ ++ _ at h5
          have hkind : z.kind = k := by rw [← h]; exact (fold_s (hasN k.toNat) (⟨ba rest, 0, 0⟩, kS k)).2
          rw [e, done_at _ _ h4] at h2
          have ha : ¬ a' < (ba rest).size := fun hl => by rw [if_pos hl] at h2; cases h2
          rw [h, List.drop_zero, List.drop_of_length_le (by rw [bl_len]; omega), List.append_nil, ba_list] at h5
          unfold encS
          rw [hkind, ← h5]
        · rw [readL_c h1 h2 h3] at h
          simp only [Prod.mk.injEq] at h
          exact absurd h.2 h3
      · rw [readL_d h1 h2] at h
        simp only [Prod.mk.injEq] at h
        exact absurd h.2 h2
    · rw [readL_u (by simpa using h1)] at h
      simp at h
theorem read_zero {b : List UInt8} (h : (readL b).2 ≠ 0) : (readL b).1 = zS := by
  cases b with
  | nil => rfl
  | cons k rest =>
    by_cases h1 : knownN k.toNat = true
    · by_cases h2 : doneL (foldR k rest).1 = 0
      · by_cases h3 : checkS (foldR k rest).2 = 0
        · rw [readL_o h1 h2 h3] at h; exact absurd rfl h
        · rw [readL_c h1 h2 h3]
      · rw [readL_d h1 h2]
    · rw [readL_u (by simpa using h1)]
/-- bytes that begin others' are the same. -/
theorem enc_prefix {a b : StzD} (ha : checkS a = 0) (hb : checkS b = 0) (h : (encS b).take (encS a).length = encS a) : a = b := by
  have hs : encS b = encS a ++ (encS b).drop (encS a).length := by conv => lhs; rw [← List.take_append_drop (encS a).length (encS b), h]
  have h1 := read_enc hb
  by_cases hw : (encS b).drop (encS a).length = []
  · rw [hs, hw, List.append_nil, read_enc ha] at h1
    simpa using h1
  · rw [hs, read_more ha _ hw] at h1
    simp at h1
end Go.Proofs.Ytljeinlapkgjeaa
/- Small stanzas. -/
namespace Go.Proofs.Ytljeinlapkgjeaa
open Go.RowKit
def lightL (s : StzD) : Bool := decide (s.user.size ≤ 100) && (decide (s.res.size ≤ 100) && decide (s.name.size ≤ 100))
attribute [local irreducible] AW Fin FinS FinR seqQ blkQ regQ loopQ CallsV CallsS Callable
theorem light_v (s : StzD) : CallsV Try.prog 26 [stzV s] (.b (lightL s)) := by
  refine callsV_comp mix Try.func26 ac26_ok ?_
  unfold ac26
  simp only [List.length_cons, List.length_nil, List.replicate_succ, List.replicate_zero, List.cons_append, List.nil_append, Nat.reduceAdd, Nat.reduceSub]
  repeat' (first | ((try simp only [Nat.reduceAdd, Nat.reduceMul, Nat.zero_add, Nat.add_zero, Int.toNat_natCast, Int.reduceToNat, stzV]); refine hK' _ _ _ ?_; clear hK' K'; first | refine q_regT ?_ | refine q_regD rfl ?_) | first | refine w_seq ?_ | refine q_seqN ?_ | (refine w_reg (by (try simp only [List.length_cons, List.length_nil, Nat.reduceAdd]); rfl) (by (try simp only [List.replicate_succ, List.replicate_zero, List.cons_append, List.nil_append, List.append_nil]); rfl) (fun K' hK' => wpOps_ok ?_); conv => whnf) | (refine w_condTst rfl ?_; (repeat refine Tst.not ?_); (first | refine Tst.T ?_ | refine Tst.F ?_ | refine Tst.decT (by assumption) ?_ | refine Tst.decF (by assumption) ?_ | refine Tst.eqT (by assumption) ?_ | refine Tst.eqF (by assumption) ?_ | refine Tst.neT (by assumption) ?_ | refine Tst.neF (by assumption) ?_ | refine Tst.isT (by assumption) ?_ | refine Tst.isF (by assumption) ?_ | refine Tst.dec (fun hb => ?_) (fun hb => ?_) | refine Tst.eqI (fun hb => ?_) (fun hb => ?_) | refine Tst.neI (fun hb => ?_) (fun hb => ?_) | refine Tst.not ?_ | refine Tst.any (fun hb => ?_) (fun hb => ?_)) <;> conv => whnf) | refine w_ret ?_ | refine w_skip ?_ | refine w_blk ?_ | refine w_exit ?_ | refine q_seqR ?_ | refine q_seqE ?_ | refine q_blkN ?_ | refine q_blkR ?_ | refine q_blkH ?_ | refine q_blkE rfl ?_ | refine q_loopR ?_ | refine q_loopE ?_ | fail | first | ((first | refine Tst.T ?_ | refine Tst.F ?_ | refine Tst.decT (by assumption) ?_ | refine Tst.decF (by assumption) ?_ | refine Tst.eqT (by assumption) ?_ | refine Tst.eqF (by assumption) ?_ | refine Tst.neT (by assumption) ?_ | refine Tst.neF (by assumption) ?_ | refine Tst.isT (by assumption) ?_ | refine Tst.isF (by assumption) ?_ | refine Tst.dec (fun hb => ?_) (fun hb => ?_) | refine Tst.eqI (fun hb => ?_) (fun hb => ?_) | refine Tst.neI (fun hb => ?_) (fun hb => ?_) | refine Tst.not ?_ | refine Tst.any (fun hb => ?_) (fun hb => ?_)) <;> conv => whnf) | (refine Ari.ok (by omega) ?_; conv => whnf) | (refine IxO.ok (by omega) (by omega) ?_; conv => whnf) | (refine IxS.M (by omega) (by omega) (fun _ => rfl) ?_; conv => whnf) | (refine ⟨Nat.le_of_ble_eq_true rfl, ?_⟩; conv => whnf) | (refine ⟨rfl, ?_⟩; conv => whnf) | (refine Cat.ok (by omega) ?_; conv => whnf))
  all_goals refine f_lit (by simp) rfl ?_
  all_goals (congr 1; rw [Bool.eq_iff_iff]; simp only [lightL, Bool.and_eq_true, decide_eq_true_eq, decide_eq_false_iff_not] at *; first | omega | grind)
end Go.Proofs.Ytljeinlapkgjeaa
/- Functions whose contracts are known, for the run of the abstract walk. -/
namespace Go.Proofs.Ytljeinlapkgjeaa
open Go.RowKit
def ext0 (f : Nat) (vs : List V) : Option V :=
  match vs with
  | [.lit (.string s)] => if s.size ≤ 100000 then
      (if f = 60 then some (.b (isBareL s.data.toList))
      else if f = 61 then some (.i (resL s.data.toList))
      else if f = 62 then some (.b (isBareL s.data.toList))
      else if f = 63 then some (.i (resL s.data.toList))
      else if f = 70 then some (.b (plainL s.data.toList)) else none) else none
  | [.lit (.string s), .lit (.string ⟨⟨[c]⟩⟩)] => if s.size ≤ 100000 then
      (if f = 59 then some (.tup [.s (ba (s.data.toList.take (findL s.data.toList c))), .s (ba (s.data.toList.drop (findL s.data.toList c + 1))), .b (decide (findL s.data.toList c < s.data.toList.length))]) else none) else none
  | _ => none
theorem ext0_ok : ∀ f vs v, ext0 f vs = some v → CallsV Try.prog f vs v ∧ Callable Try.prog f := by
  intro f vs v h
  unfold ext0 at h
  split at h
  · split at h
    · rename_i s hs
      split at h
      · rename_i e; subst e; simp only [Option.some.injEq] at h; subst h
        exact ⟨isBare_v s hs, _, Try.func60, by kernel_rfl, by kernel_rfl⟩
      split at h
      · rename_i e; subst e; simp only [Option.some.injEq] at h; subst h
        exact ⟨res_v s hs, _, Try.func61, by kernel_rfl, by kernel_rfl⟩
      split at h
      · rename_i e; subst e; simp only [Option.some.injEq] at h; subst h
        exact ⟨refIsBare_v s hs, _, Try.func62, by kernel_rfl, by kernel_rfl⟩
      split at h
      · rename_i e; subst e; simp only [Option.some.injEq] at h; subst h
        exact ⟨refRes_v s hs, _, Try.func63, by kernel_rfl, by kernel_rfl⟩
      split at h
      · rename_i e; subst e; simp only [Option.some.injEq] at h; subst h
        exact ⟨plain_v s hs, _, Try.func70, by kernel_rfl, by kernel_rfl⟩
      · cases h
    · cases h
  · split at h
    · rename_i s c hs
      split at h
      · rename_i e; subst e; simp only [Option.some.injEq] at h; subst h
        exact ⟨cut_v s c hs, _, Try.func59, by kernel_rfl, by kernel_rfl⟩
      · cases h
    · cases h
  · cases h
/-- a closed call, run. -/
theorem run0 {T : List (Nat × FnA)} (hT : TblOK Try.prog T) (lf d : Nat) {f : Nat} {vs : List V} {v : V} (h : (evFn ext0 lf T d).1 f vs = some v) : CallsV Try.prog f vs v := (evFn_ok mix ext0_ok hT d).f f vs v h
end Go.Proofs.Ytljeinlapkgjeaa
/- The abstract codes of functions, and that they are the program's (written by a program of mine). -/
namespace Go.Proofs.Ytljeinlapkgjeaa
open Go.RowKit
def ac7 : ACode := (.seq (.reg 1 [⟨(some 2), .bx (.tmp 0), none, 0⟩, ⟨(some 4), .mv (.const (.bool false)), none, 1⟩] none) (.seq (.seq (.reg 0 [⟨(some 18), .ld 8 true (.tmp 2), none, 0⟩, ⟨(some 19), .cl 26 [(.tmp 18)], none, 0⟩, ⟨(some 20), .un .not (.tmp 19), none, 0⟩, ⟨(some 21), .mv (.tmp 20), none, 0⟩, ⟨(some 22), .mv (.tmp 1), (some (21, false)), 0⟩, ⟨(some 23), .lent (.tmp 22), (some (21, false)), 0⟩, ⟨(some 24), .bin .gtr (.tmp 23) (.const (.int .i64 200)), (some (21, false)), 0⟩, ⟨(some 25), .pick (.tmp 21) (.const (.bool true)) (.tmp 24), none, 0⟩] none) (.cond (.tmp 25) (.seq (.reg 0 [⟨(some 26), .cl 36 [], none, 0⟩, ⟨(some 4), .mv (.tmp 26), none, 0⟩] none) .ret) .skip)) (.seq (.reg 1 [⟨(some 27), .ld 8 true (.tmp 2), none, 0⟩, ⟨(some 5), .al (.agg [(.lit (.int .u8 0)), (.lit (.string ⟨#[]⟩)), (.lit (.string ⟨#[]⟩)), (.lit (.string ⟨#[]⟩)), (.lit (.int .i64 0)), (.lit (.int .i64 0)), (.lit (.int .i64 0)), (.lit (.int .i64 0))]), none, 0⟩, ⟨none, .st 8 (.tmp 5) (.tmp 27), none, 1⟩] none) (.seq (.reg 0 [⟨(some 29), .ld 8 true (.tmp 5), none, 0⟩, ⟨(some 30), .cl 37 [(.tmp 29)], none, 0⟩, ⟨(some 28), .mv (.tmp 30), none, 0⟩, ⟨(some 31), .ex (.tmp 28) 0, none, 0⟩, ⟨(some 32), .ex (.tmp 28) 1, none, 0⟩, ⟨(some 6), .mv (.tmp 31), none, 0⟩, ⟨(some 7), .mv (.tmp 32), none, 0⟩] none) (.seq (.seq (.reg 0 [⟨(some 33), .mv (.tmp 7), none, 0⟩, ⟨(some 34), .bin .eql (.tmp 33) (.const (.int .i64 0)), none, 0⟩] none) (.cond (.tmp 34) (.seq (.reg 1 [⟨(some 36), .mv (.tmp 6), none, 0⟩, ⟨(some 37), .cl 38 [(.tmp 36)], none, 0⟩, ⟨(some 35), .mv (.tmp 37), none, 0⟩, ⟨(some 38), .ex (.tmp 35) 0, none, 0⟩, ⟨(some 39), .ex (.tmp 35) 1, none, 0⟩, ⟨(some 8), .al (.agg [(.lit (.int .u8 0)), (.lit (.string ⟨#[]⟩)), (.lit (.string ⟨#[]⟩)), (.lit (.string ⟨#[]⟩)), (.lit (.int .i64 0)), (.lit (.int .i64 0)), (.lit (.int .i64 0)), (.lit (.int .i64 0))]), none, 0⟩, ⟨none, .st 8 (.tmp 8) (.tmp 38), none, 1⟩, ⟨(some 9), .mv (.tmp 39), none, 1⟩] none) (.seq (.seq (.reg 0 [⟨(some 40), .mv (.tmp 6), none, 0⟩, ⟨(some 41), .bin .eql (.tmp 40) (.const (.string ⟨#[]⟩)), none, 0⟩, ⟨(some 42), .mv (.tmp 41), none, 0⟩, ⟨(some 43), .mv (.tmp 6), (some (42, false)), 0⟩, ⟨(some 44), .lent (.tmp 43), (some (42, false)), 0⟩, ⟨(some 45), .bin .gtr (.tmp 44) (.const (.int .i64 128)), (some (42, false)), 0⟩, ⟨(some 46), .pick (.tmp 42) (.const (.bool true)) (.tmp 45), none, 0⟩] none) (.cond (.tmp 46) (.seq (.reg 0 [⟨(some 4), .mv (.const (.bool false)), none, 0⟩] none) .ret) .skip)) (.seq (.reg 1 [⟨(some 48), .mv (.tmp 6), none, 0⟩, ⟨(some 49), .mv (.tmp 6), none, 0⟩, ⟨(some 50), .lent (.tmp 49), none, 0⟩, ⟨(some 51), .bin .sub (.tmp 50) (.const (.int .i64 1)), none, 0⟩, ⟨(some 52), .slt (.tmp 48) none (some (.tmp 51)), none, 0⟩, ⟨(some 53), .cl 38 [(.tmp 52)], none, 0⟩, ⟨(some 47), .mv (.tmp 53), none, 0⟩, ⟨(some 54), .ex (.tmp 47) 0, none, 0⟩, ⟨(some 55), .ex (.tmp 47) 1, none, 0⟩, ⟨(some 10), .al (.agg [(.lit (.int .u8 0)), (.lit (.string ⟨#[]⟩)), (.lit (.string ⟨#[]⟩)), (.lit (.string ⟨#[]⟩)), (.lit (.int .i64 0)), (.lit (.int .i64 0)), (.lit (.int .i64 0)), (.lit (.int .i64 0))]), none, 0⟩, ⟨none, .st 8 (.tmp 10) (.tmp 54), none, 1⟩, ⟨(some 11), .mv (.tmp 55), none, 1⟩] none) (.seq (.reg 1 [⟨(some 57), .mv (.tmp 6), none, 0⟩, ⟨(some 58), .bin .add (.tmp 57) (.const (.string ⟨#[0]⟩)), none, 0⟩, ⟨(some 59), .cl 38 [(.tmp 58)], none, 0⟩, ⟨(some 56), .mv (.tmp 59), none, 0⟩, ⟨(some 60), .ex (.tmp 56) 0, none, 0⟩, ⟨(some 61), .ex (.tmp 56) 1, none, 0⟩, ⟨(some 12), .al (.agg [(.lit (.int .u8 0)), (.lit (.string ⟨#[]⟩)), (.lit (.string ⟨#[]⟩)), (.lit (.string ⟨#[]⟩)), (.lit (.int .i64 0)), (.lit (.int .i64 0)), (.lit (.int .i64 0)), (.lit (.int .i64 0))]), none, 0⟩, ⟨none, .st 8 (.tmp 12) (.tmp 60), none, 1⟩, ⟨(some 13), .mv (.tmp 61), none, 1⟩] none) (.seq (.reg 0 [⟨(some 62), .mv (.tmp 9), none, 0⟩, ⟨(some 63), .bin .neq (.tmp 62) (.const (.int .i64 0)), none, 0⟩, ⟨(some 64), .mv (.tmp 63), none, 0⟩, ⟨(some 65), .ld 8 true (.tmp 8), (some (64, false)), 0⟩, ⟨(some 66), .ld 8 true (.tmp 5), (some (64, false)), 0⟩, ⟨(some 67), .eqa true [1, 2, 2, 2, 1, 1, 1, 1] (.tmp 65) (.tmp 66), (some (64, false)), 0⟩, ⟨(some 68), .pick (.tmp 64) (.const (.bool true)) (.tmp 67), none, 0⟩, ⟨(some 69), .mv (.tmp 68), none, 0⟩, ⟨(some 70), .mv (.tmp 11), (some (69, false)), 0⟩, ⟨(some 71), .bin .eql (.tmp 70) (.const (.int .i64 0)), (some (69, false)), 0⟩, ⟨(some 72), .pick (.tmp 69) (.const (.bool true)) (.tmp 71), none, 0⟩, ⟨(some 73), .mv (.tmp 72), none, 0⟩, ⟨(some 74), .mv (.tmp 13), (some (73, false)), 0⟩, ⟨(some 75), .bin .neq (.tmp 74) (.const (.int .i64 4)), (some (73, false)), 0⟩, ⟨(some 76), .pick (.tmp 73) (.const (.bool true)) (.tmp 75), none, 0⟩, ⟨(some 77), .mv (.tmp 76), none, 0⟩, ⟨(some 78), .ld 8 true (.tmp 5), (some (77, false)), 0⟩, ⟨(some 79), .cl 39 [(.tmp 78)], (some (77, false)), 0⟩, ⟨(some 80), .mv (.tmp 6), (some (77, false)), 0⟩, ⟨(some 81), .lent (.tmp 80), (some (77, false)), 0⟩, ⟨(some 82), .bin .neq (.tmp 79) (.tmp 81), (some (77, false)), 0⟩, ⟨(some 83), .pick (.tmp 77) (.const (.bool true)) (.tmp 82), none, 0⟩] none) (.cond (.tmp 83) (.seq (.reg 0 [⟨(some 4), .mv (.const (.bool false)), none, 0⟩] none) .ret) .skip)))))) .skip)) (.seq (.reg 1 [⟨(some 85), .mv (.tmp 1), none, 0⟩, ⟨(some 86), .cl 38 [(.tmp 85)], none, 0⟩, ⟨(some 84), .mv (.tmp 86), none, 0⟩, ⟨(some 87), .ex (.tmp 84) 0, none, 0⟩, ⟨(some 88), .ex (.tmp 84) 1, none, 0⟩, ⟨(some 14), .al (.agg [(.lit (.int .u8 0)), (.lit (.string ⟨#[]⟩)), (.lit (.string ⟨#[]⟩)), (.lit (.string ⟨#[]⟩)), (.lit (.int .i64 0)), (.lit (.int .i64 0)), (.lit (.int .i64 0)), (.lit (.int .i64 0))]), none, 0⟩, ⟨none, .st 8 (.tmp 14) (.tmp 87), none, 1⟩, ⟨(some 15), .mv (.tmp 88), none, 1⟩] none) (.seq (.reg 0 [⟨(some 90), .ld 8 true (.tmp 14), none, 0⟩, ⟨(some 91), .cl 37 [(.tmp 90)], none, 0⟩, ⟨(some 89), .mv (.tmp 91), none, 0⟩, ⟨(some 92), .ex (.tmp 89) 0, none, 0⟩, ⟨(some 93), .ex (.tmp 89) 1, none, 0⟩, ⟨(some 16), .mv (.tmp 92), none, 0⟩, ⟨(some 17), .mv (.tmp 93), none, 0⟩] none) (.seq (.reg 0 [⟨(some 94), .mv (.tmp 15), none, 0⟩, ⟨(some 95), .bin .neq (.tmp 94) (.const (.int .i64 0)), none, 0⟩, ⟨(some 96), .mv (.tmp 95), none, 0⟩, ⟨(some 97), .mv (.tmp 17), (some (96, false)), 0⟩, ⟨(some 98), .bin .eql (.tmp 97) (.const (.int .i64 0)), (some (96, false)), 0⟩, ⟨(some 99), .mv (.tmp 98), (some (96, false)), 0⟩, ⟨(some 100), .mv (.tmp 16), (some (99, true)), 0⟩, ⟨(some 101), .mv (.tmp 1), (some (99, true)), 0⟩, ⟨(some 102), .bin .eql (.tmp 100) (.tmp 101), (some (99, true)), 0⟩, ⟨(some 103), .pick (.tmp 99) (.tmp 102) (.const (.bool false)), (some (96, false)), 0⟩, ⟨(some 104), .pick (.tmp 96) (.const (.bool true)) (.tmp 103), none, 0⟩, ⟨(some 105), .mv (.tmp 104), none, 0⟩, ⟨(some 106), .mv (.tmp 15), (some (105, true)), 0⟩, ⟨(some 107), .bin .eql (.tmp 106) (.const (.int .i64 0)), (some (105, true)), 0⟩, ⟨(some 108), .mv (.tmp 107), (some (105, true)), 0⟩, ⟨(some 109), .ld 8 true (.tmp 14), (some (108, false)), 0⟩, ⟨(some 110), .bd [(.lit (.int .u8 0)), (.lit (.string ⟨#[]⟩)), (.lit (.string ⟨#[]⟩)), (.lit (.string ⟨#[]⟩)), (.lit (.int .i64 0)), (.lit (.int .i64 0)), (.lit (.int .i64 0)), (.lit (.int .i64 0))] [], (some (108, false)), 0⟩, ⟨(some 111), .eqa false [1, 2, 2, 2, 1, 1, 1, 1] (.tmp 109) (.tmp 110), (some (108, false)), 0⟩, ⟨(some 112), .pick (.tmp 108) (.const (.bool true)) (.tmp 111), (some (105, true)), 0⟩, ⟨(some 113), .pick (.tmp 105) (.tmp 112) (.const (.bool false)), none, 0⟩, ⟨(some 114), .mv (.tmp 113), none, 0⟩, ⟨(some 115), .cl 36 [], (some (114, true)), 0⟩, ⟨(some 116), .pick (.tmp 114) (.tmp 115) (.const (.bool false)), none, 0⟩, ⟨(some 4), .mv (.tmp 116), none, 0⟩] none) .ret))))))))
set_option maxRecDepth 1000000 in
theorem ac7_ok : compF Try.prog Try.f7 = some (ac7, 117, [.tmp 4]) := by unfold ac7; kernel_rfl
def ac8 : ACode := (.seq (.reg 2 [⟨(some 2), .bx (.tmp 0), none, 0⟩, ⟨(some 3), .bx (.tmp 1), none, 1⟩, ⟨(some 4), .mv (.const (.bool false)), none, 2⟩] none) (.seq (.seq (.reg 0 [⟨(some 12), .ld 8 true (.tmp 2), none, 0⟩, ⟨(some 13), .cl 26 [(.tmp 12)], none, 0⟩, ⟨(some 14), .un .not (.tmp 13), none, 0⟩, ⟨(some 15), .mv (.tmp 14), none, 0⟩, ⟨(some 16), .ld 8 true (.tmp 3), (some (15, false)), 0⟩, ⟨(some 17), .cl 26 [(.tmp 16)], (some (15, false)), 0⟩, ⟨(some 18), .un .not (.tmp 17), (some (15, false)), 0⟩, ⟨(some 19), .pick (.tmp 15) (.const (.bool true)) (.tmp 18), none, 0⟩] none) (.cond (.tmp 19) (.seq (.reg 0 [⟨(some 20), .cl 36 [], none, 0⟩, ⟨(some 4), .mv (.tmp 20), none, 0⟩] none) .ret) .skip)) (.seq (.reg 2 [⟨(some 21), .ld 8 true (.tmp 2), none, 0⟩, ⟨(some 22), .ld 8 true (.tmp 3), none, 0⟩, ⟨(some 5), .al (.agg [(.lit (.int .u8 0)), (.lit (.string ⟨#[]⟩)), (.lit (.string ⟨#[]⟩)), (.lit (.string ⟨#[]⟩)), (.lit (.int .i64 0)), (.lit (.int .i64 0)), (.lit (.int .i64 0)), (.lit (.int .i64 0))]), none, 0⟩, ⟨(some 6), .al (.agg [(.lit (.int .u8 0)), (.lit (.string ⟨#[]⟩)), (.lit (.string ⟨#[]⟩)), (.lit (.string ⟨#[]⟩)), (.lit (.int .i64 0)), (.lit (.int .i64 0)), (.lit (.int .i64 0)), (.lit (.int .i64 0))]), none, 1⟩, ⟨none, .st 8 (.tmp 5) (.tmp 21), none, 2⟩, ⟨none, .st 8 (.tmp 6) (.tmp 22), none, 2⟩] (some [[], [], [], [], [3, 0, 2], [2, 0, 4, 1, 3]])) (.seq (.reg 0 [⟨(some 24), .ld 8 true (.tmp 5), none, 0⟩, ⟨(some 25), .cl 37 [(.tmp 24)], none, 0⟩, ⟨(some 23), .mv (.tmp 25), none, 0⟩, ⟨(some 26), .ex (.tmp 23) 0, none, 0⟩, ⟨(some 27), .ex (.tmp 23) 1, none, 0⟩, ⟨(some 7), .mv (.tmp 26), none, 0⟩, ⟨(some 8), .mv (.tmp 27), none, 0⟩] none) (.seq (.reg 0 [⟨(some 29), .ld 8 true (.tmp 6), none, 0⟩, ⟨(some 30), .cl 37 [(.tmp 29)], none, 0⟩, ⟨(some 28), .mv (.tmp 30), none, 0⟩, ⟨(some 31), .ex (.tmp 28) 0, none, 0⟩, ⟨(some 32), .ex (.tmp 28) 1, none, 0⟩, ⟨(some 9), .mv (.tmp 31), none, 0⟩, ⟨(some 10), .mv (.tmp 32), none, 0⟩] none) (.seq (.seq (.reg 0 [⟨(some 33), .mv (.tmp 8), none, 0⟩, ⟨(some 34), .bin .neq (.tmp 33) (.const (.int .i64 0)), none, 0⟩, ⟨(some 35), .mv (.tmp 34), none, 0⟩, ⟨(some 36), .mv (.tmp 10), (some (35, false)), 0⟩, ⟨(some 37), .bin .neq (.tmp 36) (.const (.int .i64 0)), (some (35, false)), 0⟩, ⟨(some 38), .pick (.tmp 35) (.const (.bool true)) (.tmp 37), none, 0⟩] none) (.cond (.tmp 38) (.seq (.reg 0 [⟨(some 39), .ld 8 true (.tmp 5), none, 0⟩, ⟨(some 40), .cl 35 [(.tmp 39)], none, 0⟩, ⟨(some 41), .mv (.tmp 8), none, 0⟩, ⟨(some 42), .bin .eql (.tmp 40) (.tmp 41), none, 0⟩, ⟨(some 43), .mv (.tmp 42), none, 0⟩, ⟨(some 44), .ld 8 true (.tmp 6), (some (43, true)), 0⟩, ⟨(some 45), .cl 35 [(.tmp 44)], (some (43, true)), 0⟩, ⟨(some 46), .mv (.tmp 10), (some (43, true)), 0⟩, ⟨(some 47), .bin .eql (.tmp 45) (.tmp 46), (some (43, true)), 0⟩, ⟨(some 48), .pick (.tmp 43) (.tmp 47) (.const (.bool false)), none, 0⟩, ⟨(some 49), .mv (.tmp 48), none, 0⟩, ⟨(some 50), .cl 36 [], (some (49, true)), 0⟩, ⟨(some 51), .pick (.tmp 49) (.tmp 50) (.const (.bool false)), none, 0⟩, ⟨(some 4), .mv (.tmp 51), none, 0⟩] none) .ret) .skip)) (.seq (.reg 0 [⟨(some 52), .mv (.tmp 7), none, 0⟩, ⟨(some 53), .lent (.tmp 52), none, 0⟩, ⟨(some 54), .mv (.tmp 9), none, 0⟩, ⟨(some 55), .lent (.tmp 54), none, 0⟩, ⟨(some 56), .bin .leq (.tmp 53) (.tmp 55), none, 0⟩, ⟨(some 57), .mv (.tmp 56), none, 0⟩, ⟨(some 58), .mv (.tmp 9), (some (57, true)), 0⟩, ⟨(some 59), .mv (.tmp 7), (some (57, true)), 0⟩, ⟨(some 60), .lent (.tmp 59), (some (57, true)), 0⟩, ⟨(some 61), .slt (.tmp 58) none (some (.tmp 60)), (some (57, true)), 0⟩, ⟨(some 62), .mv (.tmp 7), (some (57, true)), 0⟩, ⟨(some 63), .bin .eql (.tmp 61) (.tmp 62), (some (57, true)), 0⟩, ⟨(some 64), .pick (.tmp 57) (.tmp 63) (.const (.bool false)), none, 0⟩, ⟨(some 11), .mv (.tmp 64), none, 0⟩] none) (.seq (.reg 0 [⟨(some 65), .mv (.tmp 11), none, 0⟩, ⟨(some 66), .ld 8 true (.tmp 5), none, 0⟩, ⟨(some 67), .ld 8 true (.tmp 6), none, 0⟩, ⟨(some 68), .cl 40 [(.tmp 66), (.tmp 67)], none, 0⟩, ⟨(some 69), .binb false (.tmp 65) (.tmp 68), none, 0⟩, ⟨(some 70), .mv (.tmp 69), none, 0⟩, ⟨(some 71), .cl 36 [], (some (70, true)), 0⟩, ⟨(some 72), .pick (.tmp 70) (.tmp 71) (.const (.bool false)), none, 0⟩, ⟨(some 4), .mv (.tmp 72), none, 0⟩] none) .ret))))))))
theorem ac8_ok : compF Try.prog Try.f8 = some (ac8, 73, [.tmp 4]) := by unfold ac8; kernel_rfl
end Go.Proofs.Ytljeinlapkgjeaa
