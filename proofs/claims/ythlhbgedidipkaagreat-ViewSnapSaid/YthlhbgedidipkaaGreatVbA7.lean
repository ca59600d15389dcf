/- A part of the proof: 6 texts joined. -/
import Derived.Test.YthlhbgedidipkaaGreatVbA6
set_option linter.all false
/- callboyref09: Bare, IsBare. -/
namespace Go.Proofs.YthlhbgedidipkaaGreat
open Go.RowKit
set_option maxHeartbeats 1000000 in
theorem refBare_c (s : ByteArray) (w : World) (hs : s.size ≤ 100000) :
    Calls Tryz.prog 179 #[.string s] w (Ret w (bareV s.data.toList)) := by
  have hlen := bl_len s
  obtain ⟨l, hl⟩ : ∃ l, s.data.toList = l := ⟨_, rfl⟩
  obtain ⟨z1, z2, z3⟩ := parse_small l (by rw [← hl, hlen]; exact hs)
  have k1 := fun w' => refParse_c s w' hs
  have k2 := fun w' => refPrint_c (parseL l).own (parseL l).place [] w' z1 z2 (by simp)
  have hok : (parseL l).err = 0 → checkA (parseL l).own (parseL l).place [] = 0 := fun h => checkA_nores (parse_ok h)
  rw [hl] at k1 ⊢
  unfold bareV bareT
  obtain ⟨⟨O, H, R, v⟩, hp⟩ : ∃ p, parseL l = p := ⟨_, rfl⟩
  rw [hp] at k1 k2 hok ⊢
  have k1' : ∀ w', Calls Tryz.prog 239 #[.string s] w' (Ret w' (.tuple #[.agg #[.string (ba O), .string (ba H), .string (ba R)], .int .i64 v])) := k1
  have k2' : ∀ w', v = 0 → Calls Tryz.prog 240 #[.agg #[.string (ba O), .string (ba H), .string ⟨#[]⟩]] w' (Ret w' (.tuple #[.string (ba (textL O H [])), .int .i64 0])) := by
    intro w' hv
    have := k2 w'
    rw [hok hv] at this
    exact this
  generalize textL O H [] = T at k2' ⊢
  clear k1 k2 hp hl z1 z2 z3 hlen hok
  have K1 := Lib.hid k1'
  have K2 := Lib.hid k2'
  clear k1' k2'
  by_cases hv : v = 0
  · subst hv
    go_enter Tryz.func179, Tryz.ntmps179
    have K3 := K2.out
    simp only [forall_const] at K3
    go_wp2_with (first | (go_at_call 239; (with_reducible refine (K1.out _).mono ?_); rintro e w1 ⟨rfl, hcb1⟩; obtain ⟨hcc1, hcf1⟩ := bcell hcb1; have hcz1 := hcb1.size; have hcB1 : Below w.heap.size w w1 := below_then (by (with_reducible repeat (first | assumption | exact Below.refl _ _ | (refine below_alloc ?_ _) | (refine Below.setCell ?_ (by first | exact Nat.le_refl _ | (simp; done) | (simp at *; omega)) _) | (refine below_drewN ?_ _) | (refine Below.drew ?_)))) hcb1) | (go_at_call 240; (with_reducible refine (K3 _).mono ?_); rintro e w2 ⟨rfl, hcb2⟩; obtain ⟨hcc2, hcf2⟩ := bcell hcb2; have hcz2 := hcb2.size; have hcB2 : Below w.heap.size w w2 := below_then (by (with_reducible repeat (first | assumption | exact Below.refl _ _ | (refine below_alloc ?_ _) | (refine Below.setCell ?_ (by first | exact Nat.le_refl _ | (simp; done) | (simp at *; omega)) _) | (refine below_drewN ?_ _) | (refine Below.drew ?_)))) hcb2))
    all_goals (go_ret2; refine ⟨ret_v ?_, (by (with_reducible repeat (first | assumption | exact Below.refl _ _ | (refine below_alloc ?_ _) | (refine Below.setCell ?_ (by first | exact Nat.le_refl _ | (simp; done) | (simp at *; omega)) _) | (refine below_drewN ?_ _) | (refine Below.drew ?_))))⟩)
    all_goals rfl
  · have hv2 : (v != 0) = true := by simpa using hv
    go_enter Tryz.func179, Tryz.ntmps179
    go_wp2_with (first | (go_at_call 239; (with_reducible refine (K1.out _).mono ?_); rintro e w1 ⟨rfl, hcb1⟩; obtain ⟨hcc1, hcf1⟩ := bcell hcb1; have hcz1 := hcb1.size; have hcB1 : Below w.heap.size w w1 := below_then (by (with_reducible repeat (first | assumption | exact Below.refl _ _ | (refine below_alloc ?_ _) | (refine Below.setCell ?_ (by first | exact Nat.le_refl _ | (simp; done) | (simp at *; omega)) _) | (refine below_drewN ?_ _) | (refine Below.drew ?_)))) hcb1))
    all_goals (go_ret2; refine ⟨ret_v ?_, (by (with_reducible repeat (first | assumption | exact Below.refl _ _ | (refine below_alloc ?_ _) | (refine Below.setCell ?_ (by first | exact Nat.le_refl _ | (simp; done) | (simp at *; omega)) _) | (refine below_drewN ?_ _) | (refine Below.drew ?_))))⟩)
    all_goals simp_all
    all_goals rfl
set_option maxHeartbeats 1000000 in
theorem refIsBare_c (s : ByteArray) (w : World) (hs : s.size ≤ 100000) :
    Calls Tryz.prog 107 #[.string s] w (Ret w (.bool (isBareL s.data.toList))) := by
  have k1 := refBare_c s w hs
  rw [isBare_bytes]
  unfold bareV at k1
  generalize bareT s.data.toList = T at *
  generalize (parseL s.data.toList).err = v at *
  have K1 := Lib.hid k1
  clear k1
  go_enter Tryz.func107, Tryz.ntmps107
  go_wp2_with (go_at_call 179; (with_reducible refine (K1.out).mono ?_); rintro e w1 ⟨rfl, hcb1⟩; obtain ⟨hcc1, hcf1⟩ := bcell hcb1; have hcz1 := hcb1.size; have hcB1 : Below w.heap.size w w1 := below_then (by (with_reducible repeat (first | assumption | exact Below.refl _ _ | (refine below_alloc ?_ _) | (refine Below.setCell ?_ (by first | exact Nat.le_refl _ | (simp; done) | (simp at *; omega)) _) | (refine below_drewN ?_ _) | (refine Below.drew ?_)))) hcb1)
  all_goals (go_ret; refine ⟨ret_b ?_, (by (with_reducible repeat (first | assumption | exact Below.refl _ _ | (refine below_alloc ?_ _) | (refine Below.setCell ?_ (by first | exact Nat.le_refl _ | (simp; done) | (simp at *; omega)) _) | (refine below_drewN ?_ _) | (refine Below.drew ?_))))⟩)
  all_goals simp_all
end Go.Proofs.YthlhbgedidipkaaGreat

/- stanza and callboyref10: kinds, what they have. -/
namespace Go.Proofs.YthlhbgedidipkaaGreat
open Go.RowKit
def hasN (k : Nat) : List UInt8 :=
  if k = 1 then [117, 114] else if k = 3 then [115, 112] else if k = 5 then [117, 115, 112]
  else if k = 6 ∨ k = 7 ∨ k = 8 ∨ k = 9 ∨ k = 10 ∨ k = 11 ∨ k = 14 then [117]
  else if k = 12 ∨ k = 15 ∨ k = 36 ∨ k = 41 then [110]
  else if k = 13 then [117, 109] else if k = 32 then [99, 110] else if k = 33 then [99, 115, 110]
  else if k = 34 then [117, 114, 115, 112, 110] else if k = 35 then [117, 114, 110] else if k = 38 then [117, 109, 115, 110]
  else if k = 39 then [117, 110] else if k = 40 then [117, 99] else []
set_option maxRecDepth 100000 in
set_option maxHeartbeats 2000000 in
theorem has_c (k : UInt8) (w : World) : Calls Tryz.prog 139 #[.int .u8 k.toNat] w fun e w' => e = .returned (.string (ba (hasN k.toNat))) ∧ w = w' := by
  obtain ⟨n, hn⟩ : ∃ n, k.toNat = n := ⟨_, rfl⟩
  rw [hn]
  clear hn
  go_enter Tryz.func139, Tryz.ntmps139
  go_wp2
  all_goals (go_ret; refine ⟨ret_v (congrArg Value.string ?_), rfl⟩)
  all_goals go_tidy
  all_goals (simp only [beq_iff_eq, beq_eq_false_iff_ne, ne_eq] at *)
  all_goals (unfold hasN; repeat first | rfl | rw [if_pos (by omega)] | rw [if_neg (by omega)])
end Go.Proofs.YthlhbgedidipkaaGreat

/- stanza: known, in, text, number. -/
namespace Go.Proofs.YthlhbgedidipkaaGreat
open Go.RowKit
def knownN (k : Nat) : Bool := (decide (1 ≤ k) && decide (k ≤ 15)) || (decide (32 ≤ k) && decide (k ≤ 41))
theorem asks_c (k : UInt8) (w : World) : Calls Tryz.prog 215 #[.int .u8 k.toNat] w fun e w' => e = .returned (.bool (decide (1 ≤ k.toNat) && decide (k.toNat ≤ 15))) ∧ w = w' := by
  obtain ⟨n, hn⟩ : ∃ n, k.toNat = n := ⟨_, rfl⟩
  rw [hn]
  clear hn
  go_enter Tryz.func215, Tryz.ntmps215
  go_wp2
  all_goals (go_ret; refine ⟨ret_b ?_, rfl⟩)
  all_goals go_tidy
  all_goals grind
theorem known_c (k : UInt8) (w : World) : Calls Tryz.prog 140 #[.int .u8 k.toNat] w fun e w' => e = .returned (.bool (knownN k.toNat)) ∧ w = w' := by
  have k1 := asks_c k w
  obtain ⟨n, hn⟩ : ∃ n, k.toNat = n := ⟨_, rfl⟩
  rw [hn] at k1 ⊢
  have K1 := Lib.hid k1
  clear hn k1
  unfold knownN
  by_cases h : (decide (1 ≤ n) && decide (n ≤ 15)) = true
  · rw [h] at K1 ⊢
    go_enter Tryz.func140, Tryz.ntmps140
    go_wp2_with (go_at_call 215; (with_reducible refine (K1.out).mono ?_); rintro e w' ⟨rfl, rfl⟩)
    all_goals (go_ret; refine ⟨ret_b ?_, rfl⟩)
    all_goals go_tidy
    all_goals simp_all
  · simp only [Bool.not_eq_true] at h
    rw [h] at K1 ⊢
    go_enter Tryz.func140, Tryz.ntmps140
    go_wp2_with (go_at_call 215; (with_reducible refine (K1.out).mono ?_); rintro e w' ⟨rfl, rfl⟩)
    all_goals (go_ret; refine ⟨ret_b ?_, rfl⟩)
    all_goals go_tidy
    all_goals grind
theorem stzIn_c (n a b : Int) (w : World) : Calls Tryz.prog 142 #[.int .i64 n, .int .i64 a, .int .i64 b] w fun e w' => e = .returned (.bool (decide (a ≤ n) && decide (n ≤ b))) ∧ w = w' := by
  go_enter Tryz.func142, Tryz.ntmps142
  go_wp2
  all_goals (go_ret; refine ⟨ret_b ?_, rfl⟩)
  all_goals go_tidy
  all_goals grind
end Go.Proofs.YthlhbgedidipkaaGreat

/- callboyref10: has, extra, Check. -/
namespace Go.Proofs.YthlhbgedidipkaaGreat
open Go.RowKit
structure StzD where
  kind : UInt8
  user : ByteArray
  res : ByteArray
  name : ByteArray
  show_ : Int
  prio : Int
  code : Int
  n : Int
def StzD.arr (s : StzD) : Array Value := #[.int .u8 s.kind.toNat, .string s.user, .string s.res, .string s.name, .int .i64 s.show_, .int .i64 s.prio, .int .i64 s.code, .int .i64 s.n]
def hasC (k : UInt8) (c : UInt8) : Bool := (hasN k.toNat).any (· == c)
theorem ite_len {p : Prop} [Decidable p] {a b : List UInt8} {n : Nat} (ha : a.length ≤ n) (hb : b.length ≤ n) : (if p then a else b).length ≤ n := by
  by_cases h : p
  · rw [if_pos h]; exact ha
  · rw [if_neg h]; exact hb
theorem hasN_len (k : Nat) : (hasN k).length ≤ 5 := by
  unfold hasN
  repeat' first | (apply ite_len) | decide
def extraL (s : StzD) : Bool :=
  ((!s.user.toList.isEmpty && !hasC s.kind 117) || (!s.res.toList.isEmpty && !hasC s.kind 114) || (!s.name.toList.isEmpty && !hasC s.kind 109)) ||
  ((s.show_ != 0 && !hasC s.kind 115) || (s.prio != 0 && !hasC s.kind 112) || (s.code != 0 && !hasC s.kind 99) || (s.n != 0 && !hasC s.kind 110))
def rangeL (s : StzD) : Bool := (decide (0 ≤ s.show_) && decide (s.show_ ≤ 63)) && (decide (-128 ≤ s.prio) && decide (s.prio ≤ 127)) && (decide (0 ≤ s.code) && decide (s.code ≤ 255)) && (decide (0 ≤ s.n) && decide (s.n ≤ 281474976710655))
def checkS (s : StzD) : Int :=
  if knownN s.kind.toNat = false then 12 else if extraL s = true then 4 else if rangeL s = false then 8 else if 24 < s.name.size then 5
  else if plainL s.name.data.toList = false then 11 else if (hasC s.kind 117 && !isBareL s.user.data.toList) = true then 11 else resL s.res.data.toList
end Go.Proofs.YthlhbgedidipkaaGreat

/- callboyref10: extra. -/
namespace Go.Proofs.YthlhbgedidipkaaGreat
open Go.RowKit
end Go.Proofs.YthlhbgedidipkaaGreat

/- callboyref10: Check, Light. -/
namespace Go.Proofs.YthlhbgedidipkaaGreat
open Go.RowKit
end Go.Proofs.YthlhbgedidipkaaGreat

