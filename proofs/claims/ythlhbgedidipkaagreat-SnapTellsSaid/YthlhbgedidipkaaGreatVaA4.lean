/- A part of the proof: 9 texts joined. -/
import Derived.Test.YthlhbgedidipkaaGreatVaA3
import Derived.BigRegion
import Derived.Test.YthlhbgedidipkaaGreatVaA1
import Derived.Laws.OwnMore
import Derived.Laws.IdiomCopy
import Derived.Laws.IdiomStrings
import Derived.Deep.AppendSrc
import Derived.RangeFuncOwn
set_option linter.all false
/- addr.Check and callboyref09.Check. -/
namespace Go.Proofs.YthlhbgedidipkaaGreat
open Go.RowKit
def checkA (n h r : List UInt8) : Int :=
  if (decide (16 < n.length) || decide (16 < h.length) || decide (12 < r.length)) = true then 5 else if (n.isEmpty || h.isEmpty) = true then 4 else if (nameL n && hostP h && plainL r) = true then 0 else 11
set_option maxHeartbeats 400000 in
theorem parts_c (a b c : ByteArray) (w : World) :
    Calls Tryz.prog 287 #[.agg #[.string a, .string b, .string c]] w (Ret w (.agg #[.string a, .string b, .string c])) := by
  go_enter Tryz.func287, Tryz.ntmps287
  go_wp2
  refine bodyPost_ret (v := .agg #[.string a, .string b, .string c]) (by simp [results, Tryz.results287, go_sem]) rfl ⟨rfl, (by (with_reducible repeat (first | assumption | exact Below.refl _ _ | (refine below_alloc ?_ _) | (refine Below.setCell ?_ (by first | exact Nat.le_refl _ | (simp; done) | (simp at *; omega)) _) | (refine below_drewN ?_ _) | (refine Below.drew ?_))))⟩
theorem ixp0 (n h r : ByteArray) (w : World) : (Instr.index 362 (.agg #[.string n, .string h, .string r]) (.int .i64 0)).run Tryz.prog w = .ok (.string n) w := by kernel_rfl
theorem ixp1 (n h r : ByteArray) (w : World) : (Instr.index 362 (.agg #[.string n, .string h, .string r]) (.int .i64 1)).run Tryz.prog w = .ok (.string h) w := by kernel_rfl
theorem ixp2 (n h r : ByteArray) (w : World) : (Instr.index 362 (.agg #[.string n, .string h, .string r]) (.int .i64 2)).run Tryz.prog w = .ok (.string r) w := by kernel_rfl
theorem checkA_bytes (n h r : ByteArray) : checkA n.data.toList h.data.toList r.data.toList = (if (decide (16 < n.size) || decide (16 < h.size) || decide (12 < r.size)) = true then 5 else if (n.toList.isEmpty || h.toList.isEmpty) = true then 4 else if (nameL n.data.toList && hostP h.data.toList && plainL r.data.toList) = true then 0 else 11) := by
  unfold checkA
  rw [bl_len, bl_len, bl_len, isEmpty_bl, isEmpty_bl]
set_option maxRecDepth 100000 in
set_option maxHeartbeats 2000000 in
theorem check_c (n h r : ByteArray) (w : World) (hm : ML w) (hn : n.size ≤ 100000) (hh : h.size ≤ 100000) (hr : r.size ≤ 100000) :
    Calls Tryz.prog 271 #[.agg #[.string n, .string h, .string r]] w (Ret w (.int .i64 (checkA n.data.toList h.data.toList r.data.toList))) := by
  have x0 := ixp0 n h r
  have x1 := ixp1 n h r
  have x2 := ixp2 n h r
  have HX := Lib.hid (checkA_bytes n h r)
  have HK1 := Lib.hid (fun w' => name_c n w' hn)
  have HK2 := Lib.hid (fun w' (hm' : ML w') => host_c h w' hm' (by omega))
  have HK3 := Lib.hid (fun w' => plain_c r w' (by omega))
  obtain ⟨v, hv⟩ : ∃ v, checkA n.data.toList h.data.toList r.data.toList = v := ⟨_, rfl⟩
  rw [hv] at HX ⊢
  clear hv
  generalize nameL n.data.toList = b1 at HX HK1
  generalize hostP h.data.toList = b2 at HX HK2
  generalize plainL r.data.toList = b3 at HX HK3
  go_enter Tryz.func271, Tryz.ntmps271
  go_wp2_with fail
  refine wp_loop_rounds 4 ?_
  rw [rounds_succ]
  go_wp2
  go_region_held3 (fun w' => Below w.heap.size w w' ∧ w.heap.size + 1 < w'.heap.size ∧ w'.cell? ⟨w.heap.size, 0, none⟩ = some (.string n) ∧ w'.cell? ⟨w.heap.size, 1, none⟩ = some (.string h) ∧ w'.cell? ⟨w.heap.size, 2, none⟩ = some (.string r) ∧ w'.cell? ⟨w.heap.size + 1, 0, none⟩ = some (.int .i64 16) ∧ w'.cell? ⟨w.heap.size + 1, 1, none⟩ = some (.int .i64 16) ∧ w'.cell? ⟨w.heap.size + 1, 2, none⟩ = some (.int .i64 12)) (first | assumption | (obtain ⟨hx0, hx1, hx2⟩ := (‹Below w.heap.size w _ ∧ w.heap.size + 1 < _ ∧ _›); have hxa := Nat.lt_of_succ_lt hx1; obtain ⟨hc1, _⟩ := bcell hb1; exact ⟨below_then hx0 hb1, Nat.lt_of_lt_of_le hx1 hb1.size, by simp only [hc1, hx1, hxa]; exact hx2⟩) | (refine ⟨(by (with_reducible repeat (first | assumption | exact Below.refl _ _ | (refine below_alloc ?_ _) | (refine Below.setCell ?_ (by first | exact Nat.le_refl _ | (simp; done) | (simp at *; omega)) _) | (refine below_drewN ?_ _) | (refine Below.drew ?_)))), by first | assumption | (simp; done) | omega, ?_⟩; go_keep)) (first | (go_at_call 287; (with_reducible refine (parts_c _ _ _ _).mono ?_); rintro e w' ⟨rfl, hb1⟩))
  obtain ⟨hy0, hy1, hy2⟩ := (‹Below w.heap.size w _ ∧ w.heap.size + 1 < _ ∧ _›)
  go_wp2
  · have e := HX.out
    rw [if_pos (by simp; omega)] at e
    go_ret
    exact ⟨by rw [e]; rfl, (by (with_reducible repeat (first | assumption | exact Below.refl _ _ | (refine below_alloc ?_ _) | (refine Below.setCell ?_ (by first | exact Nat.le_refl _ | (simp; done) | (simp at *; omega)) _) | (refine below_drewN ?_ _) | (refine Below.drew ?_))))⟩
  rw [rounds_succ]
  go_wp2
  go_region_held3 (fun w' => Below w.heap.size w w' ∧ w.heap.size + 1 < w'.heap.size ∧ w'.cell? ⟨w.heap.size, 0, none⟩ = some (.string n) ∧ w'.cell? ⟨w.heap.size, 1, none⟩ = some (.string h) ∧ w'.cell? ⟨w.heap.size, 2, none⟩ = some (.string r) ∧ w'.cell? ⟨w.heap.size + 1, 0, none⟩ = some (.int .i64 16) ∧ w'.cell? ⟨w.heap.size + 1, 1, none⟩ = some (.int .i64 16) ∧ w'.cell? ⟨w.heap.size + 1, 2, none⟩ = some (.int .i64 12)) (first | assumption | (obtain ⟨hx0, hx1, hx2⟩ := (‹Below w.heap.size w _ ∧ w.heap.size + 1 < _ ∧ _›); have hxa := Nat.lt_of_succ_lt hx1; obtain ⟨hc1, _⟩ := bcell hb1; exact ⟨below_then hx0 hb1, Nat.lt_of_lt_of_le hx1 hb1.size, by simp only [hc1, hx1, hxa]; exact hx2⟩) | (refine ⟨(by (with_reducible repeat (first | assumption | exact Below.refl _ _ | (refine below_alloc ?_ _) | (refine Below.setCell ?_ (by first | exact Nat.le_refl _ | (simp; done) | (simp at *; omega)) _) | (refine below_drewN ?_ _) | (refine Below.drew ?_)))), by first | assumption | (simp; done) | omega, ?_⟩; go_keep)) (first | (go_at_call 287; (with_reducible refine (parts_c _ _ _ _).mono ?_); rintro e w' ⟨rfl, hb1⟩))
  clear hy0 hy1 hy2
  obtain ⟨hy0, hy1, hy2⟩ := (‹Below w.heap.size w _ ∧ w.heap.size + 1 < _ ∧ _›)
  go_wp2
  · have e := HX.out
    rw [if_pos (by simp; omega)] at e
    go_ret
    exact ⟨by rw [e]; rfl, (by (with_reducible repeat (first | assumption | exact Below.refl _ _ | (refine below_alloc ?_ _) | (refine Below.setCell ?_ (by first | exact Nat.le_refl _ | (simp; done) | (simp at *; omega)) _) | (refine below_drewN ?_ _) | (refine Below.drew ?_))))⟩
  rw [rounds_succ]
  go_wp2
  go_region_held3 (fun w' => Below w.heap.size w w' ∧ w.heap.size + 1 < w'.heap.size ∧ w'.cell? ⟨w.heap.size, 0, none⟩ = some (.string n) ∧ w'.cell? ⟨w.heap.size, 1, none⟩ = some (.string h) ∧ w'.cell? ⟨w.heap.size, 2, none⟩ = some (.string r) ∧ w'.cell? ⟨w.heap.size + 1, 0, none⟩ = some (.int .i64 16) ∧ w'.cell? ⟨w.heap.size + 1, 1, none⟩ = some (.int .i64 16) ∧ w'.cell? ⟨w.heap.size + 1, 2, none⟩ = some (.int .i64 12)) (first | assumption | (obtain ⟨hx0, hx1, hx2⟩ := (‹Below w.heap.size w _ ∧ w.heap.size + 1 < _ ∧ _›); have hxa := Nat.lt_of_succ_lt hx1; obtain ⟨hc1, _⟩ := bcell hb1; exact ⟨below_then hx0 hb1, Nat.lt_of_lt_of_le hx1 hb1.size, by simp only [hc1, hx1, hxa]; exact hx2⟩) | (refine ⟨(by (with_reducible repeat (first | assumption | exact Below.refl _ _ | (refine below_alloc ?_ _) | (refine Below.setCell ?_ (by first | exact Nat.le_refl _ | (simp; done) | (simp at *; omega)) _) | (refine below_drewN ?_ _) | (refine Below.drew ?_)))), by first | assumption | (simp; done) | omega, ?_⟩; go_keep)) (first | (go_at_call 287; (with_reducible refine (parts_c _ _ _ _).mono ?_); rintro e w' ⟨rfl, hb1⟩))
  clear hy0 hy1 hy2
  obtain ⟨hy0, hy1, hy2⟩ := (‹Below w.heap.size w _ ∧ w.heap.size + 1 < _ ∧ _›)
  go_wp2
  · have e := HX.out
    rw [if_pos (by simp; omega)] at e
    go_ret
    exact ⟨by rw [e]; rfl, (by (with_reducible repeat (first | assumption | exact Below.refl _ _ | (refine below_alloc ?_ _) | (refine Below.setCell ?_ (by first | exact Nat.le_refl _ | (simp; done) | (simp at *; omega)) _) | (refine below_drewN ?_ _) | (refine Below.drew ?_))))⟩
  rw [rounds_succ]
  obtain ⟨c0, c1, c2, _⟩ := hy2
  have hxa := Nat.lt_of_succ_lt hy1
  clear x0 x1 x2 hb1
  go_wp2_with (first | ((go_at_call 288; (with_reducible refine (HK1.out _).mono ?_); rintro e w1 ⟨rfl, hcb1⟩; obtain ⟨hcc1, hcf1⟩ := bcell hcb1; have hcz1 := hcb1.size; have hcB1 : Below w.heap.size w w1 := below_then (by (with_reducible repeat (first | assumption | exact Below.refl _ _ | (refine below_alloc ?_ _) | (refine Below.setCell ?_ (by first | exact Nat.le_refl _ | (simp; done) | (simp at *; omega)) _) | (refine below_drewN ?_ _) | (refine Below.drew ?_)))) hcb1); have hxb := Nat.lt_of_lt_of_le hxa hcz1) | ((go_at_call 289; (with_reducible refine (HK2.out _ (hm.then (by assumption))).mono ?_); rintro e w2 ⟨rfl, hcb2⟩; obtain ⟨hcc2, hcf2⟩ := bcell hcb2; have hcz2 := hcb2.size; have hcB2 : Below w.heap.size w w2 := below_then (by (with_reducible repeat (first | assumption | exact Below.refl _ _ | (refine below_alloc ?_ _) | (refine Below.setCell ?_ (by first | exact Nat.le_refl _ | (simp; done) | (simp at *; omega)) _) | (refine below_drewN ?_ _) | (refine Below.drew ?_)))) hcb2); have hxc := Nat.lt_of_lt_of_le hxb hcz2) | (go_at_call 105; (with_reducible refine (HK3.out _).mono ?_); rintro e w3 ⟨rfl, hcb3⟩; obtain ⟨hcc3, hcf3⟩ := bcell hcb3; have hcz3 := hcb3.size; have hcB3 : Below w.heap.size w w3 := below_then (by (with_reducible repeat (first | assumption | exact Below.refl _ _ | (refine below_alloc ?_ _) | (refine Below.setCell ?_ (by first | exact Nat.le_refl _ | (simp; done) | (simp at *; omega)) _) | (refine below_drewN ?_ _) | (refine Below.drew ?_)))) hcb3))
  all_goals (have e := HX.out)
  all_goals (go_ret; refine ⟨?_, (by (with_reducible repeat (first | assumption | exact Below.refl _ _ | (refine below_alloc ?_ _) | (refine Below.setCell ?_ (by first | exact Nat.le_refl _ | (simp; done) | (simp at *; omega)) _) | (refine below_drewN ?_ _) | (refine Below.drew ?_))))⟩)
  all_goals (refine ret_i ?_; rw [e])
  all_goals (have z1 : ¬ 16 < n.size := by omega)
  all_goals (have z2 : ¬ 16 < h.size := by omega)
  all_goals (have z3 : ¬ 12 < r.size := by omega)
  all_goals (clear HX HK1 HK2 HK3 e; first | (simp [*]; done) | grind)
end Go.Proofs.YthlhbgedidipkaaGreat
/- callboyref09.Check; find, cut at one byte. -/
namespace Go.Proofs.YthlhbgedidipkaaGreat
open Go.RowKit
theorem same_mono {P : Program} {f : FuncId} {args : Array Value} {w : World} {v : Value} (h : Calls P f args w fun e w' => e = .returned v ∧ w = w') : Calls P f args w (Ret w v) :=
  h.mono fun _ _ h => ⟨h.1, h.2 ▸ Below.refl _ _⟩
set_option maxRecDepth 100000 in
set_option maxHeartbeats 2000000 in
theorem refCheck_c (n h r : ByteArray) (w : World) (hn : n.size ≤ 100000) (hh : h.size ≤ 100000) (hr : r.size ≤ 100000) :
    Calls Tryz.prog 277 #[.agg #[.string n, .string h, .string r]] w (Ret w (.int .i64 (checkA n.data.toList h.data.toList r.data.toList))) := by
  have HX := Lib.hid (checkA_bytes n h r)
  have HK1 := Lib.hid (fun w' => refName_c n w' hn)
  have HK2 := Lib.hid (fun w' => same_mono (refHost_c h w' (by omega)))
  have hk3 := (fun w' => refPlain_c r w' (by omega))
  rw [plain_same] at hk3
  have HK3 := Lib.hid hk3
  clear hk3
  have hsame : h.toList.isEmpty = false → hostR h.data.toList = hostP h.data.toList := fun he => host_same _ (by intro h0; rw [← isEmpty_bl, h0] at he; exact absurd he (by simp))
  obtain ⟨v, hv⟩ : ∃ v, checkA n.data.toList h.data.toList r.data.toList = v := ⟨_, rfl⟩
  rw [hv] at HX ⊢
  clear hv
  generalize nameL n.data.toList = b1 at HX HK1
  generalize hostP h.data.toList = b2 at HX hsame
  generalize hostR h.data.toList = b4 at HK2 hsame
  generalize plainL r.data.toList = b3 at HX HK3
  have HSM := Lib.hid hsame
  clear hsame
  go_enter Tryz.func277, Tryz.ntmps277
  go_wp2_with (first | ((go_at_call 290; (with_reducible refine (HK1.out _).mono ?_); rintro e w1 ⟨rfl, hcb1⟩; obtain ⟨hcc1, hcf1⟩ := bcell hcb1; have hcz1 := hcb1.size; have hcB1 : Below w.heap.size w w1 := below_then (by (with_reducible repeat (first | assumption | exact Below.refl _ _ | (refine below_alloc ?_ _) | (refine Below.setCell ?_ (by first | exact Nat.le_refl _ | (simp; done) | (simp at *; omega)) _) | (refine below_drewN ?_ _) | (refine Below.drew ?_)))) hcb1); have hxb : w.heap.size < w1.heap.size := by (have q := hcz1; rw [World.size_alloc] at q; omega)) | ((go_at_call 291; (with_reducible refine (HK2.out _).mono ?_); rintro e w2 ⟨rfl, hcb2⟩; obtain ⟨hcc2, hcf2⟩ := bcell hcb2; have hcz2 := hcb2.size; have hcB2 : Below w.heap.size w w2 := below_then (by (with_reducible repeat (first | assumption | exact Below.refl _ _ | (refine below_alloc ?_ _) | (refine Below.setCell ?_ (by first | exact Nat.le_refl _ | (simp; done) | (simp at *; omega)) _) | (refine below_drewN ?_ _) | (refine Below.drew ?_)))) hcb2); have hxc := Nat.lt_of_lt_of_le hxb hcz2) | (go_at_call 108; (with_reducible refine (HK3.out _).mono ?_); rintro e w3 ⟨rfl, hcb3⟩; obtain ⟨hcc3, hcf3⟩ := bcell hcb3; have hcz3 := hcb3.size; have hcB3 : Below w.heap.size w w3 := below_then (by (with_reducible repeat (first | assumption | exact Below.refl _ _ | (refine below_alloc ?_ _) | (refine Below.setCell ?_ (by first | exact Nat.le_refl _ | (simp; done) | (simp at *; omega)) _) | (refine below_drewN ?_ _) | (refine Below.drew ?_)))) hcb3))
  all_goals (have e := HX.out; have e4 := HSM.out)
  all_goals (go_ret; refine ⟨?_, (by (with_reducible repeat (first | assumption | exact Below.refl _ _ | (refine below_alloc ?_ _) | (refine Below.setCell ?_ (by first | exact Nat.le_refl _ | (simp; done) | (simp at *; omega)) _) | (refine below_drewN ?_ _) | (refine Below.drew ?_))))⟩)
  all_goals (refine ret_i ?_; rw [e])
  all_goals (clear HX HK1 HK2 HK3 HSM e)
  all_goals first | (simp [*]; done) | grind
end Go.Proofs.YthlhbgedidipkaaGreat
/- strings.Cut at one byte. -/
namespace Go.Proofs.YthlhbgedidipkaaGreat
open Go.RowKit
theorem findL_cons (b c : UInt8) (l : List UInt8) : findL (b :: l) c = if (b == c) = true then 0 else findL l c + 1 := by
  unfold findL
  rw [List.findIdx_cons]
  cases (b == c) <;> rfl
theorem findL_le (l : List UInt8) (c : UInt8) : findL l c ≤ l.length := List.findIdx_le_length
theorem byte_find : ∀ (l : List UInt8) (c : UInt8), Lib.indexByte l c = if findL l c < l.length then (findL l c : Int) else -1
  | [], c => rfl
  | b :: l, c => by
    have ih := byte_find l c
    have hle := findL_le l c
    rw [findL_cons]
    unfold Lib.indexByte
    rw [ih]
    cases (b == c) with
    | true => simp
    | false =>
      by_cases h : findL l c < l.length
      · simp [h]
      · simp [h]
theorem cut_one (l : List UInt8) (c : UInt8) : Lib.cut l [c] = (l.take (findL l c), l.drop (findL l c + 1), decide (findL l c < l.length)) := by
  unfold Lib.cut
  rw [Lib.index_one, byte_find]
  have hle := findL_le l c
  by_cases h : findL l c < l.length
  · simp [h]
  · have e : findL l c = l.length := by omega
    rw [if_neg h, if_neg (by omega), e]
    simp
theorem cut_c (s : ByteArray) (c : UInt8) (w : World) (hm : ML w) (hs : s.size ≤ 1000000) :
    Calls Tryz.prog 269 #[.string s, .string ⟨#[c]⟩] w (Ret w (.tuple #[.string (ba (s.data.toList.take (findL s.data.toList c))), .string (ba (s.data.toList.drop (findL s.data.toList c + 1))), .bool (decide (findL s.data.toList c < s.data.toList.length))])) := by
  obtain ⟨_, m, hm⟩ := hm
  refine (Tryz.strings_Cut s ⟨#[c]⟩ m w (by omega) hm).mono ?_
  rintro e w' ⟨rfl, n, rfl⟩
  have hc := cut_one s.data.toList c
  refine ⟨?_, below_drewN (Below.refl _ _) _⟩
  show Ending.returned (.tuple #[.string ⟨(Lib.cut s.data.toList [c]).1.toArray⟩, .string ⟨(Lib.cut s.data.toList [c]).2.1.toArray⟩, .bool (Lib.cut s.data.toList [c]).2.2]) = _
  rw [hc]
  rfl
end Go.Proofs.YthlhbgedidipkaaGreat
/- addr.Parse and callboyref09.Parse. -/
namespace Go.Proofs.YthlhbgedidipkaaGreat
open Go.RowKit
structure ParseD where
  own : List UInt8
  place : List UInt8
  res : List UInt8
  err : Int
def ParseD.val (x : ParseD) : Value := .tuple #[.agg #[.string (ba x.own), .string (ba x.place), .string (ba x.res)], .int .i64 x.err]
def frontL (l : List UInt8) : List UInt8 := (l.take (findL l 47)).map lowC
def ownL (l : List UInt8) : List UInt8 := (frontL l).take (findL (frontL l) 64)
def placeL (l : List UInt8) : List UInt8 := (frontL l).drop (findL (frontL l) 64 + 1)
def tailR (l : List UInt8) : List UInt8 := l.drop (findL l 47 + 1)
def parseL (l : List UInt8) : ParseD :=
  if (!decide (findL (frontL l) 64 < (frontL l).length) || (decide (findL l 47 < l.length) && (tailR l).isEmpty)) = true then ⟨[], [], [], 4⟩
  else if checkA (ownL l) (placeL l) (tailR l) = 0 then ⟨ownL l, placeL l, tailR l, 0⟩ else ⟨[], [], [], checkA (ownL l) (placeL l) (tailR l)⟩
theorem lowB_ba (l : List UInt8) : lowB (ba l) = ba (l.map lowC) := bl_inj (by rw [lowB_list, ba_list, ba_list])
theorem find_small (l : List UInt8) (h : l.length ≤ 100000) : (frontL l).length ≤ 100000 ∧ (ownL l).length ≤ 100000 ∧ (placeL l).length ≤ 100000 ∧ (tailR l).length ≤ 100000 := by
  have h1 : (frontL l).length ≤ l.length := by unfold frontL; simp; omega
  refine ⟨by omega, ?_, ?_, ?_⟩
  · unfold ownL; simp; omega
  · unfold placeL; simp; omega
  · unfold tailR; simp; omega
theorem empty_ba (l : List UInt8) : (ba l).toList.isEmpty = l.isEmpty := by rw [ByteArray.toList_eq, ba_list]
set_option maxRecDepth 100000 in
set_option maxHeartbeats 2000000 in
theorem parse_c (s : ByteArray) (w : World) (hm : ML w) (hs : s.size ≤ 100000) :
    Calls Tryz.prog 235 #[.string s] w (Ret w (parseL s.data.toList).val) := by
  have hlen := bl_len s
  obtain ⟨l, hl⟩ : ∃ l, s.data.toList = l := ⟨_, rfl⟩
  have hll : l.length ≤ 100000 := by rw [← hl, hlen]; exact hs
  obtain ⟨z1, z2, z3, z4⟩ := find_small l hll
  have k1 := fun w' (hm' : ML w') => cut_c s 47 w' hm' (by omega)
  have k2 := fun w' => low_c (ba (l.take (findL l 47))) w' (by rw [ba_size]; simp; omega)
  have k3 := fun w' (hm' : ML w') => cut_c (ba (frontL l)) 64 w' hm' (by rw [ba_size]; omega)
  have k4 := fun w' (hm' : ML w') => check_c (ba (ownL l)) (ba (placeL l)) (ba (tailR l)) w' hm' (by rw [ba_size]; omega) (by rw [ba_size]; omega) (by rw [ba_size]; omega)
  rw [hl] at k1 ⊢
  rw [lowB_ba] at k2
  simp only [ba_list] at k3 k4
  have k1' : ∀ w', ML w' → Calls Tryz.prog 269 #[.string s, .string ⟨#[47]⟩] w' (Ret w' (.tuple #[.string (ba (l.take (findL l 47))), .string (ba (tailR l)), .bool (decide (findL l 47 < l.length))])) := k1
  have k2' : ∀ w', Calls Tryz.prog 270 #[.string (ba (l.take (findL l 47)))] w' (Ret w' (.string (ba (frontL l)))) := k2
  have k3' : ∀ w', ML w' → Calls Tryz.prog 269 #[.string (ba (frontL l)), .string ⟨#[64]⟩] w' (Ret w' (.tuple #[.string (ba (ownL l)), .string (ba (placeL l)), .bool (decide (findL (frontL l) 64 < (frontL l).length))])) := k3
  have he := empty_ba (tailR l)
  obtain ⟨p, hp⟩ : ∃ p, parseL l = p := ⟨_, rfl⟩
  have hx := hp
  unfold parseL at hx
  rw [← he] at hx
  rw [hp]
  clear k1 k2 k3 hp hl hlen hll z1 z2 z3 z4 he
  generalize ownL l = O at *
  generalize placeL l = H at *
  generalize tailR l = R at *
  generalize ba (l.take (findL l 47)) = F at *
  generalize checkA O H R = v at *
  generalize ba (frontL l) = G at *
  generalize decide (findL l 47 < l.length) = sl at *
  generalize decide (findL (frontL l) 64 < (frontL l).length) = ha at *
  have K1 := Lib.hid k1'
  have K2 := Lib.hid k2'
  have K3 := Lib.hid k3'
  have K4 := Lib.hid k4
  have HX := Lib.hid hx
  clear k1' k2' k3' k4 hx
  go_enter Tryz.func235, Tryz.ntmps235
  go_wp2_with (first | ((go_at_call 269; (with_reducible refine (K1.out _ (hm.then (by (with_reducible repeat (first | assumption | exact Below.refl _ _ | (refine below_alloc ?_ _) | (refine Below.setCell ?_ (by first | exact Nat.le_refl _ | (simp; done) | (simp at *; omega)) _) | (refine below_drewN ?_ _) | (refine Below.drew ?_)))))).mono ?_); rintro e w1 ⟨rfl, hcb1⟩; obtain ⟨hcc1, hcf1⟩ := bcell hcb1; have hcz1 := hcb1.size; have hcB1 : Below w.heap.size w w1 := below_then (by (with_reducible repeat (first | assumption | exact Below.refl _ _ | (refine below_alloc ?_ _) | (refine Below.setCell ?_ (by first | exact Nat.le_refl _ | (simp; done) | (simp at *; omega)) _) | (refine below_drewN ?_ _) | (refine Below.drew ?_)))) hcb1); have hl1 : w.heap.size < w1.heap.size := Nat.lt_of_lt_of_le (by rw [World.size_alloc]; exact Nat.lt_succ_self _) hcz1) | ((go_at_call 270; (with_reducible refine (K2.out _).mono ?_); rintro e w2 ⟨rfl, hcb2⟩; obtain ⟨hcc2, hcf2⟩ := bcell hcb2; have hcz2 := hcb2.size; have hcB2 : Below w.heap.size w w2 := below_then (by (with_reducible repeat (first | assumption | exact Below.refl _ _ | (refine below_alloc ?_ _) | (refine Below.setCell ?_ (by first | exact Nat.le_refl _ | (simp; done) | (simp at *; omega)) _) | (refine below_drewN ?_ _) | (refine Below.drew ?_)))) hcb2); have hl2 := Nat.lt_of_lt_of_le hl1 hcz2) | ((go_at_call 269; (with_reducible refine (K3.out _ (hm.then (by (with_reducible repeat (first | assumption | exact Below.refl _ _ | (refine below_alloc ?_ _) | (refine Below.setCell ?_ (by first | exact Nat.le_refl _ | (simp; done) | (simp at *; omega)) _) | (refine below_drewN ?_ _) | (refine Below.drew ?_)))))).mono ?_); rintro e w3 ⟨rfl, hcb3⟩; obtain ⟨hcc3, hcf3⟩ := bcell hcb3; have hcz3 := hcb3.size; have hcB3 : Below w.heap.size w w3 := below_then (by (with_reducible repeat (first | assumption | exact Below.refl _ _ | (refine below_alloc ?_ _) | (refine Below.setCell ?_ (by first | exact Nat.le_refl _ | (simp; done) | (simp at *; omega)) _) | (refine below_drewN ?_ _) | (refine Below.drew ?_)))) hcb3); have hl3 := Nat.lt_of_lt_of_le hl2 hcz3; have hl3' := Nat.lt_succ_of_lt hl3) | ((go_at_call 271; (with_reducible refine (K4.out _ (hm.then (by (with_reducible repeat (first | assumption | exact Below.refl _ _ | (refine below_alloc ?_ _) | (refine Below.setCell ?_ (by first | exact Nat.le_refl _ | (simp; done) | (simp at *; omega)) _) | (refine below_drewN ?_ _) | (refine Below.drew ?_)))))).mono ?_); rintro e w4 ⟨rfl, hcb4⟩; obtain ⟨hcc4, hcf4⟩ := bcell hcb4; have hcz4 := hcb4.size; have hcB4 : Below w.heap.size w w4 := below_then (by (with_reducible repeat (first | assumption | exact Below.refl _ _ | (refine below_alloc ?_ _) | (refine Below.setCell ?_ (by first | exact Nat.le_refl _ | (simp; done) | (simp at *; omega)) _) | (refine below_drewN ?_ _) | (refine Below.drew ?_)))) hcb4); have hl4 := Nat.lt_of_lt_of_le hl3' (by rw [World.size_alloc] at hcz4; exact hcz4)))
  all_goals (have e := HX.out; clear HX K1 K2 K3 K4)
  all_goals first
    | (have e2 : p = ⟨[], [], [], 4⟩ := by (rw [← e]; clear e; first | (simp [*]; done) | grind)
       refine bodyPost_ret (v := .tuple #[.agg #[.string ⟨#[]⟩, .string ⟨#[]⟩, .string ⟨#[]⟩], .int .i64 4]) (by simp [results, Tryz.results235, go_sem, *]) rfl ⟨by rw [e2]; rfl, (by (with_reducible repeat (first | assumption | exact Below.refl _ _ | (refine below_alloc ?_ _) | (refine Below.setCell ?_ (by first | exact Nat.le_refl _ | (simp; done) | (simp at *; omega)) _) | (refine below_drewN ?_ _) | (refine Below.drew ?_))))⟩)
    | (have e2 : p = ⟨[], [], [], v⟩ := by (rw [← e]; clear e; first | (simp [*]; done) | grind)
       refine bodyPost_ret (v := .tuple #[.agg #[.string ⟨#[]⟩, .string ⟨#[]⟩, .string ⟨#[]⟩], .int .i64 v]) (by simp [results, Tryz.results235, go_sem, *]) rfl ⟨by rw [e2]; rfl, (by (with_reducible repeat (first | assumption | exact Below.refl _ _ | (refine below_alloc ?_ _) | (refine Below.setCell ?_ (by first | exact Nat.le_refl _ | (simp; done) | (simp at *; omega)) _) | (refine below_drewN ?_ _) | (refine Below.drew ?_))))⟩)
    | (have e2 : p = ⟨O, H, R, 0⟩ := by (rw [← e]; clear e; first | (simp [*]; done) | grind)
       refine bodyPost_ret (v := .tuple #[.agg #[.string (ba O), .string (ba H), .string (ba R)], .int .i64 0]) (by simp [results, Tryz.results235, go_sem, *]) rfl ⟨by rw [e2]; rfl, (by (with_reducible repeat (first | assumption | exact Below.refl _ _ | (refine below_alloc ?_ _) | (refine Below.setCell ?_ (by first | exact Nat.le_refl _ | (simp; done) | (simp at *; omega)) _) | (refine below_drewN ?_ _) | (refine Below.drew ?_))))⟩)
end Go.Proofs.YthlhbgedidipkaaGreat
/- callboyref09.Parse. -/
namespace Go.Proofs.YthlhbgedidipkaaGreat
open Go.RowKit
theorem cut_take (s : ByteArray) (k : Nat) : s.extract 0 k = ba (s.data.toList.take k) := by
  apply bl_inj
  rw [ba_list, Lib.extract_eq]
  simp
theorem cut_drop (s : ByteArray) (k : Nat) : s.extract k s.size = ba (s.data.toList.drop k) := by
  apply bl_inj
  rw [ba_list, Lib.extract_eq, List.take_of_length_le (by rw [List.length_drop, bl_len]; exact Nat.le_refl _)]
set_option maxRecDepth 100000 in
set_option maxHeartbeats 2000000 in
theorem refParse_c (s : ByteArray) (w : World) (hs : s.size ≤ 100000) :
    Calls Tryz.prog 239 #[.string s] w (Ret w (parseL s.data.toList).val) := by
  have hlen := bl_len s
  obtain ⟨l, hl⟩ : ∃ l, s.data.toList = l := ⟨_, rfl⟩
  have hll : l.length ≤ 100000 := by rw [← hl, hlen]; exact hs
  obtain ⟨z1, z2, z3, z4⟩ := find_small l hll
  have k1 := fun w' => same_mono (find_c s 47 w' (by omega))
  have k2 := fun w' => refLow_c (ba (l.take (findL l 47))) w' (by rw [ba_size]; simp; omega)
  have k3 := fun w' => same_mono (find_c (ba (frontL l)) 64 w' (by rw [ba_size]; omega))
  have k4 := fun w' => refCheck_c (ba (ownL l)) (ba (placeL l)) (ba (tailR l)) w' (by rw [ba_size]; omega) (by rw [ba_size]; omega) (by rw [ba_size]; omega)
  rw [hl] at k1 ⊢
  rw [lowB_ba] at k2
  simp only [ba_list] at k3 k4
  have e1 : s.extract 0 (findL l 47) = ba (l.take (findL l 47)) := by rw [cut_take, hl]
  have e2 : s.extract (findL l 47 + 1) s.size = ba (tailR l) := by rw [cut_drop, hl]; rfl
  have e3 : (ba (frontL l)).extract 0 (findL (frontL l) 64) = ba (ownL l) := by rw [cut_take, ba_list]; rfl
  have e4 : (ba (frontL l)).extract (findL (frontL l) 64 + 1) (ba (frontL l)).size = ba (placeL l) := by rw [cut_drop, ba_list]; rfl
  have k1' : ∀ w', Calls Tryz.prog 275 #[.string s, .int .u8 47] w' (Ret w' (.int .i64 (findL l 47))) := k1
  have k3' : ∀ w', Calls Tryz.prog 275 #[.string (ba (frontL l)), .int .u8 64] w' (Ret w' (.int .i64 (findL (frontL l) 64))) := k3
  have k2' : ∀ w', Calls Tryz.prog 276 #[.string (ba (l.take (findL l 47)))] w' (Ret w' (.string (ba (frontL l)))) := k2
  have g1 : findL l 47 ≤ s.size := by have := findL_le l 47; rw [← hlen, hl]; exact this
  have g2 : findL (frontL l) 64 ≤ (ba (frontL l)).size := by rw [ba_size]; exact findL_le _ _
  have g7 : (ba (frontL l)).size ≤ 100000 := by rw [ba_size]; exact z1
  have g3 : l.length = s.size := by rw [← hl, hlen]
  have g4 : (frontL l).length = (ba (frontL l)).size := (ba_size _).symm
  have g5 : (tailR l).isEmpty = decide (s.size ≤ findL l 47 + 1) := by
    rw [Bool.eq_iff_iff, List.isEmpty_iff_length_eq_zero, decide_eq_true_eq]
    unfold tailR; rw [List.length_drop, g3]; omega
  obtain ⟨p, hp⟩ : ∃ p, parseL l = p := ⟨_, rfl⟩
  have hx := hp
  unfold parseL at hx
  rw [g3, g4, g5] at hx
  have g6 : s.size ≤ findL l 47 → tailR l = [] := fun h => by unfold tailR; exact List.drop_eq_nil_of_le (by rw [g3]; omega)
  rw [hp]
  clear k1 k2 k3 hp hl hlen hll z1 z2 z3 z4 g3 g4 g5
  generalize ownL l = O at *
  generalize placeL l = H at *
  generalize tailR l = R at *
  generalize ba (l.take (findL l 47)) = F at *
  generalize checkA O H R = v at *
  generalize findL (frontL l) 64 = j at *
  generalize ba (frontL l) = G at *
  generalize findL l 47 = k at *
  have K1 := Lib.hid k1'
  have K2 := Lib.hid k2'
  have K3 := Lib.hid k3'
  have K4 := Lib.hid k4
  have HX := Lib.hid hx
  have HR := Lib.hid g6
  clear k1' k2' k3' k4 hx g6
  go_enter Tryz.func239, Tryz.ntmps239
  go_wp2_with (first | ((go_at_call 275; (with_reducible refine (K1.out _).mono ?_); rintro e w1 ⟨rfl, hcb1⟩; obtain ⟨hcc1, hcf1⟩ := bcell hcb1; have hcz1 := hcb1.size; have hcB1 : Below w.heap.size w w1 := below_then (by (with_reducible repeat (first | assumption | exact Below.refl _ _ | (refine below_alloc ?_ _) | (refine Below.setCell ?_ (by first | exact Nat.le_refl _ | (simp; done) | (simp at *; omega)) _) | (refine below_drewN ?_ _) | (refine Below.drew ?_)))) hcb1); have hl1 : w.heap.size < w1.heap.size := Nat.lt_of_lt_of_le (by rw [World.size_alloc]; exact Nat.lt_succ_self _) hcz1) | ((go_at_call 276; (with_reducible refine (K2.out _).mono ?_); rintro e w2 ⟨rfl, hcb2⟩; obtain ⟨hcc2, hcf2⟩ := bcell hcb2; have hcz2 := hcb2.size; have hcB2 : Below w.heap.size w w2 := below_then (by (with_reducible repeat (first | assumption | exact Below.refl _ _ | (refine below_alloc ?_ _) | (refine Below.setCell ?_ (by first | exact Nat.le_refl _ | (simp; done) | (simp at *; omega)) _) | (refine below_drewN ?_ _) | (refine Below.drew ?_)))) hcb2); have hl2 := Nat.lt_of_lt_of_le hl1 hcz2) | ((go_at_call 275; (with_reducible refine (K3.out _).mono ?_); rintro e w3 ⟨rfl, hcb3⟩; obtain ⟨hcc3, hcf3⟩ := bcell hcb3; have hcz3 := hcb3.size; have hcB3 : Below w.heap.size w w3 := below_then (by (with_reducible repeat (first | assumption | exact Below.refl _ _ | (refine below_alloc ?_ _) | (refine Below.setCell ?_ (by first | exact Nat.le_refl _ | (simp; done) | (simp at *; omega)) _) | (refine below_drewN ?_ _) | (refine Below.drew ?_)))) hcb3); have hl3 := Nat.lt_of_lt_of_le hl2 hcz3; have hl3' := Nat.lt_succ_of_lt hl3) | ((go_at_call 277; (with_reducible refine (K4.out _).mono ?_); rintro e w4 ⟨rfl, hcb4⟩; obtain ⟨hcc4, hcf4⟩ := bcell hcb4; have hcz4 := hcb4.size; have hcB4 : Below w.heap.size w w4 := below_then (by (with_reducible repeat (first | assumption | exact Below.refl _ _ | (refine below_alloc ?_ _) | (refine Below.setCell ?_ (by first | exact Nat.le_refl _ | (simp; done) | (simp at *; omega)) _) | (refine below_drewN ?_ _) | (refine Below.drew ?_)))) hcb4); have hl4 := Nat.lt_of_lt_of_le hl3' (by rw [World.size_alloc] at hcz4; exact hcz4)))
  rotate_left 2
  have q1 : IntKind.i64.wrap ((j : Int) + 1) = (j : Int) + 1 := IntWalk.i64_in _ (by omega)
  have q2 : (0 : Int) ≤ (j : Int) + 1 := by omega
  have q3 : ((j : Int) + 1).toNat = j + 1 := by omega
  · go_region
    clear q1 q2 q3
    by_cases hk : k < s.size
    · have K4' := K4.out
      clear K4 HR
      go_wp2_with (first | (have hq5 := hl4; (go_at_call 277; (with_reducible refine (K4' _).mono ?_); rintro e w5 ⟨rfl, hcb5⟩; obtain ⟨hcc5, hcf5⟩ := bcell hcb5; have hcz5 := hcb5.size; have hcB5 : Below w.heap.size w w5 := below_then (by (with_reducible repeat (first | assumption | exact Below.refl _ _ | (refine below_alloc ?_ _) | (refine Below.setCell ?_ (by first | exact Nat.le_refl _ | (simp; done) | (simp at *; omega)) _) | (refine below_drewN ?_ _) | (refine Below.drew ?_)))) hcb5); have hl5 := Nat.lt_of_lt_of_le hl4 hcz5) | ((go_at_call 277; (with_reducible refine (K4' _).mono ?_); rintro e w4 ⟨rfl, hcb4⟩; obtain ⟨hcc4, hcf4⟩ := bcell hcb4; have hcz4 := hcb4.size; have hcB4 : Below w.heap.size w w4 := below_then (by (with_reducible repeat (first | assumption | exact Below.refl _ _ | (refine below_alloc ?_ _) | (refine Below.setCell ?_ (by first | exact Nat.le_refl _ | (simp; done) | (simp at *; omega)) _) | (refine below_drewN ?_ _) | (refine Below.drew ?_)))) hcb4); have hl4 := Nat.lt_of_lt_of_le hl3' (by rw [World.size_drew, World.size_alloc] at hcz4; exact hcz4)))
      all_goals (have e := HX.out; clear HX K1 K2 K3)
      all_goals first
        | (have e9 : p = ⟨[], [], [], 4⟩ := by (rw [← e]; clear e; first | (simp [*]; done) | grind)
           refine bodyPost_ret (v := .tuple #[.agg #[.string ⟨#[]⟩, .string ⟨#[]⟩, .string ⟨#[]⟩], .int .i64 4]) (by simp [results, Tryz.results239, go_sem, *]) rfl ⟨by rw [e9]; rfl, (by (with_reducible repeat (first | assumption | exact Below.refl _ _ | (refine below_alloc ?_ _) | (refine Below.setCell ?_ (by first | exact Nat.le_refl _ | (simp; done) | (simp at *; omega)) _) | (refine below_drewN ?_ _) | (refine Below.drew ?_))))⟩)
        | (have e9 : p = ⟨[], [], [], v⟩ := by (rw [← e]; clear e; first | (simp [*]; done) | grind)
           refine bodyPost_ret (v := .tuple #[.agg #[.string ⟨#[]⟩, .string ⟨#[]⟩, .string ⟨#[]⟩], .int .i64 v]) (by simp [results, Tryz.results239, go_sem, *]) rfl ⟨by rw [e9]; rfl, (by (with_reducible repeat (first | assumption | exact Below.refl _ _ | (refine below_alloc ?_ _) | (refine Below.setCell ?_ (by first | exact Nat.le_refl _ | (simp; done) | (simp at *; omega)) _) | (refine below_drewN ?_ _) | (refine Below.drew ?_))))⟩)
        | (have e9 : p = ⟨O, H, R, 0⟩ := by (rw [← e]; clear e; first | (simp [*]; done) | grind)
           refine bodyPost_ret (v := .tuple #[.agg #[.string (ba O), .string (ba H), .string (ba R)], .int .i64 0]) (by simp [results, Tryz.results239, go_sem, *]) rfl ⟨by rw [e9]; rfl, (by (with_reducible repeat (first | assumption | exact Below.refl _ _ | (refine below_alloc ?_ _) | (refine Below.setCell ?_ (by first | exact Nat.le_refl _ | (simp; done) | (simp at *; omega)) _) | (refine below_drewN ?_ _) | (refine Below.drew ?_))))⟩)
    · have hR := HR.out (by omega)
      subst hR
      have K4' : ∀ w', Calls Tryz.prog 277 #[.agg #[.string (ba O), .string (ba H), .string ⟨#[]⟩]] w' (Ret w' (.int .i64 v)) := K4.out
      clear K4 HR
      go_wp2_with (first | (have hq5 := hl4; (go_at_call 277; (with_reducible refine (K4' _).mono ?_); rintro e w5 ⟨rfl, hcb5⟩; obtain ⟨hcc5, hcf5⟩ := bcell hcb5; have hcz5 := hcb5.size; have hcB5 : Below w.heap.size w w5 := below_then (by (with_reducible repeat (first | assumption | exact Below.refl _ _ | (refine below_alloc ?_ _) | (refine Below.setCell ?_ (by first | exact Nat.le_refl _ | (simp; done) | (simp at *; omega)) _) | (refine below_drewN ?_ _) | (refine Below.drew ?_)))) hcb5); have hl5 := Nat.lt_of_lt_of_le hl4 hcz5) | ((go_at_call 277; (with_reducible refine (K4' _).mono ?_); rintro e w4 ⟨rfl, hcb4⟩; obtain ⟨hcc4, hcf4⟩ := bcell hcb4; have hcz4 := hcb4.size; have hcB4 : Below w.heap.size w w4 := below_then (by (with_reducible repeat (first | assumption | exact Below.refl _ _ | (refine below_alloc ?_ _) | (refine Below.setCell ?_ (by first | exact Nat.le_refl _ | (simp; done) | (simp at *; omega)) _) | (refine below_drewN ?_ _) | (refine Below.drew ?_)))) hcb4); have hl4 := Nat.lt_of_lt_of_le hl3' (by rw [World.size_drew, World.size_alloc] at hcz4; exact hcz4)))
      all_goals (have e := HX.out; clear HX K1 K2 K3)
      all_goals first
        | (have e9 : p = ⟨[], [], [], 4⟩ := by (rw [← e]; clear e; first | (simp [*]; done) | grind)
           refine bodyPost_ret (v := .tuple #[.agg #[.string ⟨#[]⟩, .string ⟨#[]⟩, .string ⟨#[]⟩], .int .i64 4]) (by simp [results, Tryz.results239, go_sem, *]) rfl ⟨by rw [e9]; rfl, (by (with_reducible repeat (first | assumption | exact Below.refl _ _ | (refine below_alloc ?_ _) | (refine Below.setCell ?_ (by first | exact Nat.le_refl _ | (simp; done) | (simp at *; omega)) _) | (refine below_drewN ?_ _) | (refine Below.drew ?_))))⟩)
        | (have e9 : p = ⟨[], [], [], v⟩ := by (rw [← e]; clear e; first | (simp [*]; done) | grind)
           refine bodyPost_ret (v := .tuple #[.agg #[.string ⟨#[]⟩, .string ⟨#[]⟩, .string ⟨#[]⟩], .int .i64 v]) (by simp [results, Tryz.results239, go_sem, *]) rfl ⟨by rw [e9]; rfl, (by (with_reducible repeat (first | assumption | exact Below.refl _ _ | (refine below_alloc ?_ _) | (refine Below.setCell ?_ (by first | exact Nat.le_refl _ | (simp; done) | (simp at *; omega)) _) | (refine below_drewN ?_ _) | (refine Below.drew ?_))))⟩)
        | (have e9 : p = ⟨O, H, [], 0⟩ := by (rw [← e]; clear e; first | (simp [*]; done) | grind)
           refine bodyPost_ret (v := .tuple #[.agg #[.string (ba O), .string (ba H), .string ⟨#[]⟩], .int .i64 0]) (by simp [results, Tryz.results239, go_sem, *]) rfl ⟨by rw [e9]; rfl, (by (with_reducible repeat (first | assumption | exact Below.refl _ _ | (refine below_alloc ?_ _) | (refine Below.setCell ?_ (by first | exact Nat.le_refl _ | (simp; done) | (simp at *; omega)) _) | (refine below_drewN ?_ _) | (refine Below.drew ?_))))⟩)
  all_goals (have e := HX.out; clear HX K1 K2 K3)
  all_goals first
    | (have e9 : p = ⟨[], [], [], 4⟩ := by (rw [← e]; clear e; first | (simp [*]; done) | grind)
       refine bodyPost_ret (v := .tuple #[.agg #[.string ⟨#[]⟩, .string ⟨#[]⟩, .string ⟨#[]⟩], .int .i64 4]) (by simp [results, Tryz.results239, go_sem, *]) rfl ⟨by rw [e9]; rfl, (by (with_reducible repeat (first | assumption | exact Below.refl _ _ | (refine below_alloc ?_ _) | (refine Below.setCell ?_ (by first | exact Nat.le_refl _ | (simp; done) | (simp at *; omega)) _) | (refine below_drewN ?_ _) | (refine Below.drew ?_))))⟩)
end Go.Proofs.YthlhbgedidipkaaGreat
/- addr and callboyref09: text, Print, Bare, IsBare. -/
namespace Go.Proofs.YthlhbgedidipkaaGreat
open Go.RowKit
theorem ba_app (a b : List UInt8) : ba a ++ ba b = ba (a ++ b) := by
  apply bl_inj
  simp [ba_list]
def textL (n h r : List UInt8) : List UInt8 := if r.isEmpty = true then n ++ [64] ++ h else n ++ [64] ++ h ++ [47] ++ r
set_option maxHeartbeats 1000000 in
theorem text_c (n h r : List UInt8) (w : World) (hn : n.length ≤ 100000) (hh : h.length ≤ 100000) (hr : r.length ≤ 100000) :
    Calls Tryz.prog 236 #[.agg #[.string (ba n), .string (ba h), .string (ba r)]] w (Ret w (.string (ba (textL n h r)))) := by
  have he := empty_ba r
  have z1 := ba_size n
  have z2 := ba_size h
  have z3 := ba_size r
  go_enter Tryz.func236, Tryz.ntmps236
  go_wp2
  all_goals (go_ret; refine ⟨ret_v (congrArg Value.string (bl_inj ?_)), (by (with_reducible repeat (first | assumption | exact Below.refl _ _ | (refine below_alloc ?_ _) | (refine Below.setCell ?_ (by first | exact Nat.le_refl _ | (simp; done) | (simp at *; omega)) _) | (refine below_drewN ?_ _) | (refine Below.drew ?_))))⟩)
  all_goals (rw [ba_list]; unfold textL; simp_all [ba_list])
theorem parse_small (l : List UInt8) (h : l.length ≤ 100000) : (parseL l).own.length ≤ 100000 ∧ (parseL l).place.length ≤ 100000 ∧ (parseL l).res.length ≤ 100000 := by
  obtain ⟨z1, z2, z3, z4⟩ := find_small l h
  unfold parseL
  split
  · simp
  · split
    · exact ⟨z2, z3, z4⟩
    · simp
def bareT (l : List UInt8) : List UInt8 := if (parseL l).err = 0 then textL (parseL l).own (parseL l).place [] else []
def bareV (l : List UInt8) : Value := .tuple #[.string (ba (bareT l)), .int .i64 (parseL l).err]
set_option maxHeartbeats 1000000 in
theorem bare_c (s : ByteArray) (w : World) (hm : ML w) (hs : s.size ≤ 100000) :
    Calls Tryz.prog 177 #[.string s] w (Ret w (bareV s.data.toList)) := by
  have hlen := bl_len s
  obtain ⟨l, hl⟩ : ∃ l, s.data.toList = l := ⟨_, rfl⟩
  obtain ⟨z1, z2, z3⟩ := parse_small l (by rw [← hl, hlen]; exact hs)
  have k1 := fun w' (hm' : ML w') => parse_c s w' hm' hs
  have k2 := fun w' => text_c (parseL l).own (parseL l).place [] w' z1 z2 (by simp)
  rw [hl] at k1 ⊢
  unfold bareV bareT
  obtain ⟨⟨O, H, R, v⟩, hp⟩ : ∃ p, parseL l = p := ⟨_, rfl⟩
  rw [hp] at k1 k2 ⊢
  generalize textL O H [] = T at k2 ⊢
  have k1' : ∀ w', ML w' → Calls Tryz.prog 235 #[.string s] w' (Ret w' (.tuple #[.agg #[.string (ba O), .string (ba H), .string (ba R)], .int .i64 v])) := k1
  have k2' : ∀ w', Calls Tryz.prog 236 #[.agg #[.string (ba O), .string (ba H), .string ⟨#[]⟩]] w' (Ret w' (.string (ba T))) := k2
  clear k1 k2 hp hl z1 z2 z3 hlen
  have K1 := Lib.hid k1'
  have K2 := Lib.hid k2'
  clear k1' k2'
  go_enter Tryz.func177, Tryz.ntmps177
  go_wp2_with (first | (go_at_call 235; (with_reducible refine (K1.out _ hm).mono ?_); rintro e w1 ⟨rfl, hcb1⟩; obtain ⟨hcc1, hcf1⟩ := bcell hcb1; have hcz1 := hcb1.size; have hcB1 : Below w.heap.size w w1 := below_then (by (with_reducible repeat (first | assumption | exact Below.refl _ _ | (refine below_alloc ?_ _) | (refine Below.setCell ?_ (by first | exact Nat.le_refl _ | (simp; done) | (simp at *; omega)) _) | (refine below_drewN ?_ _) | (refine Below.drew ?_)))) hcb1) | (go_at_call 236; (with_reducible refine (K2.out _).mono ?_); rintro e w2 ⟨rfl, hcb2⟩; obtain ⟨hcc2, hcf2⟩ := bcell hcb2; have hcz2 := hcb2.size; have hcB2 : Below w.heap.size w w2 := below_then (by (with_reducible repeat (first | assumption | exact Below.refl _ _ | (refine below_alloc ?_ _) | (refine Below.setCell ?_ (by first | exact Nat.le_refl _ | (simp; done) | (simp at *; omega)) _) | (refine below_drewN ?_ _) | (refine Below.drew ?_)))) hcb2))
  all_goals (go_ret2; refine ⟨ret_v ?_, (by (with_reducible repeat (first | assumption | exact Below.refl _ _ | (refine below_alloc ?_ _) | (refine Below.setCell ?_ (by first | exact Nat.le_refl _ | (simp; done) | (simp at *; omega)) _) | (refine below_drewN ?_ _) | (refine Below.drew ?_))))⟩)
  all_goals simp_all
  all_goals rfl
def isBareL (l : List UInt8) : Bool := decide ((parseL l).err = 0) && (bareT l == l)
theorem isBare_bytes (s : ByteArray) : isBareL s.data.toList = (decide ((parseL s.data.toList).err = 0) && ((ba (bareT s.data.toList)).toList == s.toList)) := by
  unfold isBareL
  rw [ByteArray.toList_eq, ByteArray.toList_eq, ba_list]
set_option maxHeartbeats 1000000 in
theorem isBare_c (s : ByteArray) (w : World) (hm : ML w) (hs : s.size ≤ 100000) :
    Calls Tryz.prog 104 #[.string s] w (Ret w (.bool (isBareL s.data.toList))) := by
  have k1 := bare_c s w hm hs
  rw [isBare_bytes]
  unfold bareV at k1
  generalize bareT s.data.toList = T at *
  generalize (parseL s.data.toList).err = v at *
  have K1 := Lib.hid k1
  clear k1
  go_enter Tryz.func104, Tryz.ntmps104
  go_wp2_with (go_at_call 177; (with_reducible refine (K1.out).mono ?_); rintro e w1 ⟨rfl, hcb1⟩; obtain ⟨hcc1, hcf1⟩ := bcell hcb1; have hcz1 := hcb1.size; have hcB1 : Below w.heap.size w w1 := below_then (by (with_reducible repeat (first | assumption | exact Below.refl _ _ | (refine below_alloc ?_ _) | (refine Below.setCell ?_ (by first | exact Nat.le_refl _ | (simp; done) | (simp at *; omega)) _) | (refine below_drewN ?_ _) | (refine Below.drew ?_)))) hcb1)
  all_goals (go_ret; refine ⟨ret_b ?_, (by (with_reducible repeat (first | assumption | exact Below.refl _ _ | (refine below_alloc ?_ _) | (refine Below.setCell ?_ (by first | exact Nat.le_refl _ | (simp; done) | (simp at *; omega)) _) | (refine below_drewN ?_ _) | (refine Below.drew ?_))))⟩)
  all_goals simp_all
theorem checkA_nores {n h r : List UInt8} (e : checkA n h r = 0) : checkA n h [] = 0 := by
  unfold checkA at e ⊢
  split at e
  · exact absurd e (by decide)
  · next h1 =>
    split at e
    · exact absurd e (by decide)
    · next h2 =>
      split at e
      · next h3 =>
        have hp : plainL [] = true := rfl
        simp only [Bool.and_eq_true] at h3
        rw [if_neg (by simp at h1 ⊢; exact h1.1), if_neg h2, if_pos (by simp [h3, hp])]
      · exact absurd e (by decide)
theorem parse_ok {l : List UInt8} (h : (parseL l).err = 0) : checkA (parseL l).own (parseL l).place (parseL l).res = 0 := by
  unfold parseL at h ⊢
  split at h
  · exact absurd h (by decide)
  · next h1 =>
    rw [if_neg h1]
    split at h
    · next h2 => rw [if_pos h2]; exact h2
    · next h2 => exact absurd h h2
set_option maxHeartbeats 1000000 in
theorem refPrint_c (n h r : List UInt8) (w : World) (hn : n.length ≤ 100000) (hh : h.length ≤ 100000) (hr : r.length ≤ 100000) :
    Calls Tryz.prog 240 #[.agg #[.string (ba n), .string (ba h), .string (ba r)]] w (Ret w (.tuple #[.string (ba (if checkA n h r = 0 then textL n h r else [])), .int .i64 (checkA n h r)])) := by
  have he := empty_ba r
  have z1 := ba_size n
  have z2 := ba_size h
  have z3 := ba_size r
  have k1 := fun w' => refCheck_c (ba n) (ba h) (ba r) w' (by omega) (by omega) (by omega)
  simp only [ba_list] at k1
  obtain ⟨v, hv⟩ : ∃ v, checkA n h r = v := ⟨_, rfl⟩
  rw [hv] at k1 ⊢
  have K1 := Lib.hid k1
  clear k1 hv
  go_enter Tryz.func240, Tryz.ntmps240
  go_wp2_with (first | (have hq := hl1; (go_at_call 277; (with_reducible refine (K1.out _).mono ?_); rintro e w2 ⟨rfl, hcb2⟩; obtain ⟨hcc2, hcf2⟩ := bcell hcb2; have hcz2 := hcb2.size; have hcB2 : Below w.heap.size w w2 := below_then (by (with_reducible repeat (first | assumption | exact Below.refl _ _ | (refine below_alloc ?_ _) | (refine Below.setCell ?_ (by first | exact Nat.le_refl _ | (simp; done) | (simp at *; omega)) _) | (refine below_drewN ?_ _) | (refine Below.drew ?_)))) hcb2); have hl2 := Nat.lt_of_lt_of_le hl1 hcz2) | ((go_at_call 277; (with_reducible refine (K1.out _).mono ?_); rintro e w1 ⟨rfl, hcb1⟩; obtain ⟨hcc1, hcf1⟩ := bcell hcb1; have hcz1 := hcb1.size; have hcB1 : Below w.heap.size w w1 := below_then (by (with_reducible repeat (first | assumption | exact Below.refl _ _ | (refine below_alloc ?_ _) | (refine Below.setCell ?_ (by first | exact Nat.le_refl _ | (simp; done) | (simp at *; omega)) _) | (refine below_drewN ?_ _) | (refine Below.drew ?_)))) hcb1); have hl1 : w.heap.size < w1.heap.size := Nat.lt_of_lt_of_le (by rw [World.size_alloc]; exact Nat.lt_succ_self _) hcz1))
  all_goals (go_ret2; refine ⟨ret_v ?_, (by (with_reducible repeat (first | assumption | exact Below.refl _ _ | (refine below_alloc ?_ _) | (refine Below.setCell ?_ (by first | exact Nat.le_refl _ | (simp; done) | (simp at *; omega)) _) | (refine below_drewN ?_ _) | (refine Below.drew ?_))))⟩)
  all_goals (clear K1)
  all_goals (try unfold textL)
  all_goals simp_all
  all_goals first
    | rfl
    | (apply bl_inj; simp [ba_list])
end Go.Proofs.YthlhbgedidipkaaGreat
/- callboyref09: Bare, IsBare. -/
namespace Go.Proofs.YthlhbgedidipkaaGreat
open Go.RowKit
set_option maxHeartbeats 1000000 in
theorem refBare_c (s : ByteArray) (w : World) (hs : s.size ≤ 100000) :
    Calls Tryz.prog 179 #[.string s] w (Ret w (bareV s.data.toList)) := by
  have hlen := bl_len s
  obtain ⟨l, hl⟩ : ∃ l, s.data.toList = l := ⟨_, rfl⟩
  obtain ⟨z1, z2, z3⟩ := parse_small l (by rw [← hl, hlen]; exact hs)
  have k1 := fun w' => refParse_c s w' hs
  have k2 := fun w' => refPrint_c (parseL l).own (parseL l).place [] w' z1 z2 (by simp)
  have hok : (parseL l).err = 0 → checkA (parseL l).own (parseL l).place [] = 0 := fun h => checkA_nores (parse_ok h)
  rw [hl] at k1 ⊢
  unfold bareV bareT
  obtain ⟨⟨O, H, R, v⟩, hp⟩ : ∃ p, parseL l = p := ⟨_, rfl⟩
  rw [hp] at k1 k2 hok ⊢
  have k1' : ∀ w', Calls Tryz.prog 239 #[.string s] w' (Ret w' (.tuple #[.agg #[.string (ba O), .string (ba H), .string (ba R)], .int .i64 v])) := k1
  have k2' : ∀ w', v = 0 → Calls Tryz.prog 240 #[.agg #[.string (ba O), .string (ba H), .string ⟨#[]⟩]] w' (Ret w' (.tuple #[.string (ba (textL O H [])), .int .i64 0])) := by
    intro w' hv
    have := k2 w'
    rw [hok hv] at this
    exact this
  generalize textL O H [] = T at k2' ⊢
  clear k1 k2 hp hl z1 z2 z3 hlen hok
  have K1 := Lib.hid k1'
  have K2 := Lib.hid k2'
  clear k1' k2'
  by_cases hv : v = 0
  · subst hv
    go_enter Tryz.func179, Tryz.ntmps179
    have K3 := K2.out
    simp only [forall_const] at K3
    go_wp2_with (first | (go_at_call 239; (with_reducible refine (K1.out _).mono ?_); rintro e w1 ⟨rfl, hcb1⟩; obtain ⟨hcc1, hcf1⟩ := bcell hcb1; have hcz1 := hcb1.size; have hcB1 : Below w.heap.size w w1 := below_then (by (with_reducible repeat (first | assumption | exact Below.refl _ _ | (refine below_alloc ?_ _) | (refine Below.setCell ?_ (by first | exact Nat.le_refl _ | (simp; done) | (simp at *; omega)) _) | (refine below_drewN ?_ _) | (refine Below.drew ?_)))) hcb1) | (go_at_call 240; (with_reducible refine (K3 _).mono ?_); rintro e w2 ⟨rfl, hcb2⟩; obtain ⟨hcc2, hcf2⟩ := bcell hcb2; have hcz2 := hcb2.size; have hcB2 : Below w.heap.size w w2 := below_then (by (with_reducible repeat (first | assumption | exact Below.refl _ _ | (refine below_alloc ?_ _) | (refine Below.setCell ?_ (by first | exact Nat.le_refl _ | (simp; done) | (simp at *; omega)) _) | (refine below_drewN ?_ _) | (refine Below.drew ?_)))) hcb2))
    all_goals (go_ret2; refine ⟨ret_v ?_, (by (with_reducible repeat (first | assumption | exact Below.refl _ _ | (refine below_alloc ?_ _) | (refine Below.setCell ?_ (by first | exact Nat.le_refl _ | (simp; done) | (simp at *; omega)) _) | (refine below_drewN ?_ _) | (refine Below.drew ?_))))⟩)
    all_goals rfl
  · have hv2 : (v != 0) = true := by simpa using hv
    go_enter Tryz.func179, Tryz.ntmps179
    go_wp2_with (first | (go_at_call 239; (with_reducible refine (K1.out _).mono ?_); rintro e w1 ⟨rfl, hcb1⟩; obtain ⟨hcc1, hcf1⟩ := bcell hcb1; have hcz1 := hcb1.size; have hcB1 : Below w.heap.size w w1 := below_then (by (with_reducible repeat (first | assumption | exact Below.refl _ _ | (refine below_alloc ?_ _) | (refine Below.setCell ?_ (by first | exact Nat.le_refl _ | (simp; done) | (simp at *; omega)) _) | (refine below_drewN ?_ _) | (refine Below.drew ?_)))) hcb1))
    all_goals (go_ret2; refine ⟨ret_v ?_, (by (with_reducible repeat (first | assumption | exact Below.refl _ _ | (refine below_alloc ?_ _) | (refine Below.setCell ?_ (by first | exact Nat.le_refl _ | (simp; done) | (simp at *; omega)) _) | (refine below_drewN ?_ _) | (refine Below.drew ?_))))⟩)
    all_goals simp_all
    all_goals rfl
set_option maxHeartbeats 1000000 in
theorem refIsBare_c (s : ByteArray) (w : World) (hs : s.size ≤ 100000) :
    Calls Tryz.prog 107 #[.string s] w (Ret w (.bool (isBareL s.data.toList))) := by
  have k1 := refBare_c s w hs
  rw [isBare_bytes]
  unfold bareV at k1
  generalize bareT s.data.toList = T at *
  generalize (parseL s.data.toList).err = v at *
  have K1 := Lib.hid k1
  clear k1
  go_enter Tryz.func107, Tryz.ntmps107
  go_wp2_with (go_at_call 179; (with_reducible refine (K1.out).mono ?_); rintro e w1 ⟨rfl, hcb1⟩; obtain ⟨hcc1, hcf1⟩ := bcell hcb1; have hcz1 := hcb1.size; have hcB1 : Below w.heap.size w w1 := below_then (by (with_reducible repeat (first | assumption | exact Below.refl _ _ | (refine below_alloc ?_ _) | (refine Below.setCell ?_ (by first | exact Nat.le_refl _ | (simp; done) | (simp at *; omega)) _) | (refine below_drewN ?_ _) | (refine Below.drew ?_)))) hcb1)
  all_goals (go_ret; refine ⟨ret_b ?_, (by (with_reducible repeat (first | assumption | exact Below.refl _ _ | (refine below_alloc ?_ _) | (refine Below.setCell ?_ (by first | exact Nat.le_refl _ | (simp; done) | (simp at *; omega)) _) | (refine below_drewN ?_ _) | (refine Below.drew ?_))))⟩)
  all_goals simp_all
end Go.Proofs.YthlhbgedidipkaaGreat
/- An abstract walk: values without addresses, what they stand for in a memory, and how that lasts. -/
namespace Go.Proofs.YthlhbgedidipkaaGreat
open Go.RowKit
inductive V where
  | lit (v : Value)
  | agg (cs : List V)
  | tup (vs : List V)
  | sl (xs : List V) (full : Bool)
  | osl (id off n es : Nat) (full : Bool)
  | ptr (id off : Nat)
  | eptr (cs : List V)
  | clo (fn : Fn) (caps : List V)
  | any
  deriving Inhabited
abbrev V.i (n : Int) : V := .lit (.int .i64 n)
abbrev V.b (n : Bool) : V := .lit (.bool n)
abbrev V.s (n : ByteArray) : V := .lit (.string n)
def V.cells : V → List V
  | .agg cs => cs
  | v => [v]
def V.one : V → Bool
  | .lit v => v.oneCell'
  | .agg _ | .tup _ | .any => false
  | _ => true
abbrev Mem := Addr → Option Value
abbrev Bks := Nat → Option (Nat × Nat)
def noBk : Bks := fun _ => none
inductive Rep (m : Mem) : Bks → Value → V → Prop
  | lit {bk v} (h : v.oneCell' = true) : Rep m bk v (.lit v)
  | agg {bk} {cs : Array Value} {vs : List V} (hl : cs.size = vs.length) (h1 : ∀ v ∈ vs, v.one = true) (h : ∀ j (h1 : j < cs.size) (h2 : j < vs.length), Rep m bk cs[j] vs[j]) : Rep m bk (.agg cs) (.agg vs)
  | tup {bk} {cs : Array Value} {vs : List V} (hl : cs.size = vs.length) (h : ∀ j (h1 : j < cs.size) (h2 : j < vs.length), Rep m bk cs[j] vs[j]) : Rep m bk (.tuple cs) (.tup vs)
  | sl {bk b o n cap es full} {xs : List V} {us : Nat → Value} (hn : n = xs.length) (hc : n ≤ cap) (hf : full = true → cap = n) (hes : ∀ x ∈ xs, x.cells.length = es)
      (h1 : ∀ u ∈ xs.flatMap V.cells, u.one = true) (hm : ∀ k, k < (xs.flatMap V.cells).length → m ⟨b, o + k, none⟩ = some (us k))
      (h : ∀ k (hk : k < (xs.flatMap V.cells).length), Rep m noBk (us k) (xs.flatMap V.cells)[k]) : Rep m bk (.slice (some ⟨b, o, none⟩) n cap) (.sl xs full)
  | slnil {bk A cap full} (hf : full = true → cap = 0) : Rep m bk (.slice A 0 cap) (.sl [] full)
  | osl {bk : Bks} {id b sz off n cap es full} (hb : bk id = some (b, sz)) (hc : n ≤ cap) (hf : full = true → cap = n) (hs : off + cap * es ≤ sz) : Rep m bk (.slice (some ⟨b, off, none⟩) n cap) (.osl id off n es full)
  | ptr {bk : Bks} {id b sz off} (hb : bk id = some (b, sz)) : Rep m bk (.pointer (some ⟨b, off, none⟩)) (.ptr id off)
  | eptr {bk b o} {us : Nat → Value} {cs : List V} (h1 : ∀ u ∈ cs, u.one = true) (hm : ∀ k, k < cs.length → m ⟨b, o + k, none⟩ = some (us k)) (h : ∀ k (hk : k < cs.length), Rep m noBk (us k) cs[k]) :
      Rep m bk (.pointer (some ⟨b, o, none⟩)) (.eptr cs)
  | clo {bk fn} {cs : Array Value} {vs : List V} (hl : cs.size = vs.length) (h : ∀ j (h1 : j < cs.size) (h2 : j < vs.length), Rep m bk cs[j] vs[j]) : Rep m bk (.func fn #[] cs) (.clo fn vs)
  | any {bk v} : Rep m bk v .any
theorem Rep.mono {m m' : Mem} (hm : ∀ a u, m a = some u → m' a = some u) {bk : Bks} {c : Value} {v : V} (h : Rep m bk c v) : ∀ {bk' : Bks}, (∀ id x, bk id = some x → bk' id = some x) → Rep m' bk' c v := by
  induction h with
  | lit h => intro _ _; exact .lit h
  | agg hl h1 _ ih => intro bk' hb; exact .agg hl h1 fun j a b => ih j a b hb
  | tup hl _ ih => intro bk' hb; exact .tup hl fun j a b => ih j a b hb
  | sl hn hc hf hes h1 hm' _ ih => intro bk' hb; exact .sl hn hc hf hes h1 (fun k hk => hm _ _ (hm' k hk)) fun k hk => ih k hk fun _ _ h => h
  | slnil hf => intro _ _; exact .slnil hf
  | osl hb hc hf hs => intro bk' hbk; exact .osl (hbk _ _ hb) hc hf hs
  | ptr hb => intro bk' hbk; exact .ptr (hbk _ _ hb)
  | eptr h1 hm' _ ih => intro bk' hb; exact .eptr h1 (fun k hk => hm _ _ (hm' k hk)) fun k hk => ih k hk fun _ _ h => h
  | clo hl _ ih => intro bk' hb; exact .clo hl fun j a b => ih j a b hb
  | any => intro _ _; exact .any
/-- a value all of whose own blocks have numbers below n. -/
def V.idlt (n : Nat) : V → Bool
  | .lit _ | .sl _ _ | .eptr _ | .any => true
  | .agg cs | .tup cs | .clo _ cs => belowL n cs
  | .osl id _ _ _ _ | .ptr id _ => decide (id < n)
where belowL (n : Nat) : List V → Bool
  | [] => true
  | v :: vs => v.idlt n && belowL n vs
theorem belowL_get {n : Nat} : ∀ {l : List V}, V.idlt.belowL n l = true → ∀ j (h : j < l.length), l[j].idlt n = true
  | v :: vs, h, 0, _ => by simp [V.idlt.belowL] at h; simpa using h.1
  | v :: vs, h, j + 1, hj => by simp [V.idlt.belowL] at h; simpa using belowL_get h.2 j (by simpa using hj)
def cutBk (n : Nat) (bk : Bks) : Bks := fun id => if id < n then bk id else none
theorem Rep.cut {m : Mem} {n : Nat} {bk : Bks} {c : Value} {v : V} (h : Rep m bk c v) : v.idlt n = true → Rep m (cutBk n bk) c v := by
  induction h with
  | lit h => intro _; exact .lit h
  | agg hl h1 _ ih => intro hb; exact .agg hl h1 fun j a b => ih j a b (belowL_get (by simpa [V.idlt] using hb) j b)
  | tup hl _ ih => intro hb; exact .tup hl fun j a b => ih j a b (belowL_get (by simpa [V.idlt] using hb) j b)
  | sl hn hc hf hes h1 hm' h _ => intro _; exact .sl hn hc hf hes h1 hm' h
  | slnil hf => intro _; exact .slnil hf
  | osl hb hc hf hs => intro hbl; exact .osl (by simp only [V.idlt, decide_eq_true_eq] at hbl; simp [cutBk, hbl, hb]) hc hf hs
  | ptr hb => intro hbl; exact .ptr (by simp only [V.idlt, decide_eq_true_eq] at hbl; unfold cutBk; rw [if_pos hbl]; exact hb)
  | eptr h1 hm' h _ => intro _; exact .eptr h1 hm' h
  | clo hl _ ih => intro hb; exact .clo hl fun j a b => ih j a b (belowL_get (by simpa [V.idlt] using hb) j b)
  | any => intro _; exact .any
theorem Rep.zero {m : Mem} {bk bk' : Bks} {c : Value} {v : V} (h : Rep m bk c v) (hv : v.idlt 0 = true) : Rep m bk' c v :=
  (h.cut hv).mono (fun _ _ h => h) fun id x hx => by unfold cutBk at hx; rw [if_neg (Nat.not_lt_zero _)] at hx; cases hx
theorem Rep.one {m : Mem} {bk : Bks} {c : Value} {v : V} (h : Rep m bk c v) (hv : v.one = true) : c.oneCell' = true := by
  cases h <;> first | assumption | rfl | (simp [V.one] at hv; done)
theorem Rep.cells {m : Mem} {bk : Bks} {c : Value} {v : V} (h : Rep m bk c v) (hv : v.one = true ∨ ∃ cs, v = .agg cs) :
    c.cells.size = v.cells.length ∧ (∀ u ∈ v.cells, u.one = true) ∧ ∀ j (h1 : j < c.cells.size) (h2 : j < v.cells.length), Rep m bk c.cells[j] v.cells[j] := by
  cases h with
  | agg hl h1 h => exact ⟨hl, h1, h⟩
  | tup hl h => rcases hv with hv | ⟨cs, hv⟩ <;> simp [V.one] at hv
  | any => rcases hv with hv | ⟨cs, hv⟩ <;> simp [V.one] at hv
  | lit h =>
    have e : c.cells = #[c] := by cases c <;> first | rfl | (simp [Value.oneCell'] at h)
    refine ⟨by rw [e]; rfl, by simpa [V.cells, V.one] using h, fun j h1 h2 => ?_⟩
    have : j = 0 := by simpa [V.cells] using h2
    subst this
    simp only [e]
    exact .lit h
  | _ =>
    refine ⟨rfl, by simp [V.cells, V.one], fun j h1 h2 => ?_⟩
    have : j = 0 := by simp [Value.cells] at h1; exact h1
    subst this
    first
      | exact .sl ‹_› ‹_› ‹_› ‹_› ‹_› ‹_› ‹_›
      | exact .slnil ‹_›
      | exact .osl ‹_› ‹_› ‹_› ‹_›
      | exact .ptr ‹_›
      | exact .eptr ‹_› ‹_› ‹_›
      | exact .clo ‹_› ‹_›
/-- constants -/
def ofC : Value → V
  | .slice _ 0 0 => .sl [] true
  | c => .lit c
def V.ofValue : Value → V
  | .agg cs => if cs.toList.all (·.oneCell') then .agg (cs.toList.map ofC) else .any
  | .slice _ 0 0 => .sl [] true
  | .tuple _ => .any
  | v => .lit v
theorem ofCell {m : Mem} {bk : Bks} (c : Value) (h : c.oneCell' = true) : Rep m bk c (ofC c) := by
  unfold ofC
  split
  · exact .slnil fun _ => rfl
  · exact .lit h
theorem Rep.ofValue {m : Mem} {bk : Bks} (v : Value) : Rep m bk v (V.ofValue v) := by
  unfold V.ofValue
  split
  · rename_i cs
    split
    · rename_i h
      simp only [List.all_eq_true] at h
      refine .agg (by simp) ?_ fun j h1 h2 => ?_
      · intro v hv
        simp only [List.mem_map] at hv
        obtain ⟨c, hc, rfl⟩ := hv
        have := h c hc
        unfold ofC
        split
        · rfl
        · exact this
      · simp only [List.getElem_map, Array.getElem_toList]
        exact ofCell _ (h _ (Array.getElem_mem_toList h1))
    · exact .any
  · exact .slnil fun _ => rfl
  · exact .any
  · rename_i h1 h2 h3
    refine .lit ?_
    cases v <;> first | rfl | exact absurd rfl (h1 _) | exact absurd rfl (h3 _)
inductive Slot where
  | fresh | dead
  | live (cs : List V) (frz : Nat)
  deriving Inhabited
structure LiveAt (B : Nat) (m : Mem) (bk : Bks) (w : World) (id : Nat) (cs : List V) (frz : Nat) (b sz : Nat) (arr : Array Value) (t : TypeId) (lo hi : Nat) : Prop where
  at_ : bk id = some (b, sz)
  own : B ≤ b
  heap : w.heap[b]? = some (.cells arr t (lo, hi))
  size : arr.size = sz
  free : hi ≤ lo
  fit : cs.length ≤ sz
  one : ∀ u ∈ cs, u.one = true
  rep : ∀ k (hk : k < cs.length), ∃ u, arr[k]? = some u ∧ Rep m bk u cs[k]
  mu : ∀ k, frz ≤ k → m ⟨b, k, none⟩ = none
  fz : ∀ k, k < frz → m ⟨b, k, none⟩ = arr[k]?
structure Sim (B : Nat) (m0 m : Mem) (bk : Bks) (w : World) (st : List Slot) : Prop where
  base : B ≤ w.heap.size
  mem : ∀ a u, m a = some u → w.cell? a = some u
  ext : ∀ a u, m0 a = some u → m a = some u
  old : ∀ a u, m a = some u → m0 a = some u ∨ B ≤ a.block
  blk : ∀ id cs frz, st[id]? = some (.live cs frz) → ∃ b sz arr t lo hi, LiveAt B m bk w id cs frz b sz arr t lo hi
  inj : ∀ i j ci fi cj fj x y, st[i]? = some (.live ci fi) → st[j]? = some (.live cj fj) → bk i = some x → bk j = some y → x.1 = y.1 → i = j
  nb : ∀ id, (st[id]? = none ∨ st[id]? = some .fresh) → bk id = none
theorem cell_lt {w : World} {a : Addr} {u : Value} (h : w.cell? a = some u) : a.block < w.heap.size := World.block_lt_of_cell? w a h
/-- the world goes on: no cell that is known, and no live block, turns. -/
theorem Sim.world {B : Nat} {m0 m : Mem} {bk : Bks} {w w' : World} {st : List Slot} (h : Sim B m0 m bk w st) (hs : w.heap.size ≤ w'.heap.size)
    (hk : ∀ k, k < w.heap.size → w'.heap[k]? = w.heap[k]?) : Sim B m0 m bk w' st where
  base := Nat.le_trans h.base hs
  mem a u hu := by
    have := h.mem a u hu
    rw [← this]
    exact World.cell?_of_block (w := w) (hk _ (cell_lt this))
  ext := h.ext
  old := h.old
  blk id cs frz hid := by
    obtain ⟨b, sz, arr, t, lo, hi, hl⟩ := h.blk id cs frz hid
    refine ⟨b, sz, arr, t, lo, hi, ⟨hl.at_, hl.own, ?_, hl.size, hl.free, hl.fit, hl.one, hl.rep, hl.mu, hl.fz⟩⟩
    rw [hk _ (by rcases Nat.lt_or_ge b w.heap.size with h | h; exact h; have := hl.heap; rw [Array.getElem?_eq_none h] at this; cases this)]
    exact hl.heap
  inj := h.inj
  nb := h.nb
/-- a record of deferred calls is put. -/
theorem Sim.put {B : Nat} {m0 m : Mem} {bk : Bks} {w : World} {st : List Slot} {D : Nat} {x : Option (List Deferred)} (h : Sim B m0 m bk w st) (hD : w.heap[D]? = some (.deferred x)) (o : Obj) : Sim B m0 m bk (w.putObj D o) st where
  base := by have := h.base; simpa using this
  mem a u hu := by
    have := h.mem a u hu
    rw [← this]
    refine World.cell?_of_block (w := w) (World.putObj_heap_other fun e => ?_)
    rw [World.cell?, e, hD] at this
    simp at this
  ext := h.ext
  old := h.old
  blk id cs frz hid := by
    obtain ⟨b, sz, arr, t, lo, hi, hl⟩ := h.blk id cs frz hid
    refine ⟨b, sz, arr, t, lo, hi, ⟨hl.at_, hl.own, ?_, hl.size, hl.free, hl.fit, hl.one, hl.rep, hl.mu, hl.fz⟩⟩
    rw [World.putObj_heap_other fun e => ?_]
    · exact hl.heap
    · have := hl.heap
      rw [e, hD] at this; cases this
  inj := h.inj
  nb := h.nb
/-- what is below B stays; no block turns its kind. -/
structure Bel (B : Nat) (w w' : World) : Prop extends Below B w w' where
  shp : ∀ (k : Nat) (c : Array Value) (t : TypeId) (lo hi : Nat), w.heap[k]? = some (.cells c t (lo, hi)) → ∃ c', w'.heap[k]? = some (.cells c' t (lo, hi)) ∧ c'.size = c.size
  oth : ∀ (k : Nat) (o : Obj), w.heap[k]? = some o → o.isCells = false → w'.heap[k]? = some o
theorem Bel.refl (B : Nat) (w : World) : Bel B w w := ⟨Below.refl B w, fun k c t lo hi h => ⟨c, h, rfl⟩, fun _ _ h _ => h⟩
theorem Bel.trans {B : Nat} {a b c : World} (h : Bel B a b) (k : Bel B b c) : Bel B a c := ⟨h.toBelow.trans k.toBelow, fun i x t lo hi hx => by
  obtain ⟨y, h1, h2⟩ := h.shp i x t lo hi hx
  obtain ⟨z, h3, h4⟩ := k.shp i y t lo hi h1
  exact ⟨z, h3, h4.trans h2⟩, fun i o h1 h2 => k.oth i o (h.oth i o h1 h2) h2⟩
theorem Bel.drew {B : Nat} {a w : World} (h : Bel B a w) : Bel B a w.drew := ⟨h.toBelow.drew, h.shp, h.oth⟩
theorem Bel.of {B : Nat} {w w' : World} (h : Below w.heap.size w w') (hB : B ≤ w.heap.size) : Bel B w w' := by
  refine ⟨h.mono hB, fun k c t lo hi hk => ?_, fun k o hk _ => ?_⟩
  · rcases Nat.lt_or_ge k w.heap.size with g | g
    · exact ⟨c, (h.block k g).trans hk, rfl⟩
    · rw [Array.getElem?_eq_none g] at hk; cases hk
  · rcases Nat.lt_or_ge k w.heap.size with g | g
    · exact (h.block k g).trans hk
    · rw [Array.getElem?_eq_none g] at hk; cases hk
theorem Bel.alloc {B : Nat} {a w : World} (h : Bel B a w) (hB : B ≤ w.heap.size) (o : Obj) : Bel B a (w.alloc o) := h.trans (.of ((Below.refl _ w).alloc (Nat.le_refl _) o) hB)
/-- one block from B on is written. -/
theorem Bel.write {B : Nat} {w w' : World} {b : Nat} {arr arr' : Array Value} {t : TypeId} {lo hi : Nat} (h1 : w'.os = w.os) (h2 : w'.tape = w.tape) (h3 : w'.output = w.output) (g0 : w.heap[b]? = some (.cells arr t (lo, hi))) (g1 : w'.heap[b]? = some (.cells arr' t (lo, hi))) (g2 : arr'.size = arr.size) (g4 : w'.heap.size = w.heap.size)
    (g5 : ∀ k, k ≠ b → w'.heap[k]? = w.heap[k]?) (hb : B ≤ b) : Bel B w w' := by
  refine ⟨⟨h1, h2, h3, by rw [g4]; exact Nat.le_refl _, fun k hk => g5 k (by omega)⟩, fun k c t' lo' hi' hk => ?_, fun k o hk ho => ?_⟩
  · by_cases e : k = b
    · subst e
      rw [g0] at hk
      injection hk with hk
      injection hk with e1 e2 e3
      subst e1 e2
      injection e3 with e3 e4
      subst e3 e4
      exact ⟨arr', g1, g2⟩
    · exact ⟨c, (g5 k e).trans hk, rfl⟩
  · refine (g5 k fun e => ?_).trans hk
    subst e
    rw [g0] at hk
    injection hk with hk
    subst hk
    simp [Obj.isCells] at ho
end Go.Proofs.YthlhbgedidipkaaGreat
/- An abstract walk: operations and what they yield; those that touch no block. -/
namespace Go.Proofs.YthlhbgedidipkaaGreat
open Go.RowKit
inductive AOp where
  | mv (x : Operand)
  | pick (c a b : Operand)
  | ld (sz : Nat) (ag : Bool) (x : Operand)
  | st (sz : Nat) (a x : Operand)
  | al (z : V)
  | bx (x : Operand)
  | nc (x : Operand)
  | bin (op : BinOp) (x y : Operand)
  | binb (neg : Bool) (x y : Operand)
  | eqp (neg : Bool) (x y : Operand)
  | eqa (neg : Bool) (ks : List Nat) (x y : Operand)
  | un (op : UnOp) (x : Operand)
  | cvi (k : IntKind) (x : Operand)
  | cvs (x : Operand)
  | s2b (x : Operand)
  | b2s (x : Operand)
  | fa (off : Nat) (x : Operand)
  | fd (off sz : Nat) (ag : Bool) (x : Operand)
  | ixs (es : Nat) (x i : Operand)
  | ixa (len es : Nat) (x i : Operand)
  | ixg (len es : Nat) (ag : Bool) (x i : Operand)
  | ixt (x i : Operand)
  | slt (x : Operand) (lo hi : Option Operand)
  | sls (es : Nat) (x : Operand) (lo hi mx : Option Operand)
  | ex (x : Operand) (i : Nat)
  | bd (z : List V) (parts : List (Nat × Nat × Operand))
  | bs (es len : Nat) (z : List V) (parts : List (Nat × Operand))
  | mf (fn : Fn) (caps : List Operand)
  | cl (f : FuncId) (args : List Operand)
  | cv (f : Operand) (args : List Operand)
  | lent (x : Operand)
  | lens (x : Operand)
  | ap (es bytes : Nat) (s x : Operand)
  | mn (mx : Bool) (x y : Operand)
  | mks (es bytes : Nat) (z : List V) (n c : Operand)
  | clr (es : Nat) (x : Operand)
  deriving Inhabited
def evO (fr : List V) : Operand → V
  | .tmp t => fr.getD t .any
  | .const v => V.ofValue v
  | .global g => .lit (.pointer (some ⟨g, 0, none⟩))
  | .func f => .clo (.func f) []
def GM (m : Mem) : Prop := ∃ n, m ⟨0, 0, none⟩ = some (.int .i64 n)
def RepA (m : Mem) (bk : Bks) (cs : Array Value) (vs : List V) : Prop := cs.size = vs.length ∧ ∀ j (h1 : j < cs.size) (h2 : j < vs.length), Rep m bk cs[j] vs[j]
/-- what a call of a function that touches no block of its caller's yields. -/
def CallsV (P : Program) (f : FuncId) (args : List V) (res : V) : Prop :=
  ∀ (m : Mem) (w : World) (cargs : Array Value), GM m → (∀ a u, m a = some u → w.cell? a = some u) → RepA m noBk cargs args →
    Calls P f cargs w fun e w' => ∃ c m', e = .returned c ∧ Below w.heap.size w w' ∧ (∀ a u, m' a = some u → w'.cell? a = some u) ∧ (∀ a u, m a = some u → m' a = some u) ∧
      (∀ a u, m' a = some u → m a = some u ∨ w.heap.size ≤ a.block) ∧ Rep m' noBk c res
def V.stb : V → Bool
  | .agg _ => true
  | v => v.one
theorem V.stb_or {v : V} (h : v.stb = true) : v.one = true ∨ ∃ cs, v = .agg cs := by
  cases v <;> first | exact .inr ⟨_, rfl⟩ | exact .inl h
def partV (ag : Bool) (sz : Nat) (l : List V) : V := if ag then .agg (l.take sz) else l.getD 0 .any
def intB (op : BinOp) (k : IntKind) (a b : Int) : Option Value :=
  match op with
  | .add => some (.int k (k.wrap (a + b)))
  | .sub => some (.int k (k.wrap (a - b)))
  | .mul => some (.int k (k.wrap (a * b)))
  | .quo => if b = 0 then none else some (.int k (k.wrap (a.tdiv b)))
  | .rem => if b = 0 then none else some (.int k (a.tmod b))
  | .and => some (.int k (k.wrap (BitVec.ofInt k.bits a &&& BitVec.ofInt k.bits b).toNat))
  | .or => some (.int k (k.wrap (BitVec.ofInt k.bits a ||| BitVec.ofInt k.bits b).toNat))
  | .xor => some (.int k (k.wrap (BitVec.ofInt k.bits a ^^^ BitVec.ofInt k.bits b).toNat))
  | .andNot => some (.int k (k.wrap (BitVec.ofInt k.bits a &&& ~~~ BitVec.ofInt k.bits b).toNat))
  | .eql => some (.bool (a == b))
  | .neq => some (.bool (a != b))
  | .lss => some (.bool (a < b))
  | .leq => some (.bool (a ≤ b))
  | .gtr => some (.bool (a > b))
  | .geq => some (.bool (a ≥ b))
  | _ => none
def intSh (op : BinOp) (k : IntKind) (a b : Int) : Option Value :=
  if b < 0 then none else
  match op with
  | .shl => some (.int k (k.wrap (a * 2 ^ (min b.toNat k.bits))))
  | .shr => some (.int k (a.fdiv (2 ^ (min b.toNat k.bits))))
  | _ => none
def strB (op : BinOp) (x y : ByteArray) : Option Value :=
  match op with
  | .add => if x.size + y.size ≤ 4611686018427387904 then some (.string (x ++ y)) else none
  | .eql => some (.bool (x.toList == y.toList))
  | .neq => some (.bool !(x.toList == y.toList))
  | .lss => some (.bool (Op.bytesLess x.toList y.toList))
  | .leq => some (.bool (Op.bytesLess x.toList y.toList || x.toList == y.toList))
  | .gtr => some (.bool !(Op.bytesLess x.toList y.toList || x.toList == y.toList))
  | .geq => some (.bool !(Op.bytesLess x.toList y.toList))
  | _ => none
def unV : UnOp → Value → Option Value
  | .neg, .int k n => some (.int k (k.wrap (0 - n)))
  | .not, .bool b => some (.bool !b)
  | _, _ => none
def fillV : List V → List (Nat × Nat × V) → Option (List V)
  | z, [] => some z
  | z, (off, sz, v) :: r => if v.cells.length = sz ∧ off + sz ≤ z.length ∧ v.stb = true then fillV (z.take off ++ v.cells ++ z.drop (off + sz)) r else none
def cellEq : Nat → Value → Value → Option Bool
  | 0, .bool a, .bool b => some (a == b)
  | 1, .int k a, .int k' b => if k = k' then some (a == b) else none
  | 2, .string a, .string b => some (a.toList == b.toList)
  | _, _, _ => none
def eqL : List Nat → List V → List V → Option Bool
  | [], [], [] => some true
  | k :: ks, .lit a :: l, .lit b :: m => (cellEq k a b).bind fun r => (eqL ks l m).map (r && ·)
  | _, _, _ => none
def V.full : V → Bool
  | .sl _ f => f
  | .osl _ _ _ _ f => f
  | _ => false
/-- what a slice's cells are. -/
inductive SrcV (st : List Slot) (es : Nat) : V → Nat → List V → List Nat → Prop
  | sl {ys f} (h : ∀ y ∈ ys, y.cells.length = es) : SrcV st es (.sl ys f) ys.length (ys.flatMap V.cells) []
  | osl {i off n f cs frz} (hi : st[i]? = some (.live cs frz)) (hl : off + n * es ≤ cs.length) : SrcV st es (.osl i off n es f) n ((cs.drop off).take (n * es)) [i]
/-- what is appended: a slice's cells, or a text's. -/
inductive SrcX (st : List Slot) (es : Nat) : V → Nat → List V → List Nat → Prop
  | v {v n ds rd} (h : SrcV st es v n ds rd) : SrcX st es v n ds rd
  | str {s : ByteArray} (he : es = 1) : SrcX st es (.lit (.string s)) s.size (s.data.toList.map fun b => .lit (.int .u8 b.toNat)) []
/-- a value that is kept, or a plain slice that is cut to its length. -/
inductive SlW : V → V → Prop
  | id {v} (h : v.idlt 0 = true) : SlW v v
  | slw {xs f} : SlW (.sl xs f) (.sl xs false)
inductive SlWL : List V → List V → Prop
  | nil : SlWL [] []
  | cons {v v' l l'} (h : SlW v v') (t : SlWL l l') : SlWL (v :: l) (v' :: l')
/-- what a closure has: a value, or a pointer to a variable that is made fast. -/
inductive FzP (st : List Slot) : V → V → List Nat → Prop
  | id {v} (h : v.idlt 0 = true) : FzP st v v []
  | ptr {i cs us frz} (hi : st[i]? = some (.live cs frz)) (hf : cs.length ≤ frz) (h : SlWL cs us) : FzP st (.ptr i 0) (.eptr us) [i]
inductive FzPL (st : List Slot) : List V → List V → List Nat → Prop
  | nil : FzPL st [] [] []
  | cons {v v' r l l' r'} (h : FzP st v v' r) (t : FzPL st l l' r') : FzPL st (v :: l) (v' :: l') (r ++ r')
/-- an own slice that is made fast, read as a plain one. -/
inductive FzC (st : List Slot) : V → V → List Nat → Prop
  | p {v v' r} (h : FzP st v v' r) : FzC st v v' r
  | clo {fn caps caps' r} (h : FzPL st caps caps' r) : FzC st (.clo fn caps) (.clo fn caps') r
  | id {v} (h : v.idlt 0 = true) : FzC st v v []
  | slw {xs f} : FzC st (.sl xs f) (.sl xs false) []
  | osl {i off n es f f' cs frz xs} (hf' : f' = true → f = true) (hi : st[i]? = some (.live cs frz)) (hf : off + n * es ≤ frz) (hl : off + n * es ≤ cs.length) (hlen : xs.length = n) (hes : ∀ x ∈ xs, x.cells.length = es) (hc : (cs.drop off).take (n * es) = xs.flatMap V.cells)
      (h0 : V.idlt.belowL 0 (xs.flatMap V.cells) = true) : FzC st (.osl i off n es f) (.sl xs f') [i]
inductive FzL (st : List Slot) : List V → List V → List Nat → Prop
  | nil : FzL st [] [] []
  | cons {v v' r l l' r'} (h : FzC st v v' r) (t : FzL st l l' r') : FzL st (v :: l) (v' :: l') (r ++ r')
inductive FzV (st : List Slot) : V → V → List Nat → Prop
  | c {v v' r} (h : FzC st v v' r) : FzV st v v' r
  | agg {l l' r} (h : FzL st l l' r) (h1 : ∀ v ∈ l', v.one = true) : FzV st (.agg l) (.agg l') r
  | osl {i off n es f cs frz xs r} (hi : st[i]? = some (.live cs frz)) (hf : off + n * es ≤ frz) (hl : off + n * es ≤ cs.length) (hlen : xs.length = n) (hes : ∀ x ∈ xs, x.cells.length = es) (h : FzL st ((cs.drop off).take (n * es)) (xs.flatMap V.cells) r) (h1 : ∀ u ∈ xs.flatMap V.cells, u.one = true) : FzV st (.osl i off n es f) (.sl xs false) (i :: r)
inductive FzA (st : List Slot) : List V → List V → List Nat → Prop
  | nil : FzA st [] [] []
  | cons {v v' r l l' r'} (h : FzV st v v' r) (t : FzA st l l' r') : FzA st (v :: l) (v' :: l') (r ++ r')
inductive FzR (st : List Slot) : V → V → List Nat → Prop
  | v {v v' r} (h : FzV st v v' r) : FzR st v v' r
  | tup {l l' r} (h : FzA st l l' r) : FzR st (.tup l) (.tup l') r
/-- what stands behind an operation. -/
def Aft (B : Nat) (m0 m : Mem) (bk : Bks) (w : World) (st' : List Slot) (v : V) (c : Value) (w' : World) : Prop :=
  ∃ m' bk', Sim B m0 m' bk' w' st' ∧ Rep m' bk' c v ∧ (∀ a u, m a = some u → m' a = some u) ∧ (∀ id x, bk id = some x → bk' id = some x) ∧ Bel B w w'
/-- what a call of a function that is handed pointers into its caller's blocks yields, and what these are then. -/
def CallsS (P : Program) (f : FuncId) (args : List V) (st : List Slot) (v : V) (st' : List Slot) : Prop :=
  ∀ (B : Nat) (m0 m : Mem) (bk : Bks) (w : World) (cargs : Array Value), GM m → Sim B m0 m bk w st → RepA m bk cargs args → Calls P f cargs w fun e w' => ∃ c, e = .returned c ∧ Aft B m0 m bk w st' v c w'
def allEff (st' : List Slot) : List (Nat × Slot) := st'.zipIdx.map fun x => (x.2, x.1)
def Callable (P : Program) (g : Nat) : Prop := ∃ fn, P.funcs[g]? = some fn ∧ fn.body.isSome = true ∧ (fn.name == "runtime.NumGoroutine") = false
def byteV (b : UInt8) : V := .lit (.int .u8 b.toNat)
def AStep.eff (st : List Slot) : List (Nat × Slot) → List Slot
  | [] => st
  | (i, s) :: r => AStep.eff (st.set i s) r
/-- a contract that turns just these slots, and asks just of these and those that it reads. -/
def CallsL (P : Program) (f : FuncId) (args : List V) (st : List Slot) (v : V) (rd : List Nat) (ef : List (Nat × Slot)) : Prop :=
  ∀ st2 : List Slot, st2.length = st.length → (∀ k, k ∈ rd ∨ k ∈ ef.map Prod.fst → st2[k]? = st[k]?) → CallsS P f args st2 v (AStep.eff st2 ef)
inductive AStep (P : Program) (ρ : Operand → V) (st : List Slot) (id : Nat) : AOp → V → List Nat → List (Nat × Slot) → Prop
  | mv (x) : AStep P ρ st id (.mv x) (ρ x) [] []
  | pick (c a b) {t} (h : ρ c = .lit (.bool t)) : AStep P ρ st id (.pick c a b) (if t then ρ a else ρ b) [] []
  | ldE {sz ag x cs} (h : ρ x = .eptr cs) (hs : (if ag then sz else 1) ≤ cs.length) : AStep P ρ st id (.ld sz ag x) (partV ag sz cs) [] []
  | ldP {sz ag x i off cs frz} (h : ρ x = .ptr i off) (hi : st[i]? = some (.live cs frz)) (hs : off + (if ag then sz else 1) ≤ cs.length) : AStep P ρ st id (.ld sz ag x) (partV ag sz (cs.drop off)) [i] []
  | stP {sz a x i off cs frz v} (h : ρ a = .ptr i off) (hv : ρ x = v) (h1 : v.stb = true) (hl : v.cells.length = sz) (hi : st[i]? = some (.live cs frz)) (hf : frz ≤ off) (hs : off + sz ≤ cs.length) :
      AStep P ρ st id (.st sz a x) .any [i] [(i, .live (cs.take off ++ v.cells ++ cs.drop (off + sz)) frz)]
  | al {z} (h1 : z.stb = true) (hf : st[id]? = some .fresh) : AStep P ρ st id (.al z) (.ptr id 0) [] [(id, .live z.cells 0)]
  | bx {x v} (hv : ρ x = v) (h1 : v.stb = true) (hf : st[id]? = some .fresh) : AStep P ρ st id (.bx x) (.ptr id 0) [] [(id, .live v.cells 0)]
  | ncP {x i off} (h : ρ x = .ptr i off) : AStep P ρ st id (.nc x) (.ptr i off) [] []
  | ncE {x cs} (h : ρ x = .eptr cs) : AStep P ρ st id (.nc x) (.eptr cs) [] []
  | ncC {x g caps} (h : ρ x = .clo (.func g) caps) : AStep P ρ st id (.nc x) (.clo (.func g) caps) [] []
  | binI {op x y k a b r} (hx : ρ x = .lit (.int k a)) (hy : ρ y = .lit (.int k b)) (hr : intB op k a b = some r) : AStep P ρ st id (.bin op x y) (.lit r) [] []
  | binSh {op x y k a k' b r} (hx : ρ x = .lit (.int k a)) (hy : ρ y = .lit (.int k' b)) (hr : intSh op k a b = some r) : AStep P ρ st id (.bin op x y) (.lit r) [] []
  | binS {op x y a b r} (hx : ρ x = .lit (.string a)) (hy : ρ y = .lit (.string b)) (hr : strB op a b = some r) : AStep P ρ st id (.bin op x y) (.lit r) [] []
  | binb {neg x y a b} (hx : ρ x = .lit (.bool a)) (hy : ρ y = .lit (.bool b)) : AStep P ρ st id (.binb neg x y) (.lit (.bool (if neg then a != b else a == b))) [] []
  | eqpP {neg x y i off} (hx : ρ x = .ptr i off) (hy : ρ y = .lit (.pointer none)) : AStep P ρ st id (.eqp neg x y) (.lit (.bool neg)) [] []
  | eqpN {neg x y} (hx : ρ x = .lit (.pointer none)) (hy : ρ y = .lit (.pointer none)) : AStep P ρ st id (.eqp neg x y) (.lit (.bool (!neg))) [] []
  | eqa {neg ks x y l m r} (hx : ρ x = .agg l) (hy : ρ y = .agg m) (hr : eqL ks l m = some r) (hl : l.length = ks.length) (hm : m.length = ks.length) : AStep P ρ st id (.eqa neg ks x y) (.lit (.bool (if neg then !r else r))) [] []
  | un {op x a r} (hx : ρ x = .lit a) (hr : unV op a = some r) : AStep P ρ st id (.un op x) (.lit r) [] []
  | cvi {k x k' n} (hx : ρ x = .lit (.int k' n)) : AStep P ρ st id (.cvi k x) (.lit (.int k (k.wrap n))) [] []
  | cvs {x s} (hx : ρ x = .lit (.string s)) : AStep P ρ st id (.cvs x) (.lit (.string s)) [] []
  | faP {o x i off} (h : ρ x = .ptr i off) : AStep P ρ st id (.fa o x) (.ptr i (off + o)) [] []
  | faE {o x cs} (h : ρ x = .eptr cs) (hs : o ≤ cs.length) : AStep P ρ st id (.fa o x) (.eptr (cs.drop o)) [] []
  | fd {o sz ag x cs} (h : ρ x = .agg cs) (hs : o + (if ag then sz else 1) ≤ cs.length) : AStep P ρ st id (.fd o sz ag x) (partV ag sz (cs.drop o)) [] []
  | ixs {es x ix xs full k} {n : Nat} {j : Int} (h : ρ x = .sl xs full) (hi : ρ ix = .lit (.int k j)) (hj : j = n) (hn : n < xs.length) (hes : xs[n].cells.length = es) : AStep P ρ st id (.ixs es x ix) (.eptr xs[n].cells) [] []
  | ixo {es x ix i off m full k} {n : Nat} {j : Int} (h : ρ x = .osl i off m es full) (hi : ρ ix = .lit (.int k j)) (hj : j = n) (hn : n < m) : AStep P ρ st id (.ixs es x ix) (.ptr i (off + n * es)) [] []
  | ixa {len es x ix i off k} {n : Nat} {j : Int} (h : ρ x = .ptr i off) (hi : ρ ix = .lit (.int k j)) (hj : j = n) (hn : n < len) : AStep P ρ st id (.ixa len es x ix) (.ptr i (off + n * es)) [] []
  | ixae {len es x ix cs k} {n : Nat} {j : Int} (h : ρ x = .eptr cs) (hi : ρ ix = .lit (.int k j)) (hj : j = n) (hn : n < len) (hs : n * es ≤ cs.length) : AStep P ρ st id (.ixa len es x ix) (.eptr (cs.drop (n * es))) [] []
  | ixg {len es ag x ix cs k} {n : Nat} {j : Int} (h : ρ x = .agg cs) (hi : ρ ix = .lit (.int k j)) (hj : j = n) (hn : n < len) (hs : n * es + (if ag then es else 1) ≤ cs.length) : AStep P ρ st id (.ixg len es ag x ix) (partV ag es (cs.drop (n * es))) [] []
  | ixt {x ix s k} {n : Nat} {j : Int} (h : ρ x = .lit (.string s)) (hi : ρ ix = .lit (.int k j)) (hj : j = n) (hn : n < s.size) : AStep P ρ st id (.ixt x ix) (.lit (.int .u8 s[n].toNat)) [] []
  | slt {x lo hi s k k'} {l h : Nat} (hx : ρ x = .lit (.string s)) (hl : ∀ y, lo = some y → ρ y = .lit (.int k l)) (hl0 : lo = none → l = 0) (hh : ∀ y, hi = some y → ρ y = .lit (.int k' h)) (hh0 : hi = none → h = s.size) (h1 : l ≤ h) (h2 : h ≤ s.size) :
      AStep P ρ st id (.slt x lo hi) (.lit (.string (s.extract l h))) [] []
  | slsE {es x lo xs full k} {l : Nat} (hx : ρ x = .sl xs full) (hl : ∀ y, lo = some y → ρ y = .lit (.int k l)) (hl0 : lo = none → l = 0) (h1 : l ≤ xs.length) (hes : ∀ u ∈ xs, u.cells.length = es) : AStep P ρ st id (.sls es x lo none none) (.sl (xs.drop l) full) [] []
  | sls {es x lo hi xs full k k'} {l h : Nat} (hx : ρ x = .sl xs full) (hl : ∀ y, lo = some y → ρ y = .lit (.int k l)) (hl0 : lo = none → l = 0) (hh : ∀ y, hi = some y → ρ y = .lit (.int k' h)) (hh0 : hi = none → h = xs.length) (h1 : l ≤ h) (h2 : h ≤ xs.length)
      (hes : ∀ u ∈ xs, u.cells.length = es) : AStep P ρ st id (.sls es x lo hi none) (.sl ((xs.drop l).take (h - l)) false) [] []
  | sls3 {es x lo hi mx xs full k k' k''} {l h : Nat} (hx : ρ x = .sl xs full) (hl : ∀ y, lo = some y → ρ y = .lit (.int k l)) (hl0 : lo = none → l = 0) (hh : ρ hi = .lit (.int k' h)) (hm : ρ mx = .lit (.int k'' h)) (h1 : l ≤ h) (h2 : h ≤ xs.length)
      (hes : ∀ u ∈ xs, u.cells.length = es) : AStep P ρ st id (.sls es x lo (some hi) (some mx)) (.sl ((xs.drop l).take (h - l)) true) [] []
  | slsO {es x lo hi i off n full k k'} {l h : Nat} (hx : ρ x = .osl i off n es full) (hl : ∀ y, lo = some y → ρ y = .lit (.int k l)) (hl0 : lo = none → l = 0) (hh : ∀ y, hi = some y → ρ y = .lit (.int k' h)) (hh0 : hi = none → h = n) (h1 : l ≤ h) (h2 : h ≤ n) (h3 : l < n ∨ l = 0) :
      AStep P ρ st id (.sls es x lo hi none) (.osl i (off + l * es) (h - l) es false) [] []
  | clr {es x i off n full cs frz} (hx : ρ x = .osl i off n es full) (hi : st[i]? = some (.live cs frz)) (hf : frz ≤ off) (hc : off ≤ cs.length) (hn : 0 < n) : AStep P ρ st id (.clr es x) (.tup []) [i] [(i, .live (cs.take off) frz)]
  | ex {x i vs v} (h : ρ x = .tup vs) (hv : vs[i]? = some v) : AStep P ρ st id (.ex x i) v [] []
  | bd {z parts cs} (h : fillV z (parts.map fun p => (p.1, p.2.1, ρ p.2.2)) = some cs) : AStep P ρ st id (.bd z parts) (.agg cs) [] []
  | bs {es len z parts cs} (h : fillV z (parts.map fun p => (p.1 * es, es, ρ p.2)) = some cs) (hz : z.length = len * es) (hf : st[id]? = some .fresh) {fz : Nat} (hfz : fz ≤ cs.length) : AStep P ρ st id (.bs es len z parts) (.osl id 0 len es true) [] [(id, .live cs fz)]
  | mf {fn caps} : AStep P ρ st id (.mf fn caps) (.clo fn (caps.map ρ)) [] []
  | cl {f args vs rd v} (ha : FzA st (args.map ρ) vs rd) (h : CallsV P f vs v) : AStep P ρ st id (.cl f args) v rd []
  | cv {f args g caps vs rd v} (hf : ρ f = .clo (.func g) caps) (hg : Callable P g) (ha : FzA st (args.map ρ ++ caps) vs rd) (h : CallsV P g vs v) : AStep P ρ st id (.cv f args) v rd []
  | clS {f args v st' ef} (h : CallsS P f (args.map ρ) st v st') (hl : st'.length = st.length) (he : ef = allEff st') : AStep P ρ st id (.cl f args) v [] ef
  | cvS {f args g caps v st' ef} (hf : ρ f = .clo (.func g) caps) (hg : Callable P g) (h : CallsS P g (args.map ρ ++ caps) st v st') (hl : st'.length = st.length) (he : ef = allEff st') : AStep P ρ st id (.cv f args) v [] ef
  | clL {f args v rd ef} (h : CallsL P f (args.map ρ) st v rd ef) : AStep P ρ st id (.cl f args) v rd ef
  | cvL {f args g caps v rd ef} (hf : ρ f = .clo (.func g) caps) (hg : Callable P g) (h : CallsL P g (args.map ρ ++ caps) st v rd ef) : AStep P ρ st id (.cv f args) v rd ef
  | lenT {x s} (h : ρ x = .lit (.string s)) : AStep P ρ st id (.lent x) (.lit (.int .i64 s.size)) [] []
  | lenS {x xs full} (h : ρ x = .sl xs full) : AStep P ρ st id (.lens x) (.lit (.int .i64 xs.length)) [] []
  | lenO {x i off n es full} (h : ρ x = .osl i off n es full) : AStep P ρ st id (.lens x) (.lit (.int .i64 n)) [] []
  | s2b {x s} (h : ρ x = .lit (.string s)) : AStep P ρ st id (.s2b x) (.sl (s.data.toList.map byteV) false) [] []
  | b2sI {x full} {l : List UInt8} (h : ρ x = .sl (l.map byteV) full) : AStep P ρ st id (.b2s x) (.lit (.string ⟨l.toArray⟩)) [] []
  | b2sO {x i off full cs frz} {l : List UInt8} (h : ρ x = .osl i off l.length 1 full) (hi : st[i]? = some (.live cs frz)) (hc : (cs.drop off).take l.length = l.map byteV) : AStep P ρ st id (.b2s x) (.lit (.string ⟨l.toArray⟩)) [i] []
  | apZ {es bytes s x n ds rd rd'} (hs : SrcV st es (ρ s) n ds rd) (hx : SrcX st es (ρ x) 0 [] rd') : AStep P ρ st id (.ap es bytes s x) (ρ s) (rd ++ rd') []
  | apN {es bytes s x n ds rd k ds' rd'} (hs : SrcV st es (ρ s) n ds rd) (hfu : (ρ s).full = true) (hx : SrcX st es (ρ x) k ds' rd') (hk : 0 < k) (hn : n + k ≤ 1000000) (hb : bytes ≤ 1000) (hf : st[id]? = some .fresh) {fz : Nat} (hfz : fz ≤ (ds ++ ds').length) :
      AStep P ρ st id (.ap es bytes s x) (.osl id 0 (n + k) es false) (rd ++ rd') [(id, .live (ds ++ ds') fz)]
  | apO {es bytes s x i n cs frz k ds' rd'} (hs : ρ s = .osl i 0 n es false) (hi : st[i]? = some (.live cs frz)) (hl : cs.length = n * es) (hz : frz ≤ cs.length) (hx : SrcX st es (ρ x) k ds' rd') (hk : 0 < k) (hn : n + k ≤ 1000000) (hb : bytes ≤ 1000) (hf : st[id]? = some .fresh) {fz : Nat} (hfz0 : frz ≤ fz) (hfz : fz ≤ (cs ++ ds').length) :
      AStep P ρ st id (.ap es bytes s x) (.osl id 0 (n + k) es false) (rd' ++ [i]) [(i, .dead), (id, .live (cs ++ ds') fz)]
  | mn {mx x y k k' a b} (hx : ρ x = .lit (.int k a)) (hy : ρ y = .lit (.int k' b)) : AStep P ρ st id (.mn mx x y) (.lit (.int k (if mx then (if b > a then b else a) else (if b < a then b else a)))) [] []
  | mks {es bytes z x y kn kc} {n c : Nat} {full : Bool} (hx : ρ x = .lit (.int kn n)) (hy : ρ y = .lit (.int kc c)) (h1 : n ≤ c) (hcb : c ≤ 1000000) (hbb : bytes ≤ 1000) (hfu : full = true → n = c) (hf : st[id]? = some .fresh) {fz : Nat} (hfz : fz ≤ n * es) :
      AStep P ρ st id (.mks es bytes z x y) (.osl id 0 n es full) [] [(id, .live ((List.range (n * es)).map fun k => z.getD (k % es) .any) fz)]
theorem Aft.same {B : Nat} {m0 m : Mem} {bk : Bks} {w : World} {st : List Slot} (hs : Sim B m0 m bk w st) {v : V} {c : Value} (h : Rep m bk c v) : Aft B m0 m bk w st v c w :=
  ⟨m, bk, hs, h, fun _ _ h => h, fun _ _ h => h, Bel.refl _ _⟩
def FrRep (m : Mem) (bk : Bks) (tmps : Array Value) (fr : List V) : Prop := RepA m bk tmps fr
theorem FrRep.ev {m : Mem} {bk : Bks} {a : Act} {fr : List V} (h : FrRep m bk a.tmps fr) (x : Operand) : Rep m bk (a.eval x) (evO fr x) := by
  cases x with
  | tmp t =>
    show Rep m bk (a.tmps.getD t undef) (fr.getD t .any)
    by_cases ht : t < fr.length
    · have h2 := h.2 t (by rw [h.1]; exact ht) ht
      have e1 : a.tmps.getD t undef = a.tmps[t]'(by rw [h.1]; exact ht) := by simp [Array.getD, h.1, ht]
      have e2 : fr.getD t .any = fr[t] := by simp [List.getD, ht]
      rw [e1, e2]; exact h2
    · have e2 : fr.getD t .any = .any := by simp [List.getD, ht]
      rw [e2]; exact .any
  | const v => exact Rep.ofValue v
  | global g => exact .lit rfl
  | func f => exact .clo rfl fun j h1 _ => absurd h1 (by simp)
theorem Rep.int {m : Mem} {bk : Bks} {c : Value} {a : Value} (h : Rep m bk c (.lit a)) : c = a := by cases h; rfl
theorem wp_val {P : Program} {o : Oper} {a : Act} {w w' : World} {c : Value} {K : Act → World → Prop} {Q : Exit → Act → World → Prop} (hr : (execOp a.eval o).run P w = .ok (.value c) w') (hk : K (a.put o.dst c) w') : o.wp P a w K Q := by
  unfold Oper.wp; rw [hr]; exact hk
end Go.Proofs.YthlhbgedidipkaaGreat
