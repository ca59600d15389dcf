/- A part of the proof: 4 texts joined. -/
import Derived.Test.YthmgficajgedlaaRcA8
import Derived.Test.YthmgficajgedlaaRcA5
import Derived.KernelRfl
import Derived.Lib.SliceRun
import Derived.Test.YthmgficajgedlaaRcA9
set_option linter.all false
/- slices.Insert: its roads at function 78. -/
namespace Go.Proofs.Ythmgficajgedlaa
open Go.RowKit Go.Lib
set_option maxHeartbeats 4000000 in
set_option maxRecDepth 100000 in
theorem insS78 (b n c i vb voff vc : Nat) (cs vs : List Value) (w : World) (tA tB : TypeId) (kA kB : Nat) (hi : i < n) (hroom : n + 1 ≤ c) (hbig : n + 1 ≤ 1000000) (hvb : vb ≠ b) (hcl : cs.length = n * 2) (hvl : vs.length = 2)
    (hcs : ∀ j v, cs[j]? = some v → w.cell? ⟨b, j, none⟩ = some v) (hsp : ∀ j, j < (n + 1) * 2 → (w.cell? ⟨b, j, none⟩).isSome = true) (hfz : ∀ j, j < (n + 1) * 2 → w.frozen? ⟨b, j, none⟩ = false)
    (hvs : ∀ j v, vs[j]? = some v → w.cell? ⟨vb, voff + j, none⟩ = some v) (h1c : ∀ v ∈ cs, v.oneCell' = true) (h1v : ∀ v ∈ vs, v.oneCell' = true)
    (hsa : w.shape? vb = some (tA, kA)) (hsb : w.shape? b = some (tB, kB)) (hkA : kA ≠ 0) (hkB : kB ≠ 0) (hfe : w.frozen? ⟨b, kB, none⟩ = false) :
    Calls Try.prog 78 #[.slice (some ⟨b, 0, none⟩) n c, .int .i64 i, .slice (some ⟨vb, voff, none⟩) 1 vc] w fun e w' =>
      e = .returned (.slice (some ⟨b, 0, none⟩) (n + 1) c) ∧ w' = (w.drew.setCells b ((i + 1) * 2) (cs.drop (i * 2))).setCells b (i * 2) vs := by
  have tS : Try.prog.underlying 64 = some (.slice 141) := by kernel_rfl
  have tV : Try.prog.underlying 63 = some (.slice 141) := by kernel_rfl
  have tI : Try.prog.underlying 3 = some (.int .i64) := by kernel_rfl
  have uS := run_underlying tS
  have uV := run_underlying tV
  have uI := run_underlying tI
  have mixed : Try.prog.follows .mixedOrders = true := mix
  obtain ⟨i0, z, hi0, hzs, hz0, hzc, hzb⟩ := infB_ok (P := Try.prog) (e := 141) (es := 2) (by kernel_rfl)
  have hsz : (Try.prog.info? 141).map (·.size) = some 2 := by rw [hi0]; simp [hzs]
  have hov : ∀ lb cb, (callFunc 124 #[.slice (some ⟨vb, voff, none⟩) 1 vc, .slice (some ⟨b, (i + 1) * 2, none⟩) lb cb]).run Try.prog w = .ok (.value (.bool false)) w := fun lb cb => by
    rw [run_callFunc_extern Try.func124 (by kernel_rfl) (by kernel_rfl) (by kernel_rfl) (e := Extern.SlicesOverlaps.overlaps #[63, 63] #[4]) (by kernel_rfl),
      run_overlaps_own w 63 4 141 tV 2 (fun w => by rw [← hzs]; exact run_sizeOf hi0 w) ⟨vb, voff, none⟩ ⟨b, (i + 1) * 2, none⟩ 1 vc lb cb hvb tA tB kA kB hsa hsb hkA hkB (hfz _ (by omega)) hfe]
    rfl
  have hdl : (cs.drop (i * 2)).length = (n - i) * 2 := by rw [List.length_drop, hcl]; omega
  have hz2 : ¬ ((i : Int) = (n : Int)) := by omega
  have hw1 : IntKind.i64.wrap ((i : Int) + 1) = (i : Int) + 1 := by rw [IntKind.wrap_i64]; omega
  have hwn : IntKind.i64.wrap ((n : Int) + 1) = (n : Int) + 1 := by rw [IntKind.wrap_i64]; omega
  have hb1 : (0 : Int) ≤ (i : Int) + 1 := by omega
  have hin : i ≤ n := by omega
  have htn : ((i : Int) + 1).toNat = i + 1 := by omega
  have htm : ((n : Int) + 1).toNat = n + 1 := by omega
  have hb2 : ¬ (c = i + 1) := by omega
  have hb3 : (i : Int) ≤ (n : Int) + 1 := by omega
  have hb4 : ¬ (c = i) := by omega
  have hb5 : ¬ ((c : Int) < (n : Int) + 1) := by omega
  have hb6 : (n : Int) + 1 ≤ (c : Int) := by omega
  have hm1 : Nat.min (n + 1 - i) (n - i) = n - i := by simp only [Nat.min_def]; split <;> omega
  have hm2 : Nat.min 1 (n + 1 - i) = 1 := by simp only [Nat.min_def]; split <;> omega
  have hcp1 : ∀ ty dc sc, (Builtin.copy_ #[64, 64] ty #[.slice (some ⟨b, (i + 1) * 2, none⟩) (n - i) dc, .slice (some ⟨b, i * 2, none⟩) (n + 1 - i) sc]).run Try.prog w.drew = .ok (goInt (Nat.min (n + 1 - i) (n - i))) (w.drew.setCells b ((i + 1) * 2) (cs.drop (i * 2))) := fun ty dc sc =>
    run_copy_es w.drew _ _ ty 141 2 b ((i + 1) * 2) (n - i) dc ⟨b, i * 2, none⟩ (n + 1 - i) sc (cs.drop (i * 2)) tS hsz (by rw [hm1]; exact hdl)
      (fun j v hj => by rw [Addr.add_lit]; exact hcs (i * 2 + j) v (by rwa [List.getElem?_drop] at hj))
      (fun j hj => hsp _ (by omega)) (fun j hj => hfz _ (by omega)) (fun v hv => h1c v (List.mem_of_mem_drop hv))
  obtain ⟨W1, hW1⟩ : ∃ W1, W1 = w.drew.setCells b ((i + 1) * 2) (cs.drop (i * 2)) := ⟨_, rfl⟩
  have hsp1 : ∀ k, k < (n + 1) * 2 → (W1.cell? ⟨b, k, none⟩).isSome = true := fun k hk => by
    rw [hW1]
    exact isSome_setCells b (cs.drop (i * 2)) ((i + 1) * 2) w.drew (fun j hj => hsp _ (by omega)) _ (hsp k hk)
  have hcp2 : ∀ (W : World), (∀ x, W.cell? x = W1.cell? x) → (∀ x, W.frozen? x = W1.frozen? x) → ∀ ty dc, (Builtin.copy_ #[64, 63] ty #[.slice (some ⟨b, i * 2, none⟩) (n + 1 - i) dc, .slice (some ⟨vb, voff, none⟩) 1 vc]).run Try.prog W = .ok (goInt (Nat.min 1 (n + 1 - i))) (W.setCells b (i * 2) vs) := fun W hWc hWf ty dc =>
    run_copy_es W _ _ ty 141 2 b (i * 2) (n + 1 - i) dc ⟨vb, voff, none⟩ 1 vc vs tS hsz (by rw [hm2, hvl])
      (fun j v hj => by
        rw [Addr.add_lit, hWc, hW1, World.cell?_setCells_out b _ _ _ _ (fun h _ => absurd h hvb)]
        exact hvs j v hj)
      (fun j hj => by rw [hWc]; exact hsp1 _ (by omega)) (fun j hj => by rw [hWf, hW1, World.frozen?_setCells]; exact hfz _ (by omega)) h1v
  rw [← hW1] at hcp1
  go_enter Try.func78, Try.ntmps78
  go_wp2_with (simp only [hov])
  go_region_law_o (refine step_copy_runI rfl _ _ 64 64 rfl _ _ (by simp [Act.eval, Act.put]) (by simp [Act.eval, Act.put]) (hcp1 _ _ _) ?_)
  go_wp2_with (at_builtin; refine wpList_copy_runI _ rfl _ _ 64 63 rfl _ _ rfl rfl (hcp2 _ (fun _ => rfl) (fun _ => rfl) _ _) ?_)
  go_ret
  first | exact ⟨rfl, rfl⟩ | exact ⟨rfl, by rw [hW1]⟩
set_option maxHeartbeats 4000000 in
set_option maxRecDepth 100000 in
theorem insE78 (b n c vb voff vc : Nat) (vs : List Value) (w : World) (hroom : n + 1 ≤ c) (hbig : n + 1 ≤ 1000000) (hvl : vs.length = 2)
    (hsp : ∀ j, j < 2 → (w.cell? ⟨b, n * 2 + j, none⟩).isSome = true) (hfz : ∀ j, j < 2 → w.frozen? ⟨b, n * 2 + j, none⟩ = false)
    (hvs : ∀ j v, vs[j]? = some v → w.cell? ⟨vb, voff + j, none⟩ = some v) (h1v : ∀ v ∈ vs, v.oneCell' = true) :
    Calls Try.prog 78 #[.slice (some ⟨b, 0, none⟩) n c, .int .i64 n, .slice (some ⟨vb, voff, none⟩) 1 vc] w fun e w' =>
      e = .returned (.slice (some ⟨b, 0, none⟩) (n + 1) c) ∧ w' = w.setCells b (n * 2) vs := by
  have tS : Try.prog.underlying 64 = some (.slice 141) := by kernel_rfl
  have tV : Try.prog.underlying 63 = some (.slice 141) := by kernel_rfl
  have tI : Try.prog.underlying 3 = some (.int .i64) := by kernel_rfl
  have uS := run_underlying tS
  have uV := run_underlying tV
  have uI := run_underlying tI
  have mixed : Try.prog.follows .mixedOrders = true := mix
  obtain ⟨i0, z, hi0, hzs, hz0, hzc, hzb⟩ := infB_ok (P := Try.prog) (e := 141) (es := 2) (by kernel_rfl)
  have hsz : (Try.prog.info? 141).map (·.size) = some 2 := by rw [hi0]; simp [hzs]
  have hsrc : Src Try.prog 2 63 (.slice (some ⟨vb, voff, none⟩) 1 vc) 1 vs w := Src.ofSlice w tV ⟨vb, voff, none⟩ 1 vc vs (by omega) (fun j u hj => by rw [Addr.add_lit]; exact hvs j u hj) h1v
  have hrun : ∀ ty, (Builtin.append_ #[64, 63] ty #[.slice (some ⟨b, 0, none⟩) n c, .slice (some ⟨vb, voff, none⟩) 1 vc]).run Try.prog w = _ := fun ty =>
    run_append_room_src w 64 63 ty 141 i0 tS hi0 b 0 n c _ 1 vs (by rw [hzs]; exact hsrc) hroom (by rw [hzs, hvl, Nat.zero_add]; exact hsp) (by rw [hzs, hvl, Nat.zero_add]; exact hfz)
  rw [hzs, Nat.zero_add] at hrun
  go_enter Try.func78, Try.ntmps78
  go_wp2_with (at_builtin; refine Lib.wpList_append_run _ rfl _ _ _ _ rfl _ _ rfl rfl _ _ (hrun _) ?_)
  all_goals (go_ret; exact ⟨rfl, rfl⟩)
set_option maxHeartbeats 4000000 in
set_option maxRecDepth 100000 in
theorem insG78 (base : Option Addr) (n c vb voff vc : Nat) (cs vs : List Value) (w : World) (hnc : n ≤ c) (hroom : c < n + 1) (hbig : n + 1 ≤ 1000000) (hcl : cs.length = n * 2) (hvl : vs.length = 2) (hnil : base = none → n = 0)
    (hcs : ∀ a, base = some a → ∀ j v, cs[j]? = some v → w.cell? (a.add j) = some v) (hvs : ∀ j v, vs[j]? = some v → w.cell? ⟨vb, voff + j, none⟩ = some v) (h1v : ∀ v ∈ vs, v.oneCell' = true) :
    Calls Try.prog 78 #[.slice base n c, .int .i64 n, .slice (some ⟨vb, voff, none⟩) 1 vc] w fun e w' =>
      ∃ zs : Array Value, e = .returned (.slice (some ⟨w.heap.size, 0, none⟩) (n + 1) (grownCap w (n + 1) c 141)) ∧ w' = w.drew.alloc (.cells ((cs ++ vs).toArray ++ zs) 141) := by
  have tS : Try.prog.underlying 64 = some (.slice 141) := by kernel_rfl
  have tV : Try.prog.underlying 63 = some (.slice 141) := by kernel_rfl
  have tI : Try.prog.underlying 3 = some (.int .i64) := by kernel_rfl
  have uS := run_underlying tS
  have uV := run_underlying tV
  have uI := run_underlying tI
  have mixed : Try.prog.follows .mixedOrders = true := mix
  obtain ⟨i0, z, hi0, hzs, hz0, hzc, hzb⟩ := infB_ok (P := Try.prog) (e := 141) (es := 2) (by kernel_rfl)
  have hsz : (Try.prog.info? 141).map (·.size) = some 2 := by rw [hi0]; simp [hzs]
  have hsrc : Src Try.prog i0.size 63 (.slice (some ⟨vb, voff, none⟩) 1 vc) 1 vs w := by
    rw [hzs]
    exact Src.ofSlice w tV ⟨vb, voff, none⟩ 1 vc vs (by omega) (fun j u hj => by rw [Addr.add_lit]; exact hvs j u hj) h1v
  have hold : (Builtin.firstCells i0.size n (.slice base n c)).run Try.prog w.drew = .ok cs.toArray w.drew := by
    rw [hzs]
    cases base with
    | none =>
      have h0 := hnil rfl
      subst h0
      rw [List.length_eq_zero_iff.1 (by omega : cs.length = 0)]
      exact run_firstCells_none w.drew 2 0 0 c
    | some a => exact run_firstCells_some w.drew 2 n a n c cs hcl (fun j v hj => hcs a rfl j v hj)
  have hrun : ∀ ty, (Builtin.append_ #[64, 63] ty #[.slice base n c, .slice (some ⟨vb, voff, none⟩) 1 vc]).run Try.prog w = _ := fun ty =>
    run_append_grow_src w 64 63 ty 141 i0 z tS hi0 hz0 base n c cs hold _ 1 vs hsrc hroom (by omega) (growslice_fits hroom (grown_bound hbig hzb))
  obtain ⟨ZS, hrun⟩ : ∃ ZS : Array Value, ∀ ty, (Builtin.append_ #[64, 63] ty #[.slice base n c, .slice (some ⟨vb, voff, none⟩) 1 vc]).run Try.prog w = .ok (.slice (some ⟨w.heap.size, 0, none⟩) (n + 1) (grownCap w (n + 1) c 141)) (w.drew.alloc (.cells ((cs ++ vs).toArray ++ ZS) 141)) := ⟨_, hrun⟩
  have main : Calls Try.prog 78 #[.slice base n c, .int .i64 n, .slice (some ⟨vb, voff, none⟩) 1 vc] w fun e w' =>
      e = .returned (.slice (some ⟨w.heap.size, 0, none⟩) (n + 1) (grownCap w (n + 1) c 141)) ∧ w' = w.drew.alloc (.cells ((cs ++ vs).toArray ++ ZS) 141) := by
    clear hz0 hold hsrc
    go_enter Try.func78, Try.ntmps78
    cases base with
    | none =>
      have h0 := hnil rfl
      subst h0
      go_wp2_with (at_builtin; refine Lib.wpList_append_run _ rfl _ _ _ _ rfl _ _ rfl rfl _ _ (hrun _) ?_)
      go_ret
      exact ⟨rfl, rfl⟩
    | some a =>
      obtain ⟨ab, ao, asp⟩ := a
      go_wp2_with (at_builtin; refine Lib.wpList_append_run _ rfl _ _ _ _ rfl _ _ rfl rfl _ _ (hrun _) ?_)
      all_goals (go_ret; exact ⟨rfl, rfl⟩)
  refine main.mono ?_
  rintro e w' ⟨rfl, rfl⟩
  exact ⟨ZS, rfl, rfl⟩
set_option maxHeartbeats 4000000 in
set_option maxRecDepth 100000 in
theorem insW78 (b n c i vb voff vc : Nat) (cs vs : List Value) (w : World) (hi : i < n) (hnc : n ≤ c) (hroom : c < n + 1) (hbig : n + 1 ≤ 1000000) (hcl : cs.length = n * 2) (hvl : vs.length = 2)
    (hcs : ∀ j v, cs[j]? = some v → w.cell? ⟨b, j, none⟩ = some v) (hvs : ∀ j v, vs[j]? = some v → w.cell? ⟨vb, voff + j, none⟩ = some v) (h1c : ∀ v ∈ cs, v.oneCell' = true) (h1v : ∀ v ∈ vs, v.oneCell' = true) :
    Calls Try.prog 78 #[.slice (some ⟨b, 0, none⟩) n c, .int .i64 i, .slice (some ⟨vb, voff, none⟩) 1 vc] w fun e w' =>
      ∃ ROW : Array Value, (n + 1) * 2 ≤ ROW.size ∧ (∀ (j : Nat) (v : Value), (cs.take (i * 2))[j]? = some v → ROW[j]? = some v) ∧ e = .returned (.slice (some ⟨w.heap.size, 0, none⟩) (n + 1) (grownCap w (n + 1) c 141)) ∧
        w' = (((w.alloc (.cells ROW 141)).drew.setCells w.heap.size (i * 2) vs).drew).setCells w.heap.size ((i + 1) * 2) (cs.drop (i * 2)) := by
  have tS : Try.prog.underlying 64 = some (.slice 141) := by kernel_rfl
  have tV : Try.prog.underlying 63 = some (.slice 141) := by kernel_rfl
  have tI : Try.prog.underlying 3 = some (.int .i64) := by kernel_rfl
  have uS := run_underlying tS
  have uV := run_underlying tV
  have uI := run_underlying tI
  have mixed : Try.prog.follows .mixedOrders = true := mix
  obtain ⟨i0, z, hi0, hzs, hz0, hzc, hzb⟩ := infB_ok (P := Try.prog) (e := 141) (es := 2) (by kernel_rfl)
  have hsz : (Try.prog.info? 141).map (·.size) = some 2 := by rw [hi0]; simp [hzs]
  have hz2 : ¬ ((i : Int) = (n : Int)) := by omega
  have hz3 : (c : Int) < (n : Int) + 1 := by omega
  have hbw : b < w.heap.size := block_lt_of_cell (hcs 0 _ (List.getElem?_eq_getElem (by omega)))
  have hvw : vb < w.heap.size := block_lt_of_cell (hvs 0 _ (List.getElem?_eq_getElem (by omega)))
  have hwk : IntKind.i64.wrap ((n : Int) + 1 - (i : Int)) = ((n + 1 - i : Nat) : Int) := by rw [IntKind.wrap_i64]; omega
  have hik : i + (n + 1 - i) = n + 1 := by omega
  have hold : (Builtin.firstCells i0.size i (.slice (some ⟨b, 0, none⟩) i c)).run Try.prog w.drew = .ok (cs.take (i * 2)).toArray w.drew := by
    rw [hzs]
    exact run_firstCells_some w.drew 2 i ⟨b, 0, none⟩ i c (cs.take (i * 2)) (by rw [List.length_take]; omega) (fun j v hj => by
      rw [Addr.add_lit, Nat.zero_add]
      rw [List.getElem?_take] at hj
      split at hj
      · exact hcs j v hj
      · cases hj)
  have hbk : (n + 1 - i) * i0.bytes ≤ 281474976710656 := by
    have : (n + 1 - i) * i0.bytes ≤ 1000000 * 1000 := Nat.mul_le_mul (by omega) hzb
    omega
  have hrz : ∀ ty, (Builtin.append_ #[64, 3] ty #[.slice (some ⟨b, 0, none⟩) i c, .int .i64 ((n + 1 - i : Nat) : Int)]).run Try.prog w =
      .ok (.slice (some ⟨w.heap.size, 0, none⟩) (n + 1) (grownCap w (n + 1) c 141)) (w.drew.alloc (.cells ((cs.take (i * 2)).toArray ++ Builtin.zeroCells z.cells (n + 1 - i) ++ Builtin.zeroCells z.cells (grownCap w (n + 1) c 141 - (n + 1))) 141)) := fun ty => by
    have h := Lib.run_append_grow_zeros w 64 3 ty 141 i0 z .i64 .i64 tS tI hi0 hz0 (some ⟨b, 0, none⟩) i c (cs.take (i * 2)) hold (n + 1 - i) (by omega) (by omega) (by omega) (by omega) hbk (by rw [hik]; exact growslice_fits hroom (grown_bound hbig hzb))
    rw [hik] at h
    exact h
  obtain ⟨G, hG⟩ : ∃ G, G = grownCap w (n + 1) c 141 := ⟨_, rfl⟩
  obtain ⟨ROW, hROW⟩ : ∃ ROW : Array Value, ROW = (cs.take (i * 2)).toArray ++ Builtin.zeroCells z.cells (n + 1 - i) ++ Builtin.zeroCells z.cells (G - (n + 1)) := ⟨_, rfl⟩
  rw [← hG] at hrz ⊢
  rw [← hROW] at hrz
  have hRl : (n + 1) * 2 ≤ ROW.size := by
    rw [hROW]
    simp only [Array.size_append, size_zeroCells, hzc, List.size_toArray, List.length_take]
    omega
  have hRt : ∀ (j : Nat) (v : Value), (cs.take (i * 2))[j]? = some v → ROW[j]? = some v := fun j v h => by
    have hl := (List.getElem?_eq_some_iff.1 h).1
    rw [hROW, Array.append_assoc, Array.getElem?_append_left (by simpa using hl), List.getElem?_toArray]
    exact h
  obtain ⟨W1, hW1⟩ : ∃ W1, W1 = w.drew.alloc (.cells ROW 141) := ⟨_, rfl⟩
  rw [← hW1] at hrz
  have hN : ∀ j, j < (n + 1) * 2 → (W1.cell? ⟨w.heap.size, j, none⟩).isSome = true := fun j hj => by
    rw [hW1, World.cell?_alloc_at (w := w.drew) ROW _ w.heap.size j rfl, Array.getElem?_eq_getElem (by omega)]; rfl
  have hNf : ∀ j, W1.frozen? ⟨w.heap.size, j, none⟩ = false := fun j => by rw [hW1]; exact World.frozen?_alloc_at (w := w.drew) ROW _ w.heap.size j rfl
  have hOb : ∀ j v, w.cell? ⟨b, j, none⟩ = some v → W1.cell? ⟨b, j, none⟩ = some v := fun j v h => by rw [hW1, World.cell?_alloc_past (w := w.drew) _ b j hbw]; exact h
  have hOv : ∀ j v, w.cell? ⟨vb, j, none⟩ = some v → W1.cell? ⟨vb, j, none⟩ = some v := fun j v h => by rw [hW1, World.cell?_alloc_past (w := w.drew) _ vb j hvw]; exact h
  have hmA : Nat.min 1 (n + 1 - i) = 1 := by simp only [Nat.min_def]; split <;> omega
  have hmB : Nat.min (n - i) (n - i) = n - i := Nat.min_self _
  have hcpA : ∀ (W : World), (∀ x, W.cell? x = W1.cell? x) → (∀ x, W.frozen? x = W1.frozen? x) → ∀ ty dc, (Builtin.copy_ #[64, 63] ty #[.slice (some ⟨w.heap.size, i * 2, none⟩) (n + 1 - i) dc, .slice (some ⟨vb, voff, none⟩) 1 vc]).run Try.prog W = .ok (goInt (Nat.min 1 (n + 1 - i))) (W.setCells w.heap.size (i * 2) vs) := fun W hWc hWf ty dc =>
    run_copy_es W _ _ ty 141 2 w.heap.size (i * 2) (n + 1 - i) dc ⟨vb, voff, none⟩ 1 vc vs tS hsz (by rw [hmA, hvl])
      (fun j v hj => by rw [Addr.add_lit, hWc]; exact hOv _ v (hvs j v hj))
      (fun j hj => by rw [hWc]; exact hN _ (by omega)) (fun j hj => by rw [hWf]; exact hNf _) h1v
  have hGn : n + 1 ≤ G := by rw [hG]; exact grownCap_ge w _ _ _
  have hGi : ¬ (G = i) := by omega
  have hGim : ¬ (G = i + 1) := by omega
  have hci : ¬ (c = i) := by omega
  have hbN : b ≠ w.heap.size := by omega
  have hdl : (cs.drop (i * 2)).length = (n - i) * 2 := by rw [List.length_drop, hcl]; omega
  have hcpB : ∀ (W : World), (∀ x, W.cell? x = (W1.setCells w.heap.size (i * 2) vs).cell? x) → (∀ x, W.frozen? x = (W1.setCells w.heap.size (i * 2) vs).frozen? x) → ∀ ty dc sc, (Builtin.copy_ #[64, 64] ty #[.slice (some ⟨w.heap.size, (i + 1) * 2, none⟩) (n - i) dc, .slice (some ⟨b, i * 2, none⟩) (n - i) sc]).run Try.prog W = .ok (goInt (Nat.min (n - i) (n - i))) (W.setCells w.heap.size ((i + 1) * 2) (cs.drop (i * 2))) := fun W hWc hWf ty dc sc =>
    run_copy_es W _ _ ty 141 2 w.heap.size ((i + 1) * 2) (n - i) dc ⟨b, i * 2, none⟩ (n - i) sc (cs.drop (i * 2)) tS hsz (by rw [hmB]; exact hdl)
      (fun j v hj => by
        rw [Addr.add_lit, hWc, World.cell?_setCells_out _ _ _ _ _ (fun h _ => absurd h hbN)]
        exact hOb _ v (hcs (i * 2 + j) v (by rwa [List.getElem?_drop] at hj)))
      (fun j hj => by rw [hWc]; exact isSome_setCells _ _ _ _ (fun t ht => hN _ (by omega)) _ (hN _ (by omega)))
      (fun j hj => by rw [hWf, World.frozen?_setCells]; exact hNf _) (fun v hv => h1c v (List.mem_of_mem_drop hv))
  subst hW1
  have hE1 : ∀ x, ((w.alloc (.cells ROW 141)).drew).cell? x = (w.drew.alloc (.cells ROW 141)).cell? x := fun x => rfl
  have hE2 : ∀ x, ((w.alloc (.cells ROW 141)).drew).frozen? x = (w.drew.alloc (.cells ROW 141)).frozen? x := fun x => rfl
  have hF1 : ∀ x, (((w.alloc (.cells ROW 141)).drew.setCells w.heap.size (i * 2) vs).drew).cell? x = ((w.drew.alloc (.cells ROW 141)).setCells w.heap.size (i * 2) vs).cell? x := fun x => rfl
  have hF2 : ∀ x, (((w.alloc (.cells ROW 141)).drew.setCells w.heap.size (i * 2) vs).drew).frozen? x = ((w.drew.alloc (.cells ROW 141)).setCells w.heap.size (i * 2) vs).frozen? x := fun x => rfl
  have hw1 : IntKind.i64.wrap ((i : Int) + 1) = (i : Int) + 1 := by rw [IntKind.wrap_i64]; omega
  have hwn : IntKind.i64.wrap ((n : Int) + 1) = (n : Int) + 1 := by rw [IntKind.wrap_i64]; omega
  have hb1 : (0 : Int) ≤ (i : Int) + 1 := by omega
  have hin : i ≤ n := by omega
  have htn : ((i : Int) + 1).toNat = i + 1 := by omega
  have hb3 : (i : Int) ≤ (n : Int) := by omega
  have main : Calls Try.prog 78 #[.slice (some ⟨b, 0, none⟩) n c, .int .i64 i, .slice (some ⟨vb, voff, none⟩) 1 vc] w fun e w' =>
      e = .returned (.slice (some ⟨w.heap.size, 0, none⟩) (n + 1) G) ∧ w' = (((w.alloc (.cells ROW 141)).drew.setCells w.heap.size (i * 2) vs).drew).setCells w.heap.size ((i + 1) * 2) (cs.drop (i * 2)) := by
    clear hik hold hROW hG hRl hRt hbk hz0
    go_enter Try.func78, Try.ntmps78
    go_wp2_with (first
      | (at_builtin; refine Lib.wpList_append_run _ rfl _ _ _ _ rfl _ _ rfl rfl _ _ (hrz _) ?_)
      | (at_builtin; refine wpList_copy_runI _ rfl _ _ 64 63 rfl _ _ rfl rfl (hcpA _ hE1 hE2 _ _) ?_))
    go_region_law_o (refine step_copy_runI rfl _ _ 64 64 rfl (.slice (some ⟨w.heap.size, (i + 1) * 2, none⟩) (n - i) (G - (i + 1))) (.slice (some ⟨b, i * 2, none⟩) (n - i) (c - i)) (by simp [Act.eval, Act.put]) (by simp [Act.eval, Act.put]) (hcpB _ hF1 hF2 3 (G - (i + 1)) (c - i)) ?_)
    go_wp2
    go_ret
    first | exact ⟨rfl, rfl⟩ | trace_state
  refine main.mono ?_
  rintro e w' ⟨rfl, rfl⟩
  exact ⟨ROW, hRl, hRt, rfl, rfl⟩
theorem insR78_v : InsRoads Try.prog 78 2 141 := ⟨insS78, insE78, insG78, insW78⟩
end Go.Proofs.Ythmgficajgedlaa
/- slices.Clone at function 79. -/
namespace Go.Proofs.Ythmgficajgedlaa
open Go.RowKit Go.Lib
set_option maxHeartbeats 4000000 in
set_option maxRecDepth 100000 in
theorem cloS79 (A : Addr) (n c : Nat) (cs : List Value) (w : World) (hn : 0 < n) (hbig : n ≤ 1000000) (hcl : cs.length = n * 2) (hcs : ∀ j v, cs[j]? = some v → w.cell? (A.add j) = some v) (h1 : ∀ v ∈ cs, v.oneCell' = true) :
    Calls Try.prog 79 #[.slice (some A) n c] w fun e w' => ∃ ZS : Array Value, e = .returned (.slice (some ⟨w.heap.size + 1, 0, none⟩) n (grownCap (w.alloc (.cells #[] 141)) n 0 141)) ∧ w' = (w.alloc (.cells #[] 141)).drew.alloc (.cells (cs.toArray ++ ZS) 141) ∧ grownCap (w.alloc (.cells #[] 141)) n 0 141 * 2 ≤ (cs.toArray ++ ZS).size := by
  have tS : Try.prog.underlying 64 = some (.slice 141) := by kernel_rfl
  have uS := run_underlying tS
  have qS : ∀ (w : World) (a : Option Addr) (n c n' c' : Nat), (binOp .eql 64 (.slice a n c) (.slice none n' c')).run Try.prog w = .ok (.bool a.isNone) w := fun w a n c n' c' => Lib.run_eql_slice_nil w _ _ a n c n' c' tS
  have mixed : Try.prog.follows .mixedOrders = true := mix
  obtain ⟨i0, z, hi0, hzs, hz0, hzc, hzb⟩ := infB_ok (P := Try.prog) (e := 141) (es := 2) (by kernel_rfl)
  have hsrc : Src Try.prog i0.size 64 (.slice (some A) n c) n cs (w.alloc (.cells #[] 141)) := by
    rw [hzs]
    exact Src.ofSlice _ tS A n c cs (by omega) (fun j u hj => Lib.cell?_alloc_some _ (hcs j u hj)) h1
  have hold : (Builtin.firstCells i0.size 0 (.slice (some ⟨w.heap.size, 0, none⟩) 0 0)).run Try.prog (w.alloc (.cells #[] 141)).drew = .ok ([] : List Value).toArray (w.alloc (.cells #[] 141)).drew := by
    rw [hzs]
    exact run_firstCells_some _ 2 0 ⟨w.heap.size, 0, none⟩ 0 0 [] (by simp) (fun j v hj => by simp at hj)
  have hrun : ∀ ty, (Builtin.append_ #[64, 64] ty #[.slice (some ⟨w.heap.size, 0, none⟩) 0 0, .slice (some A) n c]).run Try.prog (w.alloc (.cells #[] 141)) = _ := fun ty =>
    run_append_grow_src (w.alloc (.cells #[] 141)) 64 64 ty 141 i0 z tS hi0 hz0 (some ⟨w.heap.size, 0, none⟩) 0 0 [] hold _ n cs hsrc (by omega) (by omega) (growslice_fits (by omega) (grown_bound (by omega) hzb))
  simp only [Nat.zero_add, List.nil_append, World.size_alloc] at hrun
  have hge := grownCap_ge (w.alloc (.cells #[] 141)) n 0 141
  have hsz : grownCap (w.alloc (.cells #[] 141)) n 0 141 * 2 ≤ (cs.toArray ++ Builtin.zeroCells z.cells (grownCap (w.alloc (.cells #[] 141)) n 0 141 - n)).size := by
    simp only [Array.size_append, size_zeroCells, hzc, List.size_toArray, hcl]
    omega
  obtain ⟨ZS, hrun, hsz⟩ : ∃ ZS : Array Value, (∀ ty, (Builtin.append_ #[64, 64] ty #[.slice (some ⟨w.heap.size, 0, none⟩) 0 0, .slice (some A) n c]).run Try.prog (w.alloc (.cells #[] 141)) = .ok (.slice (some ⟨w.heap.size + 1, 0, none⟩) n (grownCap (w.alloc (.cells #[] 141)) n 0 141)) ((w.alloc (.cells #[] 141)).drew.alloc (.cells (cs.toArray ++ ZS) 141))) ∧ grownCap (w.alloc (.cells #[] 141)) n 0 141 * 2 ≤ (cs.toArray ++ ZS).size := ⟨_, hrun, hsz⟩
  have main : Calls Try.prog 79 #[.slice (some A) n c] w fun e w' => e = .returned (.slice (some ⟨w.heap.size + 1, 0, none⟩) n (grownCap (w.alloc (.cells #[] 141)) n 0 141)) ∧ w' = (w.alloc (.cells #[] 141)).drew.alloc (.cells (cs.toArray ++ ZS) 141) := by
    clear hsz hold hsrc hz0 hcs
    go_enter Try.func79, Try.ntmps79
    go_wp2_with (at_builtin; refine Lib.wpList_append_run _ rfl _ _ _ _ rfl _ _ rfl rfl _ _ (hrun _) ?_)
    go_ret
    exact ⟨rfl, rfl⟩
  refine main.mono ?_
  rintro e w' ⟨rfl, rfl⟩
  exact ⟨ZS, rfl, rfl, hsz⟩
set_option maxHeartbeats 4000000 in
set_option maxRecDepth 100000 in
theorem cloZ79 (A : Addr) (c : Nat) (w : World) : Calls Try.prog 79 #[.slice (some A) 0 c] w fun e w' => e = .returned (.slice (some ⟨w.heap.size, 0, none⟩) 0 0) ∧ ∃ q, w' = (w.alloc (.cells #[] 141)).drewN q := by
  have tS : Try.prog.underlying 64 = some (.slice 141) := by kernel_rfl
  have uS := run_underlying tS
  have qS : ∀ (w : World) (a : Option Addr) (n c n' c' : Nat), (binOp .eql 64 (.slice a n c) (.slice none n' c')).run Try.prog w = .ok (.bool a.isNone) w := fun w a n c n' c' => Lib.run_eql_slice_nil w _ _ a n c n' c' tS
  have mixed : Try.prog.follows .mixedOrders = true := mix
  obtain ⟨i0, z, hi0, hzs, hz0, hzc, hzb⟩ := infB_ok (P := Try.prog) (e := 141) (es := 2) (by kernel_rfl)
  have hsz : (Try.prog.info? 141).map (·.size) = some 2 := by rw [hi0]; simp [hzs]
  have hrun : ∀ ty, (Builtin.append_ #[64, 64] ty #[.slice (some ⟨w.heap.size, 0, none⟩) 0 0, .slice (some A) 0 c]).run Try.prog (w.alloc (.cells #[] 141)) = .ok (.slice (some ⟨w.heap.size, 0, none⟩) 0 0) (w.alloc (.cells #[] 141)) := fun ty => by
    have hl : ∀ (x : Addr) (W : World), (loadCells x 0).run Try.prog W = .ok #[] W := fun x W => by simpa using run_loadCells_list (P := Try.prog) W x [] (by simp)
    simp [Builtin.append_, uS, Builtin.lenOf, Builtin.firstCells, sizeOf, typeInfo, hi0, hl, storeCells]
  have main : Calls Try.prog 79 #[.slice (some A) 0 c] w fun e w' => e = .returned (.slice (some ⟨w.heap.size, 0, none⟩) 0 0) ∧ w' = w.alloc (.cells #[] 141) := by
    go_enter Try.func79, Try.ntmps79
    go_wp2_with (at_builtin; refine Lib.wpList_append_run _ rfl _ _ _ _ rfl _ _ rfl rfl _ _ (hrun _) ?_)
    go_ret
    exact ⟨rfl, rfl⟩
  refine main.mono ?_
  rintro e w' ⟨rfl, rfl⟩
  exact ⟨rfl, 0, rfl⟩
set_option maxHeartbeats 4000000 in
set_option maxRecDepth 100000 in
theorem cloN79 (n c : Nat) (w : World) : Calls Try.prog 79 #[.slice none n c] w fun e w' => e = .returned (.slice none 0 0) ∧ w' = w := by
  have tS : Try.prog.underlying 64 = some (.slice 141) := by kernel_rfl
  have uS := run_underlying tS
  have qS : ∀ (w : World) (a : Option Addr) (n c n' c' : Nat), (binOp .eql 64 (.slice a n c) (.slice none n' c')).run Try.prog w = .ok (.bool a.isNone) w := fun w a n c n' c' => Lib.run_eql_slice_nil w _ _ a n c n' c' tS
  have mixed : Try.prog.follows .mixedOrders = true := mix
  go_enter Try.func79, Try.ntmps79
  go_wp2
  go_ret
  exact ⟨rfl, rfl⟩
theorem cloR79_v : CloRoads Try.prog 79 2 141 := ⟨cloS79, cloZ79, cloN79⟩
end Go.Proofs.Ythmgficajgedlaa
/- That the program's functions yield what the plain ones tell (written by a program of mine). -/
namespace Go.Proofs.Ythmgficajgedlaa
open Go.RowKit
def gc77 : BCode := (.seq (.reg 1 [⟨(some 4), .bx (.tmp 1), none, 0⟩, ⟨(some 6), .mv (.const (.int .i64 0)), none, 1⟩, ⟨(some 7), .mv (.const (.bool false)), none, 1⟩] none 0 []) (.seq (.reg 0 [⟨(some 12), .mv (.tmp 0), none, 0⟩, ⟨(some 13), .lens (.tmp 12), none, 0⟩, ⟨(some 8), .mv (.tmp 13), none, 0⟩] none 0 []) (.seq (.reg 0 [⟨(some 14), .mv (.tmp 8), none, 0⟩, ⟨(some 9), .mv (.const (.int .i64 0)), none, 0⟩, ⟨(some 10), .mv (.tmp 14), none, 0⟩] none 0 []) (.seq (.block 0 (.loop (.seq (.seq (.reg 0 [⟨(some 15), .mv (.tmp 9), none, 0⟩, ⟨(some 16), .mv (.tmp 10), none, 0⟩, ⟨(some 17), .bin .lss (.tmp 15) (.tmp 16), none, 0⟩] none 0 []) (.cond (.tmp 17) .skip (.exit 0))) (.block 1 (.seq (.reg 0 [⟨(some 18), .mv (.tmp 9), none, 0⟩, ⟨(some 19), .mv (.tmp 10), none, 0⟩, ⟨(some 20), .bin .add (.tmp 18) (.tmp 19), none, 0⟩, ⟨(some 21), .cvi .u64 (.tmp 20), none, 0⟩, ⟨(some 22), .bin .shr (.tmp 21) (.const (.int .u64 1)), none, 0⟩, ⟨(some 23), .cvi .i64 (.tmp 22), none, 0⟩, ⟨(some 11), .mv (.tmp 23), none, 0⟩] none 0 []) (.seq (.reg 0 [⟨(some 24), .mv (.tmp 2), none, 0⟩, ⟨(some 25), .mv (.tmp 0), none, 0⟩, ⟨(some 26), .mv (.tmp 11), none, 0⟩, ⟨(some 27), .ixs 2 (.tmp 25) (.tmp 26), none, 0⟩, ⟨(some 28), .ld 2 true (.tmp 27), none, 0⟩, ⟨(some 29), .ld 2 true (.tmp 4), none, 0⟩, ⟨(some 30), .cv (.tmp 24) [(.tmp 28), (.tmp 29)], none, 0⟩, ⟨(some 31), .bin .lss (.tmp 30) (.const (.int .i64 0)), none, 0⟩] (some [[], [], [], [2, 1], [1, 2, 3], [], [5, 3, 2, 1, 4, 0], [0, 4, 1, 2, 3, 5, 6]]) 0 []) (.cond (.tmp 31) (.reg 0 [⟨(some 32), .mv (.tmp 11), none, 0⟩, ⟨(some 33), .bin .add (.tmp 32) (.const (.int .i64 1)), none, 0⟩, ⟨(some 9), .mv (.tmp 33), none, 0⟩] none 0 []) (.reg 0 [⟨(some 34), .mv (.tmp 11), none, 0⟩, ⟨(some 10), .mv (.tmp 34), none, 0⟩] none 0 [])))))))) (.seq (.reg 0 [⟨(some 35), .mv (.tmp 9), none, 0⟩, ⟨(some 36), .mv (.tmp 9), none, 0⟩, ⟨(some 37), .mv (.tmp 8), none, 0⟩, ⟨(some 38), .bin .lss (.tmp 36) (.tmp 37), none, 0⟩, ⟨(some 39), .mv (.tmp 38), none, 0⟩, ⟨(some 40), .mv (.tmp 2), (some (39, true)), 0⟩, ⟨(some 41), .mv (.tmp 0), (some (39, true)), 0⟩, ⟨(some 42), .mv (.tmp 9), (some (39, true)), 0⟩, ⟨(some 43), .ixs 2 (.tmp 41) (.tmp 42), (some (39, true)), 0⟩, ⟨(some 44), .ld 2 true (.tmp 43), (some (39, true)), 0⟩, ⟨(some 45), .ld 2 true (.tmp 4), (some (39, true)), 0⟩, ⟨(some 46), .cv (.tmp 40) [(.tmp 44), (.tmp 45)], (some (39, true)), 0⟩, ⟨(some 47), .bin .eql (.tmp 46) (.const (.int .i64 0)), (some (39, true)), 0⟩, ⟨(some 48), .pick (.tmp 39) (.tmp 47) (.const (.bool false)), none, 0⟩, ⟨(some 6), .mv (.tmp 35), none, 0⟩, ⟨(some 7), .mv (.tmp 48), none, 0⟩] (some [[], [], [], [2, 1], [1, 2, 3], [3, 2, 1, 4], [3, 2, 1, 4], [3, 2, 1, 4], [7, 4, 1, 2, 3, 6], [6, 3, 2, 1, 4, 7, 8], [3, 2, 1, 4], [10, 8, 7, 6, 9, 4, 1, 2, 3, 5], [5, 3, 2, 1, 4, 9, 6, 7, 8, 10, 11], [11, 10, 8, 7, 6, 9, 5, 12, 3, 2, 1, 4], [5, 3, 2, 1, 4, 9, 6, 7, 8, 10, 11, 0], [0, 14, 4, 1, 2, 3, 12, 5, 9, 6, 7, 8, 10, 11, 13]]) 0 []) .ret)))))
theorem gc77_ok : compF Try.prog Try.f77 = some (gc77.er, 49, [.tmp 6, .tmp 7]) := by unfold gc77; kernel_rfl
set_option maxRecDepth 100000 in
set_option maxHeartbeats 4000000 in
theorem p_slices_BinarySearchFunc_dirs_State_dirs_Arrow_dirs_Arrow__v {u1 : Bool} (a0 : List Ref29Arrow) (a1 : Ref29Arrow) (a2 : Ref29Arrow → Ref29Arrow → Option Int) {a2_g : Nat} {a2_k : List V} (a2_h : Clo2 Try.prog a2_g a2_k Ref29Arrow.v Ref29Arrow.v V.i a2) : CallsO Try.prog 77 [.sl (List.map Ref29Arrow.v a0) u1, .agg [.s a1.From, .s a1.To], .clo (.func a2_g) a2_k] (fun r : Int × Bool => .tup [V.i r.1, V.b r.2]) (p_slices_BinarySearchFunc_dirs_State_dirs_Arrow_dirs_Arrow_ a0 a1 a2) := by
  refine callsO_comp mix Try.func77 gc77_ok fun r H => ?_
  rw [p_slices_BinarySearchFunc_dirs_State_dirs_Arrow_dirs_Arrow_] at H
  conv => whnf
  refine LenQ.M ?_; conv => whnf
  obtain ⟨o2, HL3, HQ4⟩ := bind_c H
  refine loop_c [9, 10] [11, 15, 16, 17, 18, 19, 20, 21, 22, 23, 24, 25, 26, 27, 28, 29, 30, 31, 32, 33, 34] [11, 15, 16, 17, 18, 19, 20, 21, 22, 23, 24, 25, 26, 27, 28, 29, 30, 31, 32, 33, 34] (fun n vals st => (∃ y6 y7, p_slices_BinarySearchFunc_dirs_State_dirs_Arrow_dirs_Arrow__l1  a2 a0 a1 n y6 y7 = some o2 ∧ vals = [.i y6, .i y7] ∧ st = [.live [.s a1.From, .s a1.To] 0])) fuel 1 [] (⟨_, _, HL3, rfl, rfl⟩) (Nat.zero_le _) rfl (by simp only [maskF, setF, List.set_cons_zero, List.set_cons_succ, V.ren.renL, V.ren, renL_id _ a2_h.own] <;> rfl) (by simp only [maskF, setF, List.set_cons_zero, List.set_cons_succ, V.idlt.belowL, V.idlt, fun n => idltL_up (n := n) _ a2_h.own] <;> rfl) rfl ⟨⟨rfl, rfl, rfl⟩, trivial⟩ ?_
  rintro (_ | n5) _ _ (⟨y6, y7, H, rfl, rfl⟩)
  · rw [p_slices_BinarySearchFunc_dirs_State_dirs_Arrow_dirs_Arrow__l1] at H; cases H
  rw [p_slices_BinarySearchFunc_dirs_State_dirs_Arrow_dirs_Arrow__l1] at H
  conv => whnf
  refine tst_d H (fun b8 H => ?_) (fun b8 H => ?_)
  · conv => whnf
    obtain rfl := Option.some.inj H
    have H := HQ4
    try dsimp only at H
    refine tst_d H (fun b12 H => ?_) (fun b12 H => ?_)
    · conv => whnf
      iterate 8 (refine Tst.F ?_; conv => whnf)
      refine FootQ.mk ⟨rfl, ?_⟩; conv => whnf
      exact fin0_c (enc := (fun r : Int × Bool => .tup [V.i r.1, V.b r.2])) H (.inr rfl) (.cons (.tmp rfl) (.cons (.tmp rfl) (.nil))) rfl rfl
    conv => whnf
    iterate 3 (refine Tst.T ?_; conv => whnf)
    refine ixs_c (f := Ref29Arrow.v) H (fun _ => rfl) (fun x13 H => ?_); conv => whnf
    iterate 3 (refine Tst.T ?_; conv => whnf)
    refine askC2_c a2_h H (.cons (fzagg (.cons (.id rfl) (.cons (.id rfl) (.nil))) rfl) (.cons (fzagg (.cons (.id rfl) (.cons (.id rfl) (.nil))) rfl) (.nil))) (fun v14 H => ?_); conv => whnf
    iterate 2 (refine Tst.T ?_; conv => whnf)
    refine FootQ.mk ⟨rfl, ?_⟩; conv => whnf
    exact fin0_c (enc := (fun r : Int × Bool => .tup [V.i r.1, V.b r.2])) H (.inr rfl) (.cons (.tmp rfl) (.cons (.tmp rfl) (.nil))) rfl rfl
  conv => whnf
  iterate 2 (refine Ari.w ?_; conv => whnf)
  refine Shr.ok (by decide) ?_; conv => whnf
  refine Ari.w ?_; conv => whnf
  refine ixs_c (f := Ref29Arrow.v) H (fun _ => rfl) (fun x9 H => ?_); conv => whnf
  refine askC2_c a2_h H (.cons (fzagg (.cons (.id rfl) (.cons (.id rfl) (.nil))) rfl) (.cons (fzagg (.cons (.id rfl) (.cons (.id rfl) (.nil))) rfl) (.nil))) (fun v10 H => ?_); conv => whnf
  refine FootQ.mk ⟨rfl, ?_⟩; conv => whnf
  refine tst_d H (fun b11 H => ?_) (fun b11 H => ?_)
  · conv => whnf
    exact again_c [11, 15, 16, 17, 18, 19, 20, 21, 22, 23, 24, 25, 26, 27, 28, 29, 30, 31, 32, 33, 34] n5 1 [] (⟨_, _, H, rfl, rfl⟩) (Nat.lt_succ_self _) (Nat.zero_le _) rfl (by simp only [maskF, setF, List.set_cons_zero, List.set_cons_succ, V.ren.renL, V.ren, renL_id _ a2_h.own] <;> rfl) (by simp only [maskF, setF, List.set_cons_zero, List.set_cons_succ, V.idlt.belowL, V.idlt, fun n => idltL_up (n := n) _ a2_h.own] <;> rfl) rfl ⟨⟨rfl, rfl, rfl⟩, trivial⟩
  conv => whnf
  refine Ari.w ?_; conv => whnf
  exact again_c [11, 15, 16, 17, 18, 19, 20, 21, 22, 23, 24, 25, 26, 27, 28, 29, 30, 31, 32, 33, 34] n5 1 [] (⟨_, _, H, rfl, rfl⟩) (Nat.lt_succ_self _) (Nat.zero_le _) rfl (by simp only [maskF, setF, List.set_cons_zero, List.set_cons_succ, V.ren.renL, V.ren, renL_id _ a2_h.own] <;> rfl) (by simp only [maskF, setF, List.set_cons_zero, List.set_cons_succ, V.idlt.belowL, V.idlt, fun n => idltL_up (n := n) _ a2_h.own] <;> rfl) rfl ⟨⟨rfl, rfl, rfl⟩, trivial⟩
def gc42 : BCode := (.seq (.reg 0 [⟨(some 6), .mv (.const (.slice none 0 0)), none, 0⟩, ⟨(some 7), .mv (.const (.int .i64 0)), none, 0⟩] none 0 []) (.seq (.seq (.reg 0 [⟨(some 12), .mv (.tmp 0), none, 0⟩, ⟨(some 13), .cl 29 [(.tmp 12)], none, 0⟩, ⟨(some 8), .mv (.tmp 13), none, 0⟩] none 0 []) (.seq (.reg 0 [⟨(some 14), .mv (.tmp 8), none, 0⟩, ⟨(some 15), .bin .neq (.tmp 14) (.const (.int .i64 0)), none, 0⟩] none 0 []) (.cond (.tmp 15) (.seq (.reg 0 [⟨(some 16), .mv (.tmp 0), none, 0⟩, ⟨(some 17), .mv (.tmp 8), none, 0⟩, ⟨(some 6), .mv (.tmp 16), none, 0⟩, ⟨(some 7), .mv (.tmp 17), none, 0⟩] none 0 []) .ret) .skip))) (.seq (.reg 1 [⟨(some 18), .mv (.tmp 1), none, 0⟩, ⟨(some 19), .mv (.tmp 2), none, 0⟩, ⟨(some 20), .bd [(.lit (.string ⟨#[]⟩)), (.lit (.string ⟨#[]⟩))] [(0, 1, (.tmp 18)), (1, 1, (.tmp 19))], none, 0⟩, ⟨(some 9), .al (.agg [(.lit (.string ⟨#[]⟩)), (.lit (.string ⟨#[]⟩))]), none, 0⟩, ⟨none, .st 2 (.tmp 9) (.tmp 20), none, 1⟩] none 0 []) (.seq (.seq (.reg 0 [⟨(some 21), .ld 2 true (.tmp 9), none, 0⟩, ⟨(some 22), .cl 68 [(.tmp 21)], none, 0⟩] none 0 []) (.cond (.tmp 22) (.seq (.reg 0 [⟨(some 23), .mv (.tmp 0), none, 0⟩, ⟨(some 6), .mv (.tmp 23), none, 0⟩, ⟨(some 7), .mv (.const (.int .i64 11)), none, 0⟩] none 0 []) .ret) .skip)) (.seq (.reg 0 [⟨(some 25), .mv (.tmp 0), none, 0⟩, ⟨(some 26), .ld 2 true (.tmp 9), none, 0⟩, ⟨(some 27), .cl 77 [(.tmp 25), (.tmp 26), (.func 69)], none, 0⟩, ⟨(some 24), .mv (.tmp 27), none, 0⟩, ⟨(some 28), .ex (.tmp 24) 0, none, 0⟩, ⟨(some 29), .ex (.tmp 24) 1, none, 0⟩, ⟨(some 10), .mv (.tmp 28), none, 0⟩, ⟨(some 11), .mv (.tmp 29), none, 0⟩] none 0 []) (.seq (.block 0 (.seq (.reg 0 [⟨(some 31), .mv (.tmp 11), none, 0⟩, ⟨(some 30), .mv (.tmp 31), none, 0⟩] none 0 []) (.cond (.tmp 30) (.seq (.reg 0 [⟨(some 32), .mv (.tmp 0), none, 0⟩, ⟨(some 6), .mv (.tmp 32), none, 0⟩, ⟨(some 7), .mv (.const (.int .i64 0)), none, 0⟩] none 0 []) .ret) (.seq (.reg 0 [⟨(some 34), .mv (.tmp 0), none, 0⟩, ⟨(some 35), .lens (.tmp 34), none, 0⟩, ⟨(some 36), .bin .eql (.tmp 35) (.const (.int .i64 32)), none, 0⟩, ⟨(some 33), .mv (.tmp 36), none, 0⟩] none 0 []) (.cond (.tmp 33) (.seq (.reg 0 [⟨(some 37), .mv (.tmp 0), none, 0⟩, ⟨(some 6), .mv (.tmp 37), none, 0⟩, ⟨(some 7), .mv (.const (.int .i64 7)), none, 0⟩] none 0 []) .ret) .skip))))) (.seq (.reg 1 [⟨(some 38), .mv (.tmp 0), none, 0⟩, ⟨(some 39), .cl 79 [(.tmp 38)], none, 0⟩, ⟨(some 40), .mv (.tmp 10), none, 0⟩, ⟨(some 41), .ld 2 true (.tmp 9), none, 0⟩, ⟨(some 42), .bs 2 1 [(.lit (.string ⟨#[]⟩)), (.lit (.string ⟨#[]⟩))] [(0, (.tmp 41))], none, 0⟩, ⟨(some 43), .cl 78 [(.tmp 39), (.tmp 40), (.tmp 42)], none, 1⟩, ⟨(some 6), .mv (.tmp 43), none, 1⟩, ⟨(some 7), .mv (.const (.int .i64 0)), none, 1⟩] (some [[], [0], [], [], [3], [3, 4, 2, 0, 1], [1, 0, 2, 4, 3, 5], [5, 3, 4, 2, 0, 1, 6]]) 1 []) .ret)))))))
theorem gc42_ok : compF Try.prog Try.f42 = some (gc42.er, 44, [.tmp 6, .tmp 7]) := by unfold gc42; kernel_rfl
set_option maxRecDepth 100000 in
set_option maxHeartbeats 4000000 in
theorem p_dirs_Add_v {u1 : Bool} (a0 : List Ref29Arrow) (a1 : ByteArray) (a2 : ByteArray) : CallsO Try.prog 42 [.sl (List.map Ref29Arrow.v a0) u1, .s a1, .s a2] (fun r : (List Ref29Arrow) × Int => .tup [(fun l : List Ref29Arrow => V.sl (l.map Ref29Arrow.v) false) r.1, V.i r.2]) (p_dirs_Add a0 a1 a2) := by
  refine callsO_comp mix Try.func42 gc42_ok fun r H => ?_
  rw [p_dirs_Add] at H
  conv => whnf
  refine ask_c (p_dirs_Check_v _) H rfl rfl (fun v1 H => ?_); conv => whnf
  refine tst_c H (fun b2 H => ?_) (fun b2 H => ?_)
  · conv => whnf
    refine finR_c (enc := (fun r : (List Ref29Arrow) × Int => .tup [(fun l : List Ref29Arrow => V.sl (l.map Ref29Arrow.v) false) r.1, V.i r.2])) H ?_; conv => whnf
    exact ⟨_, .tup (.cons (.c (.slw)) (.cons (.c (.id rfl)) (.nil)))⟩
  conv => whnf
  refine ⟨Nat.le_of_ble_eq_true rfl, ?_⟩; conv => whnf
  refine ask_c (p_dirs_Arrow_wrong_v _) H rfl rfl (fun v3 H => ?_); conv => whnf
  refine tst_c H (fun b4 H => ?_) (fun b4 H => ?_)
  · conv => whnf
    refine finR_c (enc := (fun r : (List Ref29Arrow) × Int => .tup [(fun l : List Ref29Arrow => V.sl (l.map Ref29Arrow.v) false) r.1, V.i r.2])) H ?_; conv => whnf
    exact ⟨_, .tup (.cons (.c (.slw)) (.cons (.c (.id rfl)) (.nil)))⟩
  conv => whnf
  refine askF_c (p_slices_BinarySearchFunc_dirs_State_dirs_Arrow_dirs_Arrow__v _ _ _ ⟨⟨_, Try.func69, by kernel_rfl, by kernel_rfl⟩, rfl, fun x0 x1 => p_dirs_order_v _ _⟩) H (.cons (.c (.slw)) (.cons (fzagg (.cons (.id rfl) (.cons (.id rfl) (.nil))) rfl) (.cons (.c (.clo (.nil))) (.nil)))) (fun v5 H => ?_); conv => whnf
  refine tst_c H (fun b6 H => ?_) (fun b6 H => ?_)
  · conv => whnf
    refine finR_c (enc := (fun r : (List Ref29Arrow) × Int => .tup [(fun l : List Ref29Arrow => V.sl (l.map Ref29Arrow.v) false) r.1, V.i r.2])) H ?_; conv => whnf
    exact ⟨_, .tup (.cons (.c (.slw)) (.cons (.c (.id rfl)) (.nil)))⟩
  conv => whnf
  refine LenQ.M ?_; conv => whnf
  refine tst_c H (fun b7 H => ?_) (fun b7 H => ?_)
  · conv => whnf
    refine finR_c (enc := (fun r : (List Ref29Arrow) × Int => .tup [(fun l : List Ref29Arrow => V.sl (l.map Ref29Arrow.v) false) r.1, V.i r.2])) H ?_; conv => whnf
    exact ⟨_, .tup (.cons (.c (.slw)) (.cons (.c (.id rfl)) (.nil)))⟩
  conv => whnf
  refine clone_c (f := Ref29Arrow.v) (id := 2) cloR79_v H (fun _ => rfl) (fun _ => rfl) rfl (fun H => ?_) (fun l8 H => ?_)
  · conv => whnf
    refine askF_c (insN_v (f := Ref29Arrow.v) insR78_v (by decide) (fun _ => rfl) (fun _ => rfl) (fun _ => rfl) _ _ _) H (.cons (.c (.id rfl)) (.cons (.c (.id rfl)) (.cons (.c (fzown (f := Ref29Arrow.v) (l := [(Ref29Arrow.mk a1 a2)]) rfl rfl (fun _ => rfl) (fun _ => rfl))) .nil))) (fun v10 H => ?_); conv => whnf
    refine FootQ.mk ⟨rfl, ?_⟩; conv => whnf
    exact fin0_c (enc := (fun r : (List Ref29Arrow) × Int => .tup [(fun l : List Ref29Arrow => V.sl (l.map Ref29Arrow.v) false) r.1, V.i r.2])) H (.inr rfl) (.cons (.tmp rfl) (.cons (.tmp rfl) (.nil))) rfl rfl
  conv => whnf
  refine insO_c (f := Ref29Arrow.v) insR78_v H (by decide) (fun _ => rfl) (fun _ => rfl) (fun _ => rfl) rfl rfl rfl (fun v9 H => ?_); conv => whnf
  refine FootQ.mk ⟨rfl, ?_⟩; conv => whnf
  exact fin0_c (enc := (fun r : (List Ref29Arrow) × Int => .tup [(fun l : List Ref29Arrow => V.sl (l.map Ref29Arrow.v) false) r.1, V.i r.2])) H (.inr rfl) (.cons (.tmp rfl) (.cons (.tmp rfl) (.nil))) rfl rfl
def gc76 : BCode := (.seq (.reg 1 [⟨(some 2), .bx (.tmp 0), none, 0⟩, ⟨(some 3), .mv (.const (.bool false)), none, 1⟩] none 0 []) (.seq (.reg 0 [⟨(some 4), .ld 2 true (.tmp 2), none, 0⟩, ⟨(some 5), .ld 2 true (.tmp 1), none, 0⟩, ⟨(some 6), .eqa false [2, 2] (.tmp 4) (.tmp 5), none, 0⟩, ⟨(some 3), .mv (.tmp 6), none, 0⟩] none 0 []) .ret))
theorem gc76_ok : compF Try.prog Try.f76 = some (gc76.er, 7, [.tmp 3]) := by unfold gc76; kernel_rfl
set_option maxRecDepth 100000 in
set_option maxHeartbeats 4000000 in
theorem p_dirs_Del_1_v (a0 : Ref29Arrow) (c0 : Ref29Arrow) : CallsO Try.prog 76 [.agg [.s a0.From, .s a0.To], .eptr [.s c0.From, .s c0.To]] V.b (p_dirs_Del_1 a0 c0) := by
  refine callsO_comp mix Try.func76 gc76_ok fun r H => ?_
  rw [p_dirs_Del_1] at H
  conv => whnf
  exact fin0_c (enc := V.b) H (.inr rfl) (.cons (.tmp rfl) (.nil)) rfl rfl
end Go.Proofs.Ythmgficajgedlaa
/- That the program's functions yield what the plain ones tell (written by a program of mine). -/
namespace Go.Proofs.Ythmgficajgedlaa
open Go.RowKit
def gc73 : BCode := (.seq (.reg 0 [⟨(some 4), .mv (.const (.slice none 0 0)), none, 0⟩, ⟨(some 5), .mv (.const (.slice none 0 0)), none, 0⟩] none 0 []) (.seq (.reg 0 [⟨(some 6), .mv (.const (.slice none 0 0)), none, 0⟩, ⟨(some 7), .mv (.const (.slice none 0 0)), none, 0⟩] none 0 []) (.seq (.seq (.reg 0 [⟨(some 10), .mv (.tmp 0), none, 0⟩, ⟨(some 11), .lens (.tmp 10), none, 0⟩, ⟨(some 12), .mv (.const (.int .i64 0)), none, 0⟩] none 0 []) (.block 0 (.loop (.seq (.reg 0 [⟨(some 13), .bin .lss (.tmp 12) (.tmp 11), none, 0⟩] none 0 []) (.seq (.cond (.tmp 13) .skip (.exit 0)) (.seq (.block 1 (.seq (.reg 1 [⟨(some 14), .ixs 2 (.tmp 10) (.tmp 12), none, 0⟩, ⟨(some 15), .ld 2 true (.tmp 14), none, 0⟩, ⟨(some 9), .al (.agg [(.lit (.string ⟨#[]⟩)), (.lit (.string ⟨#[]⟩))]), none, 0⟩, ⟨none, .st 2 (.tmp 9) (.tmp 15), none, 1⟩] none 0 []) (.seq (.reg 0 [⟨(some 16), .mv (.tmp 1), none, 0⟩, ⟨(some 17), .ld 2 true (.tmp 9), none, 0⟩, ⟨(some 18), .cv (.tmp 16) [(.tmp 17)], none, 0⟩] none 0 []) (.cond (.tmp 18) (.reg 2 [⟨(some 19), .mv (.tmp 7), none, 0⟩, ⟨(some 20), .ld 2 true (.tmp 9), none, 0⟩, ⟨(some 21), .bs 2 1 [(.lit (.string ⟨#[]⟩)), (.lit (.string ⟨#[]⟩))] [(0, (.tmp 20))], none, 0⟩, ⟨(some 22), .ap 2 32 (.tmp 19) (.tmp 21), none, 1⟩, ⟨(some 7), .mv (.tmp 22), none, 2⟩] none 0 []) (.reg 2 [⟨(some 23), .mv (.tmp 6), none, 0⟩, ⟨(some 24), .ld 2 true (.tmp 9), none, 0⟩, ⟨(some 25), .bs 2 1 [(.lit (.string ⟨#[]⟩)), (.lit (.string ⟨#[]⟩))] [(0, (.tmp 24))], none, 0⟩, ⟨(some 26), .ap 2 32 (.tmp 23) (.tmp 25), none, 1⟩, ⟨(some 6), .mv (.tmp 26), none, 2⟩] none 0 []))))) (.reg 0 [⟨(some 27), .bin .add (.tmp 12) (.const (.int .i64 1)), none, 0⟩, ⟨(some 12), .mv (.tmp 27), none, 0⟩] none 0 []))))))) (.seq (.reg 0 [⟨(some 28), .mv (.tmp 6), none, 0⟩, ⟨(some 29), .mv (.tmp 7), none, 0⟩, ⟨(some 4), .mv (.tmp 28), none, 0⟩, ⟨(some 5), .mv (.tmp 29), none, 0⟩] none 0 []) .ret))))
theorem gc73_ok : compF Try.prog Try.f73 = some (gc73.er, 30, [.tmp 4, .tmp 5]) := by unfold gc73; kernel_rfl
set_option maxRecDepth 100000 in
set_option maxHeartbeats 4000000 in
theorem p_dirs_State_without_v {u1 : Bool} (a0 : List Ref29Arrow) (a1 : Ref29Arrow → Option Bool) {a1_g : Nat} {a1_k : List V} (a1_h : Clo1 Try.prog a1_g a1_k Ref29Arrow.v V.b a1) : CallsO Try.prog 73 [.sl (List.map Ref29Arrow.v a0) u1, .clo (.func a1_g) a1_k] (fun r : (List Ref29Arrow) × (List Ref29Arrow) => .tup [(fun l : List Ref29Arrow => V.sl (l.map Ref29Arrow.v) false) r.1, (fun l : List Ref29Arrow => V.sl (l.map Ref29Arrow.v) false) r.2]) (p_dirs_State_without a0 a1) := by
  refine callsO_comp mix Try.func73 gc73_ok fun r H => ?_
  rw [p_dirs_State_without] at H
  conv => whnf
  refine LenQ.M ?_; conv => whnf
  obtain ⟨o2, HL3, HQ4⟩ := bind_c H
  refine loop_c [6, 7, 12] [9, 13, 14, 15, 16, 17, 18, 19, 20, 21, 22, 23, 24, 25, 26, 27] [9, 13, 14, 15, 16, 17, 18, 19, 20, 21, 22, 23, 24, 25, 26, 27] (fun n vals st => (∃ y6, p_dirs_State_without_l1  a1 a0 (a0.length : Int) n [] [] y6 = some o2 ∧ vals = [.sl (List.map Ref29Arrow.v []) true, .sl (List.map Ref29Arrow.v []) true, .i y6] ∧ st = []) ∨ (∃ y12 y13, p_dirs_State_without_l1  a1 a0 (a0.length : Int) n [] y12 y13 = some o2 ∧ vals = [.sl (List.map Ref29Arrow.v []) true, .osl 0 0 (List.length y12) 2 false, .i y13] ∧ st = [.live (cellsM Ref29Arrow.v y12) (cellsM Ref29Arrow.v y12).length]) ∨ (∃ y15 y16, p_dirs_State_without_l1  a1 a0 (a0.length : Int) n y15 [] y16 = some o2 ∧ vals = [.osl 0 0 (List.length y15) 2 false, .sl (List.map Ref29Arrow.v []) true, .i y16] ∧ st = [.live (cellsM Ref29Arrow.v y15) (cellsM Ref29Arrow.v y15).length]) ∨ (∃ y23 y24 y25, p_dirs_State_without_l1  a1 a0 (a0.length : Int) n y23 y24 y25 = some o2 ∧ vals = [.osl 1 0 (List.length y23) 2 false, .osl 0 0 (List.length y24) 2 false, .i y25] ∧ st = [.live (cellsM Ref29Arrow.v y24) (cellsM Ref29Arrow.v y24).length, .live (cellsM Ref29Arrow.v y23) (cellsM Ref29Arrow.v y23).length]) ∨ (∃ y31 y32 y33, p_dirs_State_without_l1  a1 a0 (a0.length : Int) n y31 y32 y33 = some o2 ∧ vals = [.osl 0 0 (List.length y31) 2 false, .osl 1 0 (List.length y32) 2 false, .i y33] ∧ st = [.live (cellsM Ref29Arrow.v y31) (cellsM Ref29Arrow.v y31).length, .live (cellsM Ref29Arrow.v y32) (cellsM Ref29Arrow.v y32).length])) fuel 0 [] (.inl (⟨_, HL3, rfl, rfl⟩)) (Nat.zero_le _) rfl (by simp only [maskF, setF, List.set_cons_zero, List.set_cons_succ, V.ren.renL, V.ren, renL_id _ a1_h.own] <;> rfl) (by simp only [maskF, setF, List.set_cons_zero, List.set_cons_succ, V.idlt.belowL, V.idlt, fun n => idltL_up (n := n) _ a1_h.own] <;> rfl) rfl trivial ?_
  rintro (_ | n5) _ _ (⟨y6, H, rfl, rfl⟩ | ⟨y12, y13, H, rfl, rfl⟩ | ⟨y15, y16, H, rfl, rfl⟩ | ⟨y23, y24, y25, H, rfl, rfl⟩ | ⟨y31, y32, y33, H, rfl, rfl⟩)
  · rw [p_dirs_State_without_l1] at H; cases H
  · rw [p_dirs_State_without_l1] at H; cases H
  · rw [p_dirs_State_without_l1] at H; cases H
  · rw [p_dirs_State_without_l1] at H; cases H
  · rw [p_dirs_State_without_l1] at H; cases H
  · rw [p_dirs_State_without_l1] at H
    conv => whnf
    refine tst_d H (fun b7 H => ?_) (fun b7 H => ?_)
    · conv => whnf
      obtain rfl := Option.some.inj H
      have H := HQ4
      try dsimp only at H
      refine finR_c (enc := (fun r : (List Ref29Arrow) × (List Ref29Arrow) => .tup [(fun l : List Ref29Arrow => V.sl (l.map Ref29Arrow.v) false) r.1, (fun l : List Ref29Arrow => V.sl (l.map Ref29Arrow.v) false) r.2])) H ?_; conv => whnf
      exact ⟨_, .tup (.cons (.c (.slw)) (.cons (.c (.slw)) (.nil)))⟩
    conv => whnf
    refine ixs_c (f := Ref29Arrow.v) H (fun _ => rfl) (fun x8 H => ?_); conv => whnf
    refine ⟨Nat.le_of_ble_eq_true rfl, ?_⟩; conv => whnf
    refine askC_c a1_h H (.cons (fzagg (.cons (.id rfl) (.cons (.id rfl) (.nil))) rfl) (.nil)) (fun v9 H => ?_); conv => whnf
    refine tst_c H (fun b10 H => ?_) (fun b10 H => ?_)
    · conv => whnf
      refine appN_c (f := Ref29Arrow.v) H (fun _ => rfl) (srcM (f := Ref29Arrow.v) (fun _ => rfl) _ _) rfl (.v (srcOwn (f := Ref29Arrow.v) (l := [x8]) (fun _ => rfl) rfl rfl rfl)) (by decide) rfl (by simp) (fun l11 H => ?_); conv => whnf
      refine Ari.w ?_; conv => whnf
      exact again_c [9, 13, 14, 15, 16, 17, 18, 19, 20, 21, 22, 23, 24, 25, 26, 27] n5 1 [2] (.inr (.inl (⟨_, _, H, rfl, rfl⟩))) (Nat.lt_succ_self _) (Nat.zero_le _) rfl (by simp only [maskF, setF, List.set_cons_zero, List.set_cons_succ, V.ren.renL, V.ren, renL_id _ a1_h.own] <;> rfl) (by simp only [maskF, setF, List.set_cons_zero, List.set_cons_succ, V.idlt.belowL, V.idlt, fun n => idltL_up (n := n) _ a1_h.own] <;> rfl) rfl (wkB_live0 rfl (cellsM_idlt (f := Ref29Arrow.v) (fun _ => rfl) _) rfl trivial)
    conv => whnf
    refine appN_c (f := Ref29Arrow.v) H (fun _ => rfl) (srcM (f := Ref29Arrow.v) (fun _ => rfl) _ _) rfl (.v (srcOwn (f := Ref29Arrow.v) (l := [x8]) (fun _ => rfl) rfl rfl rfl)) (by decide) rfl (by simp) (fun l14 H => ?_); conv => whnf
    refine Ari.w ?_; conv => whnf
    exact again_c [9, 13, 14, 15, 16, 17, 18, 19, 20, 21, 22, 23, 24, 25, 26, 27] n5 1 [2] (.inr (.inr (.inl (⟨_, _, H, rfl, rfl⟩)))) (Nat.lt_succ_self _) (Nat.zero_le _) rfl (by simp only [maskF, setF, List.set_cons_zero, List.set_cons_succ, V.ren.renL, V.ren, renL_id _ a1_h.own] <;> rfl) (by simp only [maskF, setF, List.set_cons_zero, List.set_cons_succ, V.idlt.belowL, V.idlt, fun n => idltL_up (n := n) _ a1_h.own] <;> rfl) rfl (wkB_live0 rfl (cellsM_idlt (f := Ref29Arrow.v) (fun _ => rfl) _) rfl trivial)
  · rw [p_dirs_State_without_l1] at H
    conv => whnf
    refine tst_d H (fun b17 H => ?_) (fun b17 H => ?_)
    · conv => whnf
      obtain rfl := Option.some.inj H
      have H := HQ4
      try dsimp only at H
      refine finR_c (enc := (fun r : (List Ref29Arrow) × (List Ref29Arrow) => .tup [(fun l : List Ref29Arrow => V.sl (l.map Ref29Arrow.v) false) r.1, (fun l : List Ref29Arrow => V.sl (l.map Ref29Arrow.v) false) r.2])) H ?_; conv => whnf
      exact ⟨_, .tup (.cons (.c (.slw)) (.cons (.c (fzown (f := Ref29Arrow.v) (l := y12) rfl rfl (fun _ => rfl) (fun _ => rfl))) (.nil)))⟩
    conv => whnf
    refine ixs_c (f := Ref29Arrow.v) H (fun _ => rfl) (fun x18 H => ?_); conv => whnf
    refine ⟨Nat.le_of_ble_eq_true rfl, ?_⟩; conv => whnf
    refine askC_c a1_h H (.cons (fzagg (.cons (.id rfl) (.cons (.id rfl) (.nil))) rfl) (.nil)) (fun v19 H => ?_); conv => whnf
    refine tst_c H (fun b20 H => ?_) (fun b20 H => ?_)
    · conv => whnf
      refine appO_c (f := Ref29Arrow.v) H (fun _ => rfl) rfl (Nat.le_refl _) (.v (srcOwn (f := Ref29Arrow.v) (l := [x18]) (fun _ => rfl) rfl rfl rfl)) (by decide) rfl (by simp) (fun l21 H => ?_); conv => whnf
      refine Ari.w ?_; conv => whnf
      exact again_c [9, 13, 14, 15, 16, 17, 18, 19, 20, 21, 22, 23, 24, 25, 26, 27] n5 1 [3] (.inr (.inl (⟨_, _, H, rfl, rfl⟩))) (Nat.lt_succ_self _) (Nat.zero_le _) rfl (by simp only [maskF, setF, List.set_cons_zero, List.set_cons_succ, V.ren.renL, V.ren, renL_id _ a1_h.own] <;> rfl) (by simp only [maskF, setF, List.set_cons_zero, List.set_cons_succ, V.idlt.belowL, V.idlt, fun n => idltL_up (n := n) _ a1_h.own] <;> rfl) rfl (wkB_live0 rfl (cellsM_idlt (f := Ref29Arrow.v) (fun _ => rfl) _) rfl trivial)
    conv => whnf
    refine appN_c (f := Ref29Arrow.v) H (fun _ => rfl) (srcM (f := Ref29Arrow.v) (fun _ => rfl) _ _) rfl (.v (srcOwn (f := Ref29Arrow.v) (l := [x18]) (fun _ => rfl) rfl rfl rfl)) (by decide) rfl (by simp) (fun l22 H => ?_); conv => whnf
    refine Ari.w ?_; conv => whnf
    exact again_c [9, 13, 14, 15, 16, 17, 18, 19, 20, 21, 22, 23, 24, 25, 26, 27] n5 2 [0, 3] (.inr (.inr (.inr (.inl (⟨_, _, _, H, rfl, rfl⟩))))) (Nat.lt_succ_self _) (Nat.zero_le _) rfl (by simp only [maskF, setF, List.set_cons_zero, List.set_cons_succ, V.ren.renL, V.ren, renL_id _ a1_h.own] <;> rfl) (by simp only [maskF, setF, List.set_cons_zero, List.set_cons_succ, V.idlt.belowL, V.idlt, fun n => idltL_up (n := n) _ a1_h.own] <;> rfl) rfl (wkB_live0 rfl (cellsM_idlt (f := Ref29Arrow.v) (fun _ => rfl) _) rfl (wkB_live0 rfl (cellsM_idlt (f := Ref29Arrow.v) (fun _ => rfl) _) rfl trivial))
  · rw [p_dirs_State_without_l1] at H
    conv => whnf
    refine tst_d H (fun b26 H => ?_) (fun b26 H => ?_)
    · conv => whnf
      obtain rfl := Option.some.inj H
      have H := HQ4
      try dsimp only at H
      refine finR_c (enc := (fun r : (List Ref29Arrow) × (List Ref29Arrow) => .tup [(fun l : List Ref29Arrow => V.sl (l.map Ref29Arrow.v) false) r.1, (fun l : List Ref29Arrow => V.sl (l.map Ref29Arrow.v) false) r.2])) H ?_; conv => whnf
      exact ⟨_, .tup (.cons (.c (fzown (f := Ref29Arrow.v) (l := y15) rfl rfl (fun _ => rfl) (fun _ => rfl))) (.cons (.c (.slw)) (.nil)))⟩
    conv => whnf
    refine ixs_c (f := Ref29Arrow.v) H (fun _ => rfl) (fun x27 H => ?_); conv => whnf
    refine ⟨Nat.le_of_ble_eq_true rfl, ?_⟩; conv => whnf
    refine askC_c a1_h H (.cons (fzagg (.cons (.id rfl) (.cons (.id rfl) (.nil))) rfl) (.nil)) (fun v28 H => ?_); conv => whnf
    refine tst_d H (fun b29 H => ?_) (fun b29 H => ?_)
    · conv => whnf
      refine appO_c (f := Ref29Arrow.v) H (fun _ => rfl) rfl (Nat.le_refl _) (.v (srcOwn (f := Ref29Arrow.v) (l := [x27]) (fun _ => rfl) rfl rfl rfl)) (by decide) rfl (by simp) (fun l34 H => ?_); conv => whnf
      refine Ari.w ?_; conv => whnf
      exact again_c [9, 13, 14, 15, 16, 17, 18, 19, 20, 21, 22, 23, 24, 25, 26, 27] n5 1 [3] (.inr (.inr (.inl (⟨_, _, H, rfl, rfl⟩)))) (Nat.lt_succ_self _) (Nat.zero_le _) rfl (by simp only [maskF, setF, List.set_cons_zero, List.set_cons_succ, V.ren.renL, V.ren, renL_id _ a1_h.own] <;> rfl) (by simp only [maskF, setF, List.set_cons_zero, List.set_cons_succ, V.idlt.belowL, V.idlt, fun n => idltL_up (n := n) _ a1_h.own] <;> rfl) rfl (wkB_live0 rfl (cellsM_idlt (f := Ref29Arrow.v) (fun _ => rfl) _) rfl trivial)
    conv => whnf
    refine appN_c (f := Ref29Arrow.v) H (fun _ => rfl) (srcM (f := Ref29Arrow.v) (fun _ => rfl) _ _) rfl (.v (srcOwn (f := Ref29Arrow.v) (l := [x27]) (fun _ => rfl) rfl rfl rfl)) (by decide) rfl (by simp) (fun l30 H => ?_); conv => whnf
    refine Ari.w ?_; conv => whnf
    exact again_c [9, 13, 14, 15, 16, 17, 18, 19, 20, 21, 22, 23, 24, 25, 26, 27] n5 2 [0, 3] (.inr (.inr (.inr (.inr (⟨_, _, _, H, rfl, rfl⟩))))) (Nat.lt_succ_self _) (Nat.zero_le _) rfl (by simp only [maskF, setF, List.set_cons_zero, List.set_cons_succ, V.ren.renL, V.ren, renL_id _ a1_h.own] <;> rfl) (by simp only [maskF, setF, List.set_cons_zero, List.set_cons_succ, V.idlt.belowL, V.idlt, fun n => idltL_up (n := n) _ a1_h.own] <;> rfl) rfl (wkB_live0 rfl (cellsM_idlt (f := Ref29Arrow.v) (fun _ => rfl) _) rfl (wkB_live0 rfl (cellsM_idlt (f := Ref29Arrow.v) (fun _ => rfl) _) rfl trivial))
  · rw [p_dirs_State_without_l1] at H
    conv => whnf
    refine tst_d H (fun b35 H => ?_) (fun b35 H => ?_)
    · conv => whnf
      obtain rfl := Option.some.inj H
      have H := HQ4
      try dsimp only at H
      refine finR_c (enc := (fun r : (List Ref29Arrow) × (List Ref29Arrow) => .tup [(fun l : List Ref29Arrow => V.sl (l.map Ref29Arrow.v) false) r.1, (fun l : List Ref29Arrow => V.sl (l.map Ref29Arrow.v) false) r.2])) H ?_; conv => whnf
      exact ⟨_, .tup (.cons (.c (fzown (f := Ref29Arrow.v) (l := y23) rfl rfl (fun _ => rfl) (fun _ => rfl))) (.cons (.c (fzown (f := Ref29Arrow.v) (l := y24) rfl rfl (fun _ => rfl) (fun _ => rfl))) (.nil)))⟩
    conv => whnf
    refine ixs_c (f := Ref29Arrow.v) H (fun _ => rfl) (fun x36 H => ?_); conv => whnf
    refine ⟨Nat.le_of_ble_eq_true rfl, ?_⟩; conv => whnf
    refine askC_c a1_h H (.cons (fzagg (.cons (.id rfl) (.cons (.id rfl) (.nil))) rfl) (.nil)) (fun v37 H => ?_); conv => whnf
    refine tst_c H (fun b38 H => ?_) (fun b38 H => ?_)
    · conv => whnf
      refine appO_c (f := Ref29Arrow.v) H (fun _ => rfl) rfl (Nat.le_refl _) (.v (srcOwn (f := Ref29Arrow.v) (l := [x36]) (fun _ => rfl) rfl rfl rfl)) (by decide) rfl (by simp) (fun l39 H => ?_); conv => whnf
      refine Ari.w ?_; conv => whnf
      exact again_c [9, 13, 14, 15, 16, 17, 18, 19, 20, 21, 22, 23, 24, 25, 26, 27] n5 2 [1, 4] (.inr (.inr (.inr (.inr (⟨_, _, _, H, rfl, rfl⟩))))) (Nat.lt_succ_self _) (Nat.zero_le _) rfl (by simp only [maskF, setF, List.set_cons_zero, List.set_cons_succ, V.ren.renL, V.ren, renL_id _ a1_h.own] <;> rfl) (by simp only [maskF, setF, List.set_cons_zero, List.set_cons_succ, V.idlt.belowL, V.idlt, fun n => idltL_up (n := n) _ a1_h.own] <;> rfl) rfl (wkB_live0 rfl (cellsM_idlt (f := Ref29Arrow.v) (fun _ => rfl) _) rfl (wkB_live0 rfl (cellsM_idlt (f := Ref29Arrow.v) (fun _ => rfl) _) rfl trivial))
    conv => whnf
    refine appO_c (f := Ref29Arrow.v) H (fun _ => rfl) rfl (Nat.le_refl _) (.v (srcOwn (f := Ref29Arrow.v) (l := [x36]) (fun _ => rfl) rfl rfl rfl)) (by decide) rfl (by simp) (fun l40 H => ?_); conv => whnf
    refine Ari.w ?_; conv => whnf
    exact again_c [9, 13, 14, 15, 16, 17, 18, 19, 20, 21, 22, 23, 24, 25, 26, 27] n5 2 [0, 4] (.inr (.inr (.inr (.inl (⟨_, _, _, H, rfl, rfl⟩))))) (Nat.lt_succ_self _) (Nat.zero_le _) rfl (by simp only [maskF, setF, List.set_cons_zero, List.set_cons_succ, V.ren.renL, V.ren, renL_id _ a1_h.own] <;> rfl) (by simp only [maskF, setF, List.set_cons_zero, List.set_cons_succ, V.idlt.belowL, V.idlt, fun n => idltL_up (n := n) _ a1_h.own] <;> rfl) rfl (wkB_live0 rfl (cellsM_idlt (f := Ref29Arrow.v) (fun _ => rfl) _) rfl (wkB_live0 rfl (cellsM_idlt (f := Ref29Arrow.v) (fun _ => rfl) _) rfl trivial))
  rw [p_dirs_State_without_l1] at H
  conv => whnf
  refine tst_d H (fun b41 H => ?_) (fun b41 H => ?_)
  · conv => whnf
    obtain rfl := Option.some.inj H
    have H := HQ4
    try dsimp only at H
    refine finR_c (enc := (fun r : (List Ref29Arrow) × (List Ref29Arrow) => .tup [(fun l : List Ref29Arrow => V.sl (l.map Ref29Arrow.v) false) r.1, (fun l : List Ref29Arrow => V.sl (l.map Ref29Arrow.v) false) r.2])) H ?_; conv => whnf
    exact ⟨_, .tup (.cons (.c (fzown (f := Ref29Arrow.v) (l := y31) rfl rfl (fun _ => rfl) (fun _ => rfl))) (.cons (.c (fzown (f := Ref29Arrow.v) (l := y32) rfl rfl (fun _ => rfl) (fun _ => rfl))) (.nil)))⟩
  conv => whnf
  refine ixs_c (f := Ref29Arrow.v) H (fun _ => rfl) (fun x42 H => ?_); conv => whnf
  refine ⟨Nat.le_of_ble_eq_true rfl, ?_⟩; conv => whnf
  refine askC_c a1_h H (.cons (fzagg (.cons (.id rfl) (.cons (.id rfl) (.nil))) rfl) (.nil)) (fun v43 H => ?_); conv => whnf
  refine tst_c H (fun b44 H => ?_) (fun b44 H => ?_)
  · conv => whnf
    refine appO_c (f := Ref29Arrow.v) H (fun _ => rfl) rfl (Nat.le_refl _) (.v (srcOwn (f := Ref29Arrow.v) (l := [x42]) (fun _ => rfl) rfl rfl rfl)) (by decide) rfl (by simp) (fun l45 H => ?_); conv => whnf
    refine Ari.w ?_; conv => whnf
    exact again_c [9, 13, 14, 15, 16, 17, 18, 19, 20, 21, 22, 23, 24, 25, 26, 27] n5 2 [0, 4] (.inr (.inr (.inr (.inr (⟨_, _, _, H, rfl, rfl⟩))))) (Nat.lt_succ_self _) (Nat.zero_le _) rfl (by simp only [maskF, setF, List.set_cons_zero, List.set_cons_succ, V.ren.renL, V.ren, renL_id _ a1_h.own] <;> rfl) (by simp only [maskF, setF, List.set_cons_zero, List.set_cons_succ, V.idlt.belowL, V.idlt, fun n => idltL_up (n := n) _ a1_h.own] <;> rfl) rfl (wkB_live0 rfl (cellsM_idlt (f := Ref29Arrow.v) (fun _ => rfl) _) rfl (wkB_live0 rfl (cellsM_idlt (f := Ref29Arrow.v) (fun _ => rfl) _) rfl trivial))
  conv => whnf
  refine appO_c (f := Ref29Arrow.v) H (fun _ => rfl) rfl (Nat.le_refl _) (.v (srcOwn (f := Ref29Arrow.v) (l := [x42]) (fun _ => rfl) rfl rfl rfl)) (by decide) rfl (by simp) (fun l46 H => ?_); conv => whnf
  refine Ari.w ?_; conv => whnf
  exact again_c [9, 13, 14, 15, 16, 17, 18, 19, 20, 21, 22, 23, 24, 25, 26, 27] n5 2 [1, 4] (.inr (.inr (.inr (.inl (⟨_, _, _, H, rfl, rfl⟩))))) (Nat.lt_succ_self _) (Nat.zero_le _) rfl (by simp only [maskF, setF, List.set_cons_zero, List.set_cons_succ, V.ren.renL, V.ren, renL_id _ a1_h.own] <;> rfl) (by simp only [maskF, setF, List.set_cons_zero, List.set_cons_succ, V.idlt.belowL, V.idlt, fun n => idltL_up (n := n) _ a1_h.own] <;> rfl) rfl (wkB_live0 rfl (cellsM_idlt (f := Ref29Arrow.v) (fun _ => rfl) _) rfl (wkB_live0 rfl (cellsM_idlt (f := Ref29Arrow.v) (fun _ => rfl) _) rfl trivial))
def gc41 : BCode := (.seq (.reg 0 [⟨(some 6), .mv (.const (.slice none 0 0)), none, 0⟩, ⟨(some 7), .mv (.const (.bool false)), none, 0⟩] none 0 []) (.seq (.seq (.reg 0 [⟨(some 11), .mv (.tmp 0), none, 0⟩, ⟨(some 12), .cl 29 [(.tmp 11)], none, 0⟩, ⟨(some 13), .bin .neq (.tmp 12) (.const (.int .i64 0)), none, 0⟩] none 0 []) (.cond (.tmp 13) (.seq (.reg 0 [⟨(some 14), .mv (.tmp 0), none, 0⟩, ⟨(some 6), .mv (.tmp 14), none, 0⟩, ⟨(some 7), .mv (.const (.bool false)), none, 0⟩] none 0 []) .ret) .skip)) (.seq (.reg 1 [⟨(some 15), .mv (.tmp 1), none, 0⟩, ⟨(some 16), .mv (.tmp 2), none, 0⟩, ⟨(some 17), .bd [(.lit (.string ⟨#[]⟩)), (.lit (.string ⟨#[]⟩))] [(0, 1, (.tmp 15)), (1, 1, (.tmp 16))], none, 0⟩, ⟨(some 8), .al (.agg [(.lit (.string ⟨#[]⟩)), (.lit (.string ⟨#[]⟩))]), none, 0⟩, ⟨none, .st 2 (.tmp 8) (.tmp 17), none, 1⟩] none 0 []) (.seq (.reg 0 [⟨(some 19), .mv (.tmp 0), none, 0⟩, ⟨(some 20), .mf (.func 76) [(.tmp 8)], none, 0⟩, ⟨(some 21), .cl 73 [(.tmp 19), (.tmp 20)], none, 0⟩, ⟨(some 18), .mv (.tmp 21), none, 0⟩, ⟨(some 22), .ex (.tmp 18) 0, none, 0⟩, ⟨(some 23), .ex (.tmp 18) 1, none, 0⟩, ⟨(some 9), .mv (.tmp 22), none, 0⟩, ⟨(some 10), .mv (.tmp 23), none, 0⟩] none 0 [8]) (.seq (.reg 0 [⟨(some 24), .mv (.tmp 9), none, 0⟩, ⟨(some 25), .mv (.tmp 10), none, 0⟩, ⟨(some 26), .lens (.tmp 25), none, 0⟩, ⟨(some 27), .bin .gtr (.tmp 26) (.const (.int .i64 0)), none, 0⟩, ⟨(some 6), .mv (.tmp 24), none, 0⟩, ⟨(some 7), .mv (.tmp 27), none, 0⟩] none 0 []) .ret)))))
theorem gc41_ok : compF Try.prog Try.f41 = some (gc41.er, 28, [.tmp 6, .tmp 7]) := by unfold gc41; kernel_rfl
set_option maxRecDepth 100000 in
set_option maxHeartbeats 4000000 in
theorem p_dirs_Del_v {u1 : Bool} (a0 : List Ref29Arrow) (a1 : ByteArray) (a2 : ByteArray) : CallsO Try.prog 41 [.sl (List.map Ref29Arrow.v a0) u1, .s a1, .s a2] (fun r : (List Ref29Arrow) × Bool => .tup [(fun l : List Ref29Arrow => V.sl (l.map Ref29Arrow.v) false) r.1, V.b r.2]) (p_dirs_Del a0 a1 a2) := by
  refine callsO_comp mix Try.func41 gc41_ok fun r H => ?_
  rw [p_dirs_Del] at H
  conv => whnf
  refine ask_c (p_dirs_Check_v _) H rfl rfl (fun v1 H => ?_); conv => whnf
  refine tst_c H (fun b2 H => ?_) (fun b2 H => ?_)
  · conv => whnf
    refine finR_c (enc := (fun r : (List Ref29Arrow) × Bool => .tup [(fun l : List Ref29Arrow => V.sl (l.map Ref29Arrow.v) false) r.1, V.b r.2])) H ?_; conv => whnf
    exact ⟨_, .tup (.cons (.c (.slw)) (.cons (.c (.id rfl)) (.nil)))⟩
  conv => whnf
  refine ⟨Nat.le_of_ble_eq_true rfl, ?_⟩; conv => whnf
  refine ⟨Nat.zero_le _, ?_⟩; conv => whnf
  refine askF_c (p_dirs_State_without_v _ _ ⟨⟨_, Try.func76, by kernel_rfl, by kernel_rfl⟩, rfl, fun x0 => p_dirs_Del_1_v _ _⟩) H (.cons (.c (.slw)) (.cons (.c (.clo (.cons (.ptr rfl (Nat.le_of_ble_eq_true rfl) (.cons (.id rfl) (.cons (.id rfl) (.nil)))) (.nil)))) (.nil))) (fun v3 H => ?_); conv => whnf
  refine LenQ.M ?_; conv => whnf
  exact fin0_c (enc := (fun r : (List Ref29Arrow) × Bool => .tup [(fun l : List Ref29Arrow => V.sl (l.map Ref29Arrow.v) false) r.1, V.b r.2])) H (.inr rfl) (.cons (.tmp rfl) (.cons (.tmp rfl) (.nil))) rfl rfl
def gc74 : BCode := (.seq (.reg 1 [⟨(some 2), .bx (.tmp 0), none, 0⟩, ⟨(some 3), .mv (.const (.bool false)), none, 1⟩] none 0 []) (.seq (.reg 0 [⟨(some 4), .fa 0 (.tmp 2), none, 0⟩, ⟨(some 5), .ld 1 false (.tmp 4), none, 0⟩, ⟨(some 6), .ld 1 false (.tmp 1), none, 0⟩, ⟨(some 7), .bin .eql (.tmp 5) (.tmp 6), none, 0⟩, ⟨(some 3), .mv (.tmp 7), none, 0⟩] none 0 []) .ret))
theorem gc74_ok : compF Try.prog Try.f74 = some (gc74.er, 8, [.tmp 3]) := by unfold gc74; kernel_rfl
set_option maxRecDepth 100000 in
set_option maxHeartbeats 4000000 in
theorem p_dirs_Clear_1_v (a0 : Ref29Arrow) (c0 : ByteArray) : CallsO Try.prog 74 [.agg [.s a0.From, .s a0.To], .eptr [.s c0]] V.b (p_dirs_Clear_1 a0 c0) := by
  refine callsO_comp mix Try.func74 gc74_ok fun r H => ?_
  rw [p_dirs_Clear_1] at H
  conv => whnf
  exact fin0_c (enc := V.b) H (.inr rfl) (.cons (.tmp rfl) (.nil)) rfl rfl
def gc75 : BCode := (.seq (.reg 0 [⟨(some 2), .mv (.const (.slice none 0 0)), none, 0⟩] none 0 []) (.seq (.reg 0 [⟨(some 3), .mv (.const (.slice none 0 0)), none, 0⟩] none 0 []) (.seq (.seq (.reg 0 [⟨(some 6), .mv (.tmp 0), none, 0⟩, ⟨(some 7), .lens (.tmp 6), none, 0⟩, ⟨(some 8), .mv (.const (.int .i64 0)), none, 0⟩] none 0 []) (.block 0 (.loop (.seq (.reg 0 [⟨(some 9), .bin .lss (.tmp 8) (.tmp 7), none, 0⟩] none 0 []) (.seq (.cond (.tmp 9) .skip (.exit 0)) (.seq (.block 1 (.seq (.reg 1 [⟨(some 10), .ixs 2 (.tmp 6) (.tmp 8), none, 0⟩, ⟨(some 11), .ld 2 true (.tmp 10), none, 0⟩, ⟨(some 5), .al (.agg [(.lit (.string ⟨#[]⟩)), (.lit (.string ⟨#[]⟩))]), none, 0⟩, ⟨none, .st 2 (.tmp 5) (.tmp 11), none, 1⟩] none 0 []) (.reg 2 [⟨(some 12), .mv (.tmp 3), none, 0⟩, ⟨(some 13), .fa 1 (.tmp 5), none, 0⟩, ⟨(some 14), .ld 1 false (.tmp 13), none, 0⟩, ⟨(some 15), .bs 1 1 [(.lit (.string ⟨#[]⟩))] [(0, (.tmp 14))], none, 0⟩, ⟨(some 16), .ap 1 16 (.tmp 12) (.tmp 15), none, 1⟩, ⟨(some 3), .mv (.tmp 16), none, 2⟩] none 0 []))) (.reg 0 [⟨(some 17), .bin .add (.tmp 8) (.const (.int .i64 1)), none, 0⟩, ⟨(some 8), .mv (.tmp 17), none, 0⟩] none 0 []))))))) (.seq (.reg 0 [⟨(some 18), .mv (.tmp 3), none, 0⟩, ⟨(some 2), .mv (.tmp 18), none, 0⟩] none 0 []) .ret))))
theorem gc75_ok : compF Try.prog Try.f75 = some (gc75.er, 19, [.tmp 2]) := by unfold gc75; kernel_rfl
set_option maxRecDepth 100000 in
set_option maxHeartbeats 4000000 in
theorem p_dirs_State_tos_v {u1 : Bool} (a0 : List Ref29Arrow) : CallsO Try.prog 75 [.sl (List.map Ref29Arrow.v a0) u1] (fun l : List ByteArray => V.sl (l.map V.s) false) (p_dirs_State_tos a0) := by
  refine callsO_comp mix Try.func75 gc75_ok fun r H => ?_
  rw [p_dirs_State_tos] at H
  conv => whnf
  refine LenQ.M ?_; conv => whnf
  obtain ⟨o2, HL3, HQ4⟩ := bind_c H
  refine loop_c [3, 8] [5, 9, 10, 11, 12, 13, 14, 15, 16, 17] [5, 9, 10, 11, 12, 13, 14, 15, 16, 17] (fun n vals st => (∃ y6, p_dirs_State_tos_l1  a0 (a0.length : Int) n [] y6 = some o2 ∧ vals = [.sl (List.map V.s []) true, .i y6] ∧ st = []) ∨ (∃ y10 y11, p_dirs_State_tos_l1  a0 (a0.length : Int) n y10 y11 = some o2 ∧ vals = [.osl 0 0 (List.length y10) 1 false, .i y11] ∧ st = [.live (cellsM V.s y10) (cellsM V.s y10).length])) fuel 0 [] (.inl (⟨_, HL3, rfl, rfl⟩)) (Nat.zero_le _) rfl (by kernel_rfl) (by kernel_rfl) rfl trivial ?_
  rintro (_ | n5) _ _ (⟨y6, H, rfl, rfl⟩ | ⟨y10, y11, H, rfl, rfl⟩)
  · rw [p_dirs_State_tos_l1] at H; cases H
  · rw [p_dirs_State_tos_l1] at H; cases H
  · rw [p_dirs_State_tos_l1] at H
    conv => whnf
    refine tst_d H (fun b7 H => ?_) (fun b7 H => ?_)
    · conv => whnf
      obtain rfl := Option.some.inj H
      have H := HQ4
      try dsimp only at H
      refine finR_c (enc := (fun l : List ByteArray => V.sl (l.map V.s) false)) H ?_; conv => whnf
      exact ⟨_, .v (.c (.slw))⟩
    conv => whnf
    refine ixs_c (f := Ref29Arrow.v) H (fun _ => rfl) (fun x8 H => ?_); conv => whnf
    refine ⟨Nat.le_of_ble_eq_true rfl, ?_⟩; conv => whnf
    refine appN_c (f := V.s) H (fun _ => rfl) (srcM (f := V.s) (fun _ => rfl) _ _) rfl (.v (srcOwn (f := V.s) (l := [x8.To]) (fun _ => rfl) rfl rfl rfl)) (by decide) rfl (by simp) (fun l9 H => ?_); conv => whnf
    refine Ari.w ?_; conv => whnf
    exact again_c [5, 9, 10, 11, 12, 13, 14, 15, 16, 17] n5 1 [2] (.inr (⟨_, _, H, rfl, rfl⟩)) (Nat.lt_succ_self _) (Nat.zero_le _) rfl (by kernel_rfl) (by kernel_rfl) rfl (wkB_live0 rfl (cellsM_idlt (f := V.s) (fun _ => rfl) _) rfl trivial)
  rw [p_dirs_State_tos_l1] at H
  conv => whnf
  refine tst_d H (fun b12 H => ?_) (fun b12 H => ?_)
  · conv => whnf
    obtain rfl := Option.some.inj H
    have H := HQ4
    try dsimp only at H
    refine finR_c (enc := (fun l : List ByteArray => V.sl (l.map V.s) false)) H ?_; conv => whnf
    exact ⟨_, .v (.c (fzown (f := V.s) (l := y10) rfl rfl (fun _ => rfl) (fun _ => rfl)))⟩
  conv => whnf
  refine ixs_c (f := Ref29Arrow.v) H (fun _ => rfl) (fun x13 H => ?_); conv => whnf
  refine ⟨Nat.le_of_ble_eq_true rfl, ?_⟩; conv => whnf
  refine appO_c (f := V.s) H (fun _ => rfl) rfl (Nat.le_refl _) (.v (srcOwn (f := V.s) (l := [x13.To]) (fun _ => rfl) rfl rfl rfl)) (by decide) rfl (by simp) (fun l14 H => ?_); conv => whnf
  refine Ari.w ?_; conv => whnf
  exact again_c [5, 9, 10, 11, 12, 13, 14, 15, 16, 17] n5 1 [3] (.inr (⟨_, _, H, rfl, rfl⟩)) (Nat.lt_succ_self _) (Nat.zero_le _) rfl (by kernel_rfl) (by kernel_rfl) rfl (wkB_live0 rfl (cellsM_idlt (f := V.s) (fun _ => rfl) _) rfl trivial)
def gc40 : BCode := (.seq (.reg 1 [⟨(some 3), .bx (.tmp 1), none, 0⟩, ⟨(some 4), .mv (.const (.slice none 0 0)), none, 1⟩, ⟨(some 5), .mv (.const (.slice none 0 0)), none, 1⟩] none 0 []) (.seq (.seq (.reg 0 [⟨(some 8), .mv (.tmp 0), none, 0⟩, ⟨(some 9), .cl 29 [(.tmp 8)], none, 0⟩, ⟨(some 10), .bin .neq (.tmp 9) (.const (.int .i64 0)), none, 0⟩] none 0 []) (.cond (.tmp 10) (.seq (.reg 0 [⟨(some 11), .mv (.tmp 0), none, 0⟩, ⟨(some 4), .mv (.tmp 11), none, 0⟩, ⟨(some 5), .mv (.const (.slice none 0 0)), none, 0⟩] none 0 []) .ret) .skip)) (.seq (.reg 0 [⟨(some 13), .mv (.tmp 0), none, 0⟩, ⟨(some 14), .mf (.func 74) [(.tmp 3)], none, 0⟩, ⟨(some 15), .cl 73 [(.tmp 13), (.tmp 14)], none, 0⟩, ⟨(some 12), .mv (.tmp 15), none, 0⟩, ⟨(some 16), .ex (.tmp 12) 0, none, 0⟩, ⟨(some 17), .ex (.tmp 12) 1, none, 0⟩, ⟨(some 6), .mv (.tmp 16), none, 0⟩, ⟨(some 7), .mv (.tmp 17), none, 0⟩] none 0 [3]) (.seq (.reg 0 [⟨(some 18), .mv (.tmp 6), none, 0⟩, ⟨(some 19), .mv (.tmp 7), none, 0⟩, ⟨(some 20), .cl 75 [(.tmp 19)], none, 0⟩, ⟨(some 4), .mv (.tmp 18), none, 0⟩, ⟨(some 5), .mv (.tmp 20), none, 0⟩] none 0 []) .ret))))
theorem gc40_ok : compF Try.prog Try.f40 = some (gc40.er, 21, [.tmp 4, .tmp 5]) := by unfold gc40; kernel_rfl
set_option maxRecDepth 100000 in
set_option maxHeartbeats 4000000 in
theorem p_dirs_Clear_v {u1 : Bool} (a0 : List Ref29Arrow) (a1 : ByteArray) : CallsO Try.prog 40 [.sl (List.map Ref29Arrow.v a0) u1, .s a1] (fun r : (List Ref29Arrow) × (List ByteArray) => .tup [(fun l : List Ref29Arrow => V.sl (l.map Ref29Arrow.v) false) r.1, (fun l : List ByteArray => V.sl (l.map V.s) false) r.2]) (p_dirs_Clear a0 a1) := by
  refine callsO_comp mix Try.func40 gc40_ok fun r H => ?_
  rw [p_dirs_Clear] at H
  conv => whnf
  refine ask_c (p_dirs_Check_v _) H rfl rfl (fun v1 H => ?_); conv => whnf
  refine tst_c H (fun b2 H => ?_) (fun b2 H => ?_)
  · conv => whnf
    refine finR_c (enc := (fun r : (List Ref29Arrow) × (List ByteArray) => .tup [(fun l : List Ref29Arrow => V.sl (l.map Ref29Arrow.v) false) r.1, (fun l : List ByteArray => V.sl (l.map V.s) false) r.2])) H ?_; conv => whnf
    exact ⟨_, .tup (.cons (.c (.slw)) (.cons (.c (.slw)) (.nil)))⟩
  conv => whnf
  refine ⟨Nat.zero_le _, ?_⟩; conv => whnf
  refine askF_c (p_dirs_State_without_v _ _ ⟨⟨_, Try.func74, by kernel_rfl, by kernel_rfl⟩, rfl, fun x0 => p_dirs_Clear_1_v _ _⟩) H (.cons (.c (.slw)) (.cons (.c (.clo (.cons (.ptr rfl (Nat.le_of_ble_eq_true rfl) (.cons (.id rfl) (.nil))) (.nil)))) (.nil))) (fun v3 H => ?_); conv => whnf
  refine ask_c (p_dirs_State_tos_v _) H rfl rfl (fun v4 H => ?_); conv => whnf
  exact fin0_c (enc := (fun r : (List Ref29Arrow) × (List ByteArray) => .tup [(fun l : List Ref29Arrow => V.sl (l.map Ref29Arrow.v) false) r.1, (fun l : List ByteArray => V.sl (l.map V.s) false) r.2])) H (.inr rfl) (.cons (.tmp rfl) (.cons (.tmp rfl) (.nil))) rfl rfl
end Go.Proofs.Ythmgficajgedlaa
