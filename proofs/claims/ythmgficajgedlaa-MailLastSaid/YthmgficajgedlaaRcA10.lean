/- A part of the proof: 3 texts joined. -/
import Derived.Test.YthmgficajgedlaaRcA8
import Derived.Test.YthmgficajgedlaaRcA5
import Derived.KernelRfl
import Derived.Test.YthmgficajgedlaaRcA9
set_option linter.all false
/- slices.Insert: its roads at function 91. -/
namespace Go.Proofs.Ythmgficajgedlaa
open Go.RowKit Go.Lib
set_option maxHeartbeats 4000000 in
set_option maxRecDepth 100000 in
theorem insS91 (b n c i vb voff vc : Nat) (cs vs : List Value) (w : World) (tA tB : TypeId) (kA kB : Nat) (hi : i < n) (hroom : n + 1 ≤ c) (hbig : n + 1 ≤ 1000000) (hvb : vb ≠ b) (hcl : cs.length = n * 5) (hvl : vs.length = 5)
    (hcs : ∀ j v, cs[j]? = some v → w.cell? ⟨b, j, none⟩ = some v) (hsp : ∀ j, j < (n + 1) * 5 → (w.cell? ⟨b, j, none⟩).isSome = true) (hfz : ∀ j, j < (n + 1) * 5 → w.frozen? ⟨b, j, none⟩ = false)
    (hvs : ∀ j v, vs[j]? = some v → w.cell? ⟨vb, voff + j, none⟩ = some v) (h1c : ∀ v ∈ cs, v.oneCell' = true) (h1v : ∀ v ∈ vs, v.oneCell' = true)
    (hsa : w.shape? vb = some (tA, kA)) (hsb : w.shape? b = some (tB, kB)) (hkA : kA ≠ 0) (hkB : kB ≠ 0) (hfe : w.frozen? ⟨b, kB, none⟩ = false) :
    Calls Try.prog 91 #[.slice (some ⟨b, 0, none⟩) n c, .int .i64 i, .slice (some ⟨vb, voff, none⟩) 1 vc] w fun e w' =>
      e = .returned (.slice (some ⟨b, 0, none⟩) (n + 1) c) ∧ w' = (w.drew.setCells b ((i + 1) * 5) (cs.drop (i * 5))).setCells b (i * 5) vs := by
  have tS : Try.prog.underlying 94 = some (.slice 101) := by kernel_rfl
  have tV : Try.prog.underlying 93 = some (.slice 101) := by kernel_rfl
  have tI : Try.prog.underlying 3 = some (.int .i64) := by kernel_rfl
  have uS := run_underlying tS
  have uV := run_underlying tV
  have uI := run_underlying tI
  have mixed : Try.prog.follows .mixedOrders = true := mix
  obtain ⟨i0, z, hi0, hzs, hz0, hzc, hzb⟩ := infB_ok (P := Try.prog) (e := 101) (es := 5) (by kernel_rfl)
  have hsz : (Try.prog.info? 101).map (·.size) = some 5 := by rw [hi0]; simp [hzs]
  have hov : ∀ lb cb, (callFunc 131 #[.slice (some ⟨vb, voff, none⟩) 1 vc, .slice (some ⟨b, (i + 1) * 5, none⟩) lb cb]).run Try.prog w = .ok (.value (.bool false)) w := fun lb cb => by
    rw [run_callFunc_extern Try.func131 (by kernel_rfl) (by kernel_rfl) (by kernel_rfl) (e := Extern.SlicesOverlaps.overlaps #[93, 93] #[4]) (by kernel_rfl),
      run_overlaps_own w 93 4 101 tV 5 (fun w => by rw [← hzs]; exact run_sizeOf hi0 w) ⟨vb, voff, none⟩ ⟨b, (i + 1) * 5, none⟩ 1 vc lb cb hvb tA tB kA kB hsa hsb hkA hkB (hfz _ (by omega)) hfe]
    rfl
  have hdl : (cs.drop (i * 5)).length = (n - i) * 5 := by rw [List.length_drop, hcl]; omega
  have hz2 : ¬ ((i : Int) = (n : Int)) := by omega
  have hw1 : IntKind.i64.wrap ((i : Int) + 1) = (i : Int) + 1 := by rw [IntKind.wrap_i64]; omega
  have hwn : IntKind.i64.wrap ((n : Int) + 1) = (n : Int) + 1 := by rw [IntKind.wrap_i64]; omega
  have hb1 : (0 : Int) ≤ (i : Int) + 1 := by omega
  have hin : i ≤ n := by omega
  have htn : ((i : Int) + 1).toNat = i + 1 := by omega
  have htm : ((n : Int) + 1).toNat = n + 1 := by omega
  have hb2 : ¬ (c = i + 1) := by omega
  have hb3 : (i : Int) ≤ (n : Int) + 1 := by omega
  have hb4 : ¬ (c = i) := by omega
  have hb5 : ¬ ((c : Int) < (n : Int) + 1) := by omega
  have hb6 : (n : Int) + 1 ≤ (c : Int) := by omega
  have hm1 : Nat.min (n + 1 - i) (n - i) = n - i := by simp only [Nat.min_def]; split <;> omega
  have hm2 : Nat.min 1 (n + 1 - i) = 1 := by simp only [Nat.min_def]; split <;> omega
  have hcp1 : ∀ ty dc sc, (Builtin.copy_ #[94, 94] ty #[.slice (some ⟨b, (i + 1) * 5, none⟩) (n - i) dc, .slice (some ⟨b, i * 5, none⟩) (n + 1 - i) sc]).run Try.prog w.drew = .ok (goInt (Nat.min (n + 1 - i) (n - i))) (w.drew.setCells b ((i + 1) * 5) (cs.drop (i * 5))) := fun ty dc sc =>
    run_copy_es w.drew _ _ ty 101 5 b ((i + 1) * 5) (n - i) dc ⟨b, i * 5, none⟩ (n + 1 - i) sc (cs.drop (i * 5)) tS hsz (by rw [hm1]; exact hdl)
      (fun j v hj => by rw [Addr.add_lit]; exact hcs (i * 5 + j) v (by rwa [List.getElem?_drop] at hj))
      (fun j hj => hsp _ (by omega)) (fun j hj => hfz _ (by omega)) (fun v hv => h1c v (List.mem_of_mem_drop hv))
  obtain ⟨W1, hW1⟩ : ∃ W1, W1 = w.drew.setCells b ((i + 1) * 5) (cs.drop (i * 5)) := ⟨_, rfl⟩
  have hsp1 : ∀ k, k < (n + 1) * 5 → (W1.cell? ⟨b, k, none⟩).isSome = true := fun k hk => by
    rw [hW1]
    exact isSome_setCells b (cs.drop (i * 5)) ((i + 1) * 5) w.drew (fun j hj => hsp _ (by omega)) _ (hsp k hk)
  have hcp2 : ∀ (W : World), (∀ x, W.cell? x = W1.cell? x) → (∀ x, W.frozen? x = W1.frozen? x) → ∀ ty dc, (Builtin.copy_ #[94, 93] ty #[.slice (some ⟨b, i * 5, none⟩) (n + 1 - i) dc, .slice (some ⟨vb, voff, none⟩) 1 vc]).run Try.prog W = .ok (goInt (Nat.min 1 (n + 1 - i))) (W.setCells b (i * 5) vs) := fun W hWc hWf ty dc =>
    run_copy_es W _ _ ty 101 5 b (i * 5) (n + 1 - i) dc ⟨vb, voff, none⟩ 1 vc vs tS hsz (by rw [hm2, hvl])
      (fun j v hj => by
        rw [Addr.add_lit, hWc, hW1, World.cell?_setCells_out b _ _ _ _ (fun h _ => absurd h hvb)]
        exact hvs j v hj)
      (fun j hj => by rw [hWc]; exact hsp1 _ (by omega)) (fun j hj => by rw [hWf, hW1, World.frozen?_setCells]; exact hfz _ (by omega)) h1v
  rw [← hW1] at hcp1
  go_enter Try.func91, Try.ntmps91
  go_wp2_with (simp only [hov])
  go_region_law_o (refine step_copy_runI rfl _ _ 94 94 rfl _ _ (by simp [Act.eval, Act.put]) (by simp [Act.eval, Act.put]) (hcp1 _ _ _) ?_)
  go_wp2_with (at_builtin; refine wpList_copy_runI _ rfl _ _ 94 93 rfl _ _ rfl rfl (hcp2 _ (fun _ => rfl) (fun _ => rfl) _ _) ?_)
  go_ret
  first | exact ⟨rfl, rfl⟩ | exact ⟨rfl, by rw [hW1]⟩
set_option maxHeartbeats 4000000 in
set_option maxRecDepth 100000 in
theorem insE91 (b n c vb voff vc : Nat) (vs : List Value) (w : World) (hroom : n + 1 ≤ c) (hbig : n + 1 ≤ 1000000) (hvl : vs.length = 5)
    (hsp : ∀ j, j < 5 → (w.cell? ⟨b, n * 5 + j, none⟩).isSome = true) (hfz : ∀ j, j < 5 → w.frozen? ⟨b, n * 5 + j, none⟩ = false)
    (hvs : ∀ j v, vs[j]? = some v → w.cell? ⟨vb, voff + j, none⟩ = some v) (h1v : ∀ v ∈ vs, v.oneCell' = true) :
    Calls Try.prog 91 #[.slice (some ⟨b, 0, none⟩) n c, .int .i64 n, .slice (some ⟨vb, voff, none⟩) 1 vc] w fun e w' =>
      e = .returned (.slice (some ⟨b, 0, none⟩) (n + 1) c) ∧ w' = w.setCells b (n * 5) vs := by
  have tS : Try.prog.underlying 94 = some (.slice 101) := by kernel_rfl
  have tV : Try.prog.underlying 93 = some (.slice 101) := by kernel_rfl
  have tI : Try.prog.underlying 3 = some (.int .i64) := by kernel_rfl
  have uS := run_underlying tS
  have uV := run_underlying tV
  have uI := run_underlying tI
  have mixed : Try.prog.follows .mixedOrders = true := mix
  obtain ⟨i0, z, hi0, hzs, hz0, hzc, hzb⟩ := infB_ok (P := Try.prog) (e := 101) (es := 5) (by kernel_rfl)
  have hsz : (Try.prog.info? 101).map (·.size) = some 5 := by rw [hi0]; simp [hzs]
  have hsrc : Src Try.prog 5 93 (.slice (some ⟨vb, voff, none⟩) 1 vc) 1 vs w := Src.ofSlice w tV ⟨vb, voff, none⟩ 1 vc vs (by omega) (fun j u hj => by rw [Addr.add_lit]; exact hvs j u hj) h1v
  have hrun : ∀ ty, (Builtin.append_ #[94, 93] ty #[.slice (some ⟨b, 0, none⟩) n c, .slice (some ⟨vb, voff, none⟩) 1 vc]).run Try.prog w = _ := fun ty =>
    run_append_room_src w 94 93 ty 101 i0 tS hi0 b 0 n c _ 1 vs (by rw [hzs]; exact hsrc) hroom (by rw [hzs, hvl, Nat.zero_add]; exact hsp) (by rw [hzs, hvl, Nat.zero_add]; exact hfz)
  rw [hzs, Nat.zero_add] at hrun
  go_enter Try.func91, Try.ntmps91
  go_wp2_with (at_builtin; refine Lib.wpList_append_run _ rfl _ _ _ _ rfl _ _ rfl rfl _ _ (hrun _) ?_)
  all_goals (go_ret; exact ⟨rfl, rfl⟩)
set_option maxHeartbeats 4000000 in
set_option maxRecDepth 100000 in
theorem insG91 (base : Option Addr) (n c vb voff vc : Nat) (cs vs : List Value) (w : World) (hnc : n ≤ c) (hroom : c < n + 1) (hbig : n + 1 ≤ 1000000) (hcl : cs.length = n * 5) (hvl : vs.length = 5) (hnil : base = none → n = 0)
    (hcs : ∀ a, base = some a → ∀ j v, cs[j]? = some v → w.cell? (a.add j) = some v) (hvs : ∀ j v, vs[j]? = some v → w.cell? ⟨vb, voff + j, none⟩ = some v) (h1v : ∀ v ∈ vs, v.oneCell' = true) :
    Calls Try.prog 91 #[.slice base n c, .int .i64 n, .slice (some ⟨vb, voff, none⟩) 1 vc] w fun e w' =>
      ∃ zs : Array Value, e = .returned (.slice (some ⟨w.heap.size, 0, none⟩) (n + 1) (grownCap w (n + 1) c 101)) ∧ w' = w.drew.alloc (.cells ((cs ++ vs).toArray ++ zs) 101) := by
  have tS : Try.prog.underlying 94 = some (.slice 101) := by kernel_rfl
  have tV : Try.prog.underlying 93 = some (.slice 101) := by kernel_rfl
  have tI : Try.prog.underlying 3 = some (.int .i64) := by kernel_rfl
  have uS := run_underlying tS
  have uV := run_underlying tV
  have uI := run_underlying tI
  have mixed : Try.prog.follows .mixedOrders = true := mix
  obtain ⟨i0, z, hi0, hzs, hz0, hzc, hzb⟩ := infB_ok (P := Try.prog) (e := 101) (es := 5) (by kernel_rfl)
  have hsz : (Try.prog.info? 101).map (·.size) = some 5 := by rw [hi0]; simp [hzs]
  have hsrc : Src Try.prog i0.size 93 (.slice (some ⟨vb, voff, none⟩) 1 vc) 1 vs w := by
    rw [hzs]
    exact Src.ofSlice w tV ⟨vb, voff, none⟩ 1 vc vs (by omega) (fun j u hj => by rw [Addr.add_lit]; exact hvs j u hj) h1v
  have hold : (Builtin.firstCells i0.size n (.slice base n c)).run Try.prog w.drew = .ok cs.toArray w.drew := by
    rw [hzs]
    cases base with
    | none =>
      have h0 := hnil rfl
      subst h0
      rw [List.length_eq_zero_iff.1 (by omega : cs.length = 0)]
      exact run_firstCells_none w.drew 5 0 0 c
    | some a => exact run_firstCells_some w.drew 5 n a n c cs hcl (fun j v hj => hcs a rfl j v hj)
  have hrun : ∀ ty, (Builtin.append_ #[94, 93] ty #[.slice base n c, .slice (some ⟨vb, voff, none⟩) 1 vc]).run Try.prog w = _ := fun ty =>
    run_append_grow_src w 94 93 ty 101 i0 z tS hi0 hz0 base n c cs hold _ 1 vs hsrc hroom (by omega) (growslice_fits hroom (grown_bound hbig hzb))
  obtain ⟨ZS, hrun⟩ : ∃ ZS : Array Value, ∀ ty, (Builtin.append_ #[94, 93] ty #[.slice base n c, .slice (some ⟨vb, voff, none⟩) 1 vc]).run Try.prog w = .ok (.slice (some ⟨w.heap.size, 0, none⟩) (n + 1) (grownCap w (n + 1) c 101)) (w.drew.alloc (.cells ((cs ++ vs).toArray ++ ZS) 101)) := ⟨_, hrun⟩
  have main : Calls Try.prog 91 #[.slice base n c, .int .i64 n, .slice (some ⟨vb, voff, none⟩) 1 vc] w fun e w' =>
      e = .returned (.slice (some ⟨w.heap.size, 0, none⟩) (n + 1) (grownCap w (n + 1) c 101)) ∧ w' = w.drew.alloc (.cells ((cs ++ vs).toArray ++ ZS) 101) := by
    clear hz0 hold hsrc
    go_enter Try.func91, Try.ntmps91
    cases base with
    | none =>
      have h0 := hnil rfl
      subst h0
      go_wp2_with (at_builtin; refine Lib.wpList_append_run _ rfl _ _ _ _ rfl _ _ rfl rfl _ _ (hrun _) ?_)
      go_ret
      exact ⟨rfl, rfl⟩
    | some a =>
      obtain ⟨ab, ao, asp⟩ := a
      go_wp2_with (at_builtin; refine Lib.wpList_append_run _ rfl _ _ _ _ rfl _ _ rfl rfl _ _ (hrun _) ?_)
      all_goals (go_ret; exact ⟨rfl, rfl⟩)
  refine main.mono ?_
  rintro e w' ⟨rfl, rfl⟩
  exact ⟨ZS, rfl, rfl⟩
set_option maxHeartbeats 4000000 in
set_option maxRecDepth 100000 in
theorem insW91 (b n c i vb voff vc : Nat) (cs vs : List Value) (w : World) (hi : i < n) (hnc : n ≤ c) (hroom : c < n + 1) (hbig : n + 1 ≤ 1000000) (hcl : cs.length = n * 5) (hvl : vs.length = 5)
    (hcs : ∀ j v, cs[j]? = some v → w.cell? ⟨b, j, none⟩ = some v) (hvs : ∀ j v, vs[j]? = some v → w.cell? ⟨vb, voff + j, none⟩ = some v) (h1c : ∀ v ∈ cs, v.oneCell' = true) (h1v : ∀ v ∈ vs, v.oneCell' = true) :
    Calls Try.prog 91 #[.slice (some ⟨b, 0, none⟩) n c, .int .i64 i, .slice (some ⟨vb, voff, none⟩) 1 vc] w fun e w' =>
      ∃ ROW : Array Value, (n + 1) * 5 ≤ ROW.size ∧ (∀ (j : Nat) (v : Value), (cs.take (i * 5))[j]? = some v → ROW[j]? = some v) ∧ e = .returned (.slice (some ⟨w.heap.size, 0, none⟩) (n + 1) (grownCap w (n + 1) c 101)) ∧
        w' = (((w.alloc (.cells ROW 101)).drew.setCells w.heap.size (i * 5) vs).drew).setCells w.heap.size ((i + 1) * 5) (cs.drop (i * 5)) := by
  have tS : Try.prog.underlying 94 = some (.slice 101) := by kernel_rfl
  have tV : Try.prog.underlying 93 = some (.slice 101) := by kernel_rfl
  have tI : Try.prog.underlying 3 = some (.int .i64) := by kernel_rfl
  have uS := run_underlying tS
  have uV := run_underlying tV
  have uI := run_underlying tI
  have mixed : Try.prog.follows .mixedOrders = true := mix
  obtain ⟨i0, z, hi0, hzs, hz0, hzc, hzb⟩ := infB_ok (P := Try.prog) (e := 101) (es := 5) (by kernel_rfl)
  have hsz : (Try.prog.info? 101).map (·.size) = some 5 := by rw [hi0]; simp [hzs]
  have hz2 : ¬ ((i : Int) = (n : Int)) := by omega
  have hz3 : (c : Int) < (n : Int) + 1 := by omega
  have hbw : b < w.heap.size := block_lt_of_cell (hcs 0 _ (List.getElem?_eq_getElem (by omega)))
  have hvw : vb < w.heap.size := block_lt_of_cell (hvs 0 _ (List.getElem?_eq_getElem (by omega)))
  have hwk : IntKind.i64.wrap ((n : Int) + 1 - (i : Int)) = ((n + 1 - i : Nat) : Int) := by rw [IntKind.wrap_i64]; omega
  have hik : i + (n + 1 - i) = n + 1 := by omega
  have hold : (Builtin.firstCells i0.size i (.slice (some ⟨b, 0, none⟩) i c)).run Try.prog w.drew = .ok (cs.take (i * 5)).toArray w.drew := by
    rw [hzs]
    exact run_firstCells_some w.drew 5 i ⟨b, 0, none⟩ i c (cs.take (i * 5)) (by rw [List.length_take]; omega) (fun j v hj => by
      rw [Addr.add_lit, Nat.zero_add]
      rw [List.getElem?_take] at hj
      split at hj
      · exact hcs j v hj
      · cases hj)
  have hbk : (n + 1 - i) * i0.bytes ≤ 281474976710656 := by
    have : (n + 1 - i) * i0.bytes ≤ 1000000 * 1000 := Nat.mul_le_mul (by omega) hzb
    omega
  have hrz : ∀ ty, (Builtin.append_ #[94, 3] ty #[.slice (some ⟨b, 0, none⟩) i c, .int .i64 ((n + 1 - i : Nat) : Int)]).run Try.prog w =
      .ok (.slice (some ⟨w.heap.size, 0, none⟩) (n + 1) (grownCap w (n + 1) c 101)) (w.drew.alloc (.cells ((cs.take (i * 5)).toArray ++ Builtin.zeroCells z.cells (n + 1 - i) ++ Builtin.zeroCells z.cells (grownCap w (n + 1) c 101 - (n + 1))) 101)) := fun ty => by
    have h := Lib.run_append_grow_zeros w 94 3 ty 101 i0 z .i64 .i64 tS tI hi0 hz0 (some ⟨b, 0, none⟩) i c (cs.take (i * 5)) hold (n + 1 - i) (by omega) (by omega) (by omega) (by omega) hbk (by rw [hik]; exact growslice_fits hroom (grown_bound hbig hzb))
    rw [hik] at h
    exact h
  obtain ⟨G, hG⟩ : ∃ G, G = grownCap w (n + 1) c 101 := ⟨_, rfl⟩
  obtain ⟨ROW, hROW⟩ : ∃ ROW : Array Value, ROW = (cs.take (i * 5)).toArray ++ Builtin.zeroCells z.cells (n + 1 - i) ++ Builtin.zeroCells z.cells (G - (n + 1)) := ⟨_, rfl⟩
  rw [← hG] at hrz ⊢
  rw [← hROW] at hrz
  have hRl : (n + 1) * 5 ≤ ROW.size := by
    rw [hROW]
    simp only [Array.size_append, size_zeroCells, hzc, List.size_toArray, List.length_take]
    omega
  have hRt : ∀ (j : Nat) (v : Value), (cs.take (i * 5))[j]? = some v → ROW[j]? = some v := fun j v h => by
    have hl := (List.getElem?_eq_some_iff.1 h).1
    rw [hROW, Array.append_assoc, Array.getElem?_append_left (by simpa using hl), List.getElem?_toArray]
    exact h
  obtain ⟨W1, hW1⟩ : ∃ W1, W1 = w.drew.alloc (.cells ROW 101) := ⟨_, rfl⟩
  rw [← hW1] at hrz
  have hN : ∀ j, j < (n + 1) * 5 → (W1.cell? ⟨w.heap.size, j, none⟩).isSome = true := fun j hj => by
    rw [hW1, World.cell?_alloc_at (w := w.drew) ROW _ w.heap.size j rfl, Array.getElem?_eq_getElem (by omega)]; rfl
  have hNf : ∀ j, W1.frozen? ⟨w.heap.size, j, none⟩ = false := fun j => by rw [hW1]; exact World.frozen?_alloc_at (w := w.drew) ROW _ w.heap.size j rfl
  have hOb : ∀ j v, w.cell? ⟨b, j, none⟩ = some v → W1.cell? ⟨b, j, none⟩ = some v := fun j v h => by rw [hW1, World.cell?_alloc_past (w := w.drew) _ b j hbw]; exact h
  have hOv : ∀ j v, w.cell? ⟨vb, j, none⟩ = some v → W1.cell? ⟨vb, j, none⟩ = some v := fun j v h => by rw [hW1, World.cell?_alloc_past (w := w.drew) _ vb j hvw]; exact h
  have hmA : Nat.min 1 (n + 1 - i) = 1 := by simp only [Nat.min_def]; split <;> omega
  have hmB : Nat.min (n - i) (n - i) = n - i := Nat.min_self _
  have hcpA : ∀ (W : World), (∀ x, W.cell? x = W1.cell? x) → (∀ x, W.frozen? x = W1.frozen? x) → ∀ ty dc, (Builtin.copy_ #[94, 93] ty #[.slice (some ⟨w.heap.size, i * 5, none⟩) (n + 1 - i) dc, .slice (some ⟨vb, voff, none⟩) 1 vc]).run Try.prog W = .ok (goInt (Nat.min 1 (n + 1 - i))) (W.setCells w.heap.size (i * 5) vs) := fun W hWc hWf ty dc =>
    run_copy_es W _ _ ty 101 5 w.heap.size (i * 5) (n + 1 - i) dc ⟨vb, voff, none⟩ 1 vc vs tS hsz (by rw [hmA, hvl])
      (fun j v hj => by rw [Addr.add_lit, hWc]; exact hOv _ v (hvs j v hj))
      (fun j hj => by rw [hWc]; exact hN _ (by omega)) (fun j hj => by rw [hWf]; exact hNf _) h1v
  have hGn : n + 1 ≤ G := by rw [hG]; exact grownCap_ge w _ _ _
  have hGi : ¬ (G = i) := by omega
  have hGim : ¬ (G = i + 1) := by omega
  have hci : ¬ (c = i) := by omega
  have hbN : b ≠ w.heap.size := by omega
  have hdl : (cs.drop (i * 5)).length = (n - i) * 5 := by rw [List.length_drop, hcl]; omega
  have hcpB : ∀ (W : World), (∀ x, W.cell? x = (W1.setCells w.heap.size (i * 5) vs).cell? x) → (∀ x, W.frozen? x = (W1.setCells w.heap.size (i * 5) vs).frozen? x) → ∀ ty dc sc, (Builtin.copy_ #[94, 94] ty #[.slice (some ⟨w.heap.size, (i + 1) * 5, none⟩) (n - i) dc, .slice (some ⟨b, i * 5, none⟩) (n - i) sc]).run Try.prog W = .ok (goInt (Nat.min (n - i) (n - i))) (W.setCells w.heap.size ((i + 1) * 5) (cs.drop (i * 5))) := fun W hWc hWf ty dc sc =>
    run_copy_es W _ _ ty 101 5 w.heap.size ((i + 1) * 5) (n - i) dc ⟨b, i * 5, none⟩ (n - i) sc (cs.drop (i * 5)) tS hsz (by rw [hmB]; exact hdl)
      (fun j v hj => by
        rw [Addr.add_lit, hWc, World.cell?_setCells_out _ _ _ _ _ (fun h _ => absurd h hbN)]
        exact hOb _ v (hcs (i * 5 + j) v (by rwa [List.getElem?_drop] at hj)))
      (fun j hj => by rw [hWc]; exact isSome_setCells _ _ _ _ (fun t ht => hN _ (by omega)) _ (hN _ (by omega)))
      (fun j hj => by rw [hWf, World.frozen?_setCells]; exact hNf _) (fun v hv => h1c v (List.mem_of_mem_drop hv))
  subst hW1
  have hE1 : ∀ x, ((w.alloc (.cells ROW 101)).drew).cell? x = (w.drew.alloc (.cells ROW 101)).cell? x := fun x => rfl
  have hE2 : ∀ x, ((w.alloc (.cells ROW 101)).drew).frozen? x = (w.drew.alloc (.cells ROW 101)).frozen? x := fun x => rfl
  have hF1 : ∀ x, (((w.alloc (.cells ROW 101)).drew.setCells w.heap.size (i * 5) vs).drew).cell? x = ((w.drew.alloc (.cells ROW 101)).setCells w.heap.size (i * 5) vs).cell? x := fun x => rfl
  have hF2 : ∀ x, (((w.alloc (.cells ROW 101)).drew.setCells w.heap.size (i * 5) vs).drew).frozen? x = ((w.drew.alloc (.cells ROW 101)).setCells w.heap.size (i * 5) vs).frozen? x := fun x => rfl
  have hw1 : IntKind.i64.wrap ((i : Int) + 1) = (i : Int) + 1 := by rw [IntKind.wrap_i64]; omega
  have hwn : IntKind.i64.wrap ((n : Int) + 1) = (n : Int) + 1 := by rw [IntKind.wrap_i64]; omega
  have hb1 : (0 : Int) ≤ (i : Int) + 1 := by omega
  have hin : i ≤ n := by omega
  have htn : ((i : Int) + 1).toNat = i + 1 := by omega
  have hb3 : (i : Int) ≤ (n : Int) := by omega
  have main : Calls Try.prog 91 #[.slice (some ⟨b, 0, none⟩) n c, .int .i64 i, .slice (some ⟨vb, voff, none⟩) 1 vc] w fun e w' =>
      e = .returned (.slice (some ⟨w.heap.size, 0, none⟩) (n + 1) G) ∧ w' = (((w.alloc (.cells ROW 101)).drew.setCells w.heap.size (i * 5) vs).drew).setCells w.heap.size ((i + 1) * 5) (cs.drop (i * 5)) := by
    clear hik hold hROW hG hRl hRt hbk hz0
    go_enter Try.func91, Try.ntmps91
    go_wp2_with (first
      | (at_builtin; refine Lib.wpList_append_run _ rfl _ _ _ _ rfl _ _ rfl rfl _ _ (hrz _) ?_)
      | (at_builtin; refine wpList_copy_runI _ rfl _ _ 94 93 rfl _ _ rfl rfl (hcpA _ hE1 hE2 _ _) ?_))
    go_region_law_o (refine step_copy_runI rfl _ _ 94 94 rfl (.slice (some ⟨w.heap.size, (i + 1) * 5, none⟩) (n - i) (G - (i + 1))) (.slice (some ⟨b, i * 5, none⟩) (n - i) (c - i)) (by simp [Act.eval, Act.put]) (by simp [Act.eval, Act.put]) (hcpB _ hF1 hF2 3 (G - (i + 1)) (c - i)) ?_)
    go_wp2
    go_ret
    first | exact ⟨rfl, rfl⟩ | trace_state
  refine main.mono ?_
  rintro e w' ⟨rfl, rfl⟩
  exact ⟨ROW, hRl, hRt, rfl, rfl⟩
theorem insR91_v : InsRoads Try.prog 91 5 101 := ⟨insS91, insE91, insG91, insW91⟩
end Go.Proofs.Ythmgficajgedlaa
/- That the program's functions yield what the plain ones tell (written by a program of mine). -/
namespace Go.Proofs.Ythmgficajgedlaa
open Go.RowKit
def gc88 : BCode := (.seq (.reg 0 [⟨(some 2), .mv (.const (.bool false)), none, 0⟩] none 0 []) (.seq (.reg 0 [⟨(some 7), .mv (.tmp 0), none, 0⟩, ⟨(some 8), .cl 126 [(.tmp 7)], none, 0⟩, ⟨(some 6), .mv (.tmp 8), none, 0⟩, ⟨(some 9), .ex (.tmp 6) 0, none, 0⟩, ⟨(some 10), .ex (.tmp 6) 1, none, 0⟩, ⟨(some 11), .ex (.tmp 6) 2, none, 0⟩, ⟨(some 3), .mv (.tmp 9), none, 0⟩, ⟨(some 4), .mv (.tmp 10), none, 0⟩, ⟨(some 5), .mv (.tmp 11), none, 0⟩] none 0 []) (.seq (.reg 0 [⟨(some 12), .mv (.tmp 5), none, 0⟩, ⟨(some 13), .bin .eql (.tmp 12) (.const (.int .i64 0)), none, 0⟩, ⟨(some 2), .mv (.tmp 13), none, 0⟩] none 0 []) .ret)))
theorem gc88_ok : compF Try.prog Try.f88 = some (gc88.er, 14, [.tmp 2]) := by unfold gc88; kernel_rfl
set_option maxRecDepth 100000 in
set_option maxHeartbeats 4000000 in
theorem p_mail_key_v (a0 : ByteArray) : CallsO Try.prog 88 [.s a0] V.b (p_mail_key a0) := by
  refine callsO_comp mix Try.func88 gc88_ok fun r H => ?_
  rw [p_mail_key] at H
  conv => whnf
  refine ask_c (p_pres_Split_v _) H rfl rfl (fun v1 H => ?_); conv => whnf
  exact fin0_c (enc := V.b) H (.inr rfl) (.cons (.tmp rfl) (.nil)) rfl rfl
def gc116 : BCode := (.seq (.reg 0 [⟨(some 6), .mv (.const (.bool false)), none, 0⟩] none 0 []) (.seq (.reg 0 [⟨(some 7), .mv (.tmp 1), none, 0⟩, ⟨(some 8), .mv (.tmp 0), none, 0⟩, ⟨(some 9), .bin .leq (.tmp 7) (.tmp 8), none, 0⟩, ⟨(some 10), .mv (.tmp 9), none, 0⟩, ⟨(some 11), .mv (.tmp 0), (some (10, true)), 0⟩, ⟨(some 12), .mv (.tmp 2), (some (10, true)), 0⟩, ⟨(some 13), .bin .leq (.tmp 11) (.tmp 12), (some (10, true)), 0⟩, ⟨(some 14), .pick (.tmp 10) (.tmp 13) (.const (.bool false)), none, 0⟩, ⟨(some 6), .mv (.tmp 14), none, 0⟩] none 0 []) .ret))
theorem gc116_ok : compF Try.prog Try.f116 = some (gc116.er, 15, [.tmp 6]) := by unfold gc116; kernel_rfl
set_option maxRecDepth 100000 in
set_option maxHeartbeats 4000000 in
theorem p_pres_in_v (a0 : Int) (a1 : Int) (a2 : Int) : CallsO Try.prog 116 [.i a0, .i a1, .i a2] V.b (p_pres_in a0 a1 a2) := by
  refine callsO_comp mix Try.func116 gc116_ok fun r H => ?_
  rw [p_pres_in] at H
  conv => whnf
  refine tst_c H (fun b1 H => ?_) (fun b1 H => ?_)
  · conv => whnf
    iterate 3 (refine Tst.T ?_; conv => whnf)
    exact fin0_c (enc := V.b) H (.inr rfl) (.cons (.tmp rfl) (.nil)) rfl rfl
  conv => whnf
  iterate 3 (refine Tst.F ?_; conv => whnf)
  exact fin0_c (enc := V.b) H (.inr rfl) (.cons (.tmp rfl) (.nil)) rfl rfl
def gc63 : BCode := (.seq (.reg 1 [⟨(some 1), .bx (.tmp 0), none, 0⟩, ⟨(some 2), .mv (.const (.int .i64 0)), none, 1⟩] none 0 []) (.seq (.seq (.reg 0 [⟨(some 4), .fa 1 (.tmp 1), none, 0⟩, ⟨(some 5), .ld 1 false (.tmp 4), none, 0⟩, ⟨(some 6), .cl 116 [(.tmp 5), (.const (.int .i64 0)), (.const (.int .i64 4))], none, 0⟩, ⟨(some 7), .un .not (.tmp 6), none, 0⟩, ⟨(some 8), .mv (.tmp 7), none, 0⟩, ⟨(some 9), .fa 2 (.tmp 1), (some (8, false)), 0⟩, ⟨(some 10), .ld 1 false (.tmp 9), (some (8, false)), 0⟩, ⟨(some 11), .cl 116 [(.tmp 10), (.const (.int .i64 (-128))), (.const (.int .i64 127))], (some (8, false)), 0⟩, ⟨(some 12), .un .not (.tmp 11), (some (8, false)), 0⟩, ⟨(some 13), .pick (.tmp 8) (.const (.bool true)) (.tmp 12), none, 0⟩, ⟨(some 14), .mv (.tmp 13), none, 0⟩, ⟨(some 15), .fa 3 (.tmp 1), (some (14, false)), 0⟩, ⟨(some 16), .ld 1 false (.tmp 15), (some (14, false)), 0⟩, ⟨(some 17), .cl 116 [(.tmp 16), (.const (.int .i64 0)), (.const (.int .i64 1099511627776))], (some (14, false)), 0⟩, ⟨(some 18), .un .not (.tmp 17), (some (14, false)), 0⟩, ⟨(some 19), .pick (.tmp 14) (.const (.bool true)) (.tmp 18), none, 0⟩] none 0 []) (.cond (.tmp 19) (.seq (.reg 0 [⟨(some 2), .mv (.const (.int .i64 8)), none, 0⟩] none 0 []) .ret) .skip)) (.seq (.seq (.reg 1 [⟨(some 20), .fa 3 (.tmp 1), none, 0⟩, ⟨(some 21), .ld 1 false (.tmp 20), none, 0⟩, ⟨(some 22), .bd [(.lit (.bool false)), (.lit (.int .i64 0)), (.lit (.int .i64 0)), (.lit (.int .i64 0))] [(3, 1, (.tmp 21))], none, 0⟩, ⟨(some 3), .al (.agg [(.lit (.bool false)), (.lit (.int .i64 0)), (.lit (.int .i64 0)), (.lit (.int .i64 0))]), none, 0⟩, ⟨none, .st 4 (.tmp 3) (.tmp 22), none, 1⟩] none 0 []) (.seq (.reg 0 [⟨(some 23), .fa 0 (.tmp 1), none, 0⟩, ⟨(some 24), .ld 1 false (.tmp 23), none, 0⟩, ⟨(some 25), .un .not (.tmp 24), none, 0⟩, ⟨(some 26), .mv (.tmp 25), none, 0⟩, ⟨(some 27), .ld 4 true (.tmp 1), (some (26, true)), 0⟩, ⟨(some 28), .ld 4 true (.tmp 3), (some (26, true)), 0⟩, ⟨(some 29), .eqa true [0, 1, 1, 1] (.tmp 27) (.tmp 28), (some (26, true)), 0⟩, ⟨(some 30), .pick (.tmp 26) (.tmp 29) (.const (.bool false)), none, 0⟩] none 0 []) (.cond (.tmp 30) (.seq (.reg 0 [⟨(some 2), .mv (.const (.int .i64 4)), none, 0⟩] none 0 []) .ret) .skip))) (.seq (.reg 0 [⟨(some 2), .mv (.const (.int .i64 0)), none, 0⟩] none 0 []) .ret))))
theorem gc63_ok : compF Try.prog Try.f63 = some (gc63.er, 31, [.tmp 2]) := by unfold gc63; kernel_rfl
set_option maxRecDepth 100000 in
set_option maxHeartbeats 4000000 in
theorem p_pres_Check_v (a0 : PresPres) : CallsO Try.prog 63 [.agg [.b a0.On, .i a0.Show, .i a0.Prio, .i a0.Seq]] V.i (p_pres_Check a0) := by
  refine callsO_comp mix Try.func63 gc63_ok fun r H => ?_
  rw [p_pres_Check] at H
  conv => whnf
  refine ask_c (p_pres_in_v _ _ _) H rfl rfl (fun v1 H => ?_); conv => whnf
  refine Tst.not ?_
  refine tst_d H (fun b2 H => ?_) (fun b2 H => ?_)
  · conv => whnf
    iterate 10 (refine Tst.T ?_; conv => whnf)
    exact fin0_c (enc := V.i) H (.inr rfl) (.cons (.tmp rfl) (.nil)) rfl rfl
  conv => whnf
  iterate 2 (refine Tst.F ?_; conv => whnf)
  refine ask_c (p_pres_in_v _ _ _) H rfl rfl (fun v3 H => ?_); conv => whnf
  iterate 2 (refine Tst.F ?_; conv => whnf)
  refine Tst.not ?_
  refine tst_d H (fun b4 H => ?_) (fun b4 H => ?_)
  · conv => whnf
    iterate 5 (refine Tst.T ?_; conv => whnf)
    exact fin0_c (enc := V.i) H (.inr rfl) (.cons (.tmp rfl) (.nil)) rfl rfl
  conv => whnf
  iterate 2 (refine Tst.F ?_; conv => whnf)
  refine ask_c (p_pres_in_v _ _ _) H rfl rfl (fun v5 H => ?_); conv => whnf
  iterate 2 (refine Tst.F ?_; conv => whnf)
  refine Tst.not ?_
  refine tst_d H (fun b6 H => ?_) (fun b6 H => ?_)
  · conv => whnf
    exact fin0_c (enc := V.i) H (.inr rfl) (.cons (.tmp rfl) (.nil)) rfl rfl
  conv => whnf
  refine ⟨Nat.le_of_ble_eq_true rfl, ?_⟩; conv => whnf
  refine Tst.not ?_
  refine tst_c H (fun b7 H => ?_) (fun b7 H => ?_)
  · conv => whnf
    iterate 4 (refine Tst.F ?_; conv => whnf)
    exact fin0_c (enc := V.i) H (.inr rfl) (.cons (.tmp rfl) (.nil)) rfl rfl
  conv => whnf
  iterate 3 (refine Tst.T ?_; conv => whnf)
  refine Tst.not ?_
  refine tst_c H (fun b8 H => ?_) (fun b8 H => ?_)
  · conv => whnf
    exact fin0_c (enc := V.i) H (.inr rfl) (.cons (.tmp rfl) (.nil)) rfl rfl
  conv => whnf
  exact fin0_c (enc := V.i) H (.inr rfl) (.cons (.tmp rfl) (.nil)) rfl rfl
def gc48 : BCode := (.seq (.reg 0 [⟨(some 2), .mv (.const (.int .i64 0)), none, 0⟩] none 0 []) (.seq (.reg 0 [⟨(some 3), .mv (.const (.int .i64 0)), none, 0⟩] none 0 []) (.seq (.seq (.reg 0 [⟨(some 6), .mv (.tmp 0), none, 0⟩, ⟨(some 7), .lens (.tmp 6), none, 0⟩, ⟨(some 8), .mv (.const (.int .i64 0)), none, 0⟩] none 0 []) (.block 0 (.loop (.seq (.reg 0 [⟨(some 9), .bin .lss (.tmp 8) (.tmp 7), none, 0⟩] none 0 []) (.seq (.cond (.tmp 9) .skip (.exit 0)) (.seq (.block 1 (.seq (.reg 1 [⟨(some 10), .ixs 5 (.tmp 6) (.tmp 8), none, 0⟩, ⟨(some 11), .ld 5 true (.tmp 10), none, 0⟩, ⟨(some 5), .al (.agg [(.lit (.string ⟨#[]⟩)), (.lit (.bool false)), (.lit (.int .i64 0)), (.lit (.int .i64 0)), (.lit (.int .i64 0))]), none, 0⟩, ⟨none, .st 5 (.tmp 5) (.tmp 11), none, 1⟩] none 0 []) (.seq (.reg 0 [⟨(some 12), .fa 1 (.tmp 5), none, 0⟩, ⟨(some 13), .fa 0 (.tmp 12), none, 0⟩, ⟨(some 14), .ld 1 false (.tmp 13), none, 0⟩, ⟨(some 15), .un .not (.tmp 14), none, 0⟩] none 0 []) (.cond (.tmp 15) (.reg 0 [⟨(some 16), .mv (.tmp 3), none, 0⟩, ⟨(some 17), .bin .add (.tmp 16) (.const (.int .i64 1)), none, 0⟩, ⟨(some 3), .mv (.tmp 17), none, 0⟩] none 0 []) .skip)))) (.reg 0 [⟨(some 18), .bin .add (.tmp 8) (.const (.int .i64 1)), none, 0⟩, ⟨(some 8), .mv (.tmp 18), none, 0⟩] none 0 []))))))) (.seq (.reg 0 [⟨(some 19), .mv (.tmp 3), none, 0⟩, ⟨(some 2), .mv (.tmp 19), none, 0⟩] none 0 []) .ret))))
theorem gc48_ok : compF Try.prog Try.f48 = some (gc48.er, 20, [.tmp 2]) := by unfold gc48; kernel_rfl
set_option maxRecDepth 100000 in
set_option maxHeartbeats 4000000 in
theorem p_mail_Off_v {u1 : Bool} (a0 : List MailEntry) : CallsO Try.prog 48 [.sl (List.map MailEntry.v a0) u1] V.i (p_mail_Off a0) := by
  refine callsO_comp mix Try.func48 gc48_ok fun r H => ?_
  rw [p_mail_Off] at H
  conv => whnf
  refine LenQ.M ?_; conv => whnf
  obtain ⟨o2, HL3, HQ4⟩ := bind_c H
  refine loop_c [3, 8] [5, 9, 10, 11, 12, 13, 14, 15, 16, 17, 18] [5, 9, 10, 11, 12, 13, 14, 15, 16, 17, 18] (fun n vals st => (∃ y6 y7, p_mail_Off_l1  a0 (a0.length : Int) n y6 y7 = some o2 ∧ vals = [.i y6, .i y7] ∧ st = [])) fuel 0 [] (⟨_, _, HL3, rfl, rfl⟩) (Nat.zero_le _) rfl (by kernel_rfl) (by kernel_rfl) rfl trivial ?_
  rintro (_ | n5) _ _ (⟨y6, y7, H, rfl, rfl⟩)
  · rw [p_mail_Off_l1] at H; cases H
  rw [p_mail_Off_l1] at H
  conv => whnf
  refine tst_d H (fun b8 H => ?_) (fun b8 H => ?_)
  · conv => whnf
    obtain rfl := Option.some.inj H
    have H := HQ4
    try dsimp only at H
    exact fin0_c (enc := V.i) H (.inr rfl) (.cons (.tmp rfl) (.nil)) rfl rfl
  conv => whnf
  refine ixs_c (f := MailEntry.v) H (fun _ => rfl) (fun x9 H => ?_); conv => whnf
  refine ⟨Nat.le_of_ble_eq_true rfl, ?_⟩; conv => whnf
  refine Tst.not ?_
  refine tst_c H (fun b10 H => ?_) (fun b10 H => ?_)
  · conv => whnf
    refine Ari.w ?_; conv => whnf
    exact again_c [5, 9, 10, 11, 12, 13, 14, 15, 16, 17, 18] n5 0 [] (⟨_, _, H, rfl, rfl⟩) (Nat.lt_succ_self _) (Nat.zero_le _) rfl (by kernel_rfl) (by kernel_rfl) rfl trivial
  conv => whnf
  iterate 2 (refine Ari.w ?_; conv => whnf)
  exact again_c [5, 9, 10, 11, 12, 13, 14, 15, 16, 17, 18] n5 0 [] (⟨_, _, H, rfl, rfl⟩) (Nat.lt_succ_self _) (Nat.zero_le _) rfl (by kernel_rfl) (by kernel_rfl) rfl trivial
def gc85 : BCode := (.seq (.reg 0 [⟨(some 4), .mv (.const (.int .i64 0)), none, 0⟩] none 0 []) (.seq (.reg 0 [⟨(some 5), .mv (.const (.int .i64 (-1))), none, 0⟩] none 0 []) (.seq .skip (.seq (.seq (.reg 0 [⟨(some 8), .mv (.tmp 0), none, 0⟩, ⟨(some 9), .lens (.tmp 8), none, 0⟩, ⟨(some 10), .mv (.const (.int .i64 0)), none, 0⟩] none 0 []) (.block 0 (.loop (.seq (.reg 0 [⟨(some 11), .bin .lss (.tmp 10) (.tmp 9), none, 0⟩] none 0 []) (.seq (.cond (.tmp 11) .skip (.exit 0)) (.seq (.block 1 (.seq (.reg 1 [⟨(some 12), .mv (.tmp 10), none, 0⟩, ⟨(some 13), .ixs 5 (.tmp 8) (.tmp 10), none, 0⟩, ⟨(some 14), .ld 5 true (.tmp 13), none, 0⟩, ⟨(some 7), .al (.agg [(.lit (.string ⟨#[]⟩)), (.lit (.bool false)), (.lit (.int .i64 0)), (.lit (.int .i64 0)), (.lit (.int .i64 0))]), none, 0⟩, ⟨(some 6), .mv (.tmp 12), none, 1⟩, ⟨none, .st 5 (.tmp 7) (.tmp 14), none, 1⟩] none 0 []) (.seq (.reg 0 [⟨(some 15), .fa 0 (.tmp 7), none, 0⟩, ⟨(some 16), .ld 1 false (.tmp 15), none, 0⟩, ⟨(some 17), .mv (.tmp 1), none, 0⟩, ⟨(some 18), .bin .eql (.tmp 16) (.tmp 17), none, 0⟩] none 0 []) (.cond (.tmp 18) (.seq (.reg 0 [⟨(some 19), .mv (.tmp 6), none, 0⟩, ⟨(some 5), .mv (.tmp 19), none, 0⟩] none 0 []) (.exit 0)) .skip)))) (.reg 0 [⟨(some 20), .bin .add (.tmp 10) (.const (.int .i64 1)), none, 0⟩, ⟨(some 10), .mv (.tmp 20), none, 0⟩] none 0 []))))))) (.seq (.reg 0 [⟨(some 21), .mv (.tmp 5), none, 0⟩, ⟨(some 4), .mv (.tmp 21), none, 0⟩] none 0 []) .ret)))))
theorem gc85_ok : compF Try.prog Try.f85 = some (gc85.er, 22, [.tmp 4]) := by unfold gc85; kernel_rfl
set_option maxRecDepth 100000 in
set_option maxHeartbeats 4000000 in
theorem p_mail_Find_v {u1 : Bool} (a0 : List MailEntry) (a1 : ByteArray) : CallsO Try.prog 85 [.sl (List.map MailEntry.v a0) u1, .s a1] V.i (p_mail_Find a0 a1) := by
  refine callsO_comp mix Try.func85 gc85_ok fun r H => ?_
  rw [p_mail_Find] at H
  conv => whnf
  refine LenQ.M ?_; conv => whnf
  obtain ⟨o2, HL3, HQ4⟩ := bind_c H
  refine loop_c [5, 10] [6, 7, 11, 12, 13, 14, 15, 16, 17, 18, 19, 20] [6, 7, 11, 12, 13, 14, 15, 16, 17, 18, 19, 20] (fun n vals st => (∃ y6 y7, p_mail_Find_l1  a1 a0 (a0.length : Int) n y6 y7 = some o2 ∧ vals = [.i y6, .i y7] ∧ st = [])) fuel 0 [] (⟨_, _, HL3, rfl, rfl⟩) (Nat.zero_le _) rfl (by kernel_rfl) (by kernel_rfl) rfl trivial ?_
  rintro (_ | n5) _ _ (⟨y6, y7, H, rfl, rfl⟩)
  · rw [p_mail_Find_l1] at H; cases H
  rw [p_mail_Find_l1] at H
  conv => whnf
  refine tst_d H (fun b8 H => ?_) (fun b8 H => ?_)
  · conv => whnf
    obtain rfl := Option.some.inj H
    have H := HQ4
    try dsimp only at H
    exact fin0_c (enc := V.i) H (.inr rfl) (.cons (.tmp rfl) (.nil)) rfl rfl
  conv => whnf
  refine ixs_c (f := MailEntry.v) H (fun _ => rfl) (fun x9 H => ?_); conv => whnf
  refine ⟨Nat.le_of_ble_eq_true rfl, ?_⟩; conv => whnf
  refine tst_c H (fun b10 H => ?_) (fun b10 H => ?_)
  · conv => whnf
    obtain rfl := Option.some.inj H
    have H := HQ4
    try dsimp only at H
    exact fin0_c (enc := V.i) H (.inr rfl) (.cons (.tmp rfl) (.nil)) rfl rfl
  conv => whnf
  refine Ari.w ?_; conv => whnf
  exact again_c [6, 7, 11, 12, 13, 14, 15, 16, 17, 18, 19, 20] n5 0 [] (⟨_, _, H, rfl, rfl⟩) (Nat.lt_succ_self _) (Nat.zero_le _) rfl (by kernel_rfl) (by kernel_rfl) rfl trivial
def gc92 : BCode := (.seq (.reg 0 [⟨(some 2), .mv (.const (.bool false)), none, 0⟩] none 0 []) (.seq (.reg 0 [⟨(some 6), .mv (.tmp 0), none, 0⟩, ⟨(some 7), .cl 48 [(.tmp 6)], none, 0⟩, ⟨(some 3), .mv (.tmp 7), none, 0⟩] none 0 []) (.seq (.seq (.reg 0 [⟨(some 8), .mv (.tmp 0), none, 0⟩, ⟨(some 9), .lens (.tmp 8), none, 0⟩, ⟨(some 10), .mv (.const (.int .i64 0)), none, 0⟩] none 0 []) (.block 0 (.loop (.seq (.reg 0 [⟨(some 11), .bin .lss (.tmp 10) (.tmp 9), none, 0⟩] none 0 []) (.seq (.cond (.tmp 11) .skip (.exit 0)) (.seq (.block 1 (.seq (.reg 1 [⟨(some 12), .mv (.tmp 10), none, 0⟩, ⟨(some 13), .ixs 5 (.tmp 8) (.tmp 10), none, 0⟩, ⟨(some 14), .ld 5 true (.tmp 13), none, 0⟩, ⟨(some 5), .al (.agg [(.lit (.string ⟨#[]⟩)), (.lit (.bool false)), (.lit (.int .i64 0)), (.lit (.int .i64 0)), (.lit (.int .i64 0))]), none, 0⟩, ⟨(some 4), .mv (.tmp 12), none, 1⟩, ⟨none, .st 5 (.tmp 5) (.tmp 14), none, 1⟩] none 0 []) (.seq (.reg 0 [⟨(some 15), .fa 1 (.tmp 5), none, 0⟩, ⟨(some 16), .fa 0 (.tmp 15), none, 0⟩, ⟨(some 17), .ld 1 false (.tmp 16), none, 0⟩, ⟨(some 18), .mv (.tmp 4), none, 0⟩, ⟨(some 19), .mv (.tmp 3), none, 0⟩, ⟨(some 20), .bin .geq (.tmp 18) (.tmp 19), none, 0⟩, ⟨(some 21), .binb true (.tmp 17) (.tmp 20), none, 0⟩, ⟨(some 22), .mv (.tmp 21), none, 0⟩, ⟨(some 23), .mv (.tmp 0), (some (22, false)), 0⟩, ⟨(some 24), .fa 0 (.tmp 5), (some (22, false)), 0⟩, ⟨(some 25), .ld 1 false (.tmp 24), (some (22, false)), 0⟩, ⟨(some 26), .cl 85 [(.tmp 23), (.tmp 25)], (some (22, false)), 0⟩, ⟨(some 27), .mv (.tmp 4), (some (22, false)), 0⟩, ⟨(some 28), .bin .neq (.tmp 26) (.tmp 27), (some (22, false)), 0⟩, ⟨(some 29), .pick (.tmp 22) (.const (.bool true)) (.tmp 28), none, 0⟩] none 0 []) (.cond (.tmp 29) (.seq (.reg 0 [⟨(some 2), .mv (.const (.bool false)), none, 0⟩] none 0 []) .ret) .skip)))) (.reg 0 [⟨(some 30), .bin .add (.tmp 10) (.const (.int .i64 1)), none, 0⟩, ⟨(some 10), .mv (.tmp 30), none, 0⟩] none 0 []))))))) (.seq (.reg 0 [⟨(some 2), .mv (.const (.bool true)), none, 0⟩] none 0 []) .ret))))
theorem gc92_ok : compF Try.prog Try.f92 = some (gc92.er, 31, [.tmp 2]) := by unfold gc92; kernel_rfl
set_option maxRecDepth 100000 in
set_option maxHeartbeats 4000000 in
theorem p_mail_State_ordered_v {u1 : Bool} (a0 : List MailEntry) : CallsO Try.prog 92 [.sl (List.map MailEntry.v a0) u1] V.b (p_mail_State_ordered a0) := by
  refine callsO_comp mix Try.func92 gc92_ok fun r H => ?_
  rw [p_mail_State_ordered] at H
  conv => whnf
  refine ask_c (p_mail_Off_v _) H rfl rfl (fun v1 H => ?_); conv => whnf
  refine LenQ.M ?_; conv => whnf
  obtain ⟨o3, HL4, HQ5⟩ := bind_c H
  refine loop_c [2, 10] [4, 5, 11, 12, 13, 14, 15, 16, 17, 18, 19, 20, 21, 22, 23, 24, 25, 26, 27, 28, 29, 30] [4, 5, 11, 12, 13, 14, 15, 16, 17, 18, 19, 20, 21, 22, 23, 24, 25, 26, 27, 28, 29, 30] (fun n vals st => (∃ y7, p_mail_State_ordered_l1  a0 v1 a0 (a0.length : Int) n y7 = some o3 ∧ vals = [.b false, .i y7] ∧ st = [])) fuel 0 [] (⟨_, HL4, rfl, rfl⟩) (Nat.zero_le _) rfl (by kernel_rfl) (by kernel_rfl) rfl trivial ?_
  rintro (_ | n6) _ _ (⟨y7, H, rfl, rfl⟩)
  · rw [p_mail_State_ordered_l1] at H; cases H
  rw [p_mail_State_ordered_l1] at H
  conv => whnf
  refine tst_d H (fun b8 H => ?_) (fun b8 H => ?_)
  · conv => whnf
    obtain rfl := Option.some.inj H
    have H := HQ5
    try dsimp only at H
    exact fin0_c (enc := V.b) H (.inr rfl) (.cons (.tmp rfl) (.nil)) rfl rfl
  conv => whnf
  refine ixs_c (f := MailEntry.v) H (fun _ => rfl) (fun x9 H => ?_); conv => whnf
  refine ⟨Nat.le_of_ble_eq_true rfl, ?_⟩; conv => whnf
  refine tst_c H (fun b10 H => ?_) (fun b10 H => ?_)
  · conv => whnf
    iterate 7 (refine Tst.T ?_; conv => whnf)
    obtain rfl := Option.some.inj H
    have H := HQ5
    try dsimp only at H
    exact fin0_c (enc := V.b) H (.inr rfl) (.cons (.tmp rfl) (.nil)) rfl rfl
  conv => whnf
  iterate 3 (refine Tst.F ?_; conv => whnf)
  refine ask_c (p_mail_Find_v _ _) H rfl rfl (fun v11 H => ?_); conv => whnf
  iterate 3 (refine Tst.F ?_; conv => whnf)
  refine tst_c H (fun b12 H => ?_) (fun b12 H => ?_)
  · conv => whnf
    obtain rfl := Option.some.inj H
    have H := HQ5
    try dsimp only at H
    exact fin0_c (enc := V.b) H (.inr rfl) (.cons (.tmp rfl) (.nil)) rfl rfl
  conv => whnf
  refine Ari.w ?_; conv => whnf
  exact again_c [4, 5, 11, 12, 13, 14, 15, 16, 17, 18, 19, 20, 21, 22, 23, 24, 25, 26, 27, 28, 29, 30] n6 0 [] (⟨_, H, rfl, rfl⟩) (Nat.lt_succ_self _) (Nat.zero_le _) rfl (by kernel_rfl) (by kernel_rfl) rfl trivial
def gc49 : BCode := (.seq (.reg 0 [⟨(some 2), .mv (.const (.int .i64 0)), none, 0⟩] none 0 []) (.seq (.seq (.reg 0 [⟨(some 8), .mv (.tmp 0), none, 0⟩, ⟨(some 9), .lens (.tmp 8), none, 0⟩, ⟨(some 10), .bin .gtr (.tmp 9) (.const (.int .i64 16)), none, 0⟩] none 0 []) (.cond (.tmp 10) (.seq (.reg 0 [⟨(some 2), .mv (.const (.int .i64 5)), none, 0⟩] none 0 []) .ret) .skip)) (.seq (.seq (.reg 0 [⟨(some 11), .mv (.tmp 0), none, 0⟩, ⟨(some 12), .lens (.tmp 11), none, 0⟩, ⟨(some 13), .mv (.const (.int .i64 0)), none, 0⟩] none 0 []) (.block 0 (.loop (.seq (.reg 0 [⟨(some 14), .bin .lss (.tmp 13) (.tmp 12), none, 0⟩] none 0 []) (.seq (.cond (.tmp 14) .skip (.exit 0)) (.seq (.block 1 (.seq (.reg 1 [⟨(some 15), .ixs 5 (.tmp 11) (.tmp 13), none, 0⟩, ⟨(some 16), .ld 5 true (.tmp 15), none, 0⟩, ⟨(some 4), .al (.agg [(.lit (.string ⟨#[]⟩)), (.lit (.bool false)), (.lit (.int .i64 0)), (.lit (.int .i64 0)), (.lit (.int .i64 0))]), none, 0⟩, ⟨none, .st 5 (.tmp 4) (.tmp 16), none, 1⟩] none 0 []) (.seq (.reg 0 [⟨(some 17), .fa 0 (.tmp 4), none, 0⟩, ⟨(some 18), .ld 1 false (.tmp 17), none, 0⟩, ⟨(some 19), .cl 88 [(.tmp 18)], none, 0⟩, ⟨(some 20), .un .not (.tmp 19), none, 0⟩] none 0 []) (.cond (.tmp 20) (.seq (.reg 0 [⟨(some 2), .mv (.const (.int .i64 11)), none, 0⟩] none 0 []) .ret) .skip)))) (.reg 0 [⟨(some 21), .bin .add (.tmp 13) (.const (.int .i64 1)), none, 0⟩, ⟨(some 13), .mv (.tmp 21), none, 0⟩] none 0 []))))))) (.seq (.seq (.reg 0 [⟨(some 22), .mv (.tmp 0), none, 0⟩, ⟨(some 23), .lens (.tmp 22), none, 0⟩, ⟨(some 24), .mv (.const (.int .i64 0)), none, 0⟩] none 0 []) (.block 2 (.loop (.seq (.reg 0 [⟨(some 25), .bin .lss (.tmp 24) (.tmp 23), none, 0⟩] none 0 []) (.seq (.cond (.tmp 25) .skip (.exit 2)) (.seq (.block 3 (.seq (.reg 1 [⟨(some 26), .ixs 5 (.tmp 22) (.tmp 24), none, 0⟩, ⟨(some 27), .ld 5 true (.tmp 26), none, 0⟩, ⟨(some 6), .al (.agg [(.lit (.string ⟨#[]⟩)), (.lit (.bool false)), (.lit (.int .i64 0)), (.lit (.int .i64 0)), (.lit (.int .i64 0))]), none, 0⟩, ⟨none, .st 5 (.tmp 6) (.tmp 27), none, 1⟩] none 0 []) (.seq (.reg 0 [⟨(some 28), .fa 1 (.tmp 6), none, 0⟩, ⟨(some 29), .ld 4 true (.tmp 28), none, 0⟩, ⟨(some 30), .cl 63 [(.tmp 29)], none, 0⟩, ⟨(some 7), .mv (.tmp 30), none, 0⟩] none 0 []) (.seq (.reg 0 [⟨(some 31), .mv (.tmp 7), none, 0⟩, ⟨(some 32), .bin .neq (.tmp 31) (.const (.int .i64 0)), none, 0⟩] none 0 []) (.cond (.tmp 32) (.seq (.reg 0 [⟨(some 33), .mv (.tmp 7), none, 0⟩, ⟨(some 2), .mv (.tmp 33), none, 0⟩] none 0 []) .ret) .skip))))) (.reg 0 [⟨(some 34), .bin .add (.tmp 24) (.const (.int .i64 1)), none, 0⟩, ⟨(some 24), .mv (.tmp 34), none, 0⟩] none 0 []))))))) (.seq (.seq (.reg 0 [⟨(some 35), .mv (.tmp 0), none, 0⟩, ⟨(some 36), .cl 92 [(.tmp 35)], none, 0⟩, ⟨(some 37), .un .not (.tmp 36), none, 0⟩] none 0 []) (.cond (.tmp 37) (.seq (.reg 0 [⟨(some 2), .mv (.const (.int .i64 10)), none, 0⟩] none 0 []) .ret) .skip)) (.seq (.reg 0 [⟨(some 2), .mv (.const (.int .i64 0)), none, 0⟩] none 0 []) .ret))))))
theorem gc49_ok : compF Try.prog Try.f49 = some (gc49.er, 38, [.tmp 2]) := by unfold gc49; kernel_rfl
set_option maxRecDepth 100000 in
set_option maxHeartbeats 4000000 in
theorem p_mail_Check_v {u1 : Bool} (a0 : List MailEntry) : CallsO Try.prog 49 [.sl (List.map MailEntry.v a0) u1] V.i (p_mail_Check a0) := by
  refine callsO_comp mix Try.func49 gc49_ok fun r H => ?_
  rw [p_mail_Check] at H
  conv => whnf
  refine LenQ.M ?_; conv => whnf
  refine tst_c H (fun b1 H => ?_) (fun b1 H => ?_)
  · conv => whnf
    exact fin0_c (enc := V.i) H (.inr rfl) (.cons (.tmp rfl) (.nil)) rfl rfl
  conv => whnf
  refine LenQ.M ?_; conv => whnf
  obtain ⟨o3, HL4, HQ5⟩ := bind_c H
  refine loop_c [2, 13] [4, 14, 15, 16, 17, 18, 19, 20, 21] [4, 14, 15, 16, 17, 18, 19, 20, 21] (fun n vals st => (∃ y7, p_mail_Check_l1  a0 (a0.length : Int) n y7 = some o3 ∧ vals = [.i (0 : Int), .i y7] ∧ st = [])) fuel 0 [] (⟨_, HL4, rfl, rfl⟩) (Nat.zero_le _) rfl (by kernel_rfl) (by kernel_rfl) rfl trivial ?_
  rintro (_ | n6) _ _ (⟨y7, H, rfl, rfl⟩)
  · rw [p_mail_Check_l1] at H; cases H
  rw [p_mail_Check_l1] at H
  conv => whnf
  refine tst_c H (fun b8 H => ?_) (fun b8 H => ?_)
  · conv => whnf
    refine ixs_c (f := MailEntry.v) H (fun _ => rfl) (fun x9 H => ?_); conv => whnf
    refine ⟨Nat.le_of_ble_eq_true rfl, ?_⟩; conv => whnf
    refine ask_c (p_mail_key_v _) H rfl rfl (fun v10 H => ?_); conv => whnf
    refine Tst.not ?_
    refine tst_d H (fun b11 H => ?_) (fun b11 H => ?_)
    · conv => whnf
      obtain rfl := Option.some.inj H
      have H := HQ5
      try dsimp only at H
      exact fin0_c (enc := V.i) H (.inr rfl) (.cons (.tmp rfl) (.nil)) rfl rfl
    conv => whnf
    refine Ari.w ?_; conv => whnf
    exact again_c [4, 14, 15, 16, 17, 18, 19, 20, 21] n6 0 [] (⟨_, H, rfl, rfl⟩) (Nat.lt_succ_self _) (Nat.zero_le _) rfl (by kernel_rfl) (by kernel_rfl) rfl trivial
  conv => whnf
  obtain rfl := Option.some.inj H
  have H := HQ5
  try dsimp only at H
  refine LenQ.M ?_; conv => whnf
  obtain ⟨o13, HL14, HQ15⟩ := bind_c H
  refine loop_c [2, 24] [6, 7, 25, 26, 27, 28, 29, 30, 31, 32, 33, 34] [6, 7, 25, 26, 27, 28, 29, 30, 31, 32, 33, 34] (fun n vals st => (∃ y17, p_mail_Check_l2  a0 (a0.length : Int) n y17 = some o13 ∧ vals = [.i (0 : Int), .i y17] ∧ st = [])) fuel 0 [] (⟨_, HL14, rfl, rfl⟩) (Nat.zero_le _) rfl (by kernel_rfl) (by kernel_rfl) rfl trivial ?_
  rintro (_ | n16) _ _ (⟨y17, H, rfl, rfl⟩)
  · rw [p_mail_Check_l2] at H; cases H
  rw [p_mail_Check_l2] at H
  conv => whnf
  refine tst_d H (fun b18 H => ?_) (fun b18 H => ?_)
  · conv => whnf
    obtain rfl := Option.some.inj H
    have H := HQ15
    try dsimp only at H
    refine ask_c (p_mail_State_ordered_v _) H rfl rfl (fun v22 H => ?_); conv => whnf
    refine Tst.not ?_
    refine tst_c H (fun b23 H => ?_) (fun b23 H => ?_)
    · conv => whnf
      exact fin0_c (enc := V.i) H (.inr rfl) (.cons (.tmp rfl) (.nil)) rfl rfl
    conv => whnf
    exact fin0_c (enc := V.i) H (.inr rfl) (.cons (.tmp rfl) (.nil)) rfl rfl
  conv => whnf
  refine ixs_c (f := MailEntry.v) H (fun _ => rfl) (fun x19 H => ?_); conv => whnf
  refine ⟨Nat.le_of_ble_eq_true rfl, ?_⟩; conv => whnf
  refine ask_c (p_pres_Check_v _) H rfl rfl (fun v20 H => ?_); conv => whnf
  refine tst_c H (fun b21 H => ?_) (fun b21 H => ?_)
  · conv => whnf
    obtain rfl := Option.some.inj H
    have H := HQ15
    try dsimp only at H
    exact fin0_c (enc := V.i) H (.inr rfl) (.cons (.tmp rfl) (.nil)) rfl rfl
  conv => whnf
  refine Ari.w ?_; conv => whnf
  exact again_c [6, 7, 25, 26, 27, 28, 29, 30, 31, 32, 33, 34] n16 0 [] (⟨_, H, rfl, rfl⟩) (Nat.lt_succ_self _) (Nat.zero_le _) rfl (by kernel_rfl) (by kernel_rfl) rfl trivial
def gc89 : BCode := (.seq (.reg 2 [⟨(some 2), .bx (.tmp 0), none, 0⟩, ⟨(some 3), .bx (.tmp 1), none, 1⟩, ⟨(some 4), .mv (.const (.bool false)), none, 2⟩] none 0 []) (.seq (.reg 0 [⟨(some 5), .fa 3 (.tmp 3), none, 0⟩, ⟨(some 6), .ld 1 false (.tmp 5), none, 0⟩, ⟨(some 7), .fa 3 (.tmp 2), none, 0⟩, ⟨(some 8), .ld 1 false (.tmp 7), none, 0⟩, ⟨(some 9), .bin .lss (.tmp 6) (.tmp 8), none, 0⟩, ⟨(some 4), .mv (.tmp 9), none, 0⟩] none 0 []) .ret))
theorem gc89_ok : compF Try.prog Try.f89 = some (gc89.er, 10, [.tmp 4]) := by unfold gc89; kernel_rfl
set_option maxRecDepth 100000 in
set_option maxHeartbeats 4000000 in
theorem p_pres_Newer_v (a0 : PresPres) (a1 : PresPres) : CallsO Try.prog 89 [.agg [.b a0.On, .i a0.Show, .i a0.Prio, .i a0.Seq], .agg [.b a1.On, .i a1.Show, .i a1.Prio, .i a1.Seq]] V.b (p_pres_Newer a0 a1) := by
  refine callsO_comp mix Try.func89 gc89_ok fun r H => ?_
  rw [p_pres_Newer] at H
  conv => whnf
  exact fin0_c (enc := V.b) H (.inr rfl) (.cons (.tmp rfl) (.nil)) rfl rfl
end Go.Proofs.Ythmgficajgedlaa
/- That the program's functions yield what the plain ones tell (written by a program of mine). -/
namespace Go.Proofs.Ythmgficajgedlaa
open Go.RowKit
def gc45 : BCode := (.seq (.reg 1 [⟨(some 5), .bx (.tmp 2), none, 0⟩, ⟨(some 6), .mv (.const (.slice none 0 0)), none, 1⟩, ⟨(some 7), .mv (.const (.int .i64 0)), none, 1⟩] none 0 []) (.seq (.reg 0 [⟨(some 13), .mv (.tmp 0), none, 0⟩, ⟨(some 14), .cl 87 [(.tmp 13)], none, 0⟩, ⟨(some 8), .mv (.tmp 14), none, 0⟩] none 1 []) (.seq (.seq (.reg 0 [⟨(some 15), .mv (.tmp 0), none, 0⟩, ⟨(some 16), .cl 49 [(.tmp 15)], none, 0⟩, ⟨(some 9), .mv (.tmp 16), none, 0⟩] none 0 []) (.seq (.reg 0 [⟨(some 17), .mv (.tmp 9), none, 0⟩, ⟨(some 18), .bin .neq (.tmp 17) (.const (.int .i64 0)), none, 0⟩] none 0 []) (.cond (.tmp 18) (.seq (.reg 0 [⟨(some 19), .mv (.tmp 8), none, 0⟩, ⟨(some 20), .mv (.tmp 9), none, 0⟩, ⟨(some 6), .mv (.tmp 19), none, 0⟩, ⟨(some 7), .mv (.tmp 20), none, 0⟩] none 0 []) .ret) .skip))) (.seq (.seq (.reg 0 [⟨(some 21), .mv (.tmp 1), none, 0⟩, ⟨(some 22), .cl 88 [(.tmp 21)], none, 0⟩, ⟨(some 23), .un .not (.tmp 22), none, 0⟩] none 0 []) (.cond (.tmp 23) (.seq (.reg 0 [⟨(some 24), .mv (.tmp 8), none, 0⟩, ⟨(some 6), .mv (.tmp 24), none, 0⟩, ⟨(some 7), .mv (.const (.int .i64 11)), none, 0⟩] none 0 []) .ret) .skip)) (.seq (.seq (.reg 0 [⟨(some 25), .ld 4 true (.tmp 5), none, 0⟩, ⟨(some 26), .cl 63 [(.tmp 25)], none, 0⟩, ⟨(some 10), .mv (.tmp 26), none, 0⟩] none 0 []) (.seq (.reg 0 [⟨(some 27), .mv (.tmp 10), none, 0⟩, ⟨(some 28), .bin .neq (.tmp 27) (.const (.int .i64 0)), none, 0⟩] none 0 []) (.cond (.tmp 28) (.seq (.reg 0 [⟨(some 29), .mv (.tmp 8), none, 0⟩, ⟨(some 30), .mv (.tmp 10), none, 0⟩, ⟨(some 6), .mv (.tmp 29), none, 0⟩, ⟨(some 7), .mv (.tmp 30), none, 0⟩] none 0 []) .ret) .skip))) (.seq (.reg 0 [⟨(some 31), .mv (.tmp 0), none, 0⟩, ⟨(some 32), .mv (.tmp 1), none, 0⟩, ⟨(some 33), .cl 85 [(.tmp 31), (.tmp 32)], none, 0⟩, ⟨(some 11), .mv (.tmp 33), none, 0⟩] none 0 []) (.seq (.block 0 (.seq (.reg 0 [⟨(some 40), .mv (.tmp 11), none, 0⟩, ⟨(some 41), .bin .eql (.tmp 40) (.const (.int .i64 (-1))), none, 0⟩, ⟨(some 39), .mv (.tmp 41), none, 0⟩] none 0 []) (.cond (.tmp 39) (.seq (.reg 0 [⟨(some 42), .mv (.tmp 0), none, 0⟩, ⟨(some 43), .lens (.tmp 42), none, 0⟩, ⟨(some 44), .bin .eql (.tmp 43) (.const (.int .i64 16)), none, 0⟩] none 0 []) (.cond (.tmp 44) (.seq (.reg 0 [⟨(some 45), .mv (.tmp 8), none, 0⟩, ⟨(some 6), .mv (.tmp 45), none, 0⟩, ⟨(some 7), .mv (.const (.int .i64 7)), none, 0⟩] none 0 []) .ret) .skip)) (.seq (.reg 0 [⟨(some 47), .ld 4 true (.tmp 5), none, 0⟩, ⟨(some 48), .mv (.tmp 0), none, 0⟩, ⟨(some 49), .mv (.tmp 11), none, 0⟩, ⟨(some 50), .ixs 5 (.tmp 48) (.tmp 49), none, 0⟩, ⟨(some 51), .fa 1 (.tmp 50), none, 0⟩, ⟨(some 52), .ld 4 true (.tmp 51), none, 0⟩, ⟨(some 53), .cl 89 [(.tmp 47), (.tmp 52)], none, 0⟩, ⟨(some 54), .un .not (.tmp 53), none, 0⟩, ⟨(some 46), .mv (.tmp 54), none, 0⟩] (some [[], [], [], [2, 1], [1, 2, 3], [3, 2, 1, 4], [4, 1, 2, 3, 5, 0], [0, 5, 3, 2, 1, 4, 6], [6, 4, 1, 2, 3, 5, 0, 7]]) 0 []) (.cond (.tmp 46) (.seq (.reg 0 [⟨(some 55), .mv (.tmp 8), none, 0⟩, ⟨(some 6), .mv (.tmp 55), none, 0⟩, ⟨(some 7), .mv (.const (.int .i64 0)), none, 0⟩] none 0 []) .ret) (.seq (.reg 0 [⟨(some 57), .fa 0 (.tmp 5), none, 0⟩, ⟨(some 58), .ld 1 false (.tmp 57), none, 0⟩, ⟨(some 59), .mv (.tmp 0), none, 0⟩, ⟨(some 60), .mv (.tmp 11), none, 0⟩, ⟨(some 61), .ixs 5 (.tmp 59) (.tmp 60), none, 0⟩, ⟨(some 62), .fa 1 (.tmp 61), none, 0⟩, ⟨(some 63), .fa 0 (.tmp 62), none, 0⟩, ⟨(some 64), .ld 1 false (.tmp 63), none, 0⟩, ⟨(some 65), .binb false (.tmp 58) (.tmp 64), none, 0⟩, ⟨(some 56), .mv (.tmp 65), none, 0⟩] (some [[], [0], [], [], [3, 2], [2, 3, 4], [4, 3, 2, 5], [5, 2, 3, 4, 6], [6, 4, 3, 2, 5, 7, 0, 1], [1, 0, 7, 5, 2, 3, 4, 6, 8]]) 0 []) (.cond (.tmp 56) (.seq (.reg 0 [⟨(some 66), .mv (.tmp 8), none, 0⟩, ⟨(some 67), .mv (.tmp 11), none, 0⟩, ⟨(some 68), .ld 4 true (.tmp 5), none, 0⟩, ⟨(some 69), .ixs 5 (.tmp 66) (.tmp 67), none, 0⟩, ⟨(some 70), .fa 1 (.tmp 69), none, 0⟩, ⟨none, .st 4 (.tmp 70) (.tmp 68), none, 0⟩] none 0 []) (.seq (.reg 0 [⟨(some 71), .mv (.tmp 8), none, 0⟩, ⟨(some 6), .mv (.tmp 71), none, 0⟩, ⟨(some 7), .mv (.const (.int .i64 0)), none, 0⟩] none 0 []) .ret)) (.reg 0 [⟨(some 34), .mv (.tmp 8), none, 0⟩, ⟨(some 35), .mv (.tmp 11), none, 0⟩, ⟨(some 36), .mv (.tmp 11), none, 0⟩, ⟨(some 37), .bin .add (.tmp 36) (.const (.int .i64 1)), none, 0⟩, ⟨(some 38), .cl 90 [(.tmp 34), (.tmp 35), (.tmp 37)], none, 0⟩, ⟨(some 8), .mv (.tmp 38), none, 0⟩] none 0 [])))))))) (.seq (.reg 0 [⟨(some 72), .mv (.tmp 8), none, 0⟩, ⟨(some 73), .lens (.tmp 72), none, 0⟩, ⟨(some 12), .mv (.tmp 73), none, 0⟩] none 0 []) (.seq (.seq (.reg 0 [⟨(some 74), .fa 0 (.tmp 5), none, 0⟩, ⟨(some 75), .ld 1 false (.tmp 74), none, 0⟩, ⟨(some 76), .un .not (.tmp 75), none, 0⟩] none 0 []) (.cond (.tmp 76) (.reg 0 [⟨(some 77), .mv (.tmp 8), none, 0⟩, ⟨(some 78), .cl 48 [(.tmp 77)], none, 0⟩, ⟨(some 12), .mv (.tmp 78), none, 0⟩] none 0 []) .skip)) (.seq (.reg 1 [⟨(some 79), .mv (.tmp 8), none, 0⟩, ⟨(some 80), .mv (.tmp 12), none, 0⟩, ⟨(some 81), .mv (.tmp 1), none, 0⟩, ⟨(some 82), .ld 4 true (.tmp 5), none, 0⟩, ⟨(some 83), .bd [(.lit (.string ⟨#[]⟩)), (.lit (.bool false)), (.lit (.int .i64 0)), (.lit (.int .i64 0)), (.lit (.int .i64 0))] [(0, 1, (.tmp 81)), (1, 4, (.tmp 82))], none, 0⟩, ⟨(some 84), .bs 5 1 [(.lit (.string ⟨#[]⟩)), (.lit (.bool false)), (.lit (.int .i64 0)), (.lit (.int .i64 0)), (.lit (.int .i64 0))] [(0, (.tmp 83))], none, 0⟩, ⟨(some 85), .cl 91 [(.tmp 79), (.tmp 80), (.tmp 84)], none, 1⟩, ⟨(some 6), .mv (.tmp 85), none, 1⟩, ⟨(some 7), .mv (.const (.int .i64 0)), none, 1⟩] none 0 []) .ret))))))))))
theorem gc45_ok : compF Try.prog Try.f45 = some (gc45.er, 86, [.tmp 6, .tmp 7]) := by unfold gc45; kernel_rfl
set_option maxRecDepth 100000 in
set_option maxHeartbeats 4000000 in
theorem p_mail_Put_v {u1 : Bool} (a0 : List MailEntry) (a1 : ByteArray) (a2 : PresPres) : CallsO Try.prog 45 [.sl (List.map MailEntry.v a0) u1, .s a1, .agg [.b a2.On, .i a2.Show, .i a2.Prio, .i a2.Seq]] (fun r : (List MailEntry) × Int => .tup [(fun l : List MailEntry => V.sl (l.map MailEntry.v) false) r.1, V.i r.2]) (p_mail_Put a0 a1 a2) := by
  refine callsO_comp mix Try.func45 gc45_ok fun r H => ?_
  rw [p_mail_Put] at H
  conv => whnf
  refine clone_c (f := MailEntry.v) (id := 1) cloR87_v H (fun _ => rfl) (fun _ => rfl) rfl (fun H => ?_) (fun l1 H => ?_)
  · conv => whnf
    refine ask_c (p_mail_Check_v _) H rfl rfl (fun v27 H => ?_); conv => whnf
    refine tst_c H (fun b28 H => ?_) (fun b28 H => ?_)
    · conv => whnf
      refine finR_c (enc := (fun r : (List MailEntry) × Int => .tup [(fun l : List MailEntry => V.sl (l.map MailEntry.v) false) r.1, V.i r.2])) H ?_; conv => whnf
      exact ⟨_, .tup (.cons (.c (.slw)) (.cons (.c (.id rfl)) (.nil)))⟩
    conv => whnf
    refine ask_c (p_mail_key_v _) H rfl rfl (fun v29 H => ?_); conv => whnf
    refine Tst.not ?_
    refine tst_d H (fun b30 H => ?_) (fun b30 H => ?_)
    · conv => whnf
      refine finR_c (enc := (fun r : (List MailEntry) × Int => .tup [(fun l : List MailEntry => V.sl (l.map MailEntry.v) false) r.1, V.i r.2])) H ?_; conv => whnf
      exact ⟨_, .tup (.cons (.c (.slw)) (.cons (.c (.id rfl)) (.nil)))⟩
    conv => whnf
    refine ask_c (p_pres_Check_v _) H rfl rfl (fun v31 H => ?_); conv => whnf
    refine tst_c H (fun b32 H => ?_) (fun b32 H => ?_)
    · conv => whnf
      refine finR_c (enc := (fun r : (List MailEntry) × Int => .tup [(fun l : List MailEntry => V.sl (l.map MailEntry.v) false) r.1, V.i r.2])) H ?_; conv => whnf
      exact ⟨_, .tup (.cons (.c (.slw)) (.cons (.c (.id rfl)) (.nil)))⟩
    conv => whnf
    refine ask_c (p_mail_Find_v _ _) H rfl rfl (fun v33 H => ?_); conv => whnf
    refine tst_d H (fun b34 H => ?_) (fun b34 H => ?_)
    · conv => whnf
      refine ixs_c (f := MailEntry.v) H (fun _ => rfl) (fun x40 H => ?_); conv => whnf
      refine ⟨Nat.le_of_ble_eq_true rfl, ?_⟩; conv => whnf
      refine ask_c (p_pres_Newer_v _ _) H rfl rfl (fun v41 H => ?_); conv => whnf
      refine FootQ.mk ⟨rfl, ?_⟩; conv => whnf
      refine Tst.not ?_
      refine tst_d H (fun b42 H => ?_) (fun b42 H => ?_)
      · conv => whnf
        refine finR_c (enc := (fun r : (List MailEntry) × Int => .tup [(fun l : List MailEntry => V.sl (l.map MailEntry.v) false) r.1, V.i r.2])) H ?_; conv => whnf
        exact ⟨_, .tup (.cons (.c (.slw)) (.cons (.c (.id rfl)) (.nil)))⟩
      conv => whnf
      refine ixs_c (f := MailEntry.v) H (fun _ => rfl) (fun x43 H => ?_); conv => whnf
      refine ⟨Nat.le_of_ble_eq_true rfl, ?_⟩; conv => whnf
      refine ⟨Nat.le_of_ble_eq_true rfl, ?_⟩; conv => whnf
      refine FootQ.mk ⟨rfl, ?_⟩; conv => whnf
      refine tst_c H (fun b44 H => ?_) (fun b44 H => ?_)
      · conv => whnf
        exact nil_at H
      conv => whnf
      refine Ari.w ?_; conv => whnf
      exact delN_c H
    conv => whnf
    refine LenQ.M ?_; conv => whnf
    refine tst_c H (fun b35 H => ?_) (fun b35 H => ?_)
    · conv => whnf
      refine finR_c (enc := (fun r : (List MailEntry) × Int => .tup [(fun l : List MailEntry => V.sl (l.map MailEntry.v) false) r.1, V.i r.2])) H ?_; conv => whnf
      exact ⟨_, .tup (.cons (.c (.slw)) (.cons (.c (.id rfl)) (.nil)))⟩
    conv => whnf
    refine LenQ.ok ?_; conv => whnf
    refine Tst.not ?_
    refine tst_c H (fun b36 H => ?_) (fun b36 H => ?_)
    · conv => whnf
      refine askF_c (insN_v (f := MailEntry.v) insR91_v (by decide) (fun _ => rfl) (fun _ => rfl) (fun _ => rfl) _ _ _) H (.cons (.c (.id rfl)) (.cons (.c (.id rfl)) (.cons (.c (fzown (f := MailEntry.v) (l := [(MailEntry.mk a1 a2)]) rfl rfl (fun _ => rfl) (fun _ => rfl))) .nil))) (fun v37 H => ?_); conv => whnf
      exact fin0_c (enc := (fun r : (List MailEntry) × Int => .tup [(fun l : List MailEntry => V.sl (l.map MailEntry.v) false) r.1, V.i r.2])) H (.inr rfl) (.cons (.tmp rfl) (.cons (.tmp rfl) (.nil))) rfl rfl
    conv => whnf
    refine ask_c (p_mail_Off_v _) H rfl rfl (fun v38 H => ?_); conv => whnf
    refine askF_c (insN_v (f := MailEntry.v) insR91_v (by decide) (fun _ => rfl) (fun _ => rfl) (fun _ => rfl) _ _ _) H (.cons (.c (.id rfl)) (.cons (.c (.id rfl)) (.cons (.c (fzown (f := MailEntry.v) (l := [(MailEntry.mk a1 a2)]) rfl rfl (fun _ => rfl) (fun _ => rfl))) .nil))) (fun v39 H => ?_); conv => whnf
    exact fin0_c (enc := (fun r : (List MailEntry) × Int => .tup [(fun l : List MailEntry => V.sl (l.map MailEntry.v) false) r.1, V.i r.2])) H (.inr rfl) (.cons (.tmp rfl) (.cons (.tmp rfl) (.nil))) rfl rfl
  conv => whnf
  refine ask_c (p_mail_Check_v _) H rfl rfl (fun v2 H => ?_); conv => whnf
  refine tst_c H (fun b3 H => ?_) (fun b3 H => ?_)
  · conv => whnf
    refine finRz_c (enc := (fun r : (List MailEntry) × Int => .tup [(fun l : List MailEntry => V.sl (l.map MailEntry.v) false) r.1, V.i r.2])) [1] H ?_; conv => whnf
    refine ⟨Nat.zero_le _, ?_⟩; conv => whnf
    exact ⟨_, .tup (.cons (.c (fzown (f := MailEntry.v) (l := l1) rfl rfl (fun _ => rfl) (fun _ => rfl))) (.cons (.c (.id rfl)) (.nil)))⟩
  conv => whnf
  refine ask_c (p_mail_key_v _) H rfl rfl (fun v4 H => ?_); conv => whnf
  refine Tst.not ?_
  refine tst_d H (fun b5 H => ?_) (fun b5 H => ?_)
  · conv => whnf
    refine finRz_c (enc := (fun r : (List MailEntry) × Int => .tup [(fun l : List MailEntry => V.sl (l.map MailEntry.v) false) r.1, V.i r.2])) [1] H ?_; conv => whnf
    refine ⟨Nat.zero_le _, ?_⟩; conv => whnf
    exact ⟨_, .tup (.cons (.c (fzown (f := MailEntry.v) (l := l1) rfl rfl (fun _ => rfl) (fun _ => rfl))) (.cons (.c (.id rfl)) (.nil)))⟩
  conv => whnf
  refine ask_c (p_pres_Check_v _) H rfl rfl (fun v6 H => ?_); conv => whnf
  refine tst_c H (fun b7 H => ?_) (fun b7 H => ?_)
  · conv => whnf
    refine finRz_c (enc := (fun r : (List MailEntry) × Int => .tup [(fun l : List MailEntry => V.sl (l.map MailEntry.v) false) r.1, V.i r.2])) [1] H ?_; conv => whnf
    refine ⟨Nat.zero_le _, ?_⟩; conv => whnf
    exact ⟨_, .tup (.cons (.c (fzown (f := MailEntry.v) (l := l1) rfl rfl (fun _ => rfl) (fun _ => rfl))) (.cons (.c (.id rfl)) (.nil)))⟩
  conv => whnf
  refine ask_c (p_mail_Find_v _ _) H rfl rfl (fun v8 H => ?_); conv => whnf
  refine tst_c H (fun b9 H => ?_) (fun b9 H => ?_)
  · conv => whnf
    refine LenQ.M ?_; conv => whnf
    refine tst_c H (fun b10 H => ?_) (fun b10 H => ?_)
    · conv => whnf
      refine finRz_c (enc := (fun r : (List MailEntry) × Int => .tup [(fun l : List MailEntry => V.sl (l.map MailEntry.v) false) r.1, V.i r.2])) [1] H ?_; conv => whnf
      refine ⟨Nat.zero_le _, ?_⟩; conv => whnf
      exact ⟨_, .tup (.cons (.c (fzown (f := MailEntry.v) (l := l1) rfl rfl (fun _ => rfl) (fun _ => rfl))) (.cons (.c (.id rfl)) (.nil)))⟩
    conv => whnf
    refine Tst.not ?_
    refine tst_c H (fun b11 H => ?_) (fun b11 H => ?_)
    · conv => whnf
      refine insO_c (f := MailEntry.v) insR91_v H (by decide) (fun _ => rfl) (fun _ => rfl) (fun _ => rfl) rfl rfl rfl (fun v12 H => ?_); conv => whnf
      exact fin0_c (enc := (fun r : (List MailEntry) × Int => .tup [(fun l : List MailEntry => V.sl (l.map MailEntry.v) false) r.1, V.i r.2])) H (.inr rfl) (.cons (.tmp rfl) (.cons (.tmp rfl) (.nil))) rfl rfl
    conv => whnf
    refine askT_c [1] (p_mail_Off_v _) H (.cons (.c (fzown (f := MailEntry.v) (l := l1) rfl rfl (fun _ => rfl) (fun _ => rfl))) (.nil)) (fun _ => rfl) (fun v13 H => ?_); conv => whnf
    refine insO_c (f := MailEntry.v) insR91_v H (by decide) (fun _ => rfl) (fun _ => rfl) (fun _ => rfl) rfl rfl rfl (fun v14 H => ?_); conv => whnf
    exact fin0_c (enc := (fun r : (List MailEntry) × Int => .tup [(fun l : List MailEntry => V.sl (l.map MailEntry.v) false) r.1, V.i r.2])) H (.inr rfl) (.cons (.tmp rfl) (.cons (.tmp rfl) (.nil))) rfl rfl
  conv => whnf
  refine ixs_c (f := MailEntry.v) H (fun _ => rfl) (fun x15 H => ?_); conv => whnf
  refine ⟨Nat.le_of_ble_eq_true rfl, ?_⟩; conv => whnf
  refine ask_c (p_pres_Newer_v _ _) H rfl rfl (fun v16 H => ?_); conv => whnf
  refine FootQ.mk ⟨rfl, ?_⟩; conv => whnf
  refine Tst.not ?_
  refine tst_d H (fun b17 H => ?_) (fun b17 H => ?_)
  · conv => whnf
    refine finRz_c (enc := (fun r : (List MailEntry) × Int => .tup [(fun l : List MailEntry => V.sl (l.map MailEntry.v) false) r.1, V.i r.2])) [1] H ?_; conv => whnf
    refine ⟨Nat.zero_le _, ?_⟩; conv => whnf
    exact ⟨_, .tup (.cons (.c (fzown (f := MailEntry.v) (l := l1) rfl rfl (fun _ => rfl) (fun _ => rfl))) (.cons (.c (.id rfl)) (.nil)))⟩
  conv => whnf
  refine ixs_c (f := MailEntry.v) H (fun _ => rfl) (fun x18 H => ?_); conv => whnf
  refine ⟨Nat.le_of_ble_eq_true rfl, ?_⟩; conv => whnf
  refine ⟨Nat.le_of_ble_eq_true rfl, ?_⟩; conv => whnf
  refine FootQ.mk ⟨rfl, ?_⟩; conv => whnf
  refine tst_c H (fun b19 H => ?_) (fun b19 H => ?_)
  · conv => whnf
    refine ⟨rfl, ixo_c H (fun x20 h21 H => ?_)⟩; conv => whnf
    refine ⟨Nat.zero_le _, sto_c (f := MailEntry.v) (es := 5) h21 (x' := (MailEntry.mk x20.Key a2)) (fun _ => rfl) 1 (by omega) (Nat.le_of_ble_eq_true rfl) (by rfl) ?_⟩; conv => whnf
    refine finRz_c (enc := (fun r : (List MailEntry) × Int => .tup [(fun l : List MailEntry => V.sl (l.map MailEntry.v) false) r.1, V.i r.2])) [1] H ?_; conv => whnf
    refine ⟨Nat.zero_le _, ?_⟩; conv => whnf
    exact ⟨_, .tup (.cons (.c (fzc_made (f := MailEntry.v) (l := (List.set l1 (Int.toNat v8) (MailEntry.mk x20.Key a2))) rfl rfl rfl (by simp) (fun _ => rfl) (fun _ => rfl))) (.cons (.c (.id rfl)) (.nil)))⟩
  conv => whnf
  refine Ari.w ?_; conv => whnf
  refine delO_c (f := MailEntry.v) delR90_v H (fun _ => rfl) (fun _ => rfl) rfl rfl (fun v22 H => ?_); conv => whnf
  refine Tst.not ?_
  refine tst_c H (fun b23 H => ?_) (fun b23 H => ?_)
  · conv => whnf
    refine insO_c (f := MailEntry.v) insR91_v H (by decide) (fun _ => rfl) (fun _ => rfl) (fun _ => rfl) rfl rfl rfl (fun v24 H => ?_); conv => whnf
    exact fin0_c (enc := (fun r : (List MailEntry) × Int => .tup [(fun l : List MailEntry => V.sl (l.map MailEntry.v) false) r.1, V.i r.2])) H (.inr rfl) (.cons (.tmp rfl) (.cons (.tmp rfl) (.nil))) rfl rfl
  conv => whnf
  refine askT_c [1] (p_mail_Off_v _) H (.cons (.c (fzown (f := MailEntry.v) (l := v22) rfl rfl (fun _ => rfl) (fun _ => rfl))) (.nil)) (fun _ => rfl) (fun v25 H => ?_); conv => whnf
  refine insO_c (f := MailEntry.v) insR91_v H (by decide) (fun _ => rfl) (fun _ => rfl) (fun _ => rfl) rfl rfl rfl (fun v26 H => ?_); conv => whnf
  exact fin0_c (enc := (fun r : (List MailEntry) × Int => .tup [(fun l : List MailEntry => V.sl (l.map MailEntry.v) false) r.1, V.i r.2])) H (.inr rfl) (.cons (.tmp rfl) (.cons (.tmp rfl) (.nil))) rfl rfl
def gc82 : BCode := (.seq (.reg 0 [⟨(some 4), .mv (.const (.slice none 0 0)), none, 0⟩, ⟨(some 5), .mv (.const (.int .i64 0)), none, 0⟩] none 0 []) (.seq (.reg 0 [⟨(some 6), .mv (.const (.int .i64 0)), none, 0⟩] none 0 []) (.seq (.seq (.reg 0 [⟨(some 11), .mv (.tmp 1), none, 0⟩, ⟨(some 12), .lens (.tmp 11), none, 0⟩, ⟨(some 13), .mv (.const (.int .i64 0)), none, 0⟩] none 0 []) (.block 0 (.loop (.seq (.reg 0 [⟨(some 14), .bin .lss (.tmp 13) (.tmp 12), none, 0⟩] none 0 []) (.seq (.cond (.tmp 14) .skip (.exit 0)) (.seq (.block 1 (.seq (.reg 1 [⟨(some 15), .ixs 5 (.tmp 11) (.tmp 13), none, 0⟩, ⟨(some 16), .ld 5 true (.tmp 15), none, 0⟩, ⟨(some 8), .al (.agg [(.lit (.string ⟨#[]⟩)), (.lit (.bool false)), (.lit (.int .i64 0)), (.lit (.int .i64 0)), (.lit (.int .i64 0))]), none, 0⟩, ⟨none, .st 5 (.tmp 8) (.tmp 16), none, 1⟩] none 0 []) (.seq (.reg 0 [⟨(some 18), .mv (.tmp 0), none, 0⟩, ⟨(some 19), .fa 0 (.tmp 8), none, 0⟩, ⟨(some 20), .ld 1 false (.tmp 19), none, 0⟩, ⟨(some 21), .fa 1 (.tmp 8), none, 0⟩, ⟨(some 22), .ld 4 true (.tmp 21), none, 0⟩, ⟨(some 23), .cl 45 [(.tmp 18), (.tmp 20), (.tmp 22)], none, 0⟩, ⟨(some 17), .mv (.tmp 23), none, 0⟩, ⟨(some 24), .ex (.tmp 17) 0, none, 0⟩, ⟨(some 25), .ex (.tmp 17) 1, none, 0⟩, ⟨(some 9), .mv (.tmp 24), none, 0⟩, ⟨(some 10), .mv (.tmp 25), none, 0⟩] none 0 []) (.seq (.reg 0 [⟨(some 26), .mv (.tmp 9), none, 0⟩, ⟨(some 0), .mv (.tmp 26), none, 0⟩] none 0 []) (.seq (.reg 0 [⟨(some 27), .mv (.tmp 10), none, 0⟩, ⟨(some 28), .bin .neq (.tmp 27) (.const (.int .i64 0)), none, 0⟩] none 0 []) (.cond (.tmp 28) (.reg 0 [⟨(some 29), .mv (.tmp 6), none, 0⟩, ⟨(some 30), .bin .add (.tmp 29) (.const (.int .i64 1)), none, 0⟩, ⟨(some 6), .mv (.tmp 30), none, 0⟩] none 0 []) .skip)))))) (.reg 0 [⟨(some 31), .bin .add (.tmp 13) (.const (.int .i64 1)), none, 0⟩, ⟨(some 13), .mv (.tmp 31), none, 0⟩] none 0 []))))))) (.seq (.reg 0 [⟨(some 32), .mv (.tmp 0), none, 0⟩, ⟨(some 33), .mv (.tmp 6), none, 0⟩, ⟨(some 4), .mv (.tmp 32), none, 0⟩, ⟨(some 5), .mv (.tmp 33), none, 0⟩] none 0 []) .ret))))
theorem gc82_ok : compF Try.prog Try.f82 = some (gc82.er, 34, [.tmp 4, .tmp 5]) := by unfold gc82; kernel_rfl
set_option maxRecDepth 100000 in
set_option maxHeartbeats 4000000 in
theorem p_mail_Run_v {u1 u2 : Bool} (a0 : List MailEntry) (a1 : List MailEntry) : CallsO Try.prog 82 [.sl (List.map MailEntry.v a0) u1, .sl (List.map MailEntry.v a1) u2] (fun r : (List MailEntry) × Int => .tup [(fun l : List MailEntry => V.sl (l.map MailEntry.v) false) r.1, V.i r.2]) (p_mail_Run a0 a1) := by
  refine callsO_comp mix Try.func82 gc82_ok fun r H => ?_
  rw [p_mail_Run] at H
  conv => whnf
  refine LenQ.M ?_; conv => whnf
  obtain ⟨o2, HL3, HQ4⟩ := bind_c H
  refine loop_c [0, 6, 13] [8, 9, 10, 14, 15, 16, 17, 18, 19, 20, 21, 22, 23, 24, 25, 26, 27, 28, 29, 30, 31] [8, 9, 10, 14, 15, 16, 17, 18, 19, 20, 21, 22, 23, 24, 25, 26, 27, 28, 29, 30, 31] (fun n vals st => (∃ y6 y7 y8, p_mail_Run_l1  a1 (a1.length : Int) n y6 y7 y8 = some o2 ∧ vals = [.sl (List.map MailEntry.v y6) u1, .i y7, .i y8] ∧ st = []) ∨ (∃ y13 y14 y15, p_mail_Run_l1  a1 (a1.length : Int) n y13 y14 y15 = some o2 ∧ vals = [.sl (List.map MailEntry.v y13) false, .i y14, .i y15] ∧ st = [])) fuel 0 [] (.inl (⟨_, _, _, HL3, rfl, rfl⟩)) (Nat.zero_le _) rfl (by kernel_rfl) (by kernel_rfl) rfl trivial ?_
  rintro (_ | n5) _ _ (⟨y6, y7, y8, H, rfl, rfl⟩ | ⟨y13, y14, y15, H, rfl, rfl⟩)
  · rw [p_mail_Run_l1] at H; cases H
  · rw [p_mail_Run_l1] at H; cases H
  · rw [p_mail_Run_l1] at H
    conv => whnf
    refine tst_d H (fun b9 H => ?_) (fun b9 H => ?_)
    · conv => whnf
      obtain rfl := Option.some.inj H
      have H := HQ4
      try dsimp only at H
      refine finR_c (enc := (fun r : (List MailEntry) × Int => .tup [(fun l : List MailEntry => V.sl (l.map MailEntry.v) false) r.1, V.i r.2])) H ?_; conv => whnf
      exact ⟨_, .tup (.cons (.c (.slw)) (.cons (.c (.id rfl)) (.nil)))⟩
    conv => whnf
    refine ixs_c (f := MailEntry.v) H (fun _ => rfl) (fun x10 H => ?_); conv => whnf
    refine ⟨Nat.le_of_ble_eq_true rfl, ?_⟩; conv => whnf
    refine ask_c (p_mail_Put_v _ _ _) H rfl rfl (fun v11 H => ?_); conv => whnf
    refine tst_d H (fun b12 H => ?_) (fun b12 H => ?_)
    · conv => whnf
      refine Ari.w ?_; conv => whnf
      exact again_c [8, 9, 10, 14, 15, 16, 17, 18, 19, 20, 21, 22, 23, 24, 25, 26, 27, 28, 29, 30, 31] n5 0 [] (.inr (⟨_, _, _, H, rfl, rfl⟩)) (Nat.lt_succ_self _) (Nat.zero_le _) rfl (by kernel_rfl) (by kernel_rfl) rfl trivial
    conv => whnf
    iterate 2 (refine Ari.w ?_; conv => whnf)
    exact again_c [8, 9, 10, 14, 15, 16, 17, 18, 19, 20, 21, 22, 23, 24, 25, 26, 27, 28, 29, 30, 31] n5 0 [] (.inr (⟨_, _, _, H, rfl, rfl⟩)) (Nat.lt_succ_self _) (Nat.zero_le _) rfl (by kernel_rfl) (by kernel_rfl) rfl trivial
  rw [p_mail_Run_l1] at H
  conv => whnf
  refine tst_d H (fun b16 H => ?_) (fun b16 H => ?_)
  · conv => whnf
    obtain rfl := Option.some.inj H
    have H := HQ4
    try dsimp only at H
    exact fin0_c (enc := (fun r : (List MailEntry) × Int => .tup [(fun l : List MailEntry => V.sl (l.map MailEntry.v) false) r.1, V.i r.2])) H (.inr rfl) (.cons (.tmp rfl) (.cons (.tmp rfl) (.nil))) rfl rfl
  conv => whnf
  refine ixs_c (f := MailEntry.v) H (fun _ => rfl) (fun x17 H => ?_); conv => whnf
  refine ⟨Nat.le_of_ble_eq_true rfl, ?_⟩; conv => whnf
  refine ask_c (p_mail_Put_v _ _ _) H rfl rfl (fun v18 H => ?_); conv => whnf
  refine tst_d H (fun b19 H => ?_) (fun b19 H => ?_)
  · conv => whnf
    refine Ari.w ?_; conv => whnf
    exact again_c [8, 9, 10, 14, 15, 16, 17, 18, 19, 20, 21, 22, 23, 24, 25, 26, 27, 28, 29, 30, 31] n5 0 [] (.inr (⟨_, _, _, H, rfl, rfl⟩)) (Nat.lt_succ_self _) (Nat.zero_le _) rfl (by kernel_rfl) (by kernel_rfl) rfl trivial
  conv => whnf
  iterate 2 (refine Ari.w ?_; conv => whnf)
  exact again_c [8, 9, 10, 14, 15, 16, 17, 18, 19, 20, 21, 22, 23, 24, 25, 26, 27, 28, 29, 30, 31] n5 0 [] (.inr (⟨_, _, _, H, rfl, rfl⟩)) (Nat.lt_succ_self _) (Nat.zero_le _) rfl (by kernel_rfl) (by kernel_rfl) rfl trivial
def gc47 : BCode := (.seq (.reg 1 [⟨(some 2), .mv (.const (.slice none 0 0)), none, 0⟩, ⟨(some 3), .al (.agg [(.lit (.string ⟨#[]⟩)), (.lit (.bool false)), (.lit (.int .i64 0)), (.lit (.int .i64 0)), (.lit (.int .i64 0))]), none, 0⟩, ⟨(some 4), .mv (.const (.bool false)), none, 1⟩] none 0 []) (.seq (.seq (.reg 0 [⟨(some 5), .mv (.tmp 0), none, 0⟩, ⟨(some 6), .lens (.tmp 5), none, 0⟩, ⟨(some 7), .bin .eql (.tmp 6) (.const (.int .i64 0)), none, 0⟩, ⟨(some 8), .mv (.tmp 7), none, 0⟩, ⟨(some 9), .mv (.tmp 0), (some (8, false)), 0⟩, ⟨(some 10), .cl 49 [(.tmp 9)], (some (8, false)), 0⟩, ⟨(some 11), .bin .neq (.tmp 10) (.const (.int .i64 0)), (some (8, false)), 0⟩, ⟨(some 12), .pick (.tmp 8) (.const (.bool true)) (.tmp 11), none, 0⟩] none 0 []) (.cond (.tmp 12) (.seq (.reg 0 [⟨(some 13), .mv (.tmp 0), none, 0⟩, ⟨(some 14), .bd [(.lit (.string ⟨#[]⟩)), (.lit (.bool false)), (.lit (.int .i64 0)), (.lit (.int .i64 0)), (.lit (.int .i64 0))] [], none, 0⟩, ⟨(some 2), .mv (.tmp 13), none, 0⟩, ⟨none, .st 5 (.tmp 3) (.tmp 14), none, 0⟩, ⟨(some 4), .mv (.const (.bool false)), none, 0⟩] none 0 []) .ret) .skip)) (.seq (.reg 0 [⟨(some 15), .mv (.tmp 0), none, 0⟩, ⟨(some 16), .sls 5 (.tmp 15) (some (.const (.int .i64 1))) none none, none, 0⟩, ⟨(some 17), .mv (.tmp 0), none, 0⟩, ⟨(some 18), .ixs 5 (.tmp 17) (.const (.int .i64 0)), none, 0⟩, ⟨(some 19), .ld 5 true (.tmp 18), none, 0⟩, ⟨(some 2), .mv (.tmp 16), none, 0⟩, ⟨none, .st 5 (.tmp 3) (.tmp 19), none, 0⟩, ⟨(some 4), .mv (.const (.bool true)), none, 0⟩] (some [[], [0], [], [2], [2, 3], [0, 1], [1, 0, 5, 3, 2, 4], [4, 2, 3, 5, 0, 1, 6]]) 0 []) .ret)))
theorem gc47_ok : compF Try.prog Try.f47 = some (gc47.er, 20, [.tmp 2, .cell 3 5 true, .tmp 4]) := by unfold gc47; kernel_rfl
set_option maxRecDepth 100000 in
set_option maxHeartbeats 4000000 in
theorem p_mail_Take_v {u1 : Bool} (a0 : List MailEntry) : CallsO Try.prog 47 [.sl (List.map MailEntry.v a0) u1] (fun r : (List MailEntry) × MailEntry × Bool => .tup [(fun l : List MailEntry => V.sl (l.map MailEntry.v) false) r.1, MailEntry.v r.2.1, V.b r.2.2]) (p_mail_Take a0) := by
  refine callsO_comp mix Try.func47 gc47_ok fun r H => ?_
  rw [p_mail_Take] at H
  conv => whnf
  refine LenQ.M ?_; conv => whnf
  refine tst_c H (fun b1 H => ?_) (fun b1 H => ?_)
  · conv => whnf
    iterate 4 (refine Tst.T ?_; conv => whnf)
    refine ⟨Nat.le_of_ble_eq_true rfl, ?_⟩; conv => whnf
    refine finR_c (enc := (fun r : (List MailEntry) × MailEntry × Bool => .tup [(fun l : List MailEntry => V.sl (l.map MailEntry.v) false) r.1, MailEntry.v r.2.1, V.b r.2.2])) H ?_; conv => whnf
    exact ⟨_, .tup (.cons (.c (.slw)) (.cons (fzagg (.cons (.id rfl) (.cons (.id rfl) (.cons (.id rfl) (.cons (.id rfl) (.cons (.id rfl) (.nil)))))) rfl) (.cons (.c (.id rfl)) (.nil))))⟩
  conv => whnf
  refine Tst.F ?_; conv => whnf
  refine ask_c (p_mail_Check_v _) H rfl rfl (fun v2 H => ?_); conv => whnf
  iterate 2 (refine Tst.F ?_; conv => whnf)
  refine tst_c H (fun b3 H => ?_) (fun b3 H => ?_)
  · conv => whnf
    refine ⟨Nat.le_of_ble_eq_true rfl, ?_⟩; conv => whnf
    refine finR_c (enc := (fun r : (List MailEntry) × MailEntry × Bool => .tup [(fun l : List MailEntry => V.sl (l.map MailEntry.v) false) r.1, MailEntry.v r.2.1, V.b r.2.2])) H ?_; conv => whnf
    exact ⟨_, .tup (.cons (.c (.slw)) (.cons (fzagg (.cons (.id rfl) (.cons (.id rfl) (.cons (.id rfl) (.cons (.id rfl) (.cons (.id rfl) (.nil)))))) rfl) (.cons (.c (.id rfl)) (.nil))))⟩
  conv => whnf
  refine slsE_c (f := MailEntry.v) H (fun _ => rfl) (fun x4 H => ?_); conv => whnf
  refine ixs_c (f := MailEntry.v) H (fun _ => rfl) (fun x5 H => ?_); conv => whnf
  refine ⟨Nat.le_of_ble_eq_true rfl, ?_⟩; conv => whnf
  refine FootQ.mk ⟨rfl, ?_⟩; conv => whnf
  refine finR_c (enc := (fun r : (List MailEntry) × MailEntry × Bool => .tup [(fun l : List MailEntry => V.sl (l.map MailEntry.v) false) r.1, MailEntry.v r.2.1, V.b r.2.2])) H ?_; conv => whnf
  exact ⟨_, .tup (.cons (.c (.slw)) (.cons (fzagg (.cons (.id rfl) (.cons (.id rfl) (.cons (.id rfl) (.cons (.id rfl) (.cons (.id rfl) (.nil)))))) rfl) (.cons (.c (.id rfl)) (.nil))))⟩
def gc129 : BCode := (.seq (.reg 1 [⟨(some 1), .bx (.tmp 0), none, 0⟩, ⟨(some 2), .mv (.const (.string ⟨#[]⟩)), none, 1⟩] none 0 []) (.seq (.reg 0 [⟨(some 7), .fa 0 (.tmp 1), none, 0⟩, ⟨(some 8), .ld 1 false (.tmp 7), none, 0⟩, ⟨(some 9), .cl 126 [(.tmp 8)], none, 0⟩, ⟨(some 6), .mv (.tmp 9), none, 0⟩, ⟨(some 10), .ex (.tmp 6) 0, none, 0⟩, ⟨(some 11), .ex (.tmp 6) 1, none, 0⟩, ⟨(some 12), .ex (.tmp 6) 2, none, 0⟩, ⟨(some 3), .mv (.tmp 10), none, 0⟩, ⟨(some 4), .mv (.tmp 11), none, 0⟩, ⟨(some 5), .mv (.tmp 12), none, 0⟩] none 0 []) (.seq (.reg 0 [⟨(some 13), .mv (.tmp 3), none, 0⟩, ⟨(some 2), .mv (.tmp 13), none, 0⟩] none 0 []) .ret)))
theorem gc129_ok : compF Try.prog Try.f129 = some (gc129.er, 14, [.tmp 2]) := by unfold gc129; kernel_rfl
set_option maxRecDepth 100000 in
set_option maxHeartbeats 4000000 in
theorem p_mail_Entry_user_v (a0 : MailEntry) : CallsO Try.prog 129 [.agg [.s a0.Key, .b a0.P.On, .i a0.P.Show, .i a0.P.Prio, .i a0.P.Seq]] V.s (p_mail_Entry_user a0) := by
  refine callsO_comp mix Try.func129 gc129_ok fun r H => ?_
  rw [p_mail_Entry_user] at H
  conv => whnf
  refine ask_c (p_pres_Split_v _) H rfl rfl (fun v1 H => ?_); conv => whnf
  exact fin0_c (enc := V.s) H (.inr rfl) (.cons (.tmp rfl) (.nil)) rfl rfl
def gc128 : BCode := (.seq (.reg 1 [⟨(some 2), .bx (.tmp 0), none, 0⟩, ⟨(some 3), .mv (.const (.bool false)), none, 1⟩] none 0 []) (.seq (.reg 0 [⟨(some 4), .ld 5 true (.tmp 2), none, 0⟩, ⟨(some 5), .cl 129 [(.tmp 4)], none, 0⟩, ⟨(some 6), .ld 1 false (.tmp 1), none, 0⟩, ⟨(some 7), .bin .eql (.tmp 5) (.tmp 6), none, 0⟩, ⟨(some 3), .mv (.tmp 7), none, 0⟩] (some [[], [0], [], [2, 0, 1], [1, 0, 2, 3]]) 0 []) .ret))
theorem gc128_ok : compF Try.prog Try.f128 = some (gc128.er, 8, [.tmp 3]) := by unfold gc128; kernel_rfl
set_option maxRecDepth 100000 in
set_option maxHeartbeats 4000000 in
theorem p_mail_Drop_1_v (a0 : MailEntry) (c0 : ByteArray) : CallsO Try.prog 128 [.agg [.s a0.Key, .b a0.P.On, .i a0.P.Show, .i a0.P.Prio, .i a0.P.Seq], .eptr [.s c0]] V.b (p_mail_Drop_1 a0 c0) := by
  refine callsO_comp mix Try.func128 gc128_ok fun r H => ?_
  rw [p_mail_Drop_1] at H
  conv => whnf
  refine ask_c (p_mail_Entry_user_v _) H rfl rfl (fun v1 H => ?_); conv => whnf
  refine FootQ.mk ⟨rfl, ?_⟩; conv => whnf
  exact fin0_c (enc := V.b) H (.inr rfl) (.cons (.tmp rfl) (.nil)) rfl rfl
end Go.Proofs.Ythmgficajgedlaa
