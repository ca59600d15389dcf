/- A part of the proof: 4 texts joined. -/
import Derived.Test.YthmgficajgedlaaRcA8
import Derived.Test.YthmgficajgedlaaRcA5
import Derived.KernelRfl
import Derived.Lib.SliceRun
import Derived.Test.YthmgficajgedlaaReA1
set_option linter.all false
/- slices.Clone at function 79. -/
namespace Go.Proofs.Ythmgficajgedlaa
open Go.RowKit Go.Lib
set_option maxHeartbeats 4000000 in
set_option maxRecDepth 100000 in
theorem cloS79 (A : Addr) (n c : Nat) (cs : List Value) (w : World) (hn : 0 < n) (hbig : n ≤ 1000000) (hcl : cs.length = n * 2) (hcs : ∀ j v, cs[j]? = some v → w.cell? (A.add j) = some v) (h1 : ∀ v ∈ cs, v.oneCell' = true) :
    Calls Try.prog 79 #[.slice (some A) n c] w fun e w' => ∃ ZS : Array Value, e = .returned (.slice (some ⟨w.heap.size + 1, 0, none⟩) n (grownCap (w.alloc (.cells #[] 141)) n 0 141)) ∧ w' = (w.alloc (.cells #[] 141)).drew.alloc (.cells (cs.toArray ++ ZS) 141) ∧ grownCap (w.alloc (.cells #[] 141)) n 0 141 * 2 ≤ (cs.toArray ++ ZS).size := by
  have tS : Try.prog.underlying 64 = some (.slice 141) := by kernel_rfl
  have uS := run_underlying tS
  have qS : ∀ (w : World) (a : Option Addr) (n c n' c' : Nat), (binOp .eql 64 (.slice a n c) (.slice none n' c')).run Try.prog w = .ok (.bool a.isNone) w := fun w a n c n' c' => Lib.run_eql_slice_nil w _ _ a n c n' c' tS
  have mixed : Try.prog.follows .mixedOrders = true := mix
  obtain ⟨i0, z, hi0, hzs, hz0, hzc, hzb⟩ := infB_ok (P := Try.prog) (e := 141) (es := 2) (by kernel_rfl)
  have hsrc : Src Try.prog i0.size 64 (.slice (some A) n c) n cs (w.alloc (.cells #[] 141)) := by
    rw [hzs]
    exact Src.ofSlice _ tS A n c cs (by omega) (fun j u hj => Lib.cell?_alloc_some _ (hcs j u hj)) h1
  have hold : (Builtin.firstCells i0.size 0 (.slice (some ⟨w.heap.size, 0, none⟩) 0 0)).run Try.prog (w.alloc (.cells #[] 141)).drew = .ok ([] : List Value).toArray (w.alloc (.cells #[] 141)).drew := by
    rw [hzs]
    exact run_firstCells_some _ 2 0 ⟨w.heap.size, 0, none⟩ 0 0 [] (by simp) (fun j v hj => by simp at hj)
  have hrun : ∀ ty, (Builtin.append_ #[64, 64] ty #[.slice (some ⟨w.heap.size, 0, none⟩) 0 0, .slice (some A) n c]).run Try.prog (w.alloc (.cells #[] 141)) = _ := fun ty =>
    run_append_grow_src (w.alloc (.cells #[] 141)) 64 64 ty 141 i0 z tS hi0 hz0 (some ⟨w.heap.size, 0, none⟩) 0 0 [] hold _ n cs hsrc (by omega) (by omega) (growslice_fits (by omega) (grown_bound (by omega) hzb))
  simp only [Nat.zero_add, List.nil_append, World.size_alloc] at hrun
  have hge := grownCap_ge (w.alloc (.cells #[] 141)) n 0 141
  have hsz : grownCap (w.alloc (.cells #[] 141)) n 0 141 * 2 ≤ (cs.toArray ++ Builtin.zeroCells z.cells (grownCap (w.alloc (.cells #[] 141)) n 0 141 - n)).size := by
    simp only [Array.size_append, size_zeroCells, hzc, List.size_toArray, hcl]
    omega
  obtain ⟨ZS, hrun, hsz⟩ : ∃ ZS : Array Value, (∀ ty, (Builtin.append_ #[64, 64] ty #[.slice (some ⟨w.heap.size, 0, none⟩) 0 0, .slice (some A) n c]).run Try.prog (w.alloc (.cells #[] 141)) = .ok (.slice (some ⟨w.heap.size + 1, 0, none⟩) n (grownCap (w.alloc (.cells #[] 141)) n 0 141)) ((w.alloc (.cells #[] 141)).drew.alloc (.cells (cs.toArray ++ ZS) 141))) ∧ grownCap (w.alloc (.cells #[] 141)) n 0 141 * 2 ≤ (cs.toArray ++ ZS).size := ⟨_, hrun, hsz⟩
  have main : Calls Try.prog 79 #[.slice (some A) n c] w fun e w' => e = .returned (.slice (some ⟨w.heap.size + 1, 0, none⟩) n (grownCap (w.alloc (.cells #[] 141)) n 0 141)) ∧ w' = (w.alloc (.cells #[] 141)).drew.alloc (.cells (cs.toArray ++ ZS) 141) := by
    clear hsz hold hsrc hz0 hcs
    go_enter Try.func79, Try.ntmps79
    go_wp2_with (at_builtin; refine Lib.wpList_append_run _ rfl _ _ _ _ rfl _ _ rfl rfl _ _ (hrun _) ?_)
    go_ret
    exact ⟨rfl, rfl⟩
  refine main.mono ?_
  rintro e w' ⟨rfl, rfl⟩
  exact ⟨ZS, rfl, rfl, hsz⟩
set_option maxHeartbeats 4000000 in
set_option maxRecDepth 100000 in
theorem cloZ79 (A : Addr) (c : Nat) (w : World) : Calls Try.prog 79 #[.slice (some A) 0 c] w fun e w' => e = .returned (.slice (some ⟨w.heap.size, 0, none⟩) 0 0) ∧ ∃ q, w' = (w.alloc (.cells #[] 141)).drewN q := by
  have tS : Try.prog.underlying 64 = some (.slice 141) := by kernel_rfl
  have uS := run_underlying tS
  have qS : ∀ (w : World) (a : Option Addr) (n c n' c' : Nat), (binOp .eql 64 (.slice a n c) (.slice none n' c')).run Try.prog w = .ok (.bool a.isNone) w := fun w a n c n' c' => Lib.run_eql_slice_nil w _ _ a n c n' c' tS
  have mixed : Try.prog.follows .mixedOrders = true := mix
  obtain ⟨i0, z, hi0, hzs, hz0, hzc, hzb⟩ := infB_ok (P := Try.prog) (e := 141) (es := 2) (by kernel_rfl)
  have hsz : (Try.prog.info? 141).map (·.size) = some 2 := by rw [hi0]; simp [hzs]
  have hrun : ∀ ty, (Builtin.append_ #[64, 64] ty #[.slice (some ⟨w.heap.size, 0, none⟩) 0 0, .slice (some A) 0 c]).run Try.prog (w.alloc (.cells #[] 141)) = .ok (.slice (some ⟨w.heap.size, 0, none⟩) 0 0) (w.alloc (.cells #[] 141)) := fun ty => by
    have hl : ∀ (x : Addr) (W : World), (loadCells x 0).run Try.prog W = .ok #[] W := fun x W => by simpa using run_loadCells_list (P := Try.prog) W x [] (by simp)
    simp [Builtin.append_, uS, Builtin.lenOf, Builtin.firstCells, sizeOf, typeInfo, hi0, hl, storeCells]
  have main : Calls Try.prog 79 #[.slice (some A) 0 c] w fun e w' => e = .returned (.slice (some ⟨w.heap.size, 0, none⟩) 0 0) ∧ w' = w.alloc (.cells #[] 141) := by
    go_enter Try.func79, Try.ntmps79
    go_wp2_with (at_builtin; refine Lib.wpList_append_run _ rfl _ _ _ _ rfl _ _ rfl rfl _ _ (hrun _) ?_)
    go_ret
    exact ⟨rfl, rfl⟩
  refine main.mono ?_
  rintro e w' ⟨rfl, rfl⟩
  exact ⟨rfl, 0, rfl⟩
set_option maxHeartbeats 4000000 in
set_option maxRecDepth 100000 in
theorem cloN79 (n c : Nat) (w : World) : Calls Try.prog 79 #[.slice none n c] w fun e w' => e = .returned (.slice none 0 0) ∧ w' = w := by
  have tS : Try.prog.underlying 64 = some (.slice 141) := by kernel_rfl
  have uS := run_underlying tS
  have qS : ∀ (w : World) (a : Option Addr) (n c n' c' : Nat), (binOp .eql 64 (.slice a n c) (.slice none n' c')).run Try.prog w = .ok (.bool a.isNone) w := fun w a n c n' c' => Lib.run_eql_slice_nil w _ _ a n c n' c' tS
  have mixed : Try.prog.follows .mixedOrders = true := mix
  go_enter Try.func79, Try.ntmps79
  go_wp2
  go_ret
  exact ⟨rfl, rfl⟩
theorem cloR79_v : CloRoads Try.prog 79 2 141 := ⟨cloS79, cloZ79, cloN79⟩
end Go.Proofs.Ythmgficajgedlaa
/- That the program's functions yield what the plain ones tell (written by a program of mine). -/
namespace Go.Proofs.Ythmgficajgedlaa
open Go.RowKit
def gc77 : BCode := (.seq (.reg 1 [⟨(some 4), .bx (.tmp 1), none, 0⟩, ⟨(some 6), .mv (.const (.int .i64 0)), none, 1⟩, ⟨(some 7), .mv (.const (.bool false)), none, 1⟩] none 0 []) (.seq (.reg 0 [⟨(some 12), .mv (.tmp 0), none, 0⟩, ⟨(some 13), .lens (.tmp 12), none, 0⟩, ⟨(some 8), .mv (.tmp 13), none, 0⟩] none 0 []) (.seq (.reg 0 [⟨(some 14), .mv (.tmp 8), none, 0⟩, ⟨(some 9), .mv (.const (.int .i64 0)), none, 0⟩, ⟨(some 10), .mv (.tmp 14), none, 0⟩] none 0 []) (.seq (.block 0 (.loop (.seq (.seq (.reg 0 [⟨(some 15), .mv (.tmp 9), none, 0⟩, ⟨(some 16), .mv (.tmp 10), none, 0⟩, ⟨(some 17), .bin .lss (.tmp 15) (.tmp 16), none, 0⟩] none 0 []) (.cond (.tmp 17) .skip (.exit 0))) (.block 1 (.seq (.reg 0 [⟨(some 18), .mv (.tmp 9), none, 0⟩, ⟨(some 19), .mv (.tmp 10), none, 0⟩, ⟨(some 20), .bin .add (.tmp 18) (.tmp 19), none, 0⟩, ⟨(some 21), .cvi .u64 (.tmp 20), none, 0⟩, ⟨(some 22), .bin .shr (.tmp 21) (.const (.int .u64 1)), none, 0⟩, ⟨(some 23), .cvi .i64 (.tmp 22), none, 0⟩, ⟨(some 11), .mv (.tmp 23), none, 0⟩] none 0 []) (.seq (.reg 0 [⟨(some 24), .mv (.tmp 2), none, 0⟩, ⟨(some 25), .mv (.tmp 0), none, 0⟩, ⟨(some 26), .mv (.tmp 11), none, 0⟩, ⟨(some 27), .ixs 2 (.tmp 25) (.tmp 26), none, 0⟩, ⟨(some 28), .ld 2 true (.tmp 27), none, 0⟩, ⟨(some 29), .ld 2 true (.tmp 4), none, 0⟩, ⟨(some 30), .cv (.tmp 24) [(.tmp 28), (.tmp 29)], none, 0⟩, ⟨(some 31), .bin .lss (.tmp 30) (.const (.int .i64 0)), none, 0⟩] (some [[], [], [], [2, 1], [1, 2, 3], [], [5, 3, 2, 1, 4, 0], [0, 4, 1, 2, 3, 5, 6]]) 0 []) (.cond (.tmp 31) (.reg 0 [⟨(some 32), .mv (.tmp 11), none, 0⟩, ⟨(some 33), .bin .add (.tmp 32) (.const (.int .i64 1)), none, 0⟩, ⟨(some 9), .mv (.tmp 33), none, 0⟩] none 0 []) (.reg 0 [⟨(some 34), .mv (.tmp 11), none, 0⟩, ⟨(some 10), .mv (.tmp 34), none, 0⟩] none 0 [])))))))) (.seq (.reg 0 [⟨(some 35), .mv (.tmp 9), none, 0⟩, ⟨(some 36), .mv (.tmp 9), none, 0⟩, ⟨(some 37), .mv (.tmp 8), none, 0⟩, ⟨(some 38), .bin .lss (.tmp 36) (.tmp 37), none, 0⟩, ⟨(some 39), .mv (.tmp 38), none, 0⟩, ⟨(some 40), .mv (.tmp 2), (some (39, true)), 0⟩, ⟨(some 41), .mv (.tmp 0), (some (39, true)), 0⟩, ⟨(some 42), .mv (.tmp 9), (some (39, true)), 0⟩, ⟨(some 43), .ixs 2 (.tmp 41) (.tmp 42), (some (39, true)), 0⟩, ⟨(some 44), .ld 2 true (.tmp 43), (some (39, true)), 0⟩, ⟨(some 45), .ld 2 true (.tmp 4), (some (39, true)), 0⟩, ⟨(some 46), .cv (.tmp 40) [(.tmp 44), (.tmp 45)], (some (39, true)), 0⟩, ⟨(some 47), .bin .eql (.tmp 46) (.const (.int .i64 0)), (some (39, true)), 0⟩, ⟨(some 48), .pick (.tmp 39) (.tmp 47) (.const (.bool false)), none, 0⟩, ⟨(some 6), .mv (.tmp 35), none, 0⟩, ⟨(some 7), .mv (.tmp 48), none, 0⟩] (some [[], [], [], [2, 1], [1, 2, 3], [3, 2, 1, 4], [3, 2, 1, 4], [3, 2, 1, 4], [7, 4, 1, 2, 3, 6], [6, 3, 2, 1, 4, 7, 8], [3, 2, 1, 4], [10, 8, 7, 6, 9, 4, 1, 2, 3, 5], [5, 3, 2, 1, 4, 9, 6, 7, 8, 10, 11], [11, 10, 8, 7, 6, 9, 5, 12, 3, 2, 1, 4], [5, 3, 2, 1, 4, 9, 6, 7, 8, 10, 11, 0], [0, 14, 4, 1, 2, 3, 12, 5, 9, 6, 7, 8, 10, 11, 13]]) 0 []) .ret)))))
theorem gc77_ok : compF Try.prog Try.f77 = some (gc77.er, 49, [.tmp 6, .tmp 7]) := by unfold gc77; kernel_rfl
set_option maxRecDepth 100000 in
set_option maxHeartbeats 4000000 in
theorem p_slices_BinarySearchFunc_dirs_State_dirs_Arrow_dirs_Arrow__v {u1 : Bool} (a0 : List Ref29Arrow) (a1 : Ref29Arrow) (a2 : Ref29Arrow → Ref29Arrow → Option Int) {a2_g : Nat} {a2_k : List V} (a2_h : Clo2 Try.prog a2_g a2_k Ref29Arrow.v Ref29Arrow.v V.i a2) : CallsO Try.prog 77 [.sl (List.map Ref29Arrow.v a0) u1, .agg [.s a1.From, .s a1.To], .clo (.func a2_g) a2_k] (fun r : Int × Bool => .tup [V.i r.1, V.b r.2]) (p_slices_BinarySearchFunc_dirs_State_dirs_Arrow_dirs_Arrow_ a0 a1 a2) := by
  refine callsO_comp mix Try.func77 gc77_ok fun r H => ?_
  rw [p_slices_BinarySearchFunc_dirs_State_dirs_Arrow_dirs_Arrow_] at H
  conv => whnf
  refine LenQ.M ?_; conv => whnf
  obtain ⟨o2, HL3, HQ4⟩ := bind_c H
  refine loop_c [9, 10] [11, 15, 16, 17, 18, 19, 20, 21, 22, 23, 24, 25, 26, 27, 28, 29, 30, 31, 32, 33, 34] [11, 15, 16, 17, 18, 19, 20, 21, 22, 23, 24, 25, 26, 27, 28, 29, 30, 31, 32, 33, 34] (fun n vals st => (∃ y6 y7, p_slices_BinarySearchFunc_dirs_State_dirs_Arrow_dirs_Arrow__l1  a2 a0 a1 n y6 y7 = some o2 ∧ vals = [.i y6, .i y7] ∧ st = [.live [.s a1.From, .s a1.To] 0])) fuel 1 [] (⟨_, _, HL3, rfl, rfl⟩) (Nat.zero_le _) rfl (by simp only [maskF, setF, List.set_cons_zero, List.set_cons_succ, V.ren.renL, V.ren, renL_id _ a2_h.own] <;> rfl) (by simp only [maskF, setF, List.set_cons_zero, List.set_cons_succ, V.idlt.belowL, V.idlt, fun n => idltL_up (n := n) _ a2_h.own] <;> rfl) rfl ⟨⟨rfl, rfl, rfl⟩, trivial⟩ ?_
  rintro (_ | n5) _ _ (⟨y6, y7, H, rfl, rfl⟩)
  · rw [p_slices_BinarySearchFunc_dirs_State_dirs_Arrow_dirs_Arrow__l1] at H; cases H
  rw [p_slices_BinarySearchFunc_dirs_State_dirs_Arrow_dirs_Arrow__l1] at H
  conv => whnf
  refine tst_d H (fun b8 H => ?_) (fun b8 H => ?_)
  · conv => whnf
    obtain rfl := Option.some.inj H
    have H := HQ4
    try dsimp only at H
    refine tst_d H (fun b12 H => ?_) (fun b12 H => ?_)
    · conv => whnf
      iterate 8 (refine Tst.F ?_; conv => whnf)
      refine FootQ.mk ⟨rfl, ?_⟩; conv => whnf
      exact fin0_c (enc := (fun r : Int × Bool => .tup [V.i r.1, V.b r.2])) H (.inr rfl) (.cons (.tmp rfl) (.cons (.tmp rfl) (.nil))) rfl rfl
    conv => whnf
    iterate 3 (refine Tst.T ?_; conv => whnf)
    refine ixs_c (f := Ref29Arrow.v) H (fun _ => rfl) (fun x13 H => ?_); conv => whnf
    iterate 3 (refine Tst.T ?_; conv => whnf)
    refine askC2_c a2_h H (.cons (fzagg (.cons (.id rfl) (.cons (.id rfl) (.nil))) rfl) (.cons (fzagg (.cons (.id rfl) (.cons (.id rfl) (.nil))) rfl) (.nil))) (fun v14 H => ?_); conv => whnf
    iterate 2 (refine Tst.T ?_; conv => whnf)
    refine FootQ.mk ⟨rfl, ?_⟩; conv => whnf
    exact fin0_c (enc := (fun r : Int × Bool => .tup [V.i r.1, V.b r.2])) H (.inr rfl) (.cons (.tmp rfl) (.cons (.tmp rfl) (.nil))) rfl rfl
  conv => whnf
  iterate 2 (refine Ari.w ?_; conv => whnf)
  refine Shr.ok (by decide) ?_; conv => whnf
  refine Ari.w ?_; conv => whnf
  refine ixs_c (f := Ref29Arrow.v) H (fun _ => rfl) (fun x9 H => ?_); conv => whnf
  refine askC2_c a2_h H (.cons (fzagg (.cons (.id rfl) (.cons (.id rfl) (.nil))) rfl) (.cons (fzagg (.cons (.id rfl) (.cons (.id rfl) (.nil))) rfl) (.nil))) (fun v10 H => ?_); conv => whnf
  refine FootQ.mk ⟨rfl, ?_⟩; conv => whnf
  refine tst_d H (fun b11 H => ?_) (fun b11 H => ?_)
  · conv => whnf
    exact again_c [11, 15, 16, 17, 18, 19, 20, 21, 22, 23, 24, 25, 26, 27, 28, 29, 30, 31, 32, 33, 34] n5 1 [] (⟨_, _, H, rfl, rfl⟩) (Nat.lt_succ_self _) (Nat.zero_le _) rfl (by simp only [maskF, setF, List.set_cons_zero, List.set_cons_succ, V.ren.renL, V.ren, renL_id _ a2_h.own] <;> rfl) (by simp only [maskF, setF, List.set_cons_zero, List.set_cons_succ, V.idlt.belowL, V.idlt, fun n => idltL_up (n := n) _ a2_h.own] <;> rfl) rfl ⟨⟨rfl, rfl, rfl⟩, trivial⟩
  conv => whnf
  refine Ari.w ?_; conv => whnf
  exact again_c [11, 15, 16, 17, 18, 19, 20, 21, 22, 23, 24, 25, 26, 27, 28, 29, 30, 31, 32, 33, 34] n5 1 [] (⟨_, _, H, rfl, rfl⟩) (Nat.lt_succ_self _) (Nat.zero_le _) rfl (by simp only [maskF, setF, List.set_cons_zero, List.set_cons_succ, V.ren.renL, V.ren, renL_id _ a2_h.own] <;> rfl) (by simp only [maskF, setF, List.set_cons_zero, List.set_cons_succ, V.idlt.belowL, V.idlt, fun n => idltL_up (n := n) _ a2_h.own] <;> rfl) rfl ⟨⟨rfl, rfl, rfl⟩, trivial⟩
def gc42 : BCode := (.seq (.reg 0 [⟨(some 6), .mv (.const (.slice none 0 0)), none, 0⟩, ⟨(some 7), .mv (.const (.int .i64 0)), none, 0⟩] none 0 []) (.seq (.seq (.reg 0 [⟨(some 12), .mv (.tmp 0), none, 0⟩, ⟨(some 13), .cl 29 [(.tmp 12)], none, 0⟩, ⟨(some 8), .mv (.tmp 13), none, 0⟩] none 0 []) (.seq (.reg 0 [⟨(some 14), .mv (.tmp 8), none, 0⟩, ⟨(some 15), .bin .neq (.tmp 14) (.const (.int .i64 0)), none, 0⟩] none 0 []) (.cond (.tmp 15) (.seq (.reg 0 [⟨(some 16), .mv (.tmp 0), none, 0⟩, ⟨(some 17), .mv (.tmp 8), none, 0⟩, ⟨(some 6), .mv (.tmp 16), none, 0⟩, ⟨(some 7), .mv (.tmp 17), none, 0⟩] none 0 []) .ret) .skip))) (.seq (.reg 1 [⟨(some 18), .mv (.tmp 1), none, 0⟩, ⟨(some 19), .mv (.tmp 2), none, 0⟩, ⟨(some 20), .bd [(.lit (.string ⟨#[]⟩)), (.lit (.string ⟨#[]⟩))] [(0, 1, (.tmp 18)), (1, 1, (.tmp 19))], none, 0⟩, ⟨(some 9), .al (.agg [(.lit (.string ⟨#[]⟩)), (.lit (.string ⟨#[]⟩))]), none, 0⟩, ⟨none, .st 2 (.tmp 9) (.tmp 20), none, 1⟩] none 0 []) (.seq (.seq (.reg 0 [⟨(some 21), .ld 2 true (.tmp 9), none, 0⟩, ⟨(some 22), .cl 68 [(.tmp 21)], none, 0⟩] none 0 []) (.cond (.tmp 22) (.seq (.reg 0 [⟨(some 23), .mv (.tmp 0), none, 0⟩, ⟨(some 6), .mv (.tmp 23), none, 0⟩, ⟨(some 7), .mv (.const (.int .i64 11)), none, 0⟩] none 0 []) .ret) .skip)) (.seq (.reg 0 [⟨(some 25), .mv (.tmp 0), none, 0⟩, ⟨(some 26), .ld 2 true (.tmp 9), none, 0⟩, ⟨(some 27), .cl 77 [(.tmp 25), (.tmp 26), (.func 69)], none, 0⟩, ⟨(some 24), .mv (.tmp 27), none, 0⟩, ⟨(some 28), .ex (.tmp 24) 0, none, 0⟩, ⟨(some 29), .ex (.tmp 24) 1, none, 0⟩, ⟨(some 10), .mv (.tmp 28), none, 0⟩, ⟨(some 11), .mv (.tmp 29), none, 0⟩] none 0 []) (.seq (.block 0 (.seq (.reg 0 [⟨(some 31), .mv (.tmp 11), none, 0⟩, ⟨(some 30), .mv (.tmp 31), none, 0⟩] none 0 []) (.cond (.tmp 30) (.seq (.reg 0 [⟨(some 32), .mv (.tmp 0), none, 0⟩, ⟨(some 6), .mv (.tmp 32), none, 0⟩, ⟨(some 7), .mv (.const (.int .i64 0)), none, 0⟩] none 0 []) .ret) (.seq (.reg 0 [⟨(some 34), .mv (.tmp 0), none, 0⟩, ⟨(some 35), .lens (.tmp 34), none, 0⟩, ⟨(some 36), .bin .eql (.tmp 35) (.const (.int .i64 32)), none, 0⟩, ⟨(some 33), .mv (.tmp 36), none, 0⟩] none 0 []) (.cond (.tmp 33) (.seq (.reg 0 [⟨(some 37), .mv (.tmp 0), none, 0⟩, ⟨(some 6), .mv (.tmp 37), none, 0⟩, ⟨(some 7), .mv (.const (.int .i64 7)), none, 0⟩] none 0 []) .ret) .skip))))) (.seq (.reg 1 [⟨(some 38), .mv (.tmp 0), none, 0⟩, ⟨(some 39), .cl 79 [(.tmp 38)], none, 0⟩, ⟨(some 40), .mv (.tmp 10), none, 0⟩, ⟨(some 41), .ld 2 true (.tmp 9), none, 0⟩, ⟨(some 42), .bs 2 1 [(.lit (.string ⟨#[]⟩)), (.lit (.string ⟨#[]⟩))] [(0, (.tmp 41))], none, 0⟩, ⟨(some 43), .cl 78 [(.tmp 39), (.tmp 40), (.tmp 42)], none, 1⟩, ⟨(some 6), .mv (.tmp 43), none, 1⟩, ⟨(some 7), .mv (.const (.int .i64 0)), none, 1⟩] (some [[], [0], [], [], [3], [3, 4, 2, 0, 1], [1, 0, 2, 4, 3, 5], [5, 3, 4, 2, 0, 1, 6]]) 1 []) .ret)))))))
theorem gc42_ok : compF Try.prog Try.f42 = some (gc42.er, 44, [.tmp 6, .tmp 7]) := by unfold gc42; kernel_rfl
set_option maxRecDepth 100000 in
set_option maxHeartbeats 4000000 in
theorem p_dirs_Add_v {u1 : Bool} (a0 : List Ref29Arrow) (a1 : ByteArray) (a2 : ByteArray) : CallsO Try.prog 42 [.sl (List.map Ref29Arrow.v a0) u1, .s a1, .s a2] (fun r : (List Ref29Arrow) × Int => .tup [(fun l : List Ref29Arrow => V.sl (l.map Ref29Arrow.v) false) r.1, V.i r.2]) (p_dirs_Add a0 a1 a2) := by
  refine callsO_comp mix Try.func42 gc42_ok fun r H => ?_
  rw [p_dirs_Add] at H
  conv => whnf
  refine ask_c (p_dirs_Check_v _) H rfl rfl (fun v1 H => ?_); conv => whnf
  refine tst_c H (fun b2 H => ?_) (fun b2 H => ?_)
  · conv => whnf
    refine finR_c (enc := (fun r : (List Ref29Arrow) × Int => .tup [(fun l : List Ref29Arrow => V.sl (l.map Ref29Arrow.v) false) r.1, V.i r.2])) H ?_; conv => whnf
    exact ⟨_, .tup (.cons (.c (.slw)) (.cons (.c (.id rfl)) (.nil)))⟩
  conv => whnf
  refine ⟨Nat.le_of_ble_eq_true rfl, ?_⟩; conv => whnf
  refine ask_c (p_dirs_Arrow_wrong_v _) H rfl rfl (fun v3 H => ?_); conv => whnf
  refine tst_c H (fun b4 H => ?_) (fun b4 H => ?_)
  · conv => whnf
    refine finR_c (enc := (fun r : (List Ref29Arrow) × Int => .tup [(fun l : List Ref29Arrow => V.sl (l.map Ref29Arrow.v) false) r.1, V.i r.2])) H ?_; conv => whnf
    exact ⟨_, .tup (.cons (.c (.slw)) (.cons (.c (.id rfl)) (.nil)))⟩
  conv => whnf
  refine askF_c (p_slices_BinarySearchFunc_dirs_State_dirs_Arrow_dirs_Arrow__v _ _ _ ⟨⟨_, Try.func69, by kernel_rfl, by kernel_rfl⟩, rfl, fun x0 x1 => p_dirs_order_v _ _⟩) H (.cons (.c (.slw)) (.cons (fzagg (.cons (.id rfl) (.cons (.id rfl) (.nil))) rfl) (.cons (.c (.clo (.nil))) (.nil)))) (fun v5 H => ?_); conv => whnf
  refine tst_c H (fun b6 H => ?_) (fun b6 H => ?_)
  · conv => whnf
    refine finR_c (enc := (fun r : (List Ref29Arrow) × Int => .tup [(fun l : List Ref29Arrow => V.sl (l.map Ref29Arrow.v) false) r.1, V.i r.2])) H ?_; conv => whnf
    exact ⟨_, .tup (.cons (.c (.slw)) (.cons (.c (.id rfl)) (.nil)))⟩
  conv => whnf
  refine LenQ.M ?_; conv => whnf
  refine tst_c H (fun b7 H => ?_) (fun b7 H => ?_)
  · conv => whnf
    refine finR_c (enc := (fun r : (List Ref29Arrow) × Int => .tup [(fun l : List Ref29Arrow => V.sl (l.map Ref29Arrow.v) false) r.1, V.i r.2])) H ?_; conv => whnf
    exact ⟨_, .tup (.cons (.c (.slw)) (.cons (.c (.id rfl)) (.nil)))⟩
  conv => whnf
  refine clone_c (f := Ref29Arrow.v) (id := 2) cloR79_v H (fun _ => rfl) (fun _ => rfl) rfl (fun H => ?_) (fun l8 H => ?_)
  · conv => whnf
    refine askF_c (insN_v (f := Ref29Arrow.v) insR78_v (by decide) (fun _ => rfl) (fun _ => rfl) (fun _ => rfl) _ _ _) H (.cons (.c (.id rfl)) (.cons (.c (.id rfl)) (.cons (.c (fzown (f := Ref29Arrow.v) (l := [(Ref29Arrow.mk a1 a2)]) rfl rfl (fun _ => rfl) (fun _ => rfl))) .nil))) (fun v10 H => ?_); conv => whnf
    refine FootQ.mk ⟨rfl, ?_⟩; conv => whnf
    exact fin0_c (enc := (fun r : (List Ref29Arrow) × Int => .tup [(fun l : List Ref29Arrow => V.sl (l.map Ref29Arrow.v) false) r.1, V.i r.2])) H (.inr rfl) (.cons (.tmp rfl) (.cons (.tmp rfl) (.nil))) rfl rfl
  conv => whnf
  refine insO_c (f := Ref29Arrow.v) insR78_v H (by decide) (fun _ => rfl) (fun _ => rfl) (fun _ => rfl) rfl rfl rfl (fun v9 H => ?_); conv => whnf
  refine FootQ.mk ⟨rfl, ?_⟩; conv => whnf
  exact fin0_c (enc := (fun r : (List Ref29Arrow) × Int => .tup [(fun l : List Ref29Arrow => V.sl (l.map Ref29Arrow.v) false) r.1, V.i r.2])) H (.inr rfl) (.cons (.tmp rfl) (.cons (.tmp rfl) (.nil))) rfl rfl
def gc76 : BCode := (.seq (.reg 1 [⟨(some 2), .bx (.tmp 0), none, 0⟩, ⟨(some 3), .mv (.const (.bool false)), none, 1⟩] none 0 []) (.seq (.reg 0 [⟨(some 4), .ld 2 true (.tmp 2), none, 0⟩, ⟨(some 5), .ld 2 true (.tmp 1), none, 0⟩, ⟨(some 6), .eqa false [2, 2] (.tmp 4) (.tmp 5), none, 0⟩, ⟨(some 3), .mv (.tmp 6), none, 0⟩] none 0 []) .ret))
theorem gc76_ok : compF Try.prog Try.f76 = some (gc76.er, 7, [.tmp 3]) := by unfold gc76; kernel_rfl
set_option maxRecDepth 100000 in
set_option maxHeartbeats 4000000 in
theorem p_dirs_Del_1_v (a0 : Ref29Arrow) (c0 : Ref29Arrow) : CallsO Try.prog 76 [.agg [.s a0.From, .s a0.To], .eptr [.s c0.From, .s c0.To]] V.b (p_dirs_Del_1 a0 c0) := by
  refine callsO_comp mix Try.func76 gc76_ok fun r H => ?_
  rw [p_dirs_Del_1] at H
  conv => whnf
  exact fin0_c (enc := V.b) H (.inr rfl) (.cons (.tmp rfl) (.nil)) rfl rfl
end Go.Proofs.Ythmgficajgedlaa
/- That the program's functions yield what the plain ones tell (written by a program of mine). -/
namespace Go.Proofs.Ythmgficajgedlaa
open Go.RowKit
def gc73 : BCode := (.seq (.reg 0 [⟨(some 4), .mv (.const (.slice none 0 0)), none, 0⟩, ⟨(some 5), .mv (.const (.slice none 0 0)), none, 0⟩] none 0 []) (.seq (.reg 0 [⟨(some 6), .mv (.const (.slice none 0 0)), none, 0⟩, ⟨(some 7), .mv (.const (.slice none 0 0)), none, 0⟩] none 0 []) (.seq (.seq (.reg 0 [⟨(some 10), .mv (.tmp 0), none, 0⟩, ⟨(some 11), .lens (.tmp 10), none, 0⟩, ⟨(some 12), .mv (.const (.int .i64 0)), none, 0⟩] none 0 []) (.block 0 (.loop (.seq (.reg 0 [⟨(some 13), .bin .lss (.tmp 12) (.tmp 11), none, 0⟩] none 0 []) (.seq (.cond (.tmp 13) .skip (.exit 0)) (.seq (.block 1 (.seq (.reg 1 [⟨(some 14), .ixs 2 (.tmp 10) (.tmp 12), none, 0⟩, ⟨(some 15), .ld 2 true (.tmp 14), none, 0⟩, ⟨(some 9), .al (.agg [(.lit (.string ⟨#[]⟩)), (.lit (.string ⟨#[]⟩))]), none, 0⟩, ⟨none, .st 2 (.tmp 9) (.tmp 15), none, 1⟩] none 0 []) (.seq (.reg 0 [⟨(some 16), .mv (.tmp 1), none, 0⟩, ⟨(some 17), .ld 2 true (.tmp 9), none, 0⟩, ⟨(some 18), .cv (.tmp 16) [(.tmp 17)], none, 0⟩] none 0 []) (.cond (.tmp 18) (.reg 2 [⟨(some 19), .mv (.tmp 7), none, 0⟩, ⟨(some 20), .ld 2 true (.tmp 9), none, 0⟩, ⟨(some 21), .bs 2 1 [(.lit (.string ⟨#[]⟩)), (.lit (.string ⟨#[]⟩))] [(0, (.tmp 20))], none, 0⟩, ⟨(some 22), .ap 2 32 (.tmp 19) (.tmp 21), none, 1⟩, ⟨(some 7), .mv (.tmp 22), none, 2⟩] none 0 []) (.reg 2 [⟨(some 23), .mv (.tmp 6), none, 0⟩, ⟨(some 24), .ld 2 true (.tmp 9), none, 0⟩, ⟨(some 25), .bs 2 1 [(.lit (.string ⟨#[]⟩)), (.lit (.string ⟨#[]⟩))] [(0, (.tmp 24))], none, 0⟩, ⟨(some 26), .ap 2 32 (.tmp 23) (.tmp 25), none, 1⟩, ⟨(some 6), .mv (.tmp 26), none, 2⟩] none 0 []))))) (.reg 0 [⟨(some 27), .bin .add (.tmp 12) (.const (.int .i64 1)), none, 0⟩, ⟨(some 12), .mv (.tmp 27), none, 0⟩] none 0 []))))))) (.seq (.reg 0 [⟨(some 28), .mv (.tmp 6), none, 0⟩, ⟨(some 29), .mv (.tmp 7), none, 0⟩, ⟨(some 4), .mv (.tmp 28), none, 0⟩, ⟨(some 5), .mv (.tmp 29), none, 0⟩] none 0 []) .ret))))
theorem gc73_ok : compF Try.prog Try.f73 = some (gc73.er, 30, [.tmp 4, .tmp 5]) := by unfold gc73; kernel_rfl
set_option maxRecDepth 100000 in
set_option maxHeartbeats 4000000 in
theorem p_dirs_State_without_v {u1 : Bool} (a0 : List Ref29Arrow) (a1 : Ref29Arrow → Option Bool) {a1_g : Nat} {a1_k : List V} (a1_h : Clo1 Try.prog a1_g a1_k Ref29Arrow.v V.b a1) : CallsO Try.prog 73 [.sl (List.map Ref29Arrow.v a0) u1, .clo (.func a1_g) a1_k] (fun r : (List Ref29Arrow) × (List Ref29Arrow) => .tup [(fun l : List Ref29Arrow => V.sl (l.map Ref29Arrow.v) false) r.1, (fun l : List Ref29Arrow => V.sl (l.map Ref29Arrow.v) false) r.2]) (p_dirs_State_without a0 a1) := by
  refine callsO_comp mix Try.func73 gc73_ok fun r H => ?_
  rw [p_dirs_State_without] at H
  conv => whnf
  refine LenQ.M ?_; conv => whnf
  obtain ⟨o2, HL3, HQ4⟩ := bind_c H
  refine loop_c [6, 7, 12] [9, 13, 14, 15, 16, 17, 18, 19, 20, 21, 22, 23, 24, 25, 26, 27] [9, 13, 14, 15, 16, 17, 18, 19, 20, 21, 22, 23, 24, 25, 26, 27] (fun n vals st => (∃ y6, p_dirs_State_without_l1  a1 a0 (a0.length : Int) n [] [] y6 = some o2 ∧ vals = [.sl (List.map Ref29Arrow.v []) true, .sl (List.map Ref29Arrow.v []) true, .i y6] ∧ st = []) ∨ (∃ y12 y13, p_dirs_State_without_l1  a1 a0 (a0.length : Int) n [] y12 y13 = some o2 ∧ vals = [.sl (List.map Ref29Arrow.v []) true, .osl 0 0 (List.length y12) 2 false, .i y13] ∧ st = [.live (cellsM Ref29Arrow.v y12) (cellsM Ref29Arrow.v y12).length]) ∨ (∃ y15 y16, p_dirs_State_without_l1  a1 a0 (a0.length : Int) n y15 [] y16 = some o2 ∧ vals = [.osl 0 0 (List.length y15) 2 false, .sl (List.map Ref29Arrow.v []) true, .i y16] ∧ st = [.live (cellsM Ref29Arrow.v y15) (cellsM Ref29Arrow.v y15).length]) ∨ (∃ y23 y24 y25, p_dirs_State_without_l1  a1 a0 (a0.length : Int) n y23 y24 y25 = some o2 ∧ vals = [.osl 1 0 (List.length y23) 2 false, .osl 0 0 (List.length y24) 2 false, .i y25] ∧ st = [.live (cellsM Ref29Arrow.v y24) (cellsM Ref29Arrow.v y24).length, .live (cellsM Ref29Arrow.v y23) (cellsM Ref29Arrow.v y23).length]) ∨ (∃ y31 y32 y33, p_dirs_State_without_l1  a1 a0 (a0.length : Int) n y31 y32 y33 = some o2 ∧ vals = [.osl 0 0 (List.length y31) 2 false, .osl 1 0 (List.length y32) 2 false, .i y33] ∧ st = [.live (cellsM Ref29Arrow.v y31) (cellsM Ref29Arrow.v y31).length, .live (cellsM Ref29Arrow.v y32) (cellsM Ref29Arrow.v y32).length])) fuel 0 [] (.inl (⟨_, HL3, rfl, rfl⟩)) (Nat.zero_le _) rfl (by simp only [maskF, setF, List.set_cons_zero, List.set_cons_succ, V.ren.renL, V.ren, renL_id _ a1_h.own] <;> rfl) (by simp only [maskF, setF, List.set_cons_zero, List.set_cons_succ, V.idlt.belowL, V.idlt, fun n => idltL_up (n := n) _ a1_h.own] <;> rfl) rfl trivial ?_
  rintro (_ | n5) _ _ (⟨y6, H, rfl, rfl⟩ | ⟨y12, y13, H, rfl, rfl⟩ | ⟨y15, y16, H, rfl, rfl⟩ | ⟨y23, y24, y25, H, rfl, rfl⟩ | ⟨y31, y32, y33, H, rfl, rfl⟩)
  · rw [p_dirs_State_without_l1] at H; cases H
  · rw [p_dirs_State_without_l1] at H; cases H
  · rw [p_dirs_State_without_l1] at H; cases H
  · rw [p_dirs_State_without_l1] at H; cases H
  · rw [p_dirs_State_without_l1] at H; cases H
  · rw [p_dirs_State_without_l1] at H
    conv => whnf
    refine tst_d H (fun b7 H => ?_) (fun b7 H => ?_)
    · conv => whnf
      obtain rfl := Option.some.inj H
      have H := HQ4
      try dsimp only at H
      refine finR_c (enc := (fun r : (List Ref29Arrow) × (List Ref29Arrow) => .tup [(fun l : List Ref29Arrow => V.sl (l.map Ref29Arrow.v) false) r.1, (fun l : List Ref29Arrow => V.sl (l.map Ref29Arrow.v) false) r.2])) H ?_; conv => whnf
      exact ⟨_, .tup (.cons (.c (.slw)) (.cons (.c (.slw)) (.nil)))⟩
    conv => whnf
    refine ixs_c (f := Ref29Arrow.v) H (fun _ => rfl) (fun x8 H => ?_); conv => whnf
    refine ⟨Nat.le_of_ble_eq_true rfl, ?_⟩; conv => whnf
    refine askC_c a1_h H (.cons (fzagg (.cons (.id rfl) (.cons (.id rfl) (.nil))) rfl) (.nil)) (fun v9 H => ?_); conv => whnf
    refine tst_c H (fun b10 H => ?_) (fun b10 H => ?_)
    · conv => whnf
      refine appN_c (f := Ref29Arrow.v) H (fun _ => rfl) (srcM (f := Ref29Arrow.v) (fun _ => rfl) _ _) rfl (.v (srcOwn (f := Ref29Arrow.v) (l := [x8]) (fun _ => rfl) rfl rfl rfl)) (by decide) rfl (by simp) (fun l11 H => ?_); conv => whnf
      refine Ari.w ?_; conv => whnf
      exact again_c [9, 13, 14, 15, 16, 17, 18, 19, 20, 21, 22, 23, 24, 25, 26, 27] n5 1 [2] (.inr (.inl (⟨_, _, H, rfl, rfl⟩))) (Nat.lt_succ_self _) (Nat.zero_le _) rfl (by simp only [maskF, setF, List.set_cons_zero, List.set_cons_succ, V.ren.renL, V.ren, renL_id _ a1_h.own] <;> rfl) (by simp only [maskF, setF, List.set_cons_zero, List.set_cons_succ, V.idlt.belowL, V.idlt, fun n => idltL_up (n := n) _ a1_h.own] <;> rfl) rfl (wkB_live0 rfl (cellsM_idlt (f := Ref29Arrow.v) (fun _ => rfl) _) rfl trivial)
    conv => whnf
    refine appN_c (f := Ref29Arrow.v) H (fun _ => rfl) (srcM (f := Ref29Arrow.v) (fun _ => rfl) _ _) rfl (.v (srcOwn (f := Ref29Arrow.v) (l := [x8]) (fun _ => rfl) rfl rfl rfl)) (by decide) rfl (by simp) (fun l14 H => ?_); conv => whnf
    refine Ari.w ?_; conv => whnf
    exact again_c [9, 13, 14, 15, 16, 17, 18, 19, 20, 21, 22, 23, 24, 25, 26, 27] n5 1 [2] (.inr (.inr (.inl (⟨_, _, H, rfl, rfl⟩)))) (Nat.lt_succ_self _) (Nat.zero_le _) rfl (by simp only [maskF, setF, List.set_cons_zero, List.set_cons_succ, V.ren.renL, V.ren, renL_id _ a1_h.own] <;> rfl) (by simp only [maskF, setF, List.set_cons_zero, List.set_cons_succ, V.idlt.belowL, V.idlt, fun n => idltL_up (n := n) _ a1_h.own] <;> rfl) rfl (wkB_live0 rfl (cellsM_idlt (f := Ref29Arrow.v) (fun _ => rfl) _) rfl trivial)
  · rw [p_dirs_State_without_l1] at H
    conv => whnf
    refine tst_d H (fun b17 H => ?_) (fun b17 H => ?_)
    · conv => whnf
      obtain rfl := Option.some.inj H
      have H := HQ4
      try dsimp only at H
      refine finR_c (enc := (fun r : (List Ref29Arrow) × (List Ref29Arrow) => .tup [(fun l : List Ref29Arrow => V.sl (l.map Ref29Arrow.v) false) r.1, (fun l : List Ref29Arrow => V.sl (l.map Ref29Arrow.v) false) r.2])) H ?_; conv => whnf
      exact ⟨_, .tup (.cons (.c (.slw)) (.cons (.c (fzown (f := Ref29Arrow.v) (l := y12) rfl rfl (fun _ => rfl) (fun _ => rfl))) (.nil)))⟩
    conv => whnf
    refine ixs_c (f := Ref29Arrow.v) H (fun _ => rfl) (fun x18 H => ?_); conv => whnf
    refine ⟨Nat.le_of_ble_eq_true rfl, ?_⟩; conv => whnf
    refine askC_c a1_h H (.cons (fzagg (.cons (.id rfl) (.cons (.id rfl) (.nil))) rfl) (.nil)) (fun v19 H => ?_); conv => whnf
    refine tst_c H (fun b20 H => ?_) (fun b20 H => ?_)
    · conv => whnf
      refine appO_c (f := Ref29Arrow.v) H (fun _ => rfl) rfl (Nat.le_refl _) (.v (srcOwn (f := Ref29Arrow.v) (l := [x18]) (fun _ => rfl) rfl rfl rfl)) (by decide) rfl (by simp) (fun l21 H => ?_); conv => whnf
      refine Ari.w ?_; conv => whnf
      exact again_c [9, 13, 14, 15, 16, 17, 18, 19, 20, 21, 22, 23, 24, 25, 26, 27] n5 1 [3] (.inr (.inl (⟨_, _, H, rfl, rfl⟩))) (Nat.lt_succ_self _) (Nat.zero_le _) rfl (by simp only [maskF, setF, List.set_cons_zero, List.set_cons_succ, V.ren.renL, V.ren, renL_id _ a1_h.own] <;> rfl) (by simp only [maskF, setF, List.set_cons_zero, List.set_cons_succ, V.idlt.belowL, V.idlt, fun n => idltL_up (n := n) _ a1_h.own] <;> rfl) rfl (wkB_live0 rfl (cellsM_idlt (f := Ref29Arrow.v) (fun _ => rfl) _) rfl trivial)
    conv => whnf
    refine appN_c (f := Ref29Arrow.v) H (fun _ => rfl) (srcM (f := Ref29Arrow.v) (fun _ => rfl) _ _) rfl (.v (srcOwn (f := Ref29Arrow.v) (l := [x18]) (fun _ => rfl) rfl rfl rfl)) (by decide) rfl (by simp) (fun l22 H => ?_); conv => whnf
    refine Ari.w ?_; conv => whnf
    exact again_c [9, 13, 14, 15, 16, 17, 18, 19, 20, 21, 22, 23, 24, 25, 26, 27] n5 2 [0, 3] (.inr (.inr (.inr (.inl (⟨_, _, _, H, rfl, rfl⟩))))) (Nat.lt_succ_self _) (Nat.zero_le _) rfl (by simp only [maskF, setF, List.set_cons_zero, List.set_cons_succ, V.ren.renL, V.ren, renL_id _ a1_h.own] <;> rfl) (by simp only [maskF, setF, List.set_cons_zero, List.set_cons_succ, V.idlt.belowL, V.idlt, fun n => idltL_up (n := n) _ a1_h.own] <;> rfl) rfl (wkB_live0 rfl (cellsM_idlt (f := Ref29Arrow.v) (fun _ => rfl) _) rfl (wkB_live0 rfl (cellsM_idlt (f := Ref29Arrow.v) (fun _ => rfl) _) rfl trivial))
  · rw [p_dirs_State_without_l1] at H
    conv => whnf
    refine tst_d H (fun b26 H => ?_) (fun b26 H => ?_)
    · conv => whnf
      obtain rfl := Option.some.inj H
      have H := HQ4
      try dsimp only at H
      refine finR_c (enc := (fun r : (List Ref29Arrow) × (List Ref29Arrow) => .tup [(fun l : List Ref29Arrow => V.sl (l.map Ref29Arrow.v) false) r.1, (fun l : List Ref29Arrow => V.sl (l.map Ref29Arrow.v) false) r.2])) H ?_; conv => whnf
      exact ⟨_, .tup (.cons (.c (fzown (f := Ref29Arrow.v) (l := y15) rfl rfl (fun _ => rfl) (fun _ => rfl))) (.cons (.c (.slw)) (.nil)))⟩
    conv => whnf
    refine ixs_c (f := Ref29Arrow.v) H (fun _ => rfl) (fun x27 H => ?_); conv => whnf
    refine ⟨Nat.le_of_ble_eq_true rfl, ?_⟩; conv => whnf
    refine askC_c a1_h H (.cons (fzagg (.cons (.id rfl) (.cons (.id rfl) (.nil))) rfl) (.nil)) (fun v28 H => ?_); conv => whnf
    refine tst_d H (fun b29 H => ?_) (fun b29 H => ?_)
    · conv => whnf
      refine appO_c (f := Ref29Arrow.v) H (fun _ => rfl) rfl (Nat.le_refl _) (.v (srcOwn (f := Ref29Arrow.v) (l := [x27]) (fun _ => rfl) rfl rfl rfl)) (by decide) rfl (by simp) (fun l34 H => ?_); conv => whnf
      refine Ari.w ?_; conv => whnf
      exact again_c [9, 13, 14, 15, 16, 17, 18, 19, 20, 21, 22, 23, 24, 25, 26, 27] n5 1 [3] (.inr (.inr (.inl (⟨_, _, H, rfl, rfl⟩)))) (Nat.lt_succ_self _) (Nat.zero_le _) rfl (by simp only [maskF, setF, List.set_cons_zero, List.set_cons_succ, V.ren.renL, V.ren, renL_id _ a1_h.own] <;> rfl) (by simp only [maskF, setF, List.set_cons_zero, List.set_cons_succ, V.idlt.belowL, V.idlt, fun n => idltL_up (n := n) _ a1_h.own] <;> rfl) rfl (wkB_live0 rfl (cellsM_idlt (f := Ref29Arrow.v) (fun _ => rfl) _) rfl trivial)
    conv => whnf
    refine appN_c (f := Ref29Arrow.v) H (fun _ => rfl) (srcM (f := Ref29Arrow.v) (fun _ => rfl) _ _) rfl (.v (srcOwn (f := Ref29Arrow.v) (l := [x27]) (fun _ => rfl) rfl rfl rfl)) (by decide) rfl (by simp) (fun l30 H => ?_); conv => whnf
    refine Ari.w ?_; conv => whnf
    exact again_c [9, 13, 14, 15, 16, 17, 18, 19, 20, 21, 22, 23, 24, 25, 26, 27] n5 2 [0, 3] (.inr (.inr (.inr (.inr (⟨_, _, _, H, rfl, rfl⟩))))) (Nat.lt_succ_self _) (Nat.zero_le _) rfl (by simp only [maskF, setF, List.set_cons_zero, List.set_cons_succ, V.ren.renL, V.ren, renL_id _ a1_h.own] <;> rfl) (by simp only [maskF, setF, List.set_cons_zero, List.set_cons_succ, V.idlt.belowL, V.idlt, fun n => idltL_up (n := n) _ a1_h.own] <;> rfl) rfl (wkB_live0 rfl (cellsM_idlt (f := Ref29Arrow.v) (fun _ => rfl) _) rfl (wkB_live0 rfl (cellsM_idlt (f := Ref29Arrow.v) (fun _ => rfl) _) rfl trivial))
  · rw [p_dirs_State_without_l1] at H
    conv => whnf
    refine tst_d H (fun b35 H => ?_) (fun b35 H => ?_)
    · conv => whnf
      obtain rfl := Option.some.inj H
      have H := HQ4
      try dsimp only at H
      refine finR_c (enc := (fun r : (List Ref29Arrow) × (List Ref29Arrow) => .tup [(fun l : List Ref29Arrow => V.sl (l.map Ref29Arrow.v) false) r.1, (fun l : List Ref29Arrow => V.sl (l.map Ref29Arrow.v) false) r.2])) H ?_; conv => whnf
      exact ⟨_, .tup (.cons (.c (fzown (f := Ref29Arrow.v) (l := y23) rfl rfl (fun _ => rfl) (fun _ => rfl))) (.cons (.c (fzown (f := Ref29Arrow.v) (l := y24) rfl rfl (fun _ => rfl) (fun _ => rfl))) (.nil)))⟩
    conv => whnf
    refine ixs_c (f := Ref29Arrow.v) H (fun _ => rfl) (fun x36 H => ?_); conv => whnf
    refine ⟨Nat.le_of_ble_eq_true rfl, ?_⟩; conv => whnf
    refine askC_c a1_h H (.cons (fzagg (.cons (.id rfl) (.cons (.id rfl) (.nil))) rfl) (.nil)) (fun v37 H => ?_); conv => whnf
    refine tst_c H (fun b38 H => ?_) (fun b38 H => ?_)
    · conv => whnf
      refine appO_c (f := Ref29Arrow.v) H (fun _ => rfl) rfl (Nat.le_refl _) (.v (srcOwn (f := Ref29Arrow.v) (l := [x36]) (fun _ => rfl) rfl rfl rfl)) (by decide) rfl (by simp) (fun l39 H => ?_); conv => whnf
      refine Ari.w ?_; conv => whnf
      exact again_c [9, 13, 14, 15, 16, 17, 18, 19, 20, 21, 22, 23, 24, 25, 26, 27] n5 2 [1, 4] (.inr (.inr (.inr (.inr (⟨_, _, _, H, rfl, rfl⟩))))) (Nat.lt_succ_self _) (Nat.zero_le _) rfl (by simp only [maskF, setF, List.set_cons_zero, List.set_cons_succ, V.ren.renL, V.ren, renL_id _ a1_h.own] <;> rfl) (by simp only [maskF, setF, List.set_cons_zero, List.set_cons_succ, V.idlt.belowL, V.idlt, fun n => idltL_up (n := n) _ a1_h.own] <;> rfl) rfl (wkB_live0 rfl (cellsM_idlt (f := Ref29Arrow.v) (fun _ => rfl) _) rfl (wkB_live0 rfl (cellsM_idlt (f := Ref29Arrow.v) (fun _ => rfl) _) rfl trivial))
    conv => whnf
    refine appO_c (f := Ref29Arrow.v) H (fun _ => rfl) rfl (Nat.le_refl _) (.v (srcOwn (f := Ref29Arrow.v) (l := [x36]) (fun _ => rfl) rfl rfl rfl)) (by decide) rfl (by simp) (fun l40 H => ?_); conv => whnf
    refine Ari.w ?_; conv => whnf
    exact again_c [9, 13, 14, 15, 16, 17, 18, 19, 20, 21, 22, 23, 24, 25, 26, 27] n5 2 [0, 4] (.inr (.inr (.inr (.inl (⟨_, _, _, H, rfl, rfl⟩))))) (Nat.lt_succ_self _) (Nat.zero_le _) rfl (by simp only [maskF, setF, List.set_cons_zero, List.set_cons_succ, V.ren.renL, V.ren, renL_id _ a1_h.own] <;> rfl) (by simp only [maskF, setF, List.set_cons_zero, List.set_cons_succ, V.idlt.belowL, V.idlt, fun n => idltL_up (n := n) _ a1_h.own] <;> rfl) rfl (wkB_live0 rfl (cellsM_idlt (f := Ref29Arrow.v) (fun _ => rfl) _) rfl (wkB_live0 rfl (cellsM_idlt (f := Ref29Arrow.v) (fun _ => rfl) _) rfl trivial))
  rw [p_dirs_State_without_l1] at H
  conv => whnf
  refine tst_d H (fun b41 H => ?_) (fun b41 H => ?_)
  · conv => whnf
    obtain rfl := Option.some.inj H
    have H := HQ4
    try dsimp only at H
    refine finR_c (enc := (fun r : (List Ref29Arrow) × (List Ref29Arrow) => .tup [(fun l : List Ref29Arrow => V.sl (l.map Ref29Arrow.v) false) r.1, (fun l : List Ref29Arrow => V.sl (l.map Ref29Arrow.v) false) r.2])) H ?_; conv => whnf
    exact ⟨_, .tup (.cons (.c (fzown (f := Ref29Arrow.v) (l := y31) rfl rfl (fun _ => rfl) (fun _ => rfl))) (.cons (.c (fzown (f := Ref29Arrow.v) (l := y32) rfl rfl (fun _ => rfl) (fun _ => rfl))) (.nil)))⟩
  conv => whnf
  refine ixs_c (f := Ref29Arrow.v) H (fun _ => rfl) (fun x42 H => ?_); conv => whnf
  refine ⟨Nat.le_of_ble_eq_true rfl, ?_⟩; conv => whnf
  refine askC_c a1_h H (.cons (fzagg (.cons (.id rfl) (.cons (.id rfl) (.nil))) rfl) (.nil)) (fun v43 H => ?_); conv => whnf
  refine tst_c H (fun b44 H => ?_) (fun b44 H => ?_)
  · conv => whnf
    refine appO_c (f := Ref29Arrow.v) H (fun _ => rfl) rfl (Nat.le_refl _) (.v (srcOwn (f := Ref29Arrow.v) (l := [x42]) (fun _ => rfl) rfl rfl rfl)) (by decide) rfl (by simp) (fun l45 H => ?_); conv => whnf
    refine Ari.w ?_; conv => whnf
    exact again_c [9, 13, 14, 15, 16, 17, 18, 19, 20, 21, 22, 23, 24, 25, 26, 27] n5 2 [0, 4] (.inr (.inr (.inr (.inr (⟨_, _, _, H, rfl, rfl⟩))))) (Nat.lt_succ_self _) (Nat.zero_le _) rfl (by simp only [maskF, setF, List.set_cons_zero, List.set_cons_succ, V.ren.renL, V.ren, renL_id _ a1_h.own] <;> rfl) (by simp only [maskF, setF, List.set_cons_zero, List.set_cons_succ, V.idlt.belowL, V.idlt, fun n => idltL_up (n := n) _ a1_h.own] <;> rfl) rfl (wkB_live0 rfl (cellsM_idlt (f := Ref29Arrow.v) (fun _ => rfl) _) rfl (wkB_live0 rfl (cellsM_idlt (f := Ref29Arrow.v) (fun _ => rfl) _) rfl trivial))
  conv => whnf
  refine appO_c (f := Ref29Arrow.v) H (fun _ => rfl) rfl (Nat.le_refl _) (.v (srcOwn (f := Ref29Arrow.v) (l := [x42]) (fun _ => rfl) rfl rfl rfl)) (by decide) rfl (by simp) (fun l46 H => ?_); conv => whnf
  refine Ari.w ?_; conv => whnf
  exact again_c [9, 13, 14, 15, 16, 17, 18, 19, 20, 21, 22, 23, 24, 25, 26, 27] n5 2 [1, 4] (.inr (.inr (.inr (.inl (⟨_, _, _, H, rfl, rfl⟩))))) (Nat.lt_succ_self _) (Nat.zero_le _) rfl (by simp only [maskF, setF, List.set_cons_zero, List.set_cons_succ, V.ren.renL, V.ren, renL_id _ a1_h.own] <;> rfl) (by simp only [maskF, setF, List.set_cons_zero, List.set_cons_succ, V.idlt.belowL, V.idlt, fun n => idltL_up (n := n) _ a1_h.own] <;> rfl) rfl (wkB_live0 rfl (cellsM_idlt (f := Ref29Arrow.v) (fun _ => rfl) _) rfl (wkB_live0 rfl (cellsM_idlt (f := Ref29Arrow.v) (fun _ => rfl) _) rfl trivial))
def gc41 : BCode := (.seq (.reg 0 [⟨(some 6), .mv (.const (.slice none 0 0)), none, 0⟩, ⟨(some 7), .mv (.const (.bool false)), none, 0⟩] none 0 []) (.seq (.seq (.reg 0 [⟨(some 11), .mv (.tmp 0), none, 0⟩, ⟨(some 12), .cl 29 [(.tmp 11)], none, 0⟩, ⟨(some 13), .bin .neq (.tmp 12) (.const (.int .i64 0)), none, 0⟩] none 0 []) (.cond (.tmp 13) (.seq (.reg 0 [⟨(some 14), .mv (.tmp 0), none, 0⟩, ⟨(some 6), .mv (.tmp 14), none, 0⟩, ⟨(some 7), .mv (.const (.bool false)), none, 0⟩] none 0 []) .ret) .skip)) (.seq (.reg 1 [⟨(some 15), .mv (.tmp 1), none, 0⟩, ⟨(some 16), .mv (.tmp 2), none, 0⟩, ⟨(some 17), .bd [(.lit (.string ⟨#[]⟩)), (.lit (.string ⟨#[]⟩))] [(0, 1, (.tmp 15)), (1, 1, (.tmp 16))], none, 0⟩, ⟨(some 8), .al (.agg [(.lit (.string ⟨#[]⟩)), (.lit (.string ⟨#[]⟩))]), none, 0⟩, ⟨none, .st 2 (.tmp 8) (.tmp 17), none, 1⟩] none 0 []) (.seq (.reg 0 [⟨(some 19), .mv (.tmp 0), none, 0⟩, ⟨(some 20), .mf (.func 76) [(.tmp 8)], none, 0⟩, ⟨(some 21), .cl 73 [(.tmp 19), (.tmp 20)], none, 0⟩, ⟨(some 18), .mv (.tmp 21), none, 0⟩, ⟨(some 22), .ex (.tmp 18) 0, none, 0⟩, ⟨(some 23), .ex (.tmp 18) 1, none, 0⟩, ⟨(some 9), .mv (.tmp 22), none, 0⟩, ⟨(some 10), .mv (.tmp 23), none, 0⟩] none 0 [8]) (.seq (.reg 0 [⟨(some 24), .mv (.tmp 9), none, 0⟩, ⟨(some 25), .mv (.tmp 10), none, 0⟩, ⟨(some 26), .lens (.tmp 25), none, 0⟩, ⟨(some 27), .bin .gtr (.tmp 26) (.const (.int .i64 0)), none, 0⟩, ⟨(some 6), .mv (.tmp 24), none, 0⟩, ⟨(some 7), .mv (.tmp 27), none, 0⟩] none 0 []) .ret)))))
theorem gc41_ok : compF Try.prog Try.f41 = some (gc41.er, 28, [.tmp 6, .tmp 7]) := by unfold gc41; kernel_rfl
set_option maxRecDepth 100000 in
set_option maxHeartbeats 4000000 in
theorem p_dirs_Del_v {u1 : Bool} (a0 : List Ref29Arrow) (a1 : ByteArray) (a2 : ByteArray) : CallsO Try.prog 41 [.sl (List.map Ref29Arrow.v a0) u1, .s a1, .s a2] (fun r : (List Ref29Arrow) × Bool => .tup [(fun l : List Ref29Arrow => V.sl (l.map Ref29Arrow.v) false) r.1, V.b r.2]) (p_dirs_Del a0 a1 a2) := by
  refine callsO_comp mix Try.func41 gc41_ok fun r H => ?_
  rw [p_dirs_Del] at H
  conv => whnf
  refine ask_c (p_dirs_Check_v _) H rfl rfl (fun v1 H => ?_); conv => whnf
  refine tst_c H (fun b2 H => ?_) (fun b2 H => ?_)
  · conv => whnf
    refine finR_c (enc := (fun r : (List Ref29Arrow) × Bool => .tup [(fun l : List Ref29Arrow => V.sl (l.map Ref29Arrow.v) false) r.1, V.b r.2])) H ?_; conv => whnf
    exact ⟨_, .tup (.cons (.c (.slw)) (.cons (.c (.id rfl)) (.nil)))⟩
  conv => whnf
  refine ⟨Nat.le_of_ble_eq_true rfl, ?_⟩; conv => whnf
  refine ⟨Nat.zero_le _, ?_⟩; conv => whnf
  refine askF_c (p_dirs_State_without_v _ _ ⟨⟨_, Try.func76, by kernel_rfl, by kernel_rfl⟩, rfl, fun x0 => p_dirs_Del_1_v _ _⟩) H (.cons (.c (.slw)) (.cons (.c (.clo (.cons (.ptr rfl (Nat.le_of_ble_eq_true rfl) (.cons (.id rfl) (.cons (.id rfl) (.nil)))) (.nil)))) (.nil))) (fun v3 H => ?_); conv => whnf
  refine LenQ.M ?_; conv => whnf
  exact fin0_c (enc := (fun r : (List Ref29Arrow) × Bool => .tup [(fun l : List Ref29Arrow => V.sl (l.map Ref29Arrow.v) false) r.1, V.b r.2])) H (.inr rfl) (.cons (.tmp rfl) (.cons (.tmp rfl) (.nil))) rfl rfl
def gc74 : BCode := (.seq (.reg 1 [⟨(some 2), .bx (.tmp 0), none, 0⟩, ⟨(some 3), .mv (.const (.bool false)), none, 1⟩] none 0 []) (.seq (.reg 0 [⟨(some 4), .fa 0 (.tmp 2), none, 0⟩, ⟨(some 5), .ld 1 false (.tmp 4), none, 0⟩, ⟨(some 6), .ld 1 false (.tmp 1), none, 0⟩, ⟨(some 7), .bin .eql (.tmp 5) (.tmp 6), none, 0⟩, ⟨(some 3), .mv (.tmp 7), none, 0⟩] none 0 []) .ret))
theorem gc74_ok : compF Try.prog Try.f74 = some (gc74.er, 8, [.tmp 3]) := by unfold gc74; kernel_rfl
set_option maxRecDepth 100000 in
set_option maxHeartbeats 4000000 in
theorem p_dirs_Clear_1_v (a0 : Ref29Arrow) (c0 : ByteArray) : CallsO Try.prog 74 [.agg [.s a0.From, .s a0.To], .eptr [.s c0]] V.b (p_dirs_Clear_1 a0 c0) := by
  refine callsO_comp mix Try.func74 gc74_ok fun r H => ?_
  rw [p_dirs_Clear_1] at H
  conv => whnf
  exact fin0_c (enc := V.b) H (.inr rfl) (.cons (.tmp rfl) (.nil)) rfl rfl
def gc75 : BCode := (.seq (.reg 0 [⟨(some 2), .mv (.const (.slice none 0 0)), none, 0⟩] none 0 []) (.seq (.reg 0 [⟨(some 3), .mv (.const (.slice none 0 0)), none, 0⟩] none 0 []) (.seq (.seq (.reg 0 [⟨(some 6), .mv (.tmp 0), none, 0⟩, ⟨(some 7), .lens (.tmp 6), none, 0⟩, ⟨(some 8), .mv (.const (.int .i64 0)), none, 0⟩] none 0 []) (.block 0 (.loop (.seq (.reg 0 [⟨(some 9), .bin .lss (.tmp 8) (.tmp 7), none, 0⟩] none 0 []) (.seq (.cond (.tmp 9) .skip (.exit 0)) (.seq (.block 1 (.seq (.reg 1 [⟨(some 10), .ixs 2 (.tmp 6) (.tmp 8), none, 0⟩, ⟨(some 11), .ld 2 true (.tmp 10), none, 0⟩, ⟨(some 5), .al (.agg [(.lit (.string ⟨#[]⟩)), (.lit (.string ⟨#[]⟩))]), none, 0⟩, ⟨none, .st 2 (.tmp 5) (.tmp 11), none, 1⟩] none 0 []) (.reg 2 [⟨(some 12), .mv (.tmp 3), none, 0⟩, ⟨(some 13), .fa 1 (.tmp 5), none, 0⟩, ⟨(some 14), .ld 1 false (.tmp 13), none, 0⟩, ⟨(some 15), .bs 1 1 [(.lit (.string ⟨#[]⟩))] [(0, (.tmp 14))], none, 0⟩, ⟨(some 16), .ap 1 16 (.tmp 12) (.tmp 15), none, 1⟩, ⟨(some 3), .mv (.tmp 16), none, 2⟩] none 0 []))) (.reg 0 [⟨(some 17), .bin .add (.tmp 8) (.const (.int .i64 1)), none, 0⟩, ⟨(some 8), .mv (.tmp 17), none, 0⟩] none 0 []))))))) (.seq (.reg 0 [⟨(some 18), .mv (.tmp 3), none, 0⟩, ⟨(some 2), .mv (.tmp 18), none, 0⟩] none 0 []) .ret))))
theorem gc75_ok : compF Try.prog Try.f75 = some (gc75.er, 19, [.tmp 2]) := by unfold gc75; kernel_rfl
set_option maxRecDepth 100000 in
set_option maxHeartbeats 4000000 in
theorem p_dirs_State_tos_v {u1 : Bool} (a0 : List Ref29Arrow) : CallsO Try.prog 75 [.sl (List.map Ref29Arrow.v a0) u1] (fun l : List ByteArray => V.sl (l.map V.s) false) (p_dirs_State_tos a0) := by
  refine callsO_comp mix Try.func75 gc75_ok fun r H => ?_
  rw [p_dirs_State_tos] at H
  conv => whnf
  refine LenQ.M ?_; conv => whnf
  obtain ⟨o2, HL3, HQ4⟩ := bind_c H
  refine loop_c [3, 8] [5, 9, 10, 11, 12, 13, 14, 15, 16, 17] [5, 9, 10, 11, 12, 13, 14, 15, 16, 17] (fun n vals st => (∃ y6, p_dirs_State_tos_l1  a0 (a0.length : Int) n [] y6 = some o2 ∧ vals = [.sl (List.map V.s []) true, .i y6] ∧ st = []) ∨ (∃ y10 y11, p_dirs_State_tos_l1  a0 (a0.length : Int) n y10 y11 = some o2 ∧ vals = [.osl 0 0 (List.length y10) 1 false, .i y11] ∧ st = [.live (cellsM V.s y10) (cellsM V.s y10).length])) fuel 0 [] (.inl (⟨_, HL3, rfl, rfl⟩)) (Nat.zero_le _) rfl (by kernel_rfl) (by kernel_rfl) rfl trivial ?_
  rintro (_ | n5) _ _ (⟨y6, H, rfl, rfl⟩ | ⟨y10, y11, H, rfl, rfl⟩)
  · rw [p_dirs_State_tos_l1] at H; cases H
  · rw [p_dirs_State_tos_l1] at H; cases H
  · rw [p_dirs_State_tos_l1] at H
    conv => whnf
    refine tst_d H (fun b7 H => ?_) (fun b7 H => ?_)
    · conv => whnf
      obtain rfl := Option.some.inj H
      have H := HQ4
      try dsimp only at H
      refine finR_c (enc := (fun l : List ByteArray => V.sl (l.map V.s) false)) H ?_; conv => whnf
      exact ⟨_, .v (.c (.slw))⟩
    conv => whnf
    refine ixs_c (f := Ref29Arrow.v) H (fun _ => rfl) (fun x8 H => ?_); conv => whnf
    refine ⟨Nat.le_of_ble_eq_true rfl, ?_⟩; conv => whnf
    refine appN_c (f := V.s) H (fun _ => rfl) (srcM (f := V.s) (fun _ => rfl) _ _) rfl (.v (srcOwn (f := V.s) (l := [x8.To]) (fun _ => rfl) rfl rfl rfl)) (by decide) rfl (by simp) (fun l9 H => ?_); conv => whnf
    refine Ari.w ?_; conv => whnf
    exact again_c [5, 9, 10, 11, 12, 13, 14, 15, 16, 17] n5 1 [2] (.inr (⟨_, _, H, rfl, rfl⟩)) (Nat.lt_succ_self _) (Nat.zero_le _) rfl (by kernel_rfl) (by kernel_rfl) rfl (wkB_live0 rfl (cellsM_idlt (f := V.s) (fun _ => rfl) _) rfl trivial)
  rw [p_dirs_State_tos_l1] at H
  conv => whnf
  refine tst_d H (fun b12 H => ?_) (fun b12 H => ?_)
  · conv => whnf
    obtain rfl := Option.some.inj H
    have H := HQ4
    try dsimp only at H
    refine finR_c (enc := (fun l : List ByteArray => V.sl (l.map V.s) false)) H ?_; conv => whnf
    exact ⟨_, .v (.c (fzown (f := V.s) (l := y10) rfl rfl (fun _ => rfl) (fun _ => rfl)))⟩
  conv => whnf
  refine ixs_c (f := Ref29Arrow.v) H (fun _ => rfl) (fun x13 H => ?_); conv => whnf
  refine ⟨Nat.le_of_ble_eq_true rfl, ?_⟩; conv => whnf
  refine appO_c (f := V.s) H (fun _ => rfl) rfl (Nat.le_refl _) (.v (srcOwn (f := V.s) (l := [x13.To]) (fun _ => rfl) rfl rfl rfl)) (by decide) rfl (by simp) (fun l14 H => ?_); conv => whnf
  refine Ari.w ?_; conv => whnf
  exact again_c [5, 9, 10, 11, 12, 13, 14, 15, 16, 17] n5 1 [3] (.inr (⟨_, _, H, rfl, rfl⟩)) (Nat.lt_succ_self _) (Nat.zero_le _) rfl (by kernel_rfl) (by kernel_rfl) rfl (wkB_live0 rfl (cellsM_idlt (f := V.s) (fun _ => rfl) _) rfl trivial)
def gc40 : BCode := (.seq (.reg 1 [⟨(some 3), .bx (.tmp 1), none, 0⟩, ⟨(some 4), .mv (.const (.slice none 0 0)), none, 1⟩, ⟨(some 5), .mv (.const (.slice none 0 0)), none, 1⟩] none 0 []) (.seq (.seq (.reg 0 [⟨(some 8), .mv (.tmp 0), none, 0⟩, ⟨(some 9), .cl 29 [(.tmp 8)], none, 0⟩, ⟨(some 10), .bin .neq (.tmp 9) (.const (.int .i64 0)), none, 0⟩] none 0 []) (.cond (.tmp 10) (.seq (.reg 0 [⟨(some 11), .mv (.tmp 0), none, 0⟩, ⟨(some 4), .mv (.tmp 11), none, 0⟩, ⟨(some 5), .mv (.const (.slice none 0 0)), none, 0⟩] none 0 []) .ret) .skip)) (.seq (.reg 0 [⟨(some 13), .mv (.tmp 0), none, 0⟩, ⟨(some 14), .mf (.func 74) [(.tmp 3)], none, 0⟩, ⟨(some 15), .cl 73 [(.tmp 13), (.tmp 14)], none, 0⟩, ⟨(some 12), .mv (.tmp 15), none, 0⟩, ⟨(some 16), .ex (.tmp 12) 0, none, 0⟩, ⟨(some 17), .ex (.tmp 12) 1, none, 0⟩, ⟨(some 6), .mv (.tmp 16), none, 0⟩, ⟨(some 7), .mv (.tmp 17), none, 0⟩] none 0 [3]) (.seq (.reg 0 [⟨(some 18), .mv (.tmp 6), none, 0⟩, ⟨(some 19), .mv (.tmp 7), none, 0⟩, ⟨(some 20), .cl 75 [(.tmp 19)], none, 0⟩, ⟨(some 4), .mv (.tmp 18), none, 0⟩, ⟨(some 5), .mv (.tmp 20), none, 0⟩] none 0 []) .ret))))
theorem gc40_ok : compF Try.prog Try.f40 = some (gc40.er, 21, [.tmp 4, .tmp 5]) := by unfold gc40; kernel_rfl
set_option maxRecDepth 100000 in
set_option maxHeartbeats 4000000 in
theorem p_dirs_Clear_v {u1 : Bool} (a0 : List Ref29Arrow) (a1 : ByteArray) : CallsO Try.prog 40 [.sl (List.map Ref29Arrow.v a0) u1, .s a1] (fun r : (List Ref29Arrow) × (List ByteArray) => .tup [(fun l : List Ref29Arrow => V.sl (l.map Ref29Arrow.v) false) r.1, (fun l : List ByteArray => V.sl (l.map V.s) false) r.2]) (p_dirs_Clear a0 a1) := by
  refine callsO_comp mix Try.func40 gc40_ok fun r H => ?_
  rw [p_dirs_Clear] at H
  conv => whnf
  refine ask_c (p_dirs_Check_v _) H rfl rfl (fun v1 H => ?_); conv => whnf
  refine tst_c H (fun b2 H => ?_) (fun b2 H => ?_)
  · conv => whnf
    refine finR_c (enc := (fun r : (List Ref29Arrow) × (List ByteArray) => .tup [(fun l : List Ref29Arrow => V.sl (l.map Ref29Arrow.v) false) r.1, (fun l : List ByteArray => V.sl (l.map V.s) false) r.2])) H ?_; conv => whnf
    exact ⟨_, .tup (.cons (.c (.slw)) (.cons (.c (.slw)) (.nil)))⟩
  conv => whnf
  refine ⟨Nat.zero_le _, ?_⟩; conv => whnf
  refine askF_c (p_dirs_State_without_v _ _ ⟨⟨_, Try.func74, by kernel_rfl, by kernel_rfl⟩, rfl, fun x0 => p_dirs_Clear_1_v _ _⟩) H (.cons (.c (.slw)) (.cons (.c (.clo (.cons (.ptr rfl (Nat.le_of_ble_eq_true rfl) (.cons (.id rfl) (.nil))) (.nil)))) (.nil))) (fun v3 H => ?_); conv => whnf
  refine ask_c (p_dirs_State_tos_v _) H rfl rfl (fun v4 H => ?_); conv => whnf
  exact fin0_c (enc := (fun r : (List Ref29Arrow) × (List ByteArray) => .tup [(fun l : List Ref29Arrow => V.sl (l.map Ref29Arrow.v) false) r.1, (fun l : List ByteArray => V.sl (l.map V.s) false) r.2])) H (.inr rfl) (.cons (.tmp rfl) (.cons (.tmp rfl) (.nil))) rfl rfl
end Go.Proofs.Ythmgficajgedlaa
/- That the program's functions yield what the plain ones tell (written by a program of mine). -/
namespace Go.Proofs.Ythmgficajgedlaa
open Go.RowKit
def gc80 : BCode := (.seq (.reg 1 [⟨(some 3), .bx (.tmp 0), none, 0⟩, ⟨(some 4), .mv (.const (.bool false)), none, 1⟩] none 0 []) (.seq (.reg 0 [⟨(some 8), .ld 2 true (.tmp 3), none, 0⟩, ⟨(some 9), .cl 81 [(.tmp 8)], none, 0⟩, ⟨(some 7), .mv (.tmp 9), none, 0⟩, ⟨(some 10), .ex (.tmp 7) 0, none, 0⟩, ⟨(some 11), .ex (.tmp 7) 1, none, 0⟩, ⟨(some 5), .mv (.tmp 10), none, 0⟩, ⟨(some 6), .mv (.tmp 11), none, 0⟩] none 0 []) (.seq (.reg 0 [⟨(some 12), .mv (.tmp 5), none, 0⟩, ⟨(some 13), .ld 1 false (.tmp 1), none, 0⟩, ⟨(some 14), .bin .eql (.tmp 12) (.tmp 13), none, 0⟩, ⟨(some 15), .mv (.tmp 14), none, 0⟩, ⟨(some 16), .fa 1 (.tmp 3), (some (15, true)), 0⟩, ⟨(some 17), .ld 1 false (.tmp 16), (some (15, true)), 0⟩, ⟨(some 18), .ld 1 false (.tmp 2), (some (15, true)), 0⟩, ⟨(some 19), .bin .eql (.tmp 17) (.tmp 18), (some (15, true)), 0⟩, ⟨(some 20), .pick (.tmp 15) (.tmp 19) (.const (.bool false)), none, 0⟩, ⟨(some 4), .mv (.tmp 20), none, 0⟩] none 0 []) .ret)))
theorem gc80_ok : compF Try.prog Try.f80 = some (gc80.er, 21, [.tmp 4]) := by unfold gc80; kernel_rfl
set_option maxRecDepth 100000 in
set_option maxHeartbeats 4000000 in
theorem p_dirs_Only_1_v (a0 : Ref29Arrow) (c0 : ByteArray) (c1 : ByteArray) : CallsO Try.prog 80 [.agg [.s a0.From, .s a0.To], .eptr [.s c0], .eptr [.s c1]] V.b (p_dirs_Only_1 a0 c0 c1) := by
  refine callsO_comp mix Try.func80 gc80_ok fun r H => ?_
  rw [p_dirs_Only_1] at H
  conv => whnf
  refine ask_c (p_dirs_Arrow_user_v _) H rfl rfl (fun v1 H => ?_); conv => whnf
  refine tst_c H (fun b2 H => ?_) (fun b2 H => ?_)
  · conv => whnf
    iterate 4 (refine Tst.T ?_; conv => whnf)
    exact fin0_c (enc := V.b) H (.inr rfl) (.cons (.tmp rfl) (.nil)) rfl rfl
  conv => whnf
  iterate 4 (refine Tst.F ?_; conv => whnf)
  exact fin0_c (enc := V.b) H (.inr rfl) (.cons (.tmp rfl) (.nil)) rfl rfl
def gc43 : BCode := (.seq (.reg 2 [⟨(some 4), .bx (.tmp 1), none, 0⟩, ⟨(some 5), .bx (.tmp 2), none, 1⟩, ⟨(some 6), .mv (.const (.slice none 0 0)), none, 2⟩, ⟨(some 7), .mv (.const (.int .i64 0)), none, 2⟩] none 0 []) (.seq (.seq (.reg 0 [⟨(some 10), .mv (.tmp 0), none, 0⟩, ⟨(some 11), .cl 29 [(.tmp 10)], none, 0⟩, ⟨(some 12), .bin .neq (.tmp 11) (.const (.int .i64 0)), none, 0⟩] none 0 []) (.cond (.tmp 12) (.seq (.reg 0 [⟨(some 13), .mv (.tmp 0), none, 0⟩, ⟨(some 6), .mv (.tmp 13), none, 0⟩, ⟨(some 7), .mv (.const (.int .i64 0)), none, 0⟩] none 0 []) .ret) .skip)) (.seq (.reg 0 [⟨(some 15), .mv (.tmp 0), none, 0⟩, ⟨(some 16), .mf (.func 80) [(.tmp 4), (.tmp 5)], none, 0⟩, ⟨(some 17), .cl 73 [(.tmp 15), (.tmp 16)], none, 0⟩, ⟨(some 14), .mv (.tmp 17), none, 0⟩, ⟨(some 18), .ex (.tmp 14) 0, none, 0⟩, ⟨(some 19), .ex (.tmp 14) 1, none, 0⟩, ⟨(some 8), .mv (.tmp 18), none, 0⟩, ⟨(some 9), .mv (.tmp 19), none, 0⟩] none 0 [4, 5]) (.seq (.reg 0 [⟨(some 20), .mv (.tmp 8), none, 0⟩, ⟨(some 21), .mv (.tmp 9), none, 0⟩, ⟨(some 22), .lens (.tmp 21), none, 0⟩, ⟨(some 6), .mv (.tmp 20), none, 0⟩, ⟨(some 7), .mv (.tmp 22), none, 0⟩] none 0 []) .ret))))
theorem gc43_ok : compF Try.prog Try.f43 = some (gc43.er, 23, [.tmp 6, .tmp 7]) := by unfold gc43; kernel_rfl
set_option maxRecDepth 100000 in
set_option maxHeartbeats 4000000 in
theorem p_dirs_Only_v {u1 : Bool} (a0 : List Ref29Arrow) (a1 : ByteArray) (a2 : ByteArray) : CallsO Try.prog 43 [.sl (List.map Ref29Arrow.v a0) u1, .s a1, .s a2] (fun r : (List Ref29Arrow) × Int => .tup [(fun l : List Ref29Arrow => V.sl (l.map Ref29Arrow.v) false) r.1, V.i r.2]) (p_dirs_Only a0 a1 a2) := by
  refine callsO_comp mix Try.func43 gc43_ok fun r H => ?_
  rw [p_dirs_Only] at H
  conv => whnf
  refine ask_c (p_dirs_Check_v _) H rfl rfl (fun v1 H => ?_); conv => whnf
  refine tst_c H (fun b2 H => ?_) (fun b2 H => ?_)
  · conv => whnf
    refine finR_c (enc := (fun r : (List Ref29Arrow) × Int => .tup [(fun l : List Ref29Arrow => V.sl (l.map Ref29Arrow.v) false) r.1, V.i r.2])) H ?_; conv => whnf
    exact ⟨_, .tup (.cons (.c (.slw)) (.cons (.c (.id rfl)) (.nil)))⟩
  conv => whnf
  refine ⟨Nat.zero_le _, ?_⟩; conv => whnf
  refine ⟨Nat.zero_le _, ?_⟩; conv => whnf
  refine askF_c (p_dirs_State_without_v _ _ ⟨⟨_, Try.func80, by kernel_rfl, by kernel_rfl⟩, rfl, fun x0 => p_dirs_Only_1_v _ _ _⟩) H (.cons (.c (.slw)) (.cons (.c (.clo (.cons (.ptr rfl (Nat.le_of_ble_eq_true rfl) (.cons (.id rfl) (.nil))) (.cons (.ptr rfl (Nat.le_of_ble_eq_true rfl) (.cons (.id rfl) (.nil))) (.nil))))) (.nil))) (fun v3 H => ?_); conv => whnf
  refine LenQ.M ?_; conv => whnf
  exact fin0_c (enc := (fun r : (List Ref29Arrow) × Int => .tup [(fun l : List Ref29Arrow => V.sl (l.map Ref29Arrow.v) false) r.1, V.i r.2])) H (.inr rfl) (.cons (.tmp rfl) (.cons (.tmp rfl) (.nil))) rfl rfl
def gc31 : BCode := (.seq (.reg 0 [⟨(some 4), .mv (.const (.bool false)), none, 0⟩] none 0 []) (.seq (.seq (.reg 0 [⟨(some 6), .mv (.tmp 0), none, 0⟩, ⟨(some 7), .lens (.tmp 6), none, 0⟩, ⟨(some 8), .mv (.tmp 1), none, 0⟩, ⟨(some 9), .lens (.tmp 8), none, 0⟩, ⟨(some 10), .bin .neq (.tmp 7) (.tmp 9), none, 0⟩] none 0 []) (.cond (.tmp 10) (.seq (.reg 0 [⟨(some 4), .mv (.const (.bool false)), none, 0⟩] none 0 []) .ret) .skip)) (.seq (.seq (.reg 0 [⟨(some 5), .mv (.const (.int .i64 0)), none, 0⟩] none 0 []) (.block 0 (.loop (.seq (.seq (.reg 0 [⟨(some 11), .mv (.tmp 5), none, 0⟩, ⟨(some 12), .mv (.tmp 0), none, 0⟩, ⟨(some 13), .lens (.tmp 12), none, 0⟩, ⟨(some 14), .bin .lss (.tmp 11) (.tmp 13), none, 0⟩] none 0 []) (.cond (.tmp 14) .skip (.exit 0))) (.seq (.block 1 (.seq (.reg 0 [⟨(some 17), .mv (.tmp 0), none, 0⟩, ⟨(some 18), .mv (.tmp 5), none, 0⟩, ⟨(some 19), .ixs 1 (.tmp 17) (.tmp 18), none, 0⟩, ⟨(some 20), .ld 1 false (.tmp 19), none, 0⟩, ⟨(some 21), .mv (.tmp 1), none, 0⟩, ⟨(some 22), .mv (.tmp 5), none, 0⟩, ⟨(some 23), .ixs 1 (.tmp 21) (.tmp 22), none, 0⟩, ⟨(some 24), .ld 1 false (.tmp 23), none, 0⟩, ⟨(some 25), .bin .neq (.tmp 20) (.tmp 24), none, 0⟩] (some [[], [], [1, 0], [0, 1, 2], [], [], [5, 4], [4, 5, 6], [6, 5, 4, 7, 2, 1, 0, 3]]) 0 []) (.cond (.tmp 25) (.seq (.reg 0 [⟨(some 4), .mv (.const (.bool false)), none, 0⟩] none 0 []) .ret) .skip))) (.reg 0 [⟨(some 15), .mv (.tmp 5), none, 0⟩, ⟨(some 16), .bin .add (.tmp 15) (.const (.int .i64 1)), none, 0⟩, ⟨(some 5), .mv (.tmp 16), none, 0⟩] none 0 [])))))) (.seq (.reg 0 [⟨(some 4), .mv (.const (.bool true)), none, 0⟩] none 0 []) .ret))))
theorem gc31_ok : compF Try.prog Try.f31 = some (gc31.er, 26, [.tmp 4]) := by unfold gc31; kernel_rfl
set_option maxRecDepth 100000 in
set_option maxHeartbeats 4000000 in
theorem p_ref01_SameTexts_v {u1 u2 : Bool} (a0 : List ByteArray) (a1 : List ByteArray) : CallsO Try.prog 31 [.sl (List.map V.s a0) u1, .sl (List.map V.s a1) u2] V.b (p_ref01_SameTexts a0 a1) := by
  refine callsO_comp mix Try.func31 gc31_ok fun r H => ?_
  rw [p_ref01_SameTexts] at H
  conv => whnf
  iterate 2 (refine LenQ.M ?_; conv => whnf)
  refine tst_c H (fun b1 H => ?_) (fun b1 H => ?_)
  · conv => whnf
    exact fin0_c (enc := V.b) H (.inr rfl) (.cons (.tmp rfl) (.nil)) rfl rfl
  conv => whnf
  obtain ⟨o3, HL4, HQ5⟩ := bind_c H
  refine loop_c [4, 5] [11, 12, 13, 14, 15, 16, 17, 18, 19, 20, 21, 22, 23, 24, 25] [11, 12, 13, 14, 15, 16, 17, 18, 19, 20, 21, 22, 23, 24, 25] (fun n vals st => (∃ y7, p_ref01_SameTexts_l1  a0 a1 n y7 = some o3 ∧ vals = [.b false, .i y7] ∧ st = [])) fuel 0 [] (⟨_, HL4, rfl, rfl⟩) (Nat.zero_le _) rfl (by kernel_rfl) (by kernel_rfl) rfl trivial ?_
  rintro (_ | n6) _ _ (⟨y7, H, rfl, rfl⟩)
  · rw [p_ref01_SameTexts_l1] at H; cases H
  rw [p_ref01_SameTexts_l1] at H
  conv => whnf
  refine LenQ.M ?_; conv => whnf
  refine tst_d H (fun b8 H => ?_) (fun b8 H => ?_)
  · conv => whnf
    obtain rfl := Option.some.inj H
    have H := HQ5
    try dsimp only at H
    exact fin0_c (enc := V.b) H (.inr rfl) (.cons (.tmp rfl) (.nil)) rfl rfl
  conv => whnf
  refine ixs_c (f := V.s) H (fun _ => rfl) (fun x9 H => ?_); conv => whnf
  refine ixs_c (f := V.s) H (fun _ => rfl) (fun x10 H => ?_); conv => whnf
  refine FootQ.mk ⟨rfl, ?_⟩; conv => whnf
  refine Tst.not ?_
  refine tst_d H (fun b11 H => ?_) (fun b11 H => ?_)
  · conv => whnf
    obtain rfl := Option.some.inj H
    have H := HQ5
    try dsimp only at H
    exact fin0_c (enc := V.b) H (.inr rfl) (.cons (.tmp rfl) (.nil)) rfl rfl
  conv => whnf
  refine Ari.w ?_; conv => whnf
  exact again_c [11, 12, 13, 14, 15, 16, 17, 18, 19, 20, 21, 22, 23, 24, 25] n6 0 [] (⟨_, H, rfl, rfl⟩) (Nat.lt_succ_self _) (Nat.zero_le _) rfl (by kernel_rfl) (by kernel_rfl) rfl trivial
def gc72 : BCode := (.seq (.reg 0 [⟨(some 4), .mv (.const (.bool false)), none, 0⟩] none 0 []) (.seq (.seq (.reg 0 [⟨(some 6), .mv (.tmp 0), none, 0⟩, ⟨(some 7), .lens (.tmp 6), none, 0⟩, ⟨(some 8), .mv (.tmp 1), none, 0⟩, ⟨(some 9), .lens (.tmp 8), none, 0⟩, ⟨(some 10), .bin .neq (.tmp 7) (.tmp 9), none, 0⟩] none 0 []) (.cond (.tmp 10) (.seq (.reg 0 [⟨(some 4), .mv (.const (.bool false)), none, 0⟩] none 0 []) .ret) .skip)) (.seq (.seq (.reg 0 [⟨(some 11), .mv (.tmp 0), none, 0⟩, ⟨(some 12), .lens (.tmp 11), none, 0⟩, ⟨(some 13), .mv (.const (.int .i64 0)), none, 0⟩] none 0 []) (.block 0 (.loop (.seq (.reg 0 [⟨(some 14), .bin .lss (.tmp 13) (.tmp 12), none, 0⟩] none 0 []) (.seq (.cond (.tmp 14) .skip (.exit 0)) (.seq (.block 1 (.seq (.reg 0 [⟨(some 15), .mv (.tmp 13), none, 0⟩, ⟨(some 5), .mv (.tmp 15), none, 0⟩] none 0 []) (.seq (.reg 0 [⟨(some 16), .mv (.tmp 0), none, 0⟩, ⟨(some 17), .mv (.tmp 5), none, 0⟩, ⟨(some 18), .ixs 2 (.tmp 16) (.tmp 17), none, 0⟩, ⟨(some 19), .ld 2 true (.tmp 18), none, 0⟩, ⟨(some 20), .mv (.tmp 1), none, 0⟩, ⟨(some 21), .mv (.tmp 5), none, 0⟩, ⟨(some 22), .ixs 2 (.tmp 20) (.tmp 21), none, 0⟩, ⟨(some 23), .ld 2 true (.tmp 22), none, 0⟩, ⟨(some 24), .eqa true [2, 2] (.tmp 19) (.tmp 23), none, 0⟩] (some [[], [], [1, 0], [0, 1, 2], [], [], [5, 4], [4, 5, 6], [6, 5, 4, 7, 2, 1, 0, 3]]) 0 []) (.cond (.tmp 24) (.seq (.reg 0 [⟨(some 4), .mv (.const (.bool false)), none, 0⟩] none 0 []) .ret) .skip)))) (.reg 0 [⟨(some 25), .bin .add (.tmp 13) (.const (.int .i64 1)), none, 0⟩, ⟨(some 13), .mv (.tmp 25), none, 0⟩] none 0 []))))))) (.seq (.reg 0 [⟨(some 4), .mv (.const (.bool true)), none, 0⟩] none 0 []) .ret))))
theorem gc72_ok : compF Try.prog Try.f72 = some (gc72.er, 26, [.tmp 4]) := by unfold gc72; kernel_rfl
set_option maxRecDepth 100000 in
set_option maxHeartbeats 4000000 in
theorem p_slices_Equal_dirs_State_dirs_Arrow__v {u1 u2 : Bool} (a0 : List Ref29Arrow) (a1 : List Ref29Arrow) : CallsO Try.prog 72 [.sl (List.map Ref29Arrow.v a0) u1, .sl (List.map Ref29Arrow.v a1) u2] V.b (p_slices_Equal_dirs_State_dirs_Arrow_ a0 a1) := by
  refine callsO_comp mix Try.func72 gc72_ok fun r H => ?_
  rw [p_slices_Equal_dirs_State_dirs_Arrow_] at H
  conv => whnf
  iterate 2 (refine LenQ.M ?_; conv => whnf)
  refine tst_c H (fun b1 H => ?_) (fun b1 H => ?_)
  · conv => whnf
    exact fin0_c (enc := V.b) H (.inr rfl) (.cons (.tmp rfl) (.nil)) rfl rfl
  conv => whnf
  refine LenQ.M ?_; conv => whnf
  obtain ⟨o3, HL4, HQ5⟩ := bind_c H
  refine loop_c [4, 13] [5, 14, 15, 16, 17, 18, 19, 20, 21, 22, 23, 24, 25] [5, 14, 15, 16, 17, 18, 19, 20, 21, 22, 23, 24, 25] (fun n vals st => (∃ y7, p_slices_Equal_dirs_State_dirs_Arrow__l1  a0 a1 (a0.length : Int) n y7 = some o3 ∧ vals = [.b false, .i y7] ∧ st = [])) fuel 0 [] (⟨_, HL4, rfl, rfl⟩) (Nat.zero_le _) rfl (by kernel_rfl) (by kernel_rfl) rfl trivial ?_
  rintro (_ | n6) _ _ (⟨y7, H, rfl, rfl⟩)
  · rw [p_slices_Equal_dirs_State_dirs_Arrow__l1] at H; cases H
  rw [p_slices_Equal_dirs_State_dirs_Arrow__l1] at H
  conv => whnf
  refine tst_d H (fun b8 H => ?_) (fun b8 H => ?_)
  · conv => whnf
    obtain rfl := Option.some.inj H
    have H := HQ5
    try dsimp only at H
    exact fin0_c (enc := V.b) H (.inr rfl) (.cons (.tmp rfl) (.nil)) rfl rfl
  conv => whnf
  refine ixs_c (f := Ref29Arrow.v) H (fun _ => rfl) (fun x9 H => ?_); conv => whnf
  refine ixs_c (f := Ref29Arrow.v) H (fun _ => rfl) (fun x10 H => ?_); conv => whnf
  refine FootQ.mk ⟨rfl, ?_⟩; conv => whnf
  refine Tst.not ?_
  refine tst_d H (fun b11 H => ?_) (fun b11 H => ?_)
  · conv => whnf
    obtain rfl := Option.some.inj H
    have H := HQ5
    try dsimp only at H
    exact fin0_c (enc := V.b) H (.inr rfl) (.cons (.tmp rfl) (.nil)) rfl rfl
  conv => whnf
  refine Ari.w ?_; conv => whnf
  exact again_c [5, 14, 15, 16, 17, 18, 19, 20, 21, 22, 23, 24, 25] n6 0 [] (⟨_, H, rfl, rfl⟩) (Nat.lt_succ_self _) (Nat.zero_le _) rfl (by kernel_rfl) (by kernel_rfl) rfl trivial
def gc38 : BCode := (.seq (.reg 0 [⟨(some 4), .mv (.const (.bool false)), none, 0⟩] none 0 []) (.seq (.reg 0 [⟨(some 5), .mv (.tmp 0), none, 0⟩, ⟨(some 6), .mv (.tmp 1), none, 0⟩, ⟨(some 7), .cl 72 [(.tmp 5), (.tmp 6)], none, 0⟩, ⟨(some 4), .mv (.tmp 7), none, 0⟩] none 0 []) .ret))
theorem gc38_ok : compF Try.prog Try.f38 = some (gc38.er, 8, [.tmp 4]) := by unfold gc38; kernel_rfl
set_option maxRecDepth 100000 in
set_option maxHeartbeats 4000000 in
theorem p_dirs_Same_v {u1 u2 : Bool} (a0 : List Ref29Arrow) (a1 : List Ref29Arrow) : CallsO Try.prog 38 [.sl (List.map Ref29Arrow.v a0) u1, .sl (List.map Ref29Arrow.v a1) u2] V.b (p_dirs_Same a0 a1) := by
  refine callsO_comp mix Try.func38 gc38_ok fun r H => ?_
  rw [p_dirs_Same] at H
  conv => whnf
  refine ask_c (p_slices_Equal_dirs_State_dirs_Arrow__v _ _) H rfl rfl (fun v1 H => ?_); conv => whnf
  exact fin0_c (enc := V.b) H (.inr rfl) (.cons (.tmp rfl) (.nil)) rfl rfl
def gc34 : BCode := (.seq (.reg 0 [⟨(some 4), .mv (.const (.slice none 0 0)), none, 0⟩] none 0 []) (.seq (.seq (.reg 0 [⟨(some 8), .mv (.tmp 0), none, 0⟩, ⟨(some 9), .cl 29 [(.tmp 8)], none, 0⟩, ⟨(some 10), .bin .neq (.tmp 9) (.const (.int .i64 0)), none, 0⟩] none 0 []) (.cond (.tmp 10) (.seq (.reg 0 [⟨(some 4), .mv (.const (.slice none 0 0)), none, 0⟩] none 0 []) .ret) .skip)) (.seq (.reg 0 [⟨(some 5), .mv (.const (.slice none 0 0)), none, 0⟩] none 0 []) (.seq (.seq (.reg 0 [⟨(some 11), .mv (.tmp 0), none, 0⟩, ⟨(some 12), .lens (.tmp 11), none, 0⟩, ⟨(some 13), .mv (.const (.int .i64 0)), none, 0⟩] none 0 []) (.block 0 (.loop (.seq (.reg 0 [⟨(some 14), .bin .lss (.tmp 13) (.tmp 12), none, 0⟩] none 0 []) (.seq (.cond (.tmp 14) .skip (.exit 0)) (.seq (.block 1 (.seq (.reg 1 [⟨(some 15), .ixs 2 (.tmp 11) (.tmp 13), none, 0⟩, ⟨(some 16), .ld 2 true (.tmp 15), none, 0⟩, ⟨(some 7), .al (.agg [(.lit (.string ⟨#[]⟩)), (.lit (.string ⟨#[]⟩))]), none, 0⟩, ⟨none, .st 2 (.tmp 7) (.tmp 16), none, 1⟩] none 0 []) (.seq (.reg 0 [⟨(some 17), .fa 1 (.tmp 7), none, 0⟩, ⟨(some 18), .ld 1 false (.tmp 17), none, 0⟩, ⟨(some 19), .mv (.tmp 1), none, 0⟩, ⟨(some 20), .bin .eql (.tmp 18) (.tmp 19), none, 0⟩] none 0 []) (.cond (.tmp 20) (.reg 2 [⟨(some 21), .mv (.tmp 5), none, 0⟩, ⟨(some 22), .fa 0 (.tmp 7), none, 0⟩, ⟨(some 23), .ld 1 false (.tmp 22), none, 0⟩, ⟨(some 24), .bs 1 1 [(.lit (.string ⟨#[]⟩))] [(0, (.tmp 23))], none, 0⟩, ⟨(some 25), .ap 1 16 (.tmp 21) (.tmp 24), none, 1⟩, ⟨(some 5), .mv (.tmp 25), none, 2⟩] none 0 []) .skip)))) (.reg 0 [⟨(some 26), .bin .add (.tmp 13) (.const (.int .i64 1)), none, 0⟩, ⟨(some 13), .mv (.tmp 26), none, 0⟩] none 0 []))))))) (.seq (.reg 0 [⟨(some 27), .mv (.tmp 5), none, 0⟩, ⟨(some 4), .mv (.tmp 27), none, 0⟩] none 0 []) .ret)))))
theorem gc34_ok : compF Try.prog Try.f34 = some (gc34.er, 28, [.tmp 4]) := by unfold gc34; kernel_rfl
set_option maxRecDepth 100000 in
set_option maxHeartbeats 4000000 in
theorem p_dirs_Keys_v {u1 : Bool} (a0 : List Ref29Arrow) (a1 : ByteArray) : CallsO Try.prog 34 [.sl (List.map Ref29Arrow.v a0) u1, .s a1] (fun l : List ByteArray => V.sl (l.map V.s) false) (p_dirs_Keys a0 a1) := by
  refine callsO_comp mix Try.func34 gc34_ok fun r H => ?_
  rw [p_dirs_Keys] at H
  conv => whnf
  refine ask_c (p_dirs_Check_v _) H rfl rfl (fun v1 H => ?_); conv => whnf
  refine tst_c H (fun b2 H => ?_) (fun b2 H => ?_)
  · conv => whnf
    refine finR_c (enc := (fun l : List ByteArray => V.sl (l.map V.s) false)) H ?_; conv => whnf
    exact ⟨_, .v (.c (.slw))⟩
  conv => whnf
  refine LenQ.M ?_; conv => whnf
  obtain ⟨o4, HL5, HQ6⟩ := bind_c H
  refine loop_c [5, 13] [7, 14, 15, 16, 17, 18, 19, 20, 21, 22, 23, 24, 25, 26] [7, 14, 15, 16, 17, 18, 19, 20, 21, 22, 23, 24, 25, 26] (fun n vals st => (∃ y8, p_dirs_Keys_l1  a1 a0 (a0.length : Int) n [] y8 = some o4 ∧ vals = [.sl (List.map V.s []) true, .i y8] ∧ st = []) ∨ (∃ y13 y14, p_dirs_Keys_l1  a1 a0 (a0.length : Int) n y13 y14 = some o4 ∧ vals = [.osl 0 0 (List.length y13) 1 false, .i y14] ∧ st = [.live (cellsM V.s y13) (cellsM V.s y13).length])) fuel 0 [] (.inl (⟨_, HL5, rfl, rfl⟩)) (Nat.zero_le _) rfl (by kernel_rfl) (by kernel_rfl) rfl trivial ?_
  rintro (_ | n7) _ _ (⟨y8, H, rfl, rfl⟩ | ⟨y13, y14, H, rfl, rfl⟩)
  · rw [p_dirs_Keys_l1] at H; cases H
  · rw [p_dirs_Keys_l1] at H; cases H
  · rw [p_dirs_Keys_l1] at H
    conv => whnf
    refine tst_d H (fun b9 H => ?_) (fun b9 H => ?_)
    · conv => whnf
      obtain rfl := Option.some.inj H
      have H := HQ6
      try dsimp only at H
      refine finR_c (enc := (fun l : List ByteArray => V.sl (l.map V.s) false)) H ?_; conv => whnf
      exact ⟨_, .v (.c (.slw))⟩
    conv => whnf
    refine ixs_c (f := Ref29Arrow.v) H (fun _ => rfl) (fun x10 H => ?_); conv => whnf
    refine ⟨Nat.le_of_ble_eq_true rfl, ?_⟩; conv => whnf
    refine tst_d H (fun b11 H => ?_) (fun b11 H => ?_)
    · conv => whnf
      refine Ari.w ?_; conv => whnf
      exact again_c [7, 14, 15, 16, 17, 18, 19, 20, 21, 22, 23, 24, 25, 26] n7 0 [] (.inl (⟨_, H, rfl, rfl⟩)) (Nat.lt_succ_self _) (Nat.zero_le _) rfl (by kernel_rfl) (by kernel_rfl) rfl trivial
    conv => whnf
    refine appN_c (f := V.s) H (fun _ => rfl) (srcM (f := V.s) (fun _ => rfl) _ _) rfl (.v (srcOwn (f := V.s) (l := [x10.From]) (fun _ => rfl) rfl rfl rfl)) (by decide) rfl (by simp) (fun l12 H => ?_); conv => whnf
    refine Ari.w ?_; conv => whnf
    exact again_c [7, 14, 15, 16, 17, 18, 19, 20, 21, 22, 23, 24, 25, 26] n7 1 [2] (.inr (⟨_, _, H, rfl, rfl⟩)) (Nat.lt_succ_self _) (Nat.zero_le _) rfl (by kernel_rfl) (by kernel_rfl) rfl (wkB_live0 rfl (cellsM_idlt (f := V.s) (fun _ => rfl) _) rfl trivial)
  rw [p_dirs_Keys_l1] at H
  conv => whnf
  refine tst_d H (fun b15 H => ?_) (fun b15 H => ?_)
  · conv => whnf
    obtain rfl := Option.some.inj H
    have H := HQ6
    try dsimp only at H
    refine finR_c (enc := (fun l : List ByteArray => V.sl (l.map V.s) false)) H ?_; conv => whnf
    exact ⟨_, .v (.c (fzown (f := V.s) (l := y13) rfl rfl (fun _ => rfl) (fun _ => rfl)))⟩
  conv => whnf
  refine ixs_c (f := Ref29Arrow.v) H (fun _ => rfl) (fun x16 H => ?_); conv => whnf
  refine ⟨Nat.le_of_ble_eq_true rfl, ?_⟩; conv => whnf
  refine tst_d H (fun b17 H => ?_) (fun b17 H => ?_)
  · conv => whnf
    refine Ari.w ?_; conv => whnf
    exact again_c [7, 14, 15, 16, 17, 18, 19, 20, 21, 22, 23, 24, 25, 26] n7 1 [] (.inr (⟨_, _, H, rfl, rfl⟩)) (Nat.lt_succ_self _) (Nat.zero_le _) rfl (by kernel_rfl) (by kernel_rfl) rfl (wkB_live0 rfl (cellsM_idlt (f := V.s) (fun _ => rfl) _) rfl trivial)
  conv => whnf
  refine appO_c (f := V.s) H (fun _ => rfl) rfl (Nat.le_refl _) (.v (srcOwn (f := V.s) (l := [x16.From]) (fun _ => rfl) rfl rfl rfl)) (by decide) rfl (by simp) (fun l18 H => ?_); conv => whnf
  refine Ari.w ?_; conv => whnf
  exact again_c [7, 14, 15, 16, 17, 18, 19, 20, 21, 22, 23, 24, 25, 26] n7 1 [3] (.inr (⟨_, _, H, rfl, rfl⟩)) (Nat.lt_succ_self _) (Nat.zero_le _) rfl (by kernel_rfl) (by kernel_rfl) rfl (wkB_live0 rfl (cellsM_idlt (f := V.s) (fun _ => rfl) _) rfl trivial)
def gc32 : BCode := (.seq (.reg 0 [⟨(some 4), .mv (.const (.slice none 0 0)), none, 0⟩] none 0 []) (.seq (.reg 0 [⟨(some 8), .mv (.tmp 0), none, 0⟩, ⟨(some 9), .mv (.tmp 1), none, 0⟩, ⟨(some 10), .cl 40 [(.tmp 8), (.tmp 9)], none, 0⟩, ⟨(some 7), .mv (.tmp 10), none, 0⟩, ⟨(some 11), .ex (.tmp 7) 0, none, 0⟩, ⟨(some 12), .ex (.tmp 7) 1, none, 0⟩, ⟨(some 5), .mv (.tmp 11), none, 0⟩, ⟨(some 6), .mv (.tmp 12), none, 0⟩] none 0 []) (.seq (.reg 0 [⟨(some 13), .mv (.tmp 6), none, 0⟩, ⟨(some 4), .mv (.tmp 13), none, 0⟩] none 0 []) .ret)))
theorem gc32_ok : compF Try.prog Try.f32 = some (gc32.er, 14, [.tmp 4]) := by unfold gc32; kernel_rfl
set_option maxRecDepth 100000 in
set_option maxHeartbeats 4000000 in
theorem p_dirs_Of_v {u1 : Bool} (a0 : List Ref29Arrow) (a1 : ByteArray) : CallsO Try.prog 32 [.sl (List.map Ref29Arrow.v a0) u1, .s a1] (fun l : List ByteArray => V.sl (l.map V.s) false) (p_dirs_Of a0 a1) := by
  refine callsO_comp mix Try.func32 gc32_ok fun r H => ?_
  rw [p_dirs_Of] at H
  conv => whnf
  refine ask_c (p_dirs_Clear_v _ _) H rfl rfl (fun v1 H => ?_); conv => whnf
  exact fin0_c (enc := (fun l : List ByteArray => V.sl (l.map V.s) false)) H (.inr rfl) (.cons (.tmp rfl) (.nil)) rfl rfl
def gc36 : BCode := (.seq (.reg 0 [⟨(some 6), .mv (.const (.bool false)), none, 0⟩] none 0 []) (.seq (.reg 0 [⟨(some 10), .mv (.tmp 0), none, 0⟩, ⟨(some 11), .mv (.tmp 1), none, 0⟩, ⟨(some 12), .mv (.tmp 2), none, 0⟩, ⟨(some 13), .cl 41 [(.tmp 10), (.tmp 11), (.tmp 12)], none, 0⟩, ⟨(some 9), .mv (.tmp 13), none, 0⟩, ⟨(some 14), .ex (.tmp 9) 0, none, 0⟩, ⟨(some 15), .ex (.tmp 9) 1, none, 0⟩, ⟨(some 7), .mv (.tmp 14), none, 0⟩, ⟨(some 8), .mv (.tmp 15), none, 0⟩] none 0 []) (.seq (.reg 0 [⟨(some 16), .mv (.tmp 8), none, 0⟩, ⟨(some 6), .mv (.tmp 16), none, 0⟩] none 0 []) .ret)))
theorem gc36_ok : compF Try.prog Try.f36 = some (gc36.er, 17, [.tmp 6]) := by unfold gc36; kernel_rfl
set_option maxRecDepth 100000 in
set_option maxHeartbeats 4000000 in
theorem p_dirs_Has_v {u1 : Bool} (a0 : List Ref29Arrow) (a1 : ByteArray) (a2 : ByteArray) : CallsO Try.prog 36 [.sl (List.map Ref29Arrow.v a0) u1, .s a1, .s a2] V.b (p_dirs_Has a0 a1 a2) := by
  refine callsO_comp mix Try.func36 gc36_ok fun r H => ?_
  rw [p_dirs_Has] at H
  conv => whnf
  refine ask_c (p_dirs_Del_v _ _ _) H rfl rfl (fun v1 H => ?_); conv => whnf
  exact fin0_c (enc := V.b) H (.inr rfl) (.cons (.tmp rfl) (.nil)) rfl rfl
end Go.Proofs.Ythmgficajgedlaa
