/- BookKeeps: for every input the call returns true, and its arguments read as they did. -/
import Derived.Test.YtljeinlapkgjeaaQbA8
import Derived.Test.YtljeinlapkgjeaaQbA11
import Derived.Test.YtljeinlapkgjeaaRows
set_option linter.all false
/- BookKeeps: for every input the call returns true, and its arguments read as they did. -/
namespace Go.Proofs.Ytljeinlapkgjeaa
open Go.ChangeShapes Go.WideShapes Go.ChangeAt Go.RowKit Go.Joins Go.Deep
set_option maxRecDepth 100000 in
theorem bookKeeps_lifted (os : Os) (started : os.Started) (H : Type) (enc : TypeId × Value → H) :
    ReturnsInHanded {} Try.checked os 10 .any (Rows.bookKeepsSpec.pre6 enc Try.prog Try.f10 Rows.bookKeepsRow.domain false) (Rows.bookKeepsSpec.post enc Try.prog Try.f10 false true false false) := by
  refine returnsInHanded_of_change_shaped (C := Try.checked) own0 started (by kernel_rfl) Try.func10
    (ChangeSpec.witness6 (enc := enc) (C := Try.checked) false ⟨#[], #[.slice none 0 0], []⟩ 8 (by kernel_rfl) (by kernel_rfl) (by kernel_rfl) (by kernel_rfl)) ?_
  intro W base args ds gs before hval0 hW hcnd _ hsh _
  have hval : ∀ (j : Nat) t v, Try.f10.params[j]? = some t → args[j]? = some v → Value.okWide Try.prog W .any base t v := hval0
  have hW' := hW
  obtain ⟨p, q, hA0, hV, rfl, hfz, hnd⟩ := hW
  have hA : DataW.TrodAll enc Try.prog W 0 (fun _ => true) true Try.f10.params.toList args.toList ds p := hA0
  rw [Try.params10] at hA hval
  have hA2 := hA
  obtain ⟨v0, d0, rfl, rfl, h0⟩ := trodAll_one hA
  obtain ⟨rfl, rfl⟩ := trodVars_none hV
  obtain ⟨fu0, hf0⟩ := h0
  obtain ⟨q0, l0, k0, rfl⟩ := okWide_slice Try.underlying88 (hval 0 _ v0 rfl rfl)
  obtain ⟨a0, w0, r0⟩ := rd_T88 hf0
  have hx0 : Rep (MW W) noBk _ _ := r0.2 0 (by simp [Value.cells]) (by simp)
  refine (rep_one (callsO_true (p_law24_BookKeeps_j_v a0) (bookKeeps_wf a0 w0)) (maxLen_cell W hsh) (repA1 hx0)).mono ?_
  rintro e W' ⟨rfl, bel⟩
  refine ⟨_, rfl, _, _, _, [], p, [], hW', ?_, ?_, ?_, ?_, ?_⟩
  · exact trodAll_mk1 (shut_bool Try.underlying4 true)
  · exact trodAll_below laid0 bel (by
      intro t ht
      simp at ht
      rcases ht with rfl <;> exact ⟨by kernel_rfl, of_decide_eq_true (by kernel_rfl)⟩) hA2
  · rfl
  · exact bel.frame _
  · exact fun h => by cases h
theorem bookKeeps_holds : Rows.BookKeepsSaid :=
  OpenClaim.holds_of_wide 10 Try.f10 rfl rfl rfl rfl rfl rfl rfl ⟨rfl, rfl, rfl, rfl, rfl⟩ rfl rfl rfl rfl rfl (by kernel_rfl) Try.func10 (by kernel_rfl)
    (of_decide_eq_true (by kernel_rfl)) (by unfold Func.isWrapper; first | (rw [if_pos (by decide +kernel)]; kernel_rfl) | (rw [if_neg (by decide +kernel)]; exact ⟨rfl, rfl⟩))
    (fun os started H enc _ => bookKeeps_lifted os started H enc)
#print axioms bookKeeps_holds
end Go.Proofs.Ytljeinlapkgjeaa
