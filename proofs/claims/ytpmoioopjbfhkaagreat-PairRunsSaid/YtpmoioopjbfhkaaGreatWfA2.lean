/- PairRuns: for every input the call returns true, and its arguments read as they did. -/
import Derived.Test.YtpmoioopjbfhkaaGreatWfA1
import Derived.Test.YtpmoioopjbfhkaaGreatRows
set_option linter.all false
namespace Go.Proofs.YtpmoioopjbfhkaaGreat
open Go.ChangeShapes Go.WideShapes Go.ChangeAt Go.RowKit Go.Joins Go.Deep
set_option maxRecDepth 100000 in
theorem pairRuns_lifted (os:Os) (started:os.Started) (H:Type) (enc:TypeId × Value→H) :
  ReturnsInHanded {} Tryz.checked os 8 .any (Rows.pairRunsSpec.pre6 enc Tryz.prog Tryz.f8 Rows.pairRunsRow.domain false) (Rows.pairRunsSpec.post enc Tryz.prog Tryz.f8 false true false false):=by
 refine returnsInHanded_of_change_shaped (C:=Tryz.checked) own0 started (by kernel_rfl) Tryz.func8
  (ChangeSpec.witness6 (enc:=enc) (C:=Tryz.checked) false ⟨#[],#[.agg #[.string ⟨#[]⟩,.string ⟨#[]⟩],.agg #[.int .i64 0,.int .i64 0,.slice none 0 0,.slice none 0 0,.int .i64 0,.int .i64 0,.slice none 0 0,.slice none 0 0],.slice none 0 0],[]⟩ 8 (by kernel_rfl) (by kernel_rfl) (by kernel_rfl) (by kernel_rfl)) ?_
 intro W base args ds gs before hval0 hW hcnd _ hsh _
 have hval:∀ (j:Nat) t v,Tryz.f8.params[j]?=some t→args[j]?=some v→Value.okWide Tryz.prog W .any base t v:=hval0
 have hW':=hW
 obtain ⟨p,q,hA0,hV,rfl,hfz,hnd⟩:=hW
 have hA:DataW.TrodAll enc Tryz.prog W 0 (fun _=>true) true Tryz.f8.params.toList args.toList ds p:=hA0
 rw [Tryz.params8] at hA hval
 have hA2:=hA
 obtain ⟨v0,v1,v2,d0,d1,d2,p0,p1,p2,rfl,rfl,hp,h0,h1,h2⟩:=trodAll_three hA
 obtain ⟨rfl,rfl⟩:=trodVars_none hV
 obtain ⟨fu0,hf0⟩:=h0
 obtain ⟨cs0,rfl,_⟩:=okWide_struct Tryz.underlying91 (hval 0 _ v0 rfl rfl)
 obtain ⟨a0,r0⟩:=rd_T91 hf0
 have hx0:Rep (MW W) noBk (.agg cs0) (.agg [.s a0.A,.s a0.B]):=rep_aggL r0 (by intro u hu;simp only [List.mem_cons,List.not_mem_nil,or_false] at hu;rcases hu with rfl | rfl <;> rfl)
 obtain ⟨fu1,hf1⟩:=h1
 obtain ⟨cs1,rfl,_⟩:=okWide_struct Tryz.underlying93 (hval 1 _ v1 rfl rfl)
 obtain ⟨a1,w1,r1⟩:=rd_T93 hf1
 have hx1:Rep (MW W) noBk (.agg cs1) (.agg [.i a1.A.Ver,.i a1.A.Floor,.sl (List.map ItemItem.v a1.A.Items) false,.sl (List.map RosterGone.v a1.A.Gone) false,.i a1.B.Ver,.i a1.B.Floor,.sl (List.map ItemItem.v a1.B.Items) false,.sl (List.map RosterGone.v a1.B.Gone) false]):=rep_aggL r1 (by intro u hu;simp only [List.mem_cons,List.not_mem_nil,or_false] at hu;rcases hu with rfl | rfl | rfl | rfl | rfl | rfl | rfl | rfl <;> rfl)
 obtain ⟨fu2,hf2⟩:=h2
 obtain ⟨q2,l2,k2,rfl⟩:=okWide_slice Tryz.underlying121 (hval 2 _ v2 rfl rfl)
 obtain ⟨a2,w2,r2⟩:=rd_T121 hf2
 have hx2:Rep (MW W) noBk _ _:=r2.2 0 (by simp [Value.cells]) (by simp)
 refine (rep_one (callsO_true (p_law22_PairRuns_v a0 a1 a2) (tru_ok (pairRuns_all a0 a1 a2))) (maxLen_cell W hsh) (repAr3 hx0 hx1 hx2)).mono ?_
 rintro e W' ⟨rfl,bel⟩
 refine ⟨_,rfl,_,_,_,[],p,[],hW',?_,?_,?_,?_,?_⟩
 ·exact trodAll_mk1 (shut_bool Tryz.underlying4 true)
 ·exact trodAll_below laid0 bel (by
   intro t ht
   simp at ht
   rcases ht with rfl | rfl | rfl <;> exact ⟨by kernel_rfl,of_decide_eq_true (by kernel_rfl)⟩) hA2
 ·rfl
 ·exact bel.frame _
 ·exact fun h=>by cases h
theorem pairRuns_holds:Rows.PairRunsSaid :=
 OpenClaim.holds_of_wide 8 Tryz.f8 rfl rfl rfl rfl rfl rfl rfl ⟨rfl,rfl,rfl,rfl,rfl⟩ rfl rfl rfl rfl rfl pairRuns_named Tryz.func8 pairRuns_closed
  (of_decide_eq_true (by kernel_rfl)) (by unfold Func.isWrapper;first | (rw [if_pos (by decide +kernel)];kernel_rfl) | (rw [if_neg (by decide +kernel)];exact ⟨rfl,rfl⟩))
  (fun os started H enc _=>pairRuns_lifted os started H enc)
#print axioms pairRuns_holds
end Go.Proofs.YtpmoioopjbfhkaaGreat

