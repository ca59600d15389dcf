/- ItemTells: for every input the call returns true, and its arguments read as they did. -/
import Derived.Test.YtpmoioopjbfhkaaGreatWbA7
import Derived.Test.YtpmoioopjbfhkaaGreatWbA8
import Derived.Test.YtpmoioopjbfhkaaGreatWbA11
import Derived.Test.YtpmoioopjbfhkaaGreatRows
set_option linter.all false
/- Readers of ItemTells's parameters. -/
namespace Go.Proofs.YtpmoioopjbfhkaaGreat
open Go.ChangeShapes Go.WideShapes Go.ChangeAt Go.RowKit Go.Joins Go.Deep
structure ItemItem.Wf (x:ItemItem):Prop where
 Sub:(Lit.int .i64 x.Sub).wf=true
 Ver:(Lit.int .i64 x.Ver).wf=true
set_option maxRecDepth 100000 in
theorem rd_T23 {H:Type} {enc:TypeId × Value→H} {W:World} {spare:Nat→Bool} {held:Bool} {fuel:Nat} {cs:List Value} {y:DataW H × List MemPlace} (h:DataW.trod enc Tryz.prog W 0 spare held fuel 23 cs=some y):∃ x:ItemItem,ItemItem.Wf x∧RepL (MW W) noBk cs [.s x.Contact,.s x.Name,.i x.Sub,.i x.Ver,.b x.Own]:=by
 obtain ⟨xs,n,_,_,hl,hx,hall⟩:=DataW.trod_struct Tryz.underlying23 h
 have hce:Tryz.prog.cellsOf 23=5:=by kernel_rfl
 rw [hce] at hl
 match cs,hl,hall with
 | [c0,c1,c2,c3,c4],_,hall =>
  obtain ⟨y0,hy0⟩:=get_some hx (show 0 < 5 by omega)
  have g0:DataW.trod enc Tryz.prog W 0 spare held n 9 [c0]=some y0:=by
   have hz:Tryz.prog.cellsOf 9=1:=by kernel_rfl
   have g:DataW.trod enc Tryz.prog W 0 spare held n 9 (([c0,c1,c2,c3,c4].drop 0).take (Tryz.prog.cellsOf 9))=some y0:=(hall 0 _ rfl).trans hy0
   rw [hz] at g;exact g
  obtain ⟨x0,r0⟩:=rd_string Tryz.underlying9 g0
  obtain ⟨y1,hy1⟩:=get_some hx (show 1 < 5 by omega)
  have g1:DataW.trod enc Tryz.prog W 0 spare held n 9 [c1]=some y1:=by
   have hz:Tryz.prog.cellsOf 9=1:=by kernel_rfl
   have g:DataW.trod enc Tryz.prog W 0 spare held n 9 (([c0,c1,c2,c3,c4].drop 1).take (Tryz.prog.cellsOf 9))=some y1:=(hall 1 _ rfl).trans hy1
   rw [hz] at g;exact g
  obtain ⟨x1,r1⟩:=rd_string Tryz.underlying9 g1
  obtain ⟨y2,hy2⟩:=get_some hx (show 2 < 5 by omega)
  have g2:DataW.trod enc Tryz.prog W 0 spare held n 3 [c2]=some y2:=by
   have hz:Tryz.prog.cellsOf 3=1:=by kernel_rfl
   have g:DataW.trod enc Tryz.prog W 0 spare held n 3 (([c0,c1,c2,c3,c4].drop 2).take (Tryz.prog.cellsOf 3))=some y2:=(hall 2 _ rfl).trans hy2
   rw [hz] at g;exact g
  obtain ⟨x2,w2,r2⟩:=rd_int Tryz.underlying3 g2
  obtain ⟨y3,hy3⟩:=get_some hx (show 3 < 5 by omega)
  have g3:DataW.trod enc Tryz.prog W 0 spare held n 3 [c3]=some y3:=by
   have hz:Tryz.prog.cellsOf 3=1:=by kernel_rfl
   have g:DataW.trod enc Tryz.prog W 0 spare held n 3 (([c0,c1,c2,c3,c4].drop 3).take (Tryz.prog.cellsOf 3))=some y3:=(hall 3 _ rfl).trans hy3
   rw [hz] at g;exact g
  obtain ⟨x3,w3,r3⟩:=rd_int Tryz.underlying3 g3
  obtain ⟨y4,hy4⟩:=get_some hx (show 4 < 5 by omega)
  have g4:DataW.trod enc Tryz.prog W 0 spare held n 4 [c4]=some y4:=by
   have hz:Tryz.prog.cellsOf 4=1:=by kernel_rfl
   have g:DataW.trod enc Tryz.prog W 0 spare held n 4 (([c0,c1,c2,c3,c4].drop 4).take (Tryz.prog.cellsOf 4))=some y4:=(hall 4 _ rfl).trans hy4
   rw [hz] at g;exact g
  obtain ⟨x4,r4⟩:=rd_bool Tryz.underlying4 g4
  exact ⟨⟨x0,x1,x2,x3,x4⟩,⟨w2,w3⟩,repL_app r0 (repL_app r1 (repL_app r2 (repL_app r3 (repL_app r4 (repL_nil)))))⟩
end Go.Proofs.YtpmoioopjbfhkaaGreat

/- ItemTells in plain words. -/
namespace Go.Proofs.YtpmoioopjbfhkaaGreat
open Go.RowKit
theorem rput_p {x:ItemItem} (hc:x.Contact.size≤100000) (hn:x.Name.size≤100000):p_ref20_Put x=some (putI x):=by
 unfold p_ref20_Put putI
 rw [rcheck_p hc hn]
 simp only [Option.bind_some]
 by_cases h:chkI x=0
 ·have f:=fine_of h
  have hs:=subC_in f.sub
  obtain ⟨e1,h1⟩:=rsay_p (s:=x.Contact) (m:=33) (by decide)
  obtain ⟨e2,h2⟩:=rsay_p (s:=x.Name) (m:=24) (by decide)
  have l1:=sayX_len (s:=x.Contact) (m:=33) (by decide)
  have l2:=sayX_len (s:=x.Name) (m:=24) (by decide)
  have l3:(layI x.Ver.toNat).length=6:=rfl
  rw [h,if_pos rfl,show ((0:Int) != 0)=false from rfl,cond_false,h1,h2,rlay_p f.ver]
  simp only [Option.bind_some]
  rw [text_p (sayX_ok (s:=x.Contact) (m:=33) (by decide)),text_p (sayX_ok (s:=x.Name) (m:=24) (by decide)),text_p (layI_ok _)]
  simp only [Option.bind_some]
  rw [cat_p (by omega)]
  simp only [Option.bind_some]
  cases ho:x.Own with
  | true =>
   have hb:okB [x.Sub + 16]:=fun b hb=>by rw [List.mem_singleton] at hb;omega
   rw [cond_true,w64_id (by omega),u8_id (by omega),text_p hb,Option.bind_some,cat_p (by simp;omega),Option.bind_some,cat_p (by simp;omega)]
   have e:sayX x.Contact 33++sayX x.Name 24++[x.Sub + 16]++layI x.Ver.toNat=bytI x:=by unfold bytI;rw [ho];rfl
   rw [e];rfl
  | false =>
   have hb:okB [x.Sub]:=fun b hb=>by rw [List.mem_singleton] at hb;omega
   rw [cond_false,u8_id (by omega),text_p hb,Option.bind_some,cat_p (by simp;omega),Option.bind_some,cat_p (by simp;omega)]
   have e:sayX x.Contact 33++sayX x.Name 24++[x.Sub]++layI x.Ver.toNat=bytI x:=by unfold bytI;rw [ho];rfl
   rw [e];rfl
 ·rw [if_neg h,show (chkI x != 0)=true by simpa using h,cond_true]
theorem rpush_p {x:ItemItem} (hc:x.Contact.size≤100000) (hn:x.Name.size≤100000):p_ref20_Push x=some (pushI x):=by
 unfold p_ref20_Push pushI
 rw [rcheck_p hc hn,rlisted_p]
 simp only [Option.bind_some]
 by_cases h:chkI x=0
 ·rw [show (chkI x != 0)=false by simpa using h,cond_false,if_neg (by simpa using h)]
  cases listedI x <;> rfl
 ·rw [show (chkI x != 0)=true by simpa using h,cond_true,if_pos h]
theorem itemTells_pure (x y:ItemItem):p_law20_ItemTells x y=some true:=by
 unfold p_law20_ItemTells
 rw [light_p,light_p]
 simp only [Option.bind_some]
 cases h1:(decide (x.Contact.size≤100) && decide (x.Name.size≤100)) with
 | false=>rw [cond_false,p_law20_awake_true];rfl
 | true =>
  rw [cond_true]
  cases h2:(decide (y.Contact.size≤100) && decide (y.Name.size≤100)) with
  | false=>rw [cond_false,p_law20_awake_true];rfl
  | true =>
   simp only [Bool.and_eq_true,decide_eq_true_eq] at h1
   rw [cond_true,put_p (by omega) (by omega),rput_p (by omega) (by omega),check_p (by omega) (by omega),rcheck_p (by omega) (by omega),listed_p,rlisted_p,idle_p,ridle_p,sees_p,rsees_p,seen_p,rseen_p,push_p (by omega) (by omega),rpush_p (by omega) (by omega),less_p,rless_p,p_law20_awake_true]
   simp only [Option.bind_some,beq_self_eq_true,cond_true,eqT_refl,Bool.and_self,Bool.and_true]
end Go.Proofs.YtpmoioopjbfhkaaGreat

/- Closed facts of the statement ItemTells. -/
namespace Go.Proofs.YtpmoioopjbfhkaaGreat
open Go.ChangeShapes Go.WideShapes Go.ChangeAt Go.RowKit Go.Joins Go.Deep
theorem itemTells_named:Tryz.pinned.checked.prog.funcNamed Rows.itemTellsRow.func=some 3:=by kernel_rfl
theorem itemTells_closed:joinedFacts Tryz.pinned.checked.prog 3 Tryz.f3 Rows.itemTellsSpec Rows.itemTellsRow=true:=by kernel_rfl
end Go.Proofs.YtpmoioopjbfhkaaGreat

/- ItemTells: for every input the call returns true, and its arguments read as they did. -/
namespace Go.Proofs.YtpmoioopjbfhkaaGreat
open Go.ChangeShapes Go.WideShapes Go.ChangeAt Go.RowKit Go.Joins Go.Deep
set_option maxRecDepth 100000 in
theorem itemTells_lifted (os:Os) (started:os.Started) (H:Type) (enc:TypeId × Value→H) :
  ReturnsInHanded {} Tryz.checked os 3 .any (Rows.itemTellsSpec.pre6 enc Tryz.prog Tryz.f3 Rows.itemTellsRow.domain false) (Rows.itemTellsSpec.post enc Tryz.prog Tryz.f3 false true false false):=by
 refine returnsInHanded_of_change_shaped (C:=Tryz.checked) own0 started (by kernel_rfl) Tryz.func3
  (ChangeSpec.witness6 (enc:=enc) (C:=Tryz.checked) false ⟨#[],#[.agg #[.string ⟨#[]⟩,.string ⟨#[]⟩,.int .i64 0,.int .i64 0,.bool false],.agg #[.string ⟨#[]⟩,.string ⟨#[]⟩,.int .i64 0,.int .i64 0,.bool false]],[]⟩ 8 (by kernel_rfl) (by kernel_rfl) (by kernel_rfl) (by kernel_rfl)) ?_
 intro W base args ds gs before hval0 hW hcnd _ hsh _
 have hval:∀ (j:Nat) t v,Tryz.f3.params[j]?=some t→args[j]?=some v→Value.okWide Tryz.prog W .any base t v:=hval0
 have hW':=hW
 obtain ⟨p,q,hA0,hV,rfl,hfz,hnd⟩:=hW
 have hA:DataW.TrodAll enc Tryz.prog W 0 (fun _=>true) true Tryz.f3.params.toList args.toList ds p:=hA0
 rw [Tryz.params3] at hA hval
 have hA2:=hA
 obtain ⟨v0,v1,d0,d1,p0,p1,rfl,rfl,hp,h0,h1⟩:=trodAll_two hA
 obtain ⟨rfl,rfl⟩:=trodVars_none hV
 obtain ⟨fu0,hf0⟩:=h0
 obtain ⟨cs0,rfl,_⟩:=okWide_struct Tryz.underlying23 (hval 0 _ v0 rfl rfl)
 obtain ⟨a0,w0,r0⟩:=rd_T23 hf0
 have hx0:Rep (MW W) noBk (.agg cs0) (.agg [.s a0.Contact,.s a0.Name,.i a0.Sub,.i a0.Ver,.b a0.Own]):=rep_aggL r0 (by intro u hu;simp only [List.mem_cons,List.not_mem_nil,or_false] at hu;rcases hu with rfl | rfl | rfl | rfl | rfl <;> rfl)
 obtain ⟨fu1,hf1⟩:=h1
 obtain ⟨cs1,rfl,_⟩:=okWide_struct Tryz.underlying23 (hval 1 _ v1 rfl rfl)
 obtain ⟨a1,w1,r1⟩:=rd_T23 hf1
 have hx1:Rep (MW W) noBk (.agg cs1) (.agg [.s a1.Contact,.s a1.Name,.i a1.Sub,.i a1.Ver,.b a1.Own]):=rep_aggL r1 (by intro u hu;simp only [List.mem_cons,List.not_mem_nil,or_false] at hu;rcases hu with rfl | rfl | rfl | rfl | rfl <;> rfl)
 refine (rep_one (callsO_true (p_law20_ItemTells_v a0 a1) (tru_ok (itemTells_pure a0 a1))) (maxLen_cell W hsh) (repAr2 hx0 hx1)).mono ?_
 rintro e W' ⟨rfl,bel⟩
 refine ⟨_,rfl,_,_,_,[],p,[],hW',?_,?_,?_,?_,?_⟩
 ·exact trodAll_mk1 (shut_bool Tryz.underlying4 true)
 ·exact trodAll_below laid0 bel (by
   intro t ht
   simp at ht
   rcases ht with rfl <;> exact ⟨by kernel_rfl,of_decide_eq_true (by kernel_rfl)⟩) hA2
 ·rfl
 ·exact bel.frame _
 ·exact fun h=>by cases h
theorem itemTells_holds:Rows.ItemTellsSaid :=
 OpenClaim.holds_of_wide 3 Tryz.f3 rfl rfl rfl rfl rfl rfl rfl ⟨rfl,rfl,rfl,rfl,rfl⟩ rfl rfl rfl rfl rfl itemTells_named Tryz.func3 itemTells_closed
  (of_decide_eq_true (by kernel_rfl)) (by unfold Func.isWrapper;first | (rw [if_pos (by decide +kernel)];kernel_rfl) | (rw [if_neg (by decide +kernel)];exact ⟨rfl,rfl⟩))
  (fun os started H enc _=>itemTells_lifted os started H enc)
#print axioms itemTells_holds
end Go.Proofs.YtpmoioopjbfhkaaGreat

