/- A part of the proof: 6 texts joined. -/
import Derived.Test.YthnihifblmnkdaaGreatPdA14
import Derived.Test.YthnihifblmnkdaaGreatPdA11
import Derived.KernelRfl
import Derived.Test.YthnihifblmnkdaaGreatPdA12
import Derived.Test.YthnihifblmnkdaaGreatPdA13
set_option linter.all false
namespace Go.Proofs.YthnihifblmnkdaaGreat
open Go.RowKit
set_option maxRecDepth 100000
set_option maxHeartbeats 4000000
def gc53:BCode:=(.seq (R_ 0 [O_ 4 (.mv (b_ false)) 0]) (.seq (R_ 0 [O_ 5 (.mv (t_ 1)) 0,O_ 6 (.cl 85 [(t_ 5)]) 0,O_ 7 (.bin .eql (t_ 6) (i_ 0)) 0,O_ 8 (.mv (t_ 7)) 0,⟨(some 9),.mv (t_ 0),(some (8,true)),0⟩,⟨(some 10),.cl 86 [(t_ 9)],(some (8,true)),0⟩,O_ 11 (.pick (t_ 8) (t_ 10) (b_ false)) 0,O_ 4 (.mv (t_ 11)) 0]) .ret))
theorem gc53_ok:compF Tryz.prog Tryz.f53=some (gc53.er,12,[.tmp 4]):=by unfold gc53;kernel_rfl
theorem p_pres_named_v (a0:ByteArray) (a1:ByteArray):CallsO Tryz.prog 53 [.s a0,.s a1] V.b (p_pres_named a0 a1):=by
 refine callsO_comp mix Tryz.func53 gc53_ok fun r H=>?_
 rw [p_pres_named] at H
 conv=>whnf
 refine ask_c (p_addr_Resource_v _) H rfl rfl (fun v1 H=>?_);conv=>whnf
 refine tst_d H (fun b2 H=>?_) (fun b2 H=>?_)
 ·conv=>whnf
  iterate 2 (refine Tst.F ?_;conv=>whnf)
  exact fb_ H
 conv=>whnf
 refine Tst.T ?_;conv=>whnf
 refine ask_c (p_addr_IsBare_v _) H rfl rfl (fun v3 H=>?_);conv=>whnf
 refine Tst.T ?_;conv=>whnf
 exact fb_ H
def gc26:BCode:=(.seq (R_ 0 [O_ 4 (.mv (.const (.string ⟨#[]⟩))) 0]) (.seq (.seq (R_ 0 [O_ 5 (.mv (t_ 0)) 0,O_ 6 (.mv (t_ 1)) 0,O_ 7 (.cl 53 [(t_ 5),(t_ 6)]) 0,O_ 8 (.un .not (t_ 7)) 0]) (.cond (t_ 8) (.seq (R_ 0 [O_ 4 (.mv (.const (.string ⟨#[]⟩))) 0]) .ret) .skip)) (.seq (R_ 0 [O_ 9 (.mv (t_ 0)) 0,O_ 10 (.bin .add (t_ 9) (.const (.string ⟨#[32]⟩))) 0,O_ 11 (.mv (t_ 1)) 0,O_ 12 (.bin .add (t_ 10) (t_ 11)) 0,O_ 4 (.mv (t_ 12)) 0]) .ret)))
theorem gc26_ok:compF Tryz.prog Tryz.f26=some (gc26.er,13,[.tmp 4]):=by unfold gc26;kernel_rfl
theorem p_pres_Key_v (a0:ByteArray) (a1:ByteArray):CallsO Tryz.prog 26 [.s a0,.s a1] V.s (p_pres_Key a0 a1):=by
 refine callsO_comp mix Tryz.func26 gc26_ok fun r H=>?_
 rw [p_pres_Key] at H
 conv=>whnf
 refine ask_c (p_pres_named_v _ _) H rfl rfl (fun v1 H=>?_);conv=>whnf
 refine Tst.not ?_
 refine tst_d H (fun b2 H=>?_) (fun b2 H=>?_)
 ·conv=>whnf
  exact fin0_c (enc:=V.s) H (.inr rfl) (.cons (.tmp rfl) (.nil)) rfl rfl
 conv=>whnf
 refine cat_c H (fun s3 H=>?_);conv=>whnf
 refine cat_c H (fun s4 H=>?_);conv=>whnf
 exact fin0_c (enc:=V.s) H (.inr rfl) (.cons (.tmp rfl) (.nil)) rfl rfl
def gc50:BCode:=(.seq (R_ 1 [O_ 1 (.bx (t_ 0)) 0,O_ 2 (.mv (.const (.string ⟨#[]⟩))) 1]) (.seq (R_ 0 [O_ 3 (.fa 0 (t_ 1)) 0,O_ 4 (.ld 1 false (t_ 3)) 0,O_ 5 (.fa 1 (t_ 1)) 0,O_ 6 (.ld 1 false (t_ 5)) 0,O_ 7 (.cl 26 [(t_ 4),(t_ 6)]) 0,O_ 2 (.mv (t_ 7)) 0]) .ret))
theorem gc50_ok:compF Tryz.prog Tryz.f50=some (gc50.er,8,[.tmp 2]):=by unfold gc50;kernel_rfl
theorem p_book_Row_key_v (a0:BookRow):CallsO Tryz.prog 50 [.agg [.s a0.User,.s a0.Res,.b a0.P.On,.i a0.P.Show,.i a0.P.Prio,.i a0.P.Seq]] V.s (p_book_Row_key a0):=by
 refine callsO_comp mix Tryz.func50 gc50_ok fun r H=>?_
 rw [p_book_Row_key] at H
 conv=>whnf
 refine ask_c (p_pres_Key_v _ _) H rfl rfl (fun v1 H=>?_);conv=>whnf
 exact fin0_c (enc:=V.s) H (.inr rfl) (.cons (.tmp rfl) (.nil)) rfl rfl
def gc77:BCode:=(.seq (R_ 1 [O_ 1 (.bx (t_ 0)) 0,O_ 2 (.mv (b_ false)) 1]) (.seq (R_ 0 [O_ 3 (.ld 6 true (t_ 1)) 0,O_ 4 (.cl 50 [(t_ 3)]) 0,O_ 5 (.bin .eql (t_ 4) (.const (.string ⟨#[]⟩))) 0,O_ 2 (.mv (t_ 5)) 0]) .ret))
theorem gc77_ok:compF Tryz.prog Tryz.f77=some (gc77.er,6,[.tmp 2]):=by unfold gc77;kernel_rfl
theorem p_book_Check_1_v (a0:BookRow):CallsO Tryz.prog 77 [.agg [.s a0.User,.s a0.Res,.b a0.P.On,.i a0.P.Show,.i a0.P.Prio,.i a0.P.Seq]] V.b (p_book_Check_1 a0):=by
 refine callsO_comp mix Tryz.func77 gc77_ok fun r H=>?_
 rw [p_book_Check_1] at H
 conv=>whnf
 refine ask_c (p_book_Row_key_v _) H rfl rfl (fun v1 H=>?_);conv=>whnf
 exact fb_ H
def gc100:BCode:=(.seq (R_ 0 [O_ 4 (.mv (i_ 0)) 0]) (.seq (.seq (R_ 0 [O_ 6 (.mv (t_ 0)) 0,O_ 7 (.lens (t_ 6)) 0,O_ 8 (.mv (i_ 0)) 0]) (.block 0 (.loop (.seq (R_ 0 [O_ 9 (.bin .lss (t_ 8) (t_ 7)) 0]) (.seq (.cond (t_ 9) .skip (.exit 0)) (.seq (.block 1 (.seq (R_ 0 [O_ 10 (.mv (t_ 8)) 0,O_ 5 (.mv (t_ 10)) 0]) (.seq (R_ 0 [O_ 11 (.mv (t_ 1)) 0,O_ 12 (.mv (t_ 0)) 0,O_ 13 (.mv (t_ 5)) 0,O_ 14 (.ixs 6 (t_ 12) (t_ 13)) 0,O_ 15 (.ld 6 true (t_ 14)) 0,O_ 16 (.cv (t_ 11) [(t_ 15)]) 0]) (.cond (t_ 16) (.seq (R_ 0 [O_ 17 (.mv (t_ 5)) 0,O_ 4 (.mv (t_ 17)) 0]) .ret) .skip)))) (R_ 0 [O_ 18 (.bin .add (t_ 8) (i_ 1)) 0,O_ 8 (.mv (t_ 18)) 0]))))))) (.seq (R_ 0 [O_ 4 (.mv (.const (.int .i64 (-1)))) 0]) .ret)))
theorem gc100_ok:compF Tryz.prog Tryz.f100=some (gc100.er,19,[.tmp 4]):=by unfold gc100;kernel_rfl
theorem p_slices_IndexFunc_book_Row_v {u1:Bool} (a0:List BookRow) (a1:BookRow→Option Bool) {a1_g:Nat} {a1_k:List V} (a1_h:Clo1 Tryz.prog a1_g a1_k BookRow.v V.b a1):CallsO Tryz.prog 100 [.sl (List.map BookRow.v a0) u1,.clo (.func a1_g) a1_k] V.i (p_slices_IndexFunc_book_Row a0 a1):=by
 refine callsO_comp mix Tryz.func100 gc100_ok fun r H=>?_
 rw [p_slices_IndexFunc_book_Row] at H
 conv=>whnf
 refine LenQ.M ?_;conv=>whnf
 obtain ⟨o2,HL3,HQ4⟩:=bind_c H
 refine loop_c [4,8] [5,9,10,11,12,13,14,15,16,17,18] [5,9,10,11,12,13,14,15,16,17,18] (fun n vals st=>(∃ y6,p_slices_IndexFunc_book_Row_l1  a1 a0 (a0.length:Int) n y6=some o2∧vals=[.i (0:Int),.i y6]∧st=[])) fuel 0 [] (⟨_,HL3,rfl,rfl⟩) (Nat.zero_le _) rfl (by simp only [maskF,setF,List.set_cons_zero,List.set_cons_succ,V.ren.renL,V.ren,renL_id _ a1_h.own] <;> rfl) (by simp only [maskF,setF,List.set_cons_zero,List.set_cons_succ,V.idlt.belowL,V.idlt,fun n=>idltL_up (n:=n) _ a1_h.own] <;> rfl) rfl trivial ?_
 rintro (_ | n5) _ _ (⟨y6,H,rfl,rfl⟩)
 ·rw [p_slices_IndexFunc_book_Row_l1] at H;cases H
 rw [p_slices_IndexFunc_book_Row_l1] at H
 conv=>whnf
 refine tst_d H (fun b7 H=>?_) (fun b7 H=>?_)
 ·conv=>whnf
  obtain rfl:=Option.some.inj H
  have H:=HQ4
  try dsimp only at H
  exact fi_ H
 conv=>whnf
 refine ixs_c (f:=BookRow.v) H (fun _=>rfl) (fun x8 H=>?_);conv=>whnf
 refine askC_c a1_h H (.cons (fzagg (.cons (.id rfl) (.cons (.id rfl) (.cons (.id rfl) (.cons (.id rfl) (.cons (.id rfl) (.cons (.id rfl) (.nil))))))) rfl) (.nil)) (fun v9 H=>?_);conv=>whnf
 refine tst_c H (fun b10 H=>?_) (fun b10 H=>?_)
 ·conv=>whnf
  obtain rfl:=Option.some.inj H
  have H:=HQ4
  try dsimp only at H
  exact fi_ H
 conv=>whnf
 refine Ari.w ?_;conv=>whnf
 exact again_c [5,9,10,11,12,13,14,15,16,17,18] n5 0 [] (⟨_,H,rfl,rfl⟩) (Nat.lt_succ_self _) (Nat.zero_le _) rfl (by simp only [maskF,setF,List.set_cons_zero,List.set_cons_succ,V.ren.renL,V.ren,renL_id _ a1_h.own] <;> rfl) (by simp only [maskF,setF,List.set_cons_zero,List.set_cons_succ,V.idlt.belowL,V.idlt,fun n=>idltL_up (n:=n) _ a1_h.own] <;> rfl) rfl trivial
def gc76:BCode:=(.seq (R_ 0 [O_ 4 (.mv (b_ false)) 0]) (.seq (R_ 0 [O_ 5 (.mv (t_ 0)) 0,O_ 6 (.mv (t_ 1)) 0,O_ 7 (.cl 100 [(t_ 5),(t_ 6)]) 0,O_ 8 (.bin .geq (t_ 7) (i_ 0)) 0,O_ 4 (.mv (t_ 8)) 0]) .ret))
theorem gc76_ok:compF Tryz.prog Tryz.f76=some (gc76.er,9,[.tmp 4]):=by unfold gc76;kernel_rfl
theorem p_slices_ContainsFunc_book_Row_v {u1:Bool} (a0:List BookRow) (a1:BookRow→Option Bool) {a1_g:Nat} {a1_k:List V} (a1_h:Clo1 Tryz.prog a1_g a1_k BookRow.v V.b a1):CallsO Tryz.prog 76 [.sl (List.map BookRow.v a0) u1,.clo (.func a1_g) a1_k] V.b (p_slices_ContainsFunc_book_Row a0 a1):=by
 refine callsO_comp mix Tryz.func76 gc76_ok fun r H=>?_
 rw [p_slices_ContainsFunc_book_Row] at H
 conv=>whnf
 refine askF_c (p_slices_IndexFunc_book_Row_v _ _ a1_h) H (.cons (.c (.slw)) (.cons (.c (.id a1_h.own)) (.nil))) (fun v1 H=>?_);conv=>whnf
 exact fb_ H
def gc84:BCode:=(.seq (R_ 0 [O_ 6 (.mv (b_ false)) 0]) (.seq (R_ 0 [O_ 7 (.mv (t_ 1)) 0,O_ 8 (.mv (t_ 0)) 0,O_ 9 (.bin .leq (t_ 7) (t_ 8)) 0,O_ 10 (.mv (t_ 9)) 0,⟨(some 11),.mv (t_ 0),(some (10,true)),0⟩,⟨(some 12),.mv (t_ 2),(some (10,true)),0⟩,⟨(some 13),.bin .leq (t_ 11) (t_ 12),(some (10,true)),0⟩,O_ 14 (.pick (t_ 10) (t_ 13) (b_ false)) 0,O_ 6 (.mv (t_ 14)) 0]) .ret))
theorem gc84_ok:compF Tryz.prog Tryz.f84=some (gc84.er,15,[.tmp 6]):=by unfold gc84;kernel_rfl
theorem p_pres_in_v (a0:Int) (a1:Int) (a2:Int):CallsO Tryz.prog 84 [.i a0,.i a1,.i a2] V.b (p_pres_in a0 a1 a2):=by
 refine callsO_comp mix Tryz.func84 gc84_ok fun r H=>?_
 rw [p_pres_in] at H
 conv=>whnf
 refine tst_c H (fun b1 H=>?_) (fun b1 H=>?_)
 ·conv=>whnf
  iterate 3 (refine Tst.T ?_;conv=>whnf)
  exact fb_ H
 conv=>whnf
 iterate 3 (refine Tst.F ?_;conv=>whnf)
 exact fb_ H
def gc51:BCode:=(.seq (R_ 1 [O_ 1 (.bx (t_ 0)) 0,O_ 2 (.mv (i_ 0)) 1]) (.seq (.seq (R_ 0 [O_ 4 (.fa 1 (t_ 1)) 0,O_ 5 (.ld 1 false (t_ 4)) 0,O_ 6 (.cl 84 [(t_ 5),(i_ 0),(i_ 4)]) 0,O_ 7 (.un .not (t_ 6)) 0,O_ 8 (.mv (t_ 7)) 0,⟨(some 9),.fa 2 (t_ 1),(some (8,false)),0⟩,⟨(some 10),.ld 1 false (t_ 9),(some (8,false)),0⟩,⟨(some 11),.cl 84 [(t_ 10),(.const (.int .i64 (-128))),(i_ 127)],(some (8,false)),0⟩,⟨(some 12),.un .not (t_ 11),(some (8,false)),0⟩,O_ 13 (.pick (t_ 8) (b_ true) (t_ 12)) 0,O_ 14 (.mv (t_ 13)) 0,⟨(some 15),.fa 3 (t_ 1),(some (14,false)),0⟩,⟨(some 16),.ld 1 false (t_ 15),(some (14,false)),0⟩,⟨(some 17),.cl 84 [(t_ 16),(i_ 0),(i_ 1099511627776)],(some (14,false)),0⟩,⟨(some 18),.un .not (t_ 17),(some (14,false)),0⟩,O_ 19 (.pick (t_ 14) (b_ true) (t_ 18)) 0]) (.cond (t_ 19) (.seq (R_ 0 [O_ 2 (.mv (i_ 8)) 0]) .ret) .skip)) (.seq (.seq (R_ 1 [O_ 20 (.fa 3 (t_ 1)) 0,O_ 21 (.ld 1 false (t_ 20)) 0,O_ 22 (.bd [(.lit (.bool false)),(.lit (.int .i64 0)),(.lit (.int .i64 0)),(.lit (.int .i64 0))] [(3,1,(t_ 21))]) 0,O_ 3 (.al (.agg [(.lit (.bool false)),(.lit (.int .i64 0)),(.lit (.int .i64 0)),(.lit (.int .i64 0))])) 0,U_ (.st 4 (t_ 3) (t_ 22)) 1]) (.seq (R_ 0 [O_ 23 (.fa 0 (t_ 1)) 0,O_ 24 (.ld 1 false (t_ 23)) 0,O_ 25 (.un .not (t_ 24)) 0,O_ 26 (.mv (t_ 25)) 0,⟨(some 27),.ld 4 true (t_ 1),(some (26,true)),0⟩,⟨(some 28),.ld 4 true (t_ 3),(some (26,true)),0⟩,⟨(some 29),.eqa true [0,1,1,1] (t_ 27) (t_ 28),(some (26,true)),0⟩,O_ 30 (.pick (t_ 26) (t_ 29) (b_ false)) 0]) (.cond (t_ 30) (.seq (R_ 0 [O_ 2 (.mv (i_ 4)) 0]) .ret) .skip))) (.seq (R_ 0 [O_ 2 (.mv (i_ 0)) 0]) .ret))))
theorem gc51_ok:compF Tryz.prog Tryz.f51=some (gc51.er,31,[.tmp 2]):=by unfold gc51;kernel_rfl
theorem p_pres_Check_v (a0:PresPres):CallsO Tryz.prog 51 [.agg [.b a0.On,.i a0.Show,.i a0.Prio,.i a0.Seq]] V.i (p_pres_Check a0):=by
 refine callsO_comp mix Tryz.func51 gc51_ok fun r H=>?_
 rw [p_pres_Check] at H
 conv=>whnf
 refine ask_c (p_pres_in_v _ _ _) H rfl rfl (fun v1 H=>?_);conv=>whnf
 refine Tst.not ?_
 refine tst_d H (fun b2 H=>?_) (fun b2 H=>?_)
 ·conv=>whnf
  iterate 10 (refine Tst.T ?_;conv=>whnf)
  exact fi_ H
 conv=>whnf
 iterate 2 (refine Tst.F ?_;conv=>whnf)
 refine ask_c (p_pres_in_v _ _ _) H rfl rfl (fun v3 H=>?_);conv=>whnf
 iterate 2 (refine Tst.F ?_;conv=>whnf)
 refine Tst.not ?_
 refine tst_d H (fun b4 H=>?_) (fun b4 H=>?_)
 ·conv=>whnf
  iterate 5 (refine Tst.T ?_;conv=>whnf)
  exact fi_ H
 conv=>whnf
 iterate 2 (refine Tst.F ?_;conv=>whnf)
 refine ask_c (p_pres_in_v _ _ _) H rfl rfl (fun v5 H=>?_);conv=>whnf
 iterate 2 (refine Tst.F ?_;conv=>whnf)
 refine Tst.not ?_
 refine tst_d H (fun b6 H=>?_) (fun b6 H=>?_)
 ·conv=>whnf
  exact fi_ H
 conv=>whnf
 refine lq_ ?_;conv=>whnf
 refine Tst.not ?_
 refine tst_c H (fun b7 H=>?_) (fun b7 H=>?_)
 ·conv=>whnf
  iterate 4 (refine Tst.F ?_;conv=>whnf)
  exact fi_ H
 conv=>whnf
 iterate 3 (refine Tst.T ?_;conv=>whnf)
 refine Tst.not ?_
 refine tst_c H (fun b8 H=>?_) (fun b8 H=>?_)
 ·conv=>whnf
  exact fi_ H
 conv=>whnf
 exact fi_ H
def gc78:BCode:=(.seq (R_ 1 [O_ 1 (.bx (t_ 0)) 0,O_ 2 (.mv (i_ 0)) 1]) (.seq (.seq (R_ 0 [O_ 6 (.fa 1 (t_ 1)) 0,O_ 7 (.ld 1 false (t_ 6)) 0,O_ 8 (.lens (t_ 7)) 0,O_ 9 (.mv (i_ 0)) 0]) (.block 0 (.loop (.seq (R_ 0 [O_ 10 (.bin .lss (t_ 9) (t_ 8)) 0]) (.seq (.cond (t_ 10) .skip (.exit 0)) (.seq (.block 1 (.seq (R_ 1 [O_ 11 (.ixs 6 (t_ 7) (t_ 9)) 0,O_ 12 (.ld 6 true (t_ 11)) 0,O_ 4 (.al (.agg [(.lit (.string ⟨#[]⟩)),(.lit (.string ⟨#[]⟩)),(.lit (.bool false)),(.lit (.int .i64 0)),(.lit (.int .i64 0)),(.lit (.int .i64 0))])) 0,U_ (.st 6 (t_ 4) (t_ 12)) 1]) (.seq (.seq (R_ 0 [O_ 13 (.fa 2 (t_ 4)) 0,O_ 14 (.ld 4 true (t_ 13)) 0,O_ 15 (.cl 51 [(t_ 14)]) 0,O_ 5 (.mv (t_ 15)) 0]) (.seq (R_ 0 [O_ 16 (.mv (t_ 5)) 0,O_ 17 (.bin .neq (t_ 16) (i_ 0)) 0]) (.cond (t_ 17) (.seq (R_ 0 [O_ 18 (.mv (t_ 5)) 0,O_ 2 (.mv (t_ 18)) 0]) .ret) .skip))) (.seq (R_ 0 [O_ 19 (.fa 2 (t_ 4)) 0,O_ 20 (.fa 0 (t_ 19)) 0,O_ 21 (.ld 1 false (t_ 20)) 0,O_ 22 (.un .not (t_ 21)) 0]) (.cond (t_ 22) (.seq (R_ 0 [O_ 2 (.mv (i_ 4)) 0]) .ret) .skip))))) (R_ 0 [O_ 23 (.bin .add (t_ 9) (i_ 1)) 0,O_ 9 (.mv (t_ 23)) 0]))))))) (.seq (R_ 0 [O_ 2 (.mv (i_ 0)) 0]) .ret)))
theorem gc78_ok:compF Tryz.prog Tryz.f78=some (gc78.er,24,[.tmp 2]):=by unfold gc78;kernel_rfl
theorem p_book_State_errors_v {u1:Bool} (a0:BookState):CallsO Tryz.prog 78 [.agg [.i a0.Seq,.sl (List.map BookRow.v a0.Rows) u1]] V.i (p_book_State_errors a0):=by
 refine callsO_comp mix Tryz.func78 gc78_ok fun r H=>?_
 rw [p_book_State_errors] at H
 conv=>whnf
 refine LenQ.M ?_;conv=>whnf
 obtain ⟨o2,HL3,HQ4⟩:=bind_c H
 refine loop_c [2,9] [4,5,10,11,12,13,14,15,16,17,18,19,20,21,22,23,1,6] [4,5,10,11,12,13,14,15,16,17,18,19,20,21,22,23,1,6] (fun n vals st=>(∃ y6,p_book_State_errors_l1  a0.Rows (a0.Rows.length:Int) n y6=some o2∧vals=[.i (0:Int),.i y6]∧st=[])) fuel 0 [] (⟨_,HL3,rfl,rfl⟩) (Nat.zero_le _) rfl (by kernel_rfl) (by kernel_rfl) rfl trivial ?_
 rintro (_ | n5) _ _ (⟨y6,H,rfl,rfl⟩)
 ·rw [p_book_State_errors_l1] at H;cases H
 rw [p_book_State_errors_l1] at H
 conv=>whnf
 refine tst_d H (fun b7 H=>?_) (fun b7 H=>?_)
 ·conv=>whnf
  obtain rfl:=Option.some.inj H
  have H:=HQ4
  try dsimp only at H
  exact fi_ H
 conv=>whnf
 refine ixs_c (f:=BookRow.v) H (fun _=>rfl) (fun x8 H=>?_);conv=>whnf
 refine lq_ ?_;conv=>whnf
 refine ask_c (p_pres_Check_v _) H rfl rfl (fun v9 H=>?_);conv=>whnf
 refine tst_c H (fun b10 H=>?_) (fun b10 H=>?_)
 ·conv=>whnf
  obtain rfl:=Option.some.inj H
  have H:=HQ4
  try dsimp only at H
  exact fi_ H
 conv=>whnf
 refine Tst.not ?_
 refine tst_d H (fun b11 H=>?_) (fun b11 H=>?_)
 ·conv=>whnf
  obtain rfl:=Option.some.inj H
  have H:=HQ4
  try dsimp only at H
  exact fi_ H
 conv=>whnf
 refine Ari.w ?_;conv=>whnf
 exact again_c [4,5,10,11,12,13,14,15,16,17,18,19,20,21,22,23,1,6] n5 0 [] (⟨_,H,rfl,rfl⟩) (Nat.lt_succ_self _) (Nat.zero_le _) rfl (by kernel_rfl) (by kernel_rfl) rfl trivial
def gc101:BCode:=(.seq (R_ 1 [O_ 2 (.bx (t_ 0)) 0,O_ 3 (.mv (b_ false)) 1]) (.seq (R_ 0 [O_ 4 (.fa 2 (t_ 2)) 0,O_ 5 (.fa 3 (t_ 4)) 0,O_ 6 (.ld 1 false (t_ 5)) 0,O_ 7 (.fa 2 (t_ 1)) 0,O_ 8 (.fa 3 (t_ 7)) 0,O_ 9 (.ld 1 false (t_ 8)) 0,O_ 10 (.bin .eql (t_ 6) (t_ 9)) 0,O_ 3 (.mv (t_ 10)) 0]) .ret))
theorem gc101_ok:compF Tryz.prog Tryz.f101=some (gc101.er,11,[.tmp 3]):=by unfold gc101;kernel_rfl
theorem p_book_State_ordered_1_v (a0:BookRow) (c0:BookRow):CallsO Tryz.prog 101 [.agg [.s a0.User,.s a0.Res,.b a0.P.On,.i a0.P.Show,.i a0.P.Prio,.i a0.P.Seq],.eptr [.s c0.User,.s c0.Res,.b c0.P.On,.i c0.P.Show,.i c0.P.Prio,.i c0.P.Seq]] V.b (p_book_State_ordered_1 a0 c0):=by
 refine callsO_comp mix Tryz.func101 gc101_ok fun r H=>?_
 rw [p_book_State_ordered_1] at H
 conv=>whnf
 refine lq_ ?_;conv=>whnf
 refine lq_ ?_;conv=>whnf
 exact fb_ H
def gc79:BCode:=(.seq (R_ 1 [O_ 1 (.bx (t_ 0)) 0,O_ 2 (.mv (b_ false)) 1]) (.seq (.seq (R_ 0 [O_ 5 (.fa 1 (t_ 1)) 0,O_ 6 (.ld 1 false (t_ 5)) 0,O_ 7 (.lens (t_ 6)) 0,O_ 8 (.mv (i_ 0)) 0]) (.block 0 (.loop (.seq (R_ 0 [O_ 9 (.bin .lss (t_ 8) (t_ 7)) 0]) (.seq (.cond (t_ 9) .skip (.exit 0)) (.seq (.block 1 (.seq (R_ 1 [O_ 10 (.mv (t_ 8)) 0,O_ 11 (.ixs 6 (t_ 6) (t_ 8)) 0,O_ 12 (.ld 6 true (t_ 11)) 0,O_ 4 (.al (.agg [(.lit (.string ⟨#[]⟩)),(.lit (.string ⟨#[]⟩)),(.lit (.bool false)),(.lit (.int .i64 0)),(.lit (.int .i64 0)),(.lit (.int .i64 0))])) 0,O_ 3 (.mv (t_ 10)) 1,U_ (.st 6 (t_ 4) (t_ 12)) 1]) (.seq (.seq (R_ 0 [O_ 13 (.fa 2 (t_ 4)) 0,O_ 14 (.fa 3 (t_ 13)) 0,O_ 15 (.ld 1 false (t_ 14)) 0,O_ 16 (.bin .lss (t_ 15) (i_ 1)) 0,O_ 17 (.mv (t_ 16)) 0,⟨(some 18),.fa 2 (t_ 4),(some (17,false)),0⟩,⟨(some 19),.fa 3 (t_ 18),(some (17,false)),0⟩,⟨(some 20),.ld 1 false (t_ 19),(some (17,false)),0⟩,⟨(some 21),.fa 0 (t_ 1),(some (17,false)),0⟩,⟨(some 22),.ld 1 false (t_ 21),(some (17,false)),0⟩,⟨(some 23),.bin .gtr (t_ 20) (t_ 22),(some (17,false)),0⟩,O_ 24 (.pick (t_ 17) (b_ true) (t_ 23)) 0]) (.cond (t_ 24) (.seq (R_ 0 [O_ 2 (.mv (b_ false)) 0]) .ret) .skip)) (.seq (.seq (.reg 0 [O_ 25 (.mv (t_ 3)) 0,O_ 26 (.bin .gtr (t_ 25) (i_ 0)) 0,O_ 27 (.mv (t_ 26)) 0,⟨(some 28),.fa 1 (t_ 1),(some (27,true)),0⟩,⟨(some 29),.ld 1 false (t_ 28),(some (27,true)),0⟩,⟨(some 30),.mv (t_ 3),(some (27,true)),0⟩,⟨(some 31),.bin .sub (t_ 30) (i_ 1),(some (27,true)),0⟩,⟨(some 32),.ixs 6 (t_ 29) (t_ 31),(some (27,true)),0⟩,⟨(some 33),.ld 6 true (t_ 32),(some (27,true)),0⟩,⟨(some 34),.cl 50 [(t_ 33)],(some (27,true)),0⟩,⟨(some 35),.ld 6 true (t_ 4),(some (27,true)),0⟩,⟨(some 36),.cl 50 [(t_ 35)],(some (27,true)),0⟩,⟨(some 37),.bin .geq (t_ 34) (t_ 36),(some (27,true)),0⟩,O_ 38 (.pick (t_ 27) (t_ 37) (b_ false)) 0] (some [[],[0],[0,1],[1,0,2],[2,0,1,3],[1,0,2],[2,0,1,5],[5,6,3,1,0,2,4],[4,2,0,1,3,6,5,7],[7,5,6,3,1,0,2,4,8],[1,0,2],[8,4,3,6,5,7,9,2,0,1,10],[10,11,8,4,2,0,1,3,6,5,7,9],[9,7,5,6,3,4,8,11,10,12,1,0,2]]) 0 []) (.cond (t_ 38) (.seq (R_ 0 [O_ 2 (.mv (b_ false)) 0]) .ret) .skip)) (.seq (.reg 0 [O_ 39 (.fa 1 (t_ 1)) 0,O_ 40 (.ld 1 false (t_ 39)) 0,O_ 41 (.mv (t_ 3)) 0,O_ 42 (.sls 6 (t_ 40) none (some (t_ 41)) none) 0,O_ 43 (.mf (.func 101) [(t_ 4)]) 0,O_ 44 (.cl 76 [(t_ 42),(t_ 43)]) 0] none 0 [4]) (.cond (t_ 44) (.seq (R_ 0 [O_ 2 (.mv (b_ false)) 0]) .ret) .skip)))))) (R_ 0 [O_ 45 (.bin .add (t_ 8) (i_ 1)) 0,O_ 8 (.mv (t_ 45)) 0]))))))) (.seq (R_ 0 [O_ 2 (.mv (b_ true)) 0]) .ret)))
theorem gc79_ok:compF Tryz.prog Tryz.f79=some (gc79.er,46,[.tmp 2]):=by unfold gc79;kernel_rfl
theorem p_book_State_ordered_v {u1:Bool} (a0:BookState):CallsO Tryz.prog 79 [.agg [.i a0.Seq,.sl (List.map BookRow.v a0.Rows) u1]] V.b (p_book_State_ordered a0):=by
 refine callsO_comp mix Tryz.func79 gc79_ok fun r H=>?_
 rw [p_book_State_ordered] at H
 conv=>whnf
 refine LenQ.M ?_;conv=>whnf
 obtain ⟨o2,HL3,HQ4⟩:=bind_c H
 refine loop_c [2,8] [3,4,9,10,11,12,13,14,15,16,17,18,19,20,21,22,23,24,25,26,27,28,29,30,31,32,33,34,35,36,37,38,39,40,41,42,43,44,45,5] [3,4,9,10,11,12,13,14,15,16,17,18,19,20,21,22,23,24,25,26,27,28,29,30,31,32,33,34,35,36,37,38,39,40,41,42,43,44,45,5] (fun n vals st=>(∃ y6,p_book_State_ordered_l1  a0.Rows (a0.Rows.length:Int) a0 n y6=some o2∧vals=[.b false,.i y6]∧st=[.live [.i a0.Seq,.sl (List.map BookRow.v a0.Rows) u1] 0])) fuel 1 [] (⟨_,HL3,rfl,rfl⟩) (Nat.zero_le _) rfl (by kernel_rfl) (by kernel_rfl) rfl ⟨⟨rfl,rfl,rfl⟩,trivial⟩ ?_
 rintro (_ | n5) _ _ (⟨y6,H,rfl,rfl⟩)
 ·rw [p_book_State_ordered_l1] at H;cases H
 rw [p_book_State_ordered_l1] at H
 conv=>whnf
 refine tst_d H (fun b7 H=>?_) (fun b7 H=>?_)
 ·conv=>whnf
  obtain rfl:=Option.some.inj H
  have H:=HQ4
  try dsimp only at H
  exact fb_ H
 conv=>whnf
 refine ixs_c (f:=BookRow.v) H (fun _=>rfl) (fun x8 H=>?_);conv=>whnf
 refine lq_ ?_;conv=>whnf
 refine tst_c H (fun b9 H=>?_) (fun b9 H=>?_)
 ·conv=>whnf
  iterate 7 (refine Tst.T ?_;conv=>whnf)
  obtain rfl:=Option.some.inj H
  have H:=HQ4
  try dsimp only at H
  exact fb_ H
 conv=>whnf
 iterate 6 (refine Tst.F ?_;conv=>whnf)
 refine tst_c H (fun b10 H=>?_) (fun b10 H=>?_)
 ·conv=>whnf
  obtain rfl:=Option.some.inj H
  have H:=HQ4
  try dsimp only at H
  exact fb_ H
 conv=>whnf
 refine tst_d H (fun b11 H=>?_) (fun b11 H=>?_)
 ·conv=>whnf
  iterate 10 (refine Tst.F ?_;conv=>whnf)
  refine FootQ.mk ⟨rfl,?_⟩;conv=>whnf
  refine Tst.F ?_;conv=>whnf
  refine ⟨Nat.zero_le _,?_⟩;conv=>whnf
  refine slsH_c (f:=BookRow.v) H (fun _=>rfl) (fun x19 H=>?_);conv=>whnf
  refine askF_c (p_slices_ContainsFunc_book_Row_v _ _ ⟨⟨_,Tryz.func101,by kernel_rfl,by kernel_rfl⟩,rfl,fun x0=>p_book_State_ordered_1_v _ _⟩) H (.cons (.c (.id rfl)) (.cons (.c (.clo (.cons (.ptr rfl (Nat.le_of_ble_eq_true rfl) (.cons (.id rfl) (.cons (.id rfl) (.cons (.id rfl) (.cons (.id rfl) (.cons (.id rfl) (.cons (.id rfl) (.nil)))))))) (.nil)))) (.nil))) (fun v20 H=>?_);conv=>whnf
  refine tst_c H (fun b21 H=>?_) (fun b21 H=>?_)
  ·conv=>whnf
   obtain rfl:=Option.some.inj H
   have H:=HQ4
   try dsimp only at H
   exact fb_ H
  conv=>whnf
  refine Ari.w ?_;conv=>whnf
  exact again_c [3,4,9,10,11,12,13,14,15,16,17,18,19,20,21,22,23,24,25,26,27,28,29,30,31,32,33,34,35,36,37,38,39,40,41,42,43,44,45,5] n5 1 [] (⟨_,H,rfl,rfl⟩) (Nat.lt_succ_self _) (Nat.zero_le _) rfl (by kernel_rfl) (by kernel_rfl) rfl ⟨⟨rfl,rfl,rfl⟩,trivial⟩
 conv=>whnf
 iterate 3 (refine Tst.T ?_;conv=>whnf)
 refine Ari.w ?_;conv=>whnf
 refine Tst.T ?_;conv=>whnf
 refine ixs_c (f:=BookRow.v) H (fun _=>rfl) (fun x12 H=>?_);conv=>whnf
 iterate 2 (refine Tst.T ?_;conv=>whnf)
 refine ask_c (p_book_Row_key_v _) H rfl rfl (fun v13 H=>?_);conv=>whnf
 iterate 2 (refine Tst.T ?_;conv=>whnf)
 refine ask_c (p_book_Row_key_v _) H rfl rfl (fun v14 H=>?_);conv=>whnf
 iterate 2 (refine Tst.T ?_;conv=>whnf)
 refine FootQ.mk ⟨rfl,?_⟩;conv=>whnf
 refine Tst.not ?_
 refine tst_d H (fun b15 H=>?_) (fun b15 H=>?_)
 ·conv=>whnf
  obtain rfl:=Option.some.inj H
  have H:=HQ4
  try dsimp only at H
  exact fb_ H
 conv=>whnf
 refine ⟨Nat.zero_le _,?_⟩;conv=>whnf
 refine slsH_c (f:=BookRow.v) H (fun _=>rfl) (fun x16 H=>?_);conv=>whnf
 refine askF_c (p_slices_ContainsFunc_book_Row_v _ _ ⟨⟨_,Tryz.func101,by kernel_rfl,by kernel_rfl⟩,rfl,fun x0=>p_book_State_ordered_1_v _ _⟩) H (.cons (.c (.id rfl)) (.cons (.c (.clo (.cons (.ptr rfl (Nat.le_of_ble_eq_true rfl) (.cons (.id rfl) (.cons (.id rfl) (.cons (.id rfl) (.cons (.id rfl) (.cons (.id rfl) (.cons (.id rfl) (.nil)))))))) (.nil)))) (.nil))) (fun v17 H=>?_);conv=>whnf
 refine tst_c H (fun b18 H=>?_) (fun b18 H=>?_)
 ·conv=>whnf
  obtain rfl:=Option.some.inj H
  have H:=HQ4
  try dsimp only at H
  exact fb_ H
 conv=>whnf
 refine Ari.w ?_;conv=>whnf
 exact again_c [3,4,9,10,11,12,13,14,15,16,17,18,19,20,21,22,23,24,25,26,27,28,29,30,31,32,33,34,35,36,37,38,39,40,41,42,43,44,45,5] n5 1 [] (⟨_,H,rfl,rfl⟩) (Nat.lt_succ_self _) (Nat.zero_le _) rfl (by kernel_rfl) (by kernel_rfl) rfl ⟨⟨rfl,rfl,rfl⟩,trivial⟩
end Go.Proofs.YthnihifblmnkdaaGreat

namespace Go.Proofs.YthnihifblmnkdaaGreat
open Go.RowKit
set_option maxRecDepth 100000
set_option maxHeartbeats 4000000
def gc52:BCode:=(.seq (R_ 1 [O_ 2 (.bx (t_ 0)) 0,O_ 4 (.mv (i_ 0)) 1]) (.seq (R_ 0 [O_ 5 (.mv (i_ 0)) 0]) (.seq (.seq (R_ 0 [O_ 8 (.fa 1 (t_ 2)) 0,O_ 9 (.ld 1 false (t_ 8)) 0,O_ 10 (.lens (t_ 9)) 0,O_ 11 (.mv (i_ 0)) 0]) (.block 0 (.loop (.seq (R_ 0 [O_ 12 (.bin .lss (t_ 11) (t_ 10)) 0]) (.seq (.cond (t_ 12) .skip (.exit 0)) (.seq (.block 1 (.seq (R_ 1 [O_ 13 (.ixs 6 (t_ 9) (t_ 11)) 0,O_ 14 (.ld 6 true (t_ 13)) 0,O_ 7 (.al (.agg [(.lit (.string ⟨#[]⟩)),(.lit (.string ⟨#[]⟩)),(.lit (.bool false)),(.lit (.int .i64 0)),(.lit (.int .i64 0)),(.lit (.int .i64 0))])) 0,U_ (.st 6 (t_ 7) (t_ 14)) 1]) (.seq (R_ 0 [O_ 15 (.fa 0 (t_ 7)) 0,O_ 16 (.ld 1 false (t_ 15)) 0,O_ 17 (.mv (t_ 1)) 0,O_ 18 (.bin .eql (t_ 16) (t_ 17)) 0]) (.cond (t_ 18) (R_ 0 [O_ 19 (.mv (t_ 5)) 0,O_ 20 (.bin .add (t_ 19) (i_ 1)) 0,O_ 5 (.mv (t_ 20)) 0]) .skip)))) (R_ 0 [O_ 21 (.bin .add (t_ 11) (i_ 1)) 0,O_ 11 (.mv (t_ 21)) 0]))))))) (.seq (R_ 0 [O_ 22 (.mv (t_ 5)) 0,O_ 4 (.mv (t_ 22)) 0]) .ret))))
theorem gc52_ok:compF Tryz.prog Tryz.f52=some (gc52.er,23,[.tmp 4]):=by unfold gc52;kernel_rfl
theorem p_book_State_many_v {u1:Bool} (a0:BookState) (a1:ByteArray):CallsO Tryz.prog 52 [.agg [.i a0.Seq,.sl (List.map BookRow.v a0.Rows) u1],.s a1] V.i (p_book_State_many a0 a1):=by
 refine callsO_comp mix Tryz.func52 gc52_ok fun r H=>?_
 rw [p_book_State_many] at H
 conv=>whnf
 refine LenQ.M ?_;conv=>whnf
 obtain ⟨o2,HL3,HQ4⟩:=bind_c H
 refine loop_c [5,11] [7,12,13,14,15,16,17,18,19,20,21,2,8] [7,12,13,14,15,16,17,18,19,20,21,2,8] (fun n vals st=>(∃ y6 y7,p_book_State_many_l1  a1 a0.Rows (a0.Rows.length:Int) n y6 y7=some o2∧vals=[.i y6,.i y7]∧st=[])) fuel 0 [] (⟨_,_,HL3,rfl,rfl⟩) (Nat.zero_le _) rfl (by kernel_rfl) (by kernel_rfl) rfl trivial ?_
 rintro (_ | n5) _ _ (⟨y6,y7,H,rfl,rfl⟩)
 ·rw [p_book_State_many_l1] at H;cases H
 rw [p_book_State_many_l1] at H
 conv=>whnf
 refine tst_d H (fun b8 H=>?_) (fun b8 H=>?_)
 ·conv=>whnf
  obtain rfl:=Option.some.inj H
  have H:=HQ4
  try dsimp only at H
  exact fi_ H
 conv=>whnf
 refine ixs_c (f:=BookRow.v) H (fun _=>rfl) (fun x9 H=>?_);conv=>whnf
 refine lq_ ?_;conv=>whnf
 refine tst_d H (fun b10 H=>?_) (fun b10 H=>?_)
 ·conv=>whnf
  refine Ari.w ?_;conv=>whnf
  exact again_c [7,12,13,14,15,16,17,18,19,20,21,2,8] n5 0 [] (⟨_,_,H,rfl,rfl⟩) (Nat.lt_succ_self _) (Nat.zero_le _) rfl (by kernel_rfl) (by kernel_rfl) rfl trivial
 conv=>whnf
 iterate 2 (refine Ari.w ?_;conv=>whnf)
 exact again_c [7,12,13,14,15,16,17,18,19,20,21,2,8] n5 0 [] (⟨_,_,H,rfl,rfl⟩) (Nat.lt_succ_self _) (Nat.zero_le _) rfl (by kernel_rfl) (by kernel_rfl) rfl trivial
def gc80:BCode:=(.seq (R_ 1 [O_ 2 (.bx (t_ 0)) 0,O_ 3 (.mv (b_ false)) 1]) (.seq (R_ 0 [O_ 4 (.ld 2 true (t_ 1)) 0,O_ 5 (.fa 0 (t_ 2)) 0,O_ 6 (.ld 1 false (t_ 5)) 0,O_ 7 (.cl 52 [(t_ 4),(t_ 6)]) 0,O_ 8 (.bin .gtr (t_ 7) (i_ 3)) 0,O_ 3 (.mv (t_ 8)) 0]) .ret))
theorem gc80_ok:compF Tryz.prog Tryz.f80=some (gc80.er,9,[.tmp 3]):=by unfold gc80;kernel_rfl
theorem p_book_Check_2_v {u1:Bool} (a0:BookRow) (c0:BookState):CallsO Tryz.prog 80 [.agg [.s a0.User,.s a0.Res,.b a0.P.On,.i a0.P.Show,.i a0.P.Prio,.i a0.P.Seq],.eptr [.i c0.Seq,.sl (List.map BookRow.v c0.Rows) u1]] V.b (p_book_Check_2 a0 c0):=by
 refine callsO_comp mix Tryz.func80 gc80_ok fun r H=>?_
 rw [p_book_Check_2] at H
 conv=>whnf
 refine ask_c (p_book_State_many_v _ _) H rfl rfl (fun v1 H=>?_);conv=>whnf
 exact fb_ H
def gc48:BCode:=(.seq (R_ 1 [O_ 1 (.bx (t_ 0)) 0,O_ 2 (.mv (i_ 0)) 1]) (.seq (.block 0 (.seq (R_ 0 [O_ 5 (.fa 1 (t_ 1)) 0,O_ 6 (.ld 1 false (t_ 5)) 0,O_ 7 (.lens (t_ 6)) 0,O_ 8 (.bin .gtr (t_ 7) (i_ 16)) 0,O_ 4 (.mv (t_ 8)) 0]) (.cond (t_ 4) (.seq (R_ 0 [O_ 2 (.mv (i_ 5)) 0]) .ret) (.seq (.seq (R_ 0 [O_ 10 (.fa 0 (t_ 1)) 0,O_ 11 (.ld 1 false (t_ 10)) 0,O_ 12 (.bin .lss (t_ 11) (i_ 0)) 0,O_ 9 (.mv (t_ 12)) 0]) (.cond (t_ 9) .skip (R_ 0 [O_ 13 (.fa 0 (t_ 1)) 0,O_ 14 (.ld 1 false (t_ 13)) 0,O_ 15 (.bin .gtr (t_ 14) (i_ 1099511627776)) 0,O_ 9 (.mv (t_ 15)) 0]))) (.cond (t_ 9) (.seq (R_ 0 [O_ 2 (.mv (i_ 8)) 0]) .ret) (.seq (R_ 0 [O_ 17 (.fa 1 (t_ 1)) 0,O_ 18 (.ld 1 false (t_ 17)) 0,O_ 19 (.cl 76 [(t_ 18),(.func 77)]) 0,O_ 16 (.mv (t_ 19)) 0]) (.cond (t_ 16) (.seq (R_ 0 [O_ 2 (.mv (i_ 11)) 0]) .ret) .skip))))))) (.seq (.seq (R_ 0 [O_ 20 (.ld 2 true (t_ 1)) 0,O_ 21 (.cl 78 [(t_ 20)]) 0,O_ 3 (.mv (t_ 21)) 0]) (.seq (R_ 0 [O_ 22 (.mv (t_ 3)) 0,O_ 23 (.bin .neq (t_ 22) (i_ 0)) 0]) (.cond (t_ 23) (.seq (R_ 0 [O_ 24 (.mv (t_ 3)) 0,O_ 2 (.mv (t_ 24)) 0]) .ret) .skip))) (.seq (.block 1 (.seq (R_ 0 [O_ 26 (.ld 2 true (t_ 1)) 0,O_ 27 (.cl 79 [(t_ 26)]) 0,O_ 28 (.un .not (t_ 27)) 0,O_ 25 (.mv (t_ 28)) 0]) (.cond (t_ 25) (.seq (R_ 0 [O_ 2 (.mv (i_ 10)) 0]) .ret) (.seq (.reg 0 [O_ 30 (.fa 1 (t_ 1)) 0,O_ 31 (.ld 1 false (t_ 30)) 0,O_ 32 (.mf (.func 80) [(t_ 1)]) 0,O_ 33 (.cl 76 [(t_ 31),(t_ 32)]) 0,O_ 29 (.mv (t_ 33)) 0] none 0 [1]) (.cond (t_ 29) (.seq (R_ 0 [O_ 2 (.mv (i_ 7)) 0]) .ret) .skip))))) (.seq (R_ 0 [O_ 2 (.mv (i_ 0)) 0]) .ret)))))
theorem gc48_ok:compF Tryz.prog Tryz.f48=some (gc48.er,34,[.tmp 2]):=by unfold gc48;kernel_rfl
theorem p_book_Check_v {u1:Bool} (a0:BookState):CallsO Tryz.prog 48 [.agg [.i a0.Seq,.sl (List.map BookRow.v a0.Rows) u1]] V.i (p_book_Check a0):=by
 refine callsO_comp mix Tryz.func48 gc48_ok fun r H=>?_
 rw [p_book_Check] at H
 conv=>whnf
 refine LenQ.M ?_;conv=>whnf
 refine tst_c H (fun b1 H=>?_) (fun b1 H=>?_)
 ·conv=>whnf
  exact fi_ H
 conv=>whnf
 refine tst_c H (fun b2 H=>?_) (fun b2 H=>?_)
 ·conv=>whnf
  refine Tst.T ?_;conv=>whnf
  exact fi_ H
 conv=>whnf
 refine tst_c H (fun b3 H=>?_) (fun b3 H=>?_)
 ·conv=>whnf
  exact fi_ H
 conv=>whnf
 refine askF_c (p_slices_ContainsFunc_book_Row_v _ _ ⟨⟨_,Tryz.func77,by kernel_rfl,by kernel_rfl⟩,rfl,fun x0=>p_book_Check_1_v _⟩) H (.cons (.c (.slw)) (.cons (.c (.clo (.nil))) (.nil))) (fun v4 H=>?_);conv=>whnf
 refine tst_c H (fun b5 H=>?_) (fun b5 H=>?_)
 ·conv=>whnf
  exact fi_ H
 conv=>whnf
 refine ask_c (p_book_State_errors_v _) H rfl rfl (fun v6 H=>?_);conv=>whnf
 refine tst_c H (fun b7 H=>?_) (fun b7 H=>?_)
 ·conv=>whnf
  exact fi_ H
 conv=>whnf
 refine ask_c (p_book_State_ordered_v _) H rfl rfl (fun v8 H=>?_);conv=>whnf
 refine Tst.not ?_
 refine tst_d H (fun b9 H=>?_) (fun b9 H=>?_)
 ·conv=>whnf
  exact fi_ H
 conv=>whnf
 refine ⟨Nat.zero_le _,?_⟩;conv=>whnf
 refine askF_c (p_slices_ContainsFunc_book_Row_v _ _ ⟨⟨_,Tryz.func80,by kernel_rfl,by kernel_rfl⟩,rfl,fun x0=>p_book_Check_2_v _ _⟩) H (.cons (.c (.slw)) (.cons (.c (.clo (.cons (.ptr rfl (Nat.le_of_ble_eq_true rfl) (.cons (.id rfl) (.cons (.id rfl) (.nil)))) (.nil)))) (.nil))) (fun v10 H=>?_);conv=>whnf
 refine tst_c H (fun b11 H=>?_) (fun b11 H=>?_)
 ·conv=>whnf
  exact fi_ H
 conv=>whnf
 exact fi_ H
def gc82:BCode:=(.seq (R_ 1 [O_ 2 (.bx (t_ 0)) 0,O_ 4 (.mv (i_ 0)) 1]) (.seq (R_ 0 [O_ 5 (.ld 6 true (t_ 2)) 0,O_ 6 (.cl 50 [(t_ 5)]) 0,O_ 7 (.mv (t_ 1)) 0,O_ 8 (.cl 83 [(t_ 6),(t_ 7)]) 0,O_ 4 (.mv (t_ 8)) 0]) .ret))
theorem gc82_ok:compF Tryz.prog Tryz.f82=some (gc82.er,9,[.tmp 4]):=by unfold gc82;kernel_rfl
theorem p_book_State_find_1_v (a0:BookRow) (a1:ByteArray):CallsO Tryz.prog 82 [.agg [.s a0.User,.s a0.Res,.b a0.P.On,.i a0.P.Show,.i a0.P.Prio,.i a0.P.Seq],.s a1] V.i (p_book_State_find_1 a0 a1):=by
 refine callsO_comp mix Tryz.func82 gc82_ok fun r H=>?_
 rw [p_book_State_find_1] at H
 conv=>whnf
 refine ask_c (p_book_Row_key_v _) H rfl rfl (fun v1 H=>?_);conv=>whnf
 refine ask_c (p_strings_Compare_v _ _) H rfl rfl (fun v2 H=>?_);conv=>whnf
 exact fi_ H
def gc81:BCode:=(.seq (R_ 0 [O_ 6 (.mv (i_ 0)) 0,O_ 7 (.mv (b_ false)) 0]) (.seq (R_ 0 [O_ 12 (.mv (t_ 0)) 0,O_ 13 (.lens (t_ 12)) 0,O_ 8 (.mv (t_ 13)) 0]) (.seq (R_ 0 [O_ 14 (.mv (t_ 8)) 0,O_ 9 (.mv (i_ 0)) 0,O_ 10 (.mv (t_ 14)) 0]) (.seq (.block 0 (.loop (.seq (.seq (R_ 0 [O_ 15 (.mv (t_ 9)) 0,O_ 16 (.mv (t_ 10)) 0,O_ 17 (.bin .lss (t_ 15) (t_ 16)) 0]) (.cond (t_ 17) .skip (.exit 0))) (.block 1 (.seq (R_ 0 [O_ 18 (.mv (t_ 9)) 0,O_ 19 (.mv (t_ 10)) 0,O_ 20 (.bin .add (t_ 18) (t_ 19)) 0,O_ 21 (.cvi .u64 (t_ 20)) 0,O_ 22 (.bin .shr (t_ 21) (.const (.int .u64 1))) 0,O_ 23 (.cvi .i64 (t_ 22)) 0,O_ 11 (.mv (t_ 23)) 0]) (.seq (R_ 0 [O_ 24 (.mv (t_ 2)) 0,O_ 25 (.mv (t_ 0)) 0,O_ 26 (.mv (t_ 11)) 0,O_ 27 (.ixs 6 (t_ 25) (t_ 26)) 0,O_ 28 (.ld 6 true (t_ 27)) 0,O_ 29 (.mv (t_ 1)) 0,O_ 30 (.cv (t_ 24) [(t_ 28),(t_ 29)]) 0,O_ 31 (.bin .lss (t_ 30) (i_ 0)) 0]) (.cond (t_ 31) (R_ 0 [O_ 32 (.mv (t_ 11)) 0,O_ 33 (.bin .add (t_ 32) (i_ 1)) 0,O_ 9 (.mv (t_ 33)) 0]) (R_ 0 [O_ 34 (.mv (t_ 11)) 0,O_ 10 (.mv (t_ 34)) 0])))))))) (.seq (R_ 0 [O_ 35 (.mv (t_ 9)) 0,O_ 36 (.mv (t_ 9)) 0,O_ 37 (.mv (t_ 8)) 0,O_ 38 (.bin .lss (t_ 36) (t_ 37)) 0,O_ 39 (.mv (t_ 38)) 0,⟨(some 40),.mv (t_ 2),(some (39,true)),0⟩,⟨(some 41),.mv (t_ 0),(some (39,true)),0⟩,⟨(some 42),.mv (t_ 9),(some (39,true)),0⟩,⟨(some 43),.ixs 6 (t_ 41) (t_ 42),(some (39,true)),0⟩,⟨(some 44),.ld 6 true (t_ 43),(some (39,true)),0⟩,⟨(some 45),.mv (t_ 1),(some (39,true)),0⟩,⟨(some 46),.cv (t_ 40) [(t_ 44),(t_ 45)],(some (39,true)),0⟩,⟨(some 47),.bin .eql (t_ 46) (i_ 0),(some (39,true)),0⟩,O_ 48 (.pick (t_ 39) (t_ 47) (b_ false)) 0,O_ 6 (.mv (t_ 35)) 0,O_ 7 (.mv (t_ 48)) 0]) .ret)))))
theorem gc81_ok:compF Tryz.prog Tryz.f81=some (gc81.er,49,[.tmp 6,.tmp 7]):=by unfold gc81;kernel_rfl
theorem p_slices_BinarySearchFunc_book_Row_v {u1:Bool} (a0:List BookRow) (a1:ByteArray) (a2:BookRow→ByteArray→Option Int) {a2_g:Nat} {a2_k:List V} (a2_h:Clo2 Tryz.prog a2_g a2_k BookRow.v V.s V.i a2):CallsO Tryz.prog 81 [.sl (List.map BookRow.v a0) u1,.s a1,.clo (.func a2_g) a2_k] (fun r:Int × Bool=>.tup [V.i r.1,V.b r.2]) (p_slices_BinarySearchFunc_book_Row a0 a1 a2):=by
 refine callsO_comp mix Tryz.func81 gc81_ok fun r H=>?_
 rw [p_slices_BinarySearchFunc_book_Row] at H
 conv=>whnf
 refine LenQ.M ?_;conv=>whnf
 obtain ⟨o2,HL3,HQ4⟩:=bind_c H
 refine loop_c [9,10] [11,15,16,17,18,19,20,21,22,23,24,25,26,27,28,29,30,31,32,33,34] [11,15,16,17,18,19,20,21,22,23,24,25,26,27,28,29,30,31,32,33,34] (fun n vals st=>(∃ y6 y7,p_slices_BinarySearchFunc_book_Row_l1  a2 a0 a1 n y6 y7=some o2∧vals=[.i y6,.i y7]∧st=[])) fuel 0 [] (⟨_,_,HL3,rfl,rfl⟩) (Nat.zero_le _) rfl (by simp only [maskF,setF,List.set_cons_zero,List.set_cons_succ,V.ren.renL,V.ren,renL_id _ a2_h.own] <;> rfl) (by simp only [maskF,setF,List.set_cons_zero,List.set_cons_succ,V.idlt.belowL,V.idlt,fun n=>idltL_up (n:=n) _ a2_h.own] <;> rfl) rfl trivial ?_
 rintro (_ | n5) _ _ (⟨y6,y7,H,rfl,rfl⟩)
 ·rw [p_slices_BinarySearchFunc_book_Row_l1] at H;cases H
 rw [p_slices_BinarySearchFunc_book_Row_l1] at H
 conv=>whnf
 refine tst_d H (fun b8 H=>?_) (fun b8 H=>?_)
 ·conv=>whnf
  obtain rfl:=Option.some.inj H
  have H:=HQ4
  try dsimp only at H
  refine tst_d H (fun b12 H=>?_) (fun b12 H=>?_)
  ·conv=>whnf
   iterate 8 (refine Tst.F ?_;conv=>whnf)
   exact fq_ H
  conv=>whnf
  iterate 3 (refine Tst.T ?_;conv=>whnf)
  refine ixs_c (f:=BookRow.v) H (fun _=>rfl) (fun x13 H=>?_);conv=>whnf
  iterate 3 (refine Tst.T ?_;conv=>whnf)
  refine askC2_c a2_h H (.cons (fzagg (.cons (.id rfl) (.cons (.id rfl) (.cons (.id rfl) (.cons (.id rfl) (.cons (.id rfl) (.cons (.id rfl) (.nil))))))) rfl) (.cons (.c (.id rfl)) (.nil))) (fun v14 H=>?_);conv=>whnf
  iterate 2 (refine Tst.T ?_;conv=>whnf)
  exact fq_ H
 conv=>whnf
 iterate 2 (refine Ari.w ?_;conv=>whnf)
 refine Shr.ok (by decide) ?_;conv=>whnf
 refine Ari.w ?_;conv=>whnf
 refine ixs_c (f:=BookRow.v) H (fun _=>rfl) (fun x9 H=>?_);conv=>whnf
 refine askC2_c a2_h H (.cons (fzagg (.cons (.id rfl) (.cons (.id rfl) (.cons (.id rfl) (.cons (.id rfl) (.cons (.id rfl) (.cons (.id rfl) (.nil))))))) rfl) (.cons (.c (.id rfl)) (.nil))) (fun v10 H=>?_);conv=>whnf
 refine tst_d H (fun b11 H=>?_) (fun b11 H=>?_)
 ·conv=>whnf
  exact again_c [11,15,16,17,18,19,20,21,22,23,24,25,26,27,28,29,30,31,32,33,34] n5 0 [] (⟨_,_,H,rfl,rfl⟩) (Nat.lt_succ_self _) (Nat.zero_le _) rfl (by simp only [maskF,setF,List.set_cons_zero,List.set_cons_succ,V.ren.renL,V.ren,renL_id _ a2_h.own] <;> rfl) (by simp only [maskF,setF,List.set_cons_zero,List.set_cons_succ,V.idlt.belowL,V.idlt,fun n=>idltL_up (n:=n) _ a2_h.own] <;> rfl) rfl trivial
 conv=>whnf
 refine Ari.w ?_;conv=>whnf
 exact again_c [11,15,16,17,18,19,20,21,22,23,24,25,26,27,28,29,30,31,32,33,34] n5 0 [] (⟨_,_,H,rfl,rfl⟩) (Nat.lt_succ_self _) (Nat.zero_le _) rfl (by simp only [maskF,setF,List.set_cons_zero,List.set_cons_succ,V.ren.renL,V.ren,renL_id _ a2_h.own] <;> rfl) (by simp only [maskF,setF,List.set_cons_zero,List.set_cons_succ,V.idlt.belowL,V.idlt,fun n=>idltL_up (n:=n) _ a2_h.own] <;> rfl) rfl trivial
def gc49:BCode:=(.seq (R_ 1 [O_ 2 (.bx (t_ 0)) 0,O_ 4 (.mv (i_ 0)) 1,O_ 5 (.mv (b_ false)) 1]) (.seq (R_ 0 [O_ 6 (.fa 1 (t_ 2)) 0,O_ 7 (.ld 1 false (t_ 6)) 0,O_ 8 (.mv (t_ 1)) 0,O_ 9 (.cl 81 [(t_ 7),(t_ 8),(.func 82)]) 0,O_ 10 (.ex (t_ 9) 0) 0,O_ 11 (.ex (t_ 9) 1) 0,O_ 4 (.mv (t_ 10)) 0,O_ 5 (.mv (t_ 11)) 0]) .ret))
theorem gc49_ok:compF Tryz.prog Tryz.f49=some (gc49.er,12,[.tmp 4,.tmp 5]):=by unfold gc49;kernel_rfl
theorem p_book_State_find_v {u1:Bool} (a0:BookState) (a1:ByteArray):CallsO Tryz.prog 49 [.agg [.i a0.Seq,.sl (List.map BookRow.v a0.Rows) u1],.s a1] (fun r:Int × Bool=>.tup [V.i r.1,V.b r.2]) (p_book_State_find a0 a1):=by
 refine callsO_comp mix Tryz.func49 gc49_ok fun r H=>?_
 rw [p_book_State_find] at H
 conv=>whnf
 refine askF_c (p_slices_BinarySearchFunc_book_Row_v _ _ _ ⟨⟨_,Tryz.func82,by kernel_rfl,by kernel_rfl⟩,rfl,fun x0 x1=>p_book_State_find_1_v _ _⟩) H (.cons (.c (.slw)) (.cons (.c (.id rfl)) (.cons (.c (.clo (.nil))) (.nil)))) (fun v1 H=>?_);conv=>whnf
 exact fq_ H
end Go.Proofs.YthnihifblmnkdaaGreat

namespace Go.Proofs.YthnihifblmnkdaaGreat
open Go.RowKit
set_option maxRecDepth 1000000
set_option maxHeartbeats 4000000
def gc25:BCode:=(.seq (R_ 3 [O_ 5 (.bx (t_ 0)) 0,O_ 10 (.al (.agg [(.lit (.int .i64 0)),(.sl [] true)])) 1,O_ 11 (.al (.agg [(.lit (.bool false)),(.lit (.int .i64 0)),(.lit (.int .i64 0)),(.lit (.int .i64 0))])) 2,O_ 12 (.mv (i_ 0)) 3]) (.seq (R_ 1 [O_ 13 (.al (.agg [(.lit (.bool false)),(.lit (.int .i64 0)),(.lit (.int .i64 0)),(.lit (.int .i64 0))])) 0]) (.seq (.seq (R_ 0 [O_ 20 (.ld 2 true (t_ 5)) 0,O_ 21 (.cl 48 [(t_ 20)]) 0,O_ 14 (.mv (t_ 21)) 0]) (.seq (R_ 0 [O_ 22 (.mv (t_ 14)) 0,O_ 23 (.bin .neq (t_ 22) (i_ 0)) 0]) (.cond (t_ 23) (.seq (.reg 0 [O_ 24 (.ld 2 true (t_ 5)) 0,O_ 25 (.ld 4 true (t_ 13)) 0,O_ 26 (.mv (t_ 14)) 0,U_ (.st 2 (t_ 10) (t_ 24)) 0,U_ (.st 4 (t_ 11) (t_ 25)) 0,O_ 12 (.mv (t_ 26)) 0] (some [[],[],[],[0],[0,3,1],[1,3,0,4,2]]) 0 []) .ret) .skip))) (.seq (R_ 1 [O_ 27 (.mv (t_ 1)) 0,O_ 28 (.mv (t_ 2)) 0,O_ 29 (.mv (t_ 3)) 0,O_ 30 (.mv (t_ 4)) 0,O_ 31 (.bd [(.lit (.bool false)),(.lit (.int .i64 0)),(.lit (.int .i64 0)),(.lit (.int .i64 0))] [(0,1,(b_ true)),(1,1,(t_ 29)),(2,1,(t_ 30))]) 0,O_ 32 (.bd [(.lit (.string ⟨#[]⟩)),(.lit (.string ⟨#[]⟩)),(.lit (.bool false)),(.lit (.int .i64 0)),(.lit (.int .i64 0)),(.lit (.int .i64 0))] [(0,1,(t_ 27)),(1,1,(t_ 28)),(2,4,(t_ 31))]) 0,O_ 15 (.al (.agg [(.lit (.string ⟨#[]⟩)),(.lit (.string ⟨#[]⟩)),(.lit (.bool false)),(.lit (.int .i64 0)),(.lit (.int .i64 0)),(.lit (.int .i64 0))])) 0,U_ (.st 6 (t_ 15) (t_ 32)) 1]) (.seq (.seq (R_ 0 [O_ 33 (.ld 6 true (t_ 15)) 0,O_ 34 (.cl 50 [(t_ 33)]) 0,O_ 35 (.bin .eql (t_ 34) (.const (.string ⟨#[]⟩))) 0]) (.cond (t_ 35) (.seq (.reg 0 [O_ 36 (.ld 2 true (t_ 5)) 0,O_ 37 (.ld 4 true (t_ 13)) 0,U_ (.st 2 (t_ 10) (t_ 36)) 0,U_ (.st 4 (t_ 11) (t_ 37)) 0,O_ 12 (.mv (i_ 11)) 0] (some [[],[],[0],[0,2,1],[1,2,0,3]]) 0 []) .ret) .skip)) (.seq (.seq (R_ 0 [O_ 38 (.fa 2 (t_ 15)) 0,O_ 39 (.ld 4 true (t_ 38)) 0,O_ 40 (.cl 51 [(t_ 39)]) 0,O_ 16 (.mv (t_ 40)) 0]) (.seq (R_ 0 [O_ 41 (.mv (t_ 16)) 0,O_ 42 (.bin .neq (t_ 41) (i_ 0)) 0]) (.cond (t_ 42) (.seq (.reg 0 [O_ 43 (.ld 2 true (t_ 5)) 0,O_ 44 (.ld 4 true (t_ 13)) 0,O_ 45 (.mv (t_ 16)) 0,U_ (.st 2 (t_ 10) (t_ 43)) 0,U_ (.st 4 (t_ 11) (t_ 44)) 0,O_ 12 (.mv (t_ 45)) 0] (some [[],[],[],[0],[0,3,1],[1,3,0,4,2]]) 0 []) .ret) .skip))) (.seq (.reg 0 [O_ 47 (.ld 2 true (t_ 5)) 0,O_ 48 (.ld 6 true (t_ 15)) 0,O_ 49 (.cl 50 [(t_ 48)]) 0,O_ 50 (.cl 49 [(t_ 47),(t_ 49)]) 0,O_ 46 (.mv (t_ 50)) 0,O_ 51 (.ex (t_ 46) 0) 0,O_ 52 (.ex (t_ 46) 1) 0,O_ 17 (.mv (t_ 51)) 0,O_ 18 (.mv (t_ 52)) 0] (some [[],[],[1],[1,2,0],[0,2,1,3],[3,1,2,0,4],[3,1,2,0,4],[4,0,2,1,3,5],[5,7,4,0,2,1,3,6]]) 0 []) (.seq (.seq (R_ 0 [O_ 53 (.mv (t_ 18)) 0,O_ 54 (.un .not (t_ 53)) 0,O_ 55 (.mv (t_ 54)) 0,⟨(some 56),.fa 1 (t_ 5),(some (55,true)),0⟩,⟨(some 57),.ld 1 false (t_ 56),(some (55,true)),0⟩,⟨(some 58),.lens (t_ 57),(some (55,true)),0⟩,⟨(some 59),.bin .geq (t_ 58) (i_ 16),(some (55,true)),0⟩,⟨(some 60),.mv (t_ 59),(some (55,true)),0⟩,⟨(some 61),.ld 2 true (t_ 5),(some (60,false)),0⟩,⟨(some 62),.mv (t_ 1),(some (60,false)),0⟩,⟨(some 63),.cl 52 [(t_ 61),(t_ 62)],(some (60,false)),0⟩,⟨(some 64),.bin .geq (t_ 63) (i_ 3),(some (60,false)),0⟩,⟨(some 65),.pick (t_ 60) (b_ true) (t_ 64),(some (55,true)),0⟩,O_ 66 (.pick (t_ 55) (t_ 65) (b_ false)) 0]) (.cond (t_ 66) (.seq (.reg 0 [O_ 67 (.ld 2 true (t_ 5)) 0,O_ 68 (.ld 4 true (t_ 13)) 0,U_ (.st 2 (t_ 10) (t_ 67)) 0,U_ (.st 4 (t_ 11) (t_ 68)) 0,O_ 12 (.mv (i_ 7)) 0] (some [[],[],[0],[0,2,1],[1,2,0,3]]) 0 []) .ret) .skip)) (.seq (.seq (R_ 0 [O_ 69 (.fa 0 (t_ 5)) 0,O_ 70 (.ld 1 false (t_ 69)) 0,O_ 71 (.bin .geq (t_ 70) (i_ 1099511627776)) 0]) (.cond (t_ 71) (.seq (.reg 0 [O_ 72 (.ld 2 true (t_ 5)) 0,O_ 73 (.ld 4 true (t_ 13)) 0,U_ (.st 2 (t_ 10) (t_ 72)) 0,U_ (.st 4 (t_ 11) (t_ 73)) 0,O_ 12 (.mv (i_ 9)) 0] (some [[],[],[0],[0,2,1],[1,2,0,3]]) 0 []) .ret) .skip)) (.seq (R_ 0 [O_ 74 (.fa 0 (t_ 5)) 0,O_ 75 (.ld 1 false (t_ 74)) 0,O_ 76 (.bin .add (t_ 75) (i_ 1)) 0,O_ 77 (.fa 0 (t_ 5)) 0,U_ (.st 1 (t_ 77) (t_ 76)) 0]) (.seq (R_ 0 [O_ 78 (.fa 0 (t_ 5)) 0,O_ 79 (.ld 1 false (t_ 78)) 0,O_ 80 (.fa 2 (t_ 15)) 0,O_ 81 (.fa 3 (t_ 80)) 0,U_ (.st 1 (t_ 81) (t_ 79)) 0]) (.seq (R_ 0 [O_ 82 (.fa 1 (t_ 5)) 0,O_ 83 (.ld 1 false (t_ 82)) 0,O_ 84 (.mv (t_ 17)) 0,O_ 85 (.sls 6 (t_ 83) (some (t_ 84)) none none) 0,O_ 19 (.mv (t_ 85)) 0]) (.seq (.seq (R_ 0 [O_ 86 (.mv (t_ 18)) 0]) (.cond (t_ 86) (R_ 0 [O_ 87 (.fa 1 (t_ 5)) 0,O_ 88 (.ld 1 false (t_ 87)) 0,O_ 89 (.mv (t_ 17)) 0,O_ 90 (.bin .add (t_ 89) (i_ 1)) 0,O_ 91 (.sls 6 (t_ 88) (some (t_ 90)) none none) 0,O_ 19 (.mv (t_ 91)) 0]) .skip)) (.seq (.reg 3 [O_ 92 (.fa 1 (t_ 5)) 0,O_ 93 (.ld 1 false (t_ 92)) 0,O_ 94 (.mv (t_ 17)) 0,O_ 95 (.mv (t_ 17)) 0,O_ 96 (.sls 6 (t_ 93) none (some (t_ 94)) (some (t_ 95))) 0,O_ 97 (.ld 6 true (t_ 15)) 0,O_ 98 (.bs 6 1 [(.lit (.string ⟨#[]⟩)),(.lit (.string ⟨#[]⟩)),(.lit (.bool false)),(.lit (.int .i64 0)),(.lit (.int .i64 0)),(.lit (.int .i64 0))] [(0,(t_ 97))]) 0,O_ 99 (.ap 6 64 (t_ 96) (t_ 98)) 1,O_ 100 (.mv (t_ 19)) 2,O_ 101 (.ap 6 64 (t_ 99) (t_ 100)) 2,O_ 102 (.fa 1 (t_ 5)) 3,U_ (.st 1 (t_ 102) (t_ 101)) 3] (some [[],[0],[],[],[3,2,0,1],[],[5],[5,6,1,0,2,3,4],[],[8,4,3,2,0,1,6,5,7],[9,8,7,6,5,4,3,2,1,0],[0,1,2,3,4,5,6,7,8,9,10]]) 0 []) (.seq (.reg 0 [O_ 103 (.ld 2 true (t_ 5)) 0,O_ 104 (.fa 2 (t_ 15)) 0,O_ 105 (.ld 4 true (t_ 104)) 0,U_ (.st 2 (t_ 10) (t_ 103)) 0,U_ (.st 4 (t_ 11) (t_ 105)) 0,O_ 12 (.mv (i_ 0)) 0] (some [[],[],[1],[0],[0,3,1,2],[2,1,3,0,4]]) 0 []) .ret)))))))))))))))
theorem gc25_ok:compF Tryz.prog Tryz.f25=some (gc25.er,106,[.cell 10 2 true,.cell 11 4 true,.tmp 12]):=by unfold gc25;kernel_rfl
theorem p_book_Set_v {u1:Bool} (a0:BookState) (a1:ByteArray) (a2:ByteArray) (a3:Int) (a4:Int):CallsO Tryz.prog 25 [.agg [.i a0.Seq,.sl (List.map BookRow.v a0.Rows) u1],.s a1,.s a2,.i a3,.i a4] (fun r:BookState × PresPres × Int=>.tup [BookState.v r.1,PresPres.v r.2.1,V.i r.2.2]) (p_book_Set a0 a1 a2 a3 a4):=by
 refine callsO_comp mix Tryz.func25 gc25_ok fun r H=>?_
 rw [p_book_Set] at H
 conv=>whnf
 refine ask_c (p_book_Check_v _) H rfl rfl (fun v1 H=>?_);conv=>whnf
 refine tst_c H (fun b2 H=>?_) (fun b2 H=>?_)
 ·conv=>whnf
  refine lq_ ?_;conv=>whnf
  refine lq_ ?_;conv=>whnf
  refine FootQ.mk ⟨rfl,?_⟩;conv=>whnf
  refine finR_c (enc:=(fun r:BookState × PresPres × Int=>.tup [BookState.v r.1,PresPres.v r.2.1,V.i r.2.2])) H ?_;conv=>whnf
  exact ⟨_,.tup (.cons (fzagg (.cons (.id rfl) (.cons (.slw) (.nil))) rfl) (.cons (fzagg (.cons (.id rfl) (.cons (.id rfl) (.cons (.id rfl) (.cons (.id rfl) (.nil))))) rfl) (.cons (.c (.id rfl)) (.nil))))⟩
 conv=>whnf
 refine lq_ ?_;conv=>whnf
 refine ask_c (p_book_Row_key_v _) H rfl rfl (fun v3 H=>?_);conv=>whnf
 refine tst_c H (fun b4 H=>?_) (fun b4 H=>?_)
 ·conv=>whnf
  refine lq_ ?_;conv=>whnf
  refine lq_ ?_;conv=>whnf
  refine FootQ.mk ⟨rfl,?_⟩;conv=>whnf
  refine finR_c (enc:=(fun r:BookState × PresPres × Int=>.tup [BookState.v r.1,PresPres.v r.2.1,V.i r.2.2])) H ?_;conv=>whnf
  exact ⟨_,.tup (.cons (fzagg (.cons (.id rfl) (.cons (.slw) (.nil))) rfl) (.cons (fzagg (.cons (.id rfl) (.cons (.id rfl) (.cons (.id rfl) (.cons (.id rfl) (.nil))))) rfl) (.cons (.c (.id rfl)) (.nil))))⟩
 conv=>whnf
 refine ask_c (p_pres_Check_v _) H rfl rfl (fun v5 H=>?_);conv=>whnf
 refine tst_c H (fun b6 H=>?_) (fun b6 H=>?_)
 ·conv=>whnf
  refine lq_ ?_;conv=>whnf
  refine lq_ ?_;conv=>whnf
  refine FootQ.mk ⟨rfl,?_⟩;conv=>whnf
  refine finR_c (enc:=(fun r:BookState × PresPres × Int=>.tup [BookState.v r.1,PresPres.v r.2.1,V.i r.2.2])) H ?_;conv=>whnf
  exact ⟨_,.tup (.cons (fzagg (.cons (.id rfl) (.cons (.slw) (.nil))) rfl) (.cons (fzagg (.cons (.id rfl) (.cons (.id rfl) (.cons (.id rfl) (.cons (.id rfl) (.nil))))) rfl) (.cons (.c (.id rfl)) (.nil))))⟩
 conv=>whnf
 refine ask_c (p_book_Row_key_v _) H rfl rfl (fun v7 H=>?_);conv=>whnf
 refine ask_c (p_book_State_find_v _ _) H rfl rfl (fun v8 H=>?_);conv=>whnf
 refine FootQ.mk ⟨rfl,?_⟩;conv=>whnf
 refine Tst.not ?_
 refine tst_c H (fun b9 H=>?_) (fun b9 H=>?_)
 ·conv=>whnf
  iterate 7 (refine Tst.F ?_;conv=>whnf)
  refine tst_c H (fun b10 H=>?_) (fun b10 H=>?_)
  ·conv=>whnf
   refine lq_ ?_;conv=>whnf
   refine lq_ ?_;conv=>whnf
   refine FootQ.mk ⟨rfl,?_⟩;conv=>whnf
   refine finR_c (enc:=(fun r:BookState × PresPres × Int=>.tup [BookState.v r.1,PresPres.v r.2.1,V.i r.2.2])) H ?_;conv=>whnf
   exact ⟨_,.tup (.cons (fzagg (.cons (.id rfl) (.cons (.slw) (.nil))) rfl) (.cons (fzagg (.cons (.id rfl) (.cons (.id rfl) (.cons (.id rfl) (.cons (.id rfl) (.nil))))) rfl) (.cons (.c (.id rfl)) (.nil))))⟩
  conv=>whnf
  refine Ari.w ?_;conv=>whnf
  refine lq_ ?_;conv=>whnf
  refine lq_ ?_;conv=>whnf
  refine slsE_c (f:=BookRow.v) H (fun _=>rfl) (fun x11 H=>?_);conv=>whnf
  refine Tst.isT b9 ?_;conv=>whnf
  refine Ari.w ?_;conv=>whnf
  refine slsE_c (f:=BookRow.v) H (fun _=>rfl) (fun x12 H=>?_);conv=>whnf
  refine slsC_c (f:=BookRow.v) H (fun _=>rfl) (fun x13 H=>?_);conv=>whnf
  refine appN_c (f:=BookRow.v) H (fun _=>rfl) (srcM (f:=BookRow.v) (fun _=>rfl) _ _) rfl (.v (srcOwn (f:=BookRow.v) (l:=[(BookRow.mk a1 a2 (PresPres.mk true a3 a4 (w64 (a0.Seq + (1:Int)))))]) (fun _=>rfl) rfl rfl rfl)) (by decide) rfl (by simp) (fun l14 H=>?_);conv=>whnf
  refine appP_c (f:=BookRow.v) H (fun _=>rfl) rfl rfl (.v (srcM (f:=BookRow.v) (fun _=>rfl) _ _)) (by decide) rfl (fun l15 H=>?_) (fun l15 H=>?_)
  ·conv=>whnf
   refine lq_ ?_;conv=>whnf
   refine FootQ.mk ⟨rfl,?_⟩;conv=>whnf
   refine lq_ ?_;conv=>whnf
   refine lq_ ?_;conv=>whnf
   refine FootQ.mk ⟨rfl,?_⟩;conv=>whnf
   refine finR_c (enc:=(fun r:BookState × PresPres × Int=>.tup [BookState.v r.1,PresPres.v r.2.1,V.i r.2.2])) H ?_;conv=>whnf
   exact ⟨_,.tup (.cons (fzagg (.cons (.id rfl) (.cons (fzown (f:=BookRow.v) (l:=l15) rfl rfl (fun _=>rfl) (fun _=>rfl)) (.nil))) rfl) (.cons (fzagg (.cons (.id rfl) (.cons (.id rfl) (.cons (.id rfl) (.cons (.id rfl) (.nil))))) rfl) (.cons (.c (.id rfl)) (.nil))))⟩
  conv=>whnf
  refine lq_ ?_;conv=>whnf
  refine FootQ.mk ⟨rfl,?_⟩;conv=>whnf
  refine lq_ ?_;conv=>whnf
  refine lq_ ?_;conv=>whnf
  refine FootQ.mk ⟨rfl,?_⟩;conv=>whnf
  refine finR_c (enc:=(fun r:BookState × PresPres × Int=>.tup [BookState.v r.1,PresPres.v r.2.1,V.i r.2.2])) H ?_;conv=>whnf
  exact ⟨_,.tup (.cons (fzagg (.cons (.id rfl) (.cons (fzown (f:=BookRow.v) (l:=l15) rfl rfl (fun _=>rfl) (fun _=>rfl)) (.nil))) rfl) (.cons (fzagg (.cons (.id rfl) (.cons (.id rfl) (.cons (.id rfl) (.cons (.id rfl) (.nil))))) rfl) (.cons (.c (.id rfl)) (.nil))))⟩
 conv=>whnf
 iterate 2 (refine Tst.T ?_;conv=>whnf)
 refine LenQ.M ?_;conv=>whnf
 iterate 2 (refine Tst.T ?_;conv=>whnf)
 refine tst_c H (fun b16 H=>?_) (fun b16 H=>?_)
 ·conv=>whnf
  iterate 7 (refine Tst.T ?_;conv=>whnf)
  refine lq_ ?_;conv=>whnf
  refine lq_ ?_;conv=>whnf
  refine FootQ.mk ⟨rfl,?_⟩;conv=>whnf
  refine finR_c (enc:=(fun r:BookState × PresPres × Int=>.tup [BookState.v r.1,PresPres.v r.2.1,V.i r.2.2])) H ?_;conv=>whnf
  exact ⟨_,.tup (.cons (fzagg (.cons (.id rfl) (.cons (.slw) (.nil))) rfl) (.cons (fzagg (.cons (.id rfl) (.cons (.id rfl) (.cons (.id rfl) (.cons (.id rfl) (.nil))))) rfl) (.cons (.c (.id rfl)) (.nil))))⟩
 conv=>whnf
 iterate 2 (refine Tst.F ?_;conv=>whnf)
 refine ask_c (p_book_State_many_v _ _) H rfl rfl (fun v17 H=>?_);conv=>whnf
 refine Tst.F ?_;conv=>whnf
 refine Tst.T ?_;conv=>whnf
 refine Tst.F ?_;conv=>whnf
 refine Tst.T ?_;conv=>whnf
 refine tst_c H (fun b18 H=>?_) (fun b18 H=>?_)
 ·conv=>whnf
  refine lq_ ?_;conv=>whnf
  refine lq_ ?_;conv=>whnf
  refine FootQ.mk ⟨rfl,?_⟩;conv=>whnf
  refine finR_c (enc:=(fun r:BookState × PresPres × Int=>.tup [BookState.v r.1,PresPres.v r.2.1,V.i r.2.2])) H ?_;conv=>whnf
  exact ⟨_,.tup (.cons (fzagg (.cons (.id rfl) (.cons (.slw) (.nil))) rfl) (.cons (fzagg (.cons (.id rfl) (.cons (.id rfl) (.cons (.id rfl) (.cons (.id rfl) (.nil))))) rfl) (.cons (.c (.id rfl)) (.nil))))⟩
 conv=>whnf
 refine tst_c H (fun b19 H=>?_) (fun b19 H=>?_)
 ·conv=>whnf
  refine lq_ ?_;conv=>whnf
  refine lq_ ?_;conv=>whnf
  refine FootQ.mk ⟨rfl,?_⟩;conv=>whnf
  refine finR_c (enc:=(fun r:BookState × PresPres × Int=>.tup [BookState.v r.1,PresPres.v r.2.1,V.i r.2.2])) H ?_;conv=>whnf
  exact ⟨_,.tup (.cons (fzagg (.cons (.id rfl) (.cons (.slw) (.nil))) rfl) (.cons (fzagg (.cons (.id rfl) (.cons (.id rfl) (.cons (.id rfl) (.cons (.id rfl) (.nil))))) rfl) (.cons (.c (.id rfl)) (.nil))))⟩
 conv=>whnf
 refine Ari.w ?_;conv=>whnf
 refine lq_ ?_;conv=>whnf
 refine lq_ ?_;conv=>whnf
 refine slsE_c (f:=BookRow.v) H (fun _=>rfl) (fun x20 H=>?_);conv=>whnf
 refine Tst.isF b9 ?_;conv=>whnf
 refine slsC_c (f:=BookRow.v) H (fun _=>rfl) (fun x21 H=>?_);conv=>whnf
 refine appN_c (f:=BookRow.v) H (fun _=>rfl) (srcM (f:=BookRow.v) (fun _=>rfl) _ _) rfl (.v (srcOwn (f:=BookRow.v) (l:=[(BookRow.mk a1 a2 (PresPres.mk true a3 a4 (w64 (a0.Seq + (1:Int)))))]) (fun _=>rfl) rfl rfl rfl)) (by decide) rfl (by simp) (fun l22 H=>?_);conv=>whnf
 refine appP_c (f:=BookRow.v) H (fun _=>rfl) rfl rfl (.v (srcM (f:=BookRow.v) (fun _=>rfl) _ _)) (by decide) rfl (fun l23 H=>?_) (fun l23 H=>?_)
 ·conv=>whnf
  refine lq_ ?_;conv=>whnf
  refine FootQ.mk ⟨rfl,?_⟩;conv=>whnf
  refine lq_ ?_;conv=>whnf
  refine lq_ ?_;conv=>whnf
  refine FootQ.mk ⟨rfl,?_⟩;conv=>whnf
  refine finR_c (enc:=(fun r:BookState × PresPres × Int=>.tup [BookState.v r.1,PresPres.v r.2.1,V.i r.2.2])) H ?_;conv=>whnf
  exact ⟨_,.tup (.cons (fzagg (.cons (.id rfl) (.cons (fzown (f:=BookRow.v) (l:=l23) rfl rfl (fun _=>rfl) (fun _=>rfl)) (.nil))) rfl) (.cons (fzagg (.cons (.id rfl) (.cons (.id rfl) (.cons (.id rfl) (.cons (.id rfl) (.nil))))) rfl) (.cons (.c (.id rfl)) (.nil))))⟩
 conv=>whnf
 refine lq_ ?_;conv=>whnf
 refine FootQ.mk ⟨rfl,?_⟩;conv=>whnf
 refine lq_ ?_;conv=>whnf
 refine lq_ ?_;conv=>whnf
 refine FootQ.mk ⟨rfl,?_⟩;conv=>whnf
 refine finR_c (enc:=(fun r:BookState × PresPres × Int=>.tup [BookState.v r.1,PresPres.v r.2.1,V.i r.2.2])) H ?_;conv=>whnf
 exact ⟨_,.tup (.cons (fzagg (.cons (.id rfl) (.cons (fzown (f:=BookRow.v) (l:=l23) rfl rfl (fun _=>rfl) (fun _=>rfl)) (.nil))) rfl) (.cons (fzagg (.cons (.id rfl) (.cons (.id rfl) (.cons (.id rfl) (.cons (.id rfl) (.nil))))) rfl) (.cons (.c (.id rfl)) (.nil))))⟩
def gc24:BCode:=(.seq (R_ 3 [O_ 3 (.bx (t_ 0)) 0,O_ 6 (.al (.agg [(.lit (.int .i64 0)),(.sl [] true)])) 1,O_ 7 (.al (.agg [(.lit (.bool false)),(.lit (.int .i64 0)),(.lit (.int .i64 0)),(.lit (.int .i64 0))])) 2,O_ 8 (.mv (i_ 0)) 3]) (.seq (.seq (R_ 0 [O_ 13 (.ld 2 true (t_ 3)) 0,O_ 14 (.cl 48 [(t_ 13)]) 0,O_ 9 (.mv (t_ 14)) 0]) (.seq (R_ 0 [O_ 15 (.mv (t_ 9)) 0,O_ 16 (.bin .neq (t_ 15) (i_ 0)) 0]) (.cond (t_ 16) (.seq (R_ 0 [O_ 17 (.ld 2 true (t_ 3)) 0,O_ 18 (.bd [(.lit (.bool false)),(.lit (.int .i64 0)),(.lit (.int .i64 0)),(.lit (.int .i64 0))] []) 0,O_ 19 (.mv (t_ 9)) 0,U_ (.st 2 (t_ 6) (t_ 17)) 0,U_ (.st 4 (t_ 7) (t_ 18)) 0,O_ 8 (.mv (t_ 19)) 0]) .ret) .skip))) (.seq (R_ 0 [O_ 20 (.mv (t_ 1)) 0,O_ 21 (.mv (t_ 2)) 0,O_ 22 (.cl 26 [(t_ 20),(t_ 21)]) 0,O_ 10 (.mv (t_ 22)) 0]) (.seq (R_ 0 [O_ 24 (.ld 2 true (t_ 3)) 0,O_ 25 (.mv (t_ 10)) 0,O_ 26 (.cl 49 [(t_ 24),(t_ 25)]) 0,O_ 23 (.mv (t_ 26)) 0,O_ 27 (.ex (t_ 23) 0) 0,O_ 28 (.ex (t_ 23) 1) 0,O_ 11 (.mv (t_ 27)) 0,O_ 12 (.mv (t_ 28)) 0]) (.seq (.seq (R_ 0 [O_ 29 (.mv (t_ 12)) 0,O_ 30 (.un .not (t_ 29)) 0,O_ 31 (.mv (t_ 30)) 0,⟨(some 32),.mv (t_ 10),(some (31,false)),0⟩,⟨(some 33),.bin .eql (t_ 32) (.const (.string ⟨#[]⟩)),(some (31,false)),0⟩,O_ 34 (.pick (t_ 31) (b_ true) (t_ 33)) 0]) (.cond (t_ 34) (.seq (R_ 0 [O_ 35 (.ld 2 true (t_ 3)) 0,O_ 36 (.bd [(.lit (.bool false)),(.lit (.int .i64 0)),(.lit (.int .i64 0)),(.lit (.int .i64 0))] []) 0,U_ (.st 2 (t_ 6) (t_ 35)) 0,U_ (.st 4 (t_ 7) (t_ 36)) 0,O_ 8 (.mv (i_ 6)) 0]) .ret) .skip)) (.seq (.seq (R_ 0 [O_ 37 (.fa 0 (t_ 3)) 0,O_ 38 (.ld 1 false (t_ 37)) 0,O_ 39 (.bin .geq (t_ 38) (i_ 1099511627776)) 0]) (.cond (t_ 39) (.seq (R_ 0 [O_ 40 (.ld 2 true (t_ 3)) 0,O_ 41 (.bd [(.lit (.bool false)),(.lit (.int .i64 0)),(.lit (.int .i64 0)),(.lit (.int .i64 0))] []) 0,U_ (.st 2 (t_ 6) (t_ 40)) 0,U_ (.st 4 (t_ 7) (t_ 41)) 0,O_ 8 (.mv (i_ 9)) 0]) .ret) .skip)) (.seq (R_ 0 [O_ 42 (.fa 0 (t_ 3)) 0,O_ 43 (.ld 1 false (t_ 42)) 0,O_ 44 (.bin .add (t_ 43) (i_ 1)) 0,O_ 45 (.fa 0 (t_ 3)) 0,U_ (.st 1 (t_ 45) (t_ 44)) 0]) (.seq (.reg 1 [O_ 46 (.fa 1 (t_ 3)) 0,O_ 47 (.ld 1 false (t_ 46)) 0,O_ 48 (.mv (t_ 11)) 0,O_ 49 (.mv (t_ 11)) 0,O_ 50 (.sls 6 (t_ 47) none (some (t_ 48)) (some (t_ 49))) 0,O_ 51 (.fa 1 (t_ 3)) 0,O_ 52 (.ld 1 false (t_ 51)) 0,O_ 53 (.mv (t_ 11)) 0,O_ 54 (.bin .add (t_ 53) (i_ 1)) 0,O_ 55 (.sls 6 (t_ 52) (some (t_ 54)) none none) 0,O_ 56 (.ap 6 64 (t_ 50) (t_ 55)) 0,O_ 57 (.fa 1 (t_ 3)) 1,U_ (.st 1 (t_ 57) (t_ 56)) 1] (some [[],[0],[],[],[3,2,0,1],[],[5],[],[7],[7,8,5,6],[6,5,8,7,9,1,0,2,3,4],[10,9,8,7,6,5,4,3,2,1,0],[0,1,2,3,4,5,6,7,8,9,10,11]]) 0 []) (.seq (.reg 0 [O_ 58 (.ld 2 true (t_ 3)) 0,O_ 59 (.fa 0 (t_ 3)) 0,O_ 60 (.ld 1 false (t_ 59)) 0,O_ 61 (.bd [(.lit (.bool false)),(.lit (.int .i64 0)),(.lit (.int .i64 0)),(.lit (.int .i64 0))] [(3,1,(t_ 60))]) 0,U_ (.st 2 (t_ 6) (t_ 58)) 0,U_ (.st 4 (t_ 7) (t_ 61)) 0,O_ 8 (.mv (i_ 0)) 0] (some [[],[],[1],[1,2],[0],[0,4,2,1,3],[3,1,2,4,0,5]]) 0 []) .ret)))))))))
theorem gc24_ok:compF Tryz.prog Tryz.f24=some (gc24.er,62,[.cell 6 2 true,.cell 7 4 true,.tmp 8]):=by unfold gc24;kernel_rfl
theorem p_book_Off_v {u1:Bool} (a0:BookState) (a1:ByteArray) (a2:ByteArray):CallsO Tryz.prog 24 [.agg [.i a0.Seq,.sl (List.map BookRow.v a0.Rows) u1],.s a1,.s a2] (fun r:BookState × PresPres × Int=>.tup [BookState.v r.1,PresPres.v r.2.1,V.i r.2.2]) (p_book_Off a0 a1 a2):=by
 refine callsO_comp mix Tryz.func24 gc24_ok fun r H=>?_
 rw [p_book_Off] at H
 conv=>whnf
 refine ask_c (p_book_Check_v _) H rfl rfl (fun v1 H=>?_);conv=>whnf
 refine tst_c H (fun b2 H=>?_) (fun b2 H=>?_)
 ·conv=>whnf
  refine lq_ ?_;conv=>whnf
  refine lq_ ?_;conv=>whnf
  refine finR_c (enc:=(fun r:BookState × PresPres × Int=>.tup [BookState.v r.1,PresPres.v r.2.1,V.i r.2.2])) H ?_;conv=>whnf
  exact ⟨_,.tup (.cons (fzagg (.cons (.id rfl) (.cons (.slw) (.nil))) rfl) (.cons (fzagg (.cons (.id rfl) (.cons (.id rfl) (.cons (.id rfl) (.cons (.id rfl) (.nil))))) rfl) (.cons (.c (.id rfl)) (.nil))))⟩
 conv=>whnf
 refine ask_c (p_pres_Key_v _ _) H rfl rfl (fun v3 H=>?_);conv=>whnf
 refine ask_c (p_book_State_find_v _ _) H rfl rfl (fun v4 H=>?_);conv=>whnf
 refine Tst.not ?_
 refine tst_d H (fun b5 H=>?_) (fun b5 H=>?_)
 ·conv=>whnf
  iterate 3 (refine Tst.T ?_;conv=>whnf)
  refine lq_ ?_;conv=>whnf
  refine lq_ ?_;conv=>whnf
  refine finR_c (enc:=(fun r:BookState × PresPres × Int=>.tup [BookState.v r.1,PresPres.v r.2.1,V.i r.2.2])) H ?_;conv=>whnf
  exact ⟨_,.tup (.cons (fzagg (.cons (.id rfl) (.cons (.slw) (.nil))) rfl) (.cons (fzagg (.cons (.id rfl) (.cons (.id rfl) (.cons (.id rfl) (.cons (.id rfl) (.nil))))) rfl) (.cons (.c (.id rfl)) (.nil))))⟩
 conv=>whnf
 iterate 2 (refine Tst.F ?_;conv=>whnf)
 refine tst_c H (fun b6 H=>?_) (fun b6 H=>?_)
 ·conv=>whnf
  refine lq_ ?_;conv=>whnf
  refine lq_ ?_;conv=>whnf
  refine finR_c (enc:=(fun r:BookState × PresPres × Int=>.tup [BookState.v r.1,PresPres.v r.2.1,V.i r.2.2])) H ?_;conv=>whnf
  exact ⟨_,.tup (.cons (fzagg (.cons (.id rfl) (.cons (.slw) (.nil))) rfl) (.cons (fzagg (.cons (.id rfl) (.cons (.id rfl) (.cons (.id rfl) (.cons (.id rfl) (.nil))))) rfl) (.cons (.c (.id rfl)) (.nil))))⟩
 conv=>whnf
 refine tst_c H (fun b7 H=>?_) (fun b7 H=>?_)
 ·conv=>whnf
  refine lq_ ?_;conv=>whnf
  refine lq_ ?_;conv=>whnf
  refine finR_c (enc:=(fun r:BookState × PresPres × Int=>.tup [BookState.v r.1,PresPres.v r.2.1,V.i r.2.2])) H ?_;conv=>whnf
  exact ⟨_,.tup (.cons (fzagg (.cons (.id rfl) (.cons (.slw) (.nil))) rfl) (.cons (fzagg (.cons (.id rfl) (.cons (.id rfl) (.cons (.id rfl) (.cons (.id rfl) (.nil))))) rfl) (.cons (.c (.id rfl)) (.nil))))⟩
 conv=>whnf
 refine Ari.w ?_;conv=>whnf
 refine lq_ ?_;conv=>whnf
 refine slsC_c (f:=BookRow.v) H (fun _=>rfl) (fun x8 H=>?_);conv=>whnf
 refine Ari.w ?_;conv=>whnf
 refine slsE_c (f:=BookRow.v) H (fun _=>rfl) (fun x9 H=>?_);conv=>whnf
 refine appX_c (f:=BookRow.v) H (fun _=>rfl) rfl (.v (srcM (f:=BookRow.v) (fun _=>rfl) _ _)) (by decide) rfl (fun l10 H=>?_) (fun l10 H=>?_)
 ·conv=>whnf
  refine lq_ ?_;conv=>whnf
  refine FootQ.mk ⟨rfl,?_⟩;conv=>whnf
  refine lq_ ?_;conv=>whnf
  refine lq_ ?_;conv=>whnf
  refine FootQ.mk ⟨rfl,?_⟩;conv=>whnf
  refine finR_c (enc:=(fun r:BookState × PresPres × Int=>.tup [BookState.v r.1,PresPres.v r.2.1,V.i r.2.2])) H ?_;conv=>whnf
  exact ⟨_,.tup (.cons (fzagg (.cons (.id rfl) (.cons (.slw) (.nil))) rfl) (.cons (fzagg (.cons (.id rfl) (.cons (.id rfl) (.cons (.id rfl) (.cons (.id rfl) (.nil))))) rfl) (.cons (.c (.id rfl)) (.nil))))⟩
 conv=>whnf
 refine lq_ ?_;conv=>whnf
 refine FootQ.mk ⟨rfl,?_⟩;conv=>whnf
 refine lq_ ?_;conv=>whnf
 refine lq_ ?_;conv=>whnf
 refine FootQ.mk ⟨rfl,?_⟩;conv=>whnf
 refine finR_c (enc:=(fun r:BookState × PresPres × Int=>.tup [BookState.v r.1,PresPres.v r.2.1,V.i r.2.2])) H ?_;conv=>whnf
 exact ⟨_,.tup (.cons (fzagg (.cons (.id rfl) (.cons (fzown (f:=BookRow.v) (l:=l10) rfl rfl (fun _=>rfl) (fun _=>rfl)) (.nil))) rfl) (.cons (fzagg (.cons (.id rfl) (.cons (.id rfl) (.cons (.id rfl) (.cons (.id rfl) (.nil))))) rfl) (.cons (.c (.id rfl)) (.nil))))⟩
end Go.Proofs.YthnihifblmnkdaaGreat

namespace Go.Proofs.YthnihifblmnkdaaGreat
open Go.RowKit
set_option maxRecDepth 100000
set_option maxHeartbeats 4000000
def gc30:BCode:=(.seq (R_ 2 [O_ 3 (.bx (t_ 0)) 0,O_ 6 (.al (.agg [(.lit (.bool false)),(.lit (.int .i64 0)),(.lit (.int .i64 0)),(.lit (.int .i64 0))])) 1,O_ 7 (.mv (b_ false)) 2]) (.seq (R_ 0 [O_ 11 (.mv (t_ 1)) 0,O_ 12 (.mv (t_ 2)) 0,O_ 13 (.cl 26 [(t_ 11),(t_ 12)]) 0,O_ 8 (.mv (t_ 13)) 0]) (.seq (.seq (R_ 0 [O_ 14 (.mv (t_ 8)) 0,O_ 15 (.bin .eql (t_ 14) (.const (.string ⟨#[]⟩))) 0,O_ 16 (.mv (t_ 15)) 0,⟨(some 17),.ld 2 true (t_ 3),(some (16,false)),0⟩,⟨(some 18),.cl 48 [(t_ 17)],(some (16,false)),0⟩,⟨(some 19),.bin .neq (t_ 18) (i_ 0),(some (16,false)),0⟩,O_ 20 (.pick (t_ 16) (b_ true) (t_ 19)) 0]) (.cond (t_ 20) (.seq (R_ 0 [O_ 21 (.bd [(.lit (.bool false)),(.lit (.int .i64 0)),(.lit (.int .i64 0)),(.lit (.int .i64 0))] []) 0,U_ (.st 4 (t_ 6) (t_ 21)) 0,O_ 7 (.mv (b_ false)) 0]) .ret) .skip)) (.seq (R_ 0 [O_ 23 (.ld 2 true (t_ 3)) 0,O_ 24 (.mv (t_ 8)) 0,O_ 25 (.cl 49 [(t_ 23),(t_ 24)]) 0,O_ 22 (.mv (t_ 25)) 0,O_ 26 (.ex (t_ 22) 0) 0,O_ 27 (.ex (t_ 22) 1) 0,O_ 9 (.mv (t_ 26)) 0,O_ 10 (.mv (t_ 27)) 0]) (.seq (.seq (R_ 0 [O_ 28 (.mv (t_ 10)) 0,O_ 29 (.un .not (t_ 28)) 0]) (.cond (t_ 29) (.seq (R_ 0 [O_ 30 (.bd [(.lit (.bool false)),(.lit (.int .i64 0)),(.lit (.int .i64 0)),(.lit (.int .i64 0))] []) 0,U_ (.st 4 (t_ 6) (t_ 30)) 0,O_ 7 (.mv (b_ false)) 0]) .ret) .skip)) (.seq (R_ 0 [O_ 31 (.fa 1 (t_ 3)) 0,O_ 32 (.ld 1 false (t_ 31)) 0,O_ 33 (.mv (t_ 9)) 0,O_ 34 (.ixs 6 (t_ 32) (t_ 33)) 0,O_ 35 (.fa 2 (t_ 34)) 0,O_ 36 (.ld 4 true (t_ 35)) 0,U_ (.st 4 (t_ 6) (t_ 36)) 0,O_ 7 (.mv (b_ true)) 0]) .ret))))))
theorem gc30_ok:compF Tryz.prog Tryz.f30=some (gc30.er,37,[.cell 6 4 true,.tmp 7]):=by unfold gc30;kernel_rfl
theorem p_book_Get_v {u1:Bool} (a0:BookState) (a1:ByteArray) (a2:ByteArray):CallsO Tryz.prog 30 [.agg [.i a0.Seq,.sl (List.map BookRow.v a0.Rows) u1],.s a1,.s a2] (fun r:PresPres × Bool=>.tup [PresPres.v r.1,V.b r.2]) (p_book_Get a0 a1 a2):=by
 refine callsO_comp mix Tryz.func30 gc30_ok fun r H=>?_
 rw [p_book_Get] at H
 conv=>whnf
 refine ask_c (p_pres_Key_v _ _) H rfl rfl (fun v1 H=>?_);conv=>whnf
 refine tst_c H (fun b2 H=>?_) (fun b2 H=>?_)
 ·conv=>whnf
  iterate 4 (refine Tst.T ?_;conv=>whnf)
  refine lq_ ?_;conv=>whnf
  exact fin0_c (enc:=(fun r:PresPres × Bool=>.tup [PresPres.v r.1,V.b r.2])) H (.inr rfl) (.cons (.cell rfl rfl (Nat.le_of_ble_eq_true rfl)) (.cons (.tmp rfl) (.nil))) rfl rfl
 conv=>whnf
 refine Tst.F ?_;conv=>whnf
 refine ask_c (p_book_Check_v _) H rfl rfl (fun v3 H=>?_);conv=>whnf
 iterate 2 (refine Tst.F ?_;conv=>whnf)
 refine tst_c H (fun b4 H=>?_) (fun b4 H=>?_)
 ·conv=>whnf
  refine lq_ ?_;conv=>whnf
  exact fin0_c (enc:=(fun r:PresPres × Bool=>.tup [PresPres.v r.1,V.b r.2])) H (.inr rfl) (.cons (.cell rfl rfl (Nat.le_of_ble_eq_true rfl)) (.cons (.tmp rfl) (.nil))) rfl rfl
 conv=>whnf
 refine ask_c (p_book_State_find_v _ _) H rfl rfl (fun v5 H=>?_);conv=>whnf
 refine Tst.not ?_
 refine tst_d H (fun b6 H=>?_) (fun b6 H=>?_)
 ·conv=>whnf
  refine lq_ ?_;conv=>whnf
  exact fin0_c (enc:=(fun r:PresPres × Bool=>.tup [PresPres.v r.1,V.b r.2])) H (.inr rfl) (.cons (.cell rfl rfl (Nat.le_of_ble_eq_true rfl)) (.cons (.tmp rfl) (.nil))) rfl rfl
 conv=>whnf
 refine ixs_c (f:=BookRow.v) H (fun _=>rfl) (fun x7 H=>?_);conv=>whnf
 refine lq_ ?_;conv=>whnf
 refine lq_ ?_;conv=>whnf
 exact fin0_c (enc:=(fun r:PresPres × Bool=>.tup [PresPres.v r.1,V.b r.2])) H (.inr rfl) (.cons (.cell rfl rfl (Nat.le_of_ble_eq_true rfl)) (.cons (.tmp rfl) (.nil))) rfl rfl
def gc121:BCode:=(.seq (R_ 2 [O_ 2 (.bx (t_ 0)) 0,O_ 4 (.al (.agg [(.lit (.string ⟨#[]⟩)),(.lit (.string ⟨#[]⟩)),(.lit (.bool false)),(.lit (.int .i64 0)),(.lit (.int .i64 0)),(.lit (.int .i64 0))])) 1,O_ 5 (.mv (b_ false)) 2]) (.seq (.seq (R_ 0 [O_ 8 (.ld 2 true (t_ 2)) 0,O_ 9 (.cl 48 [(t_ 8)]) 0,O_ 10 (.bin .neq (t_ 9) (i_ 0)) 0]) (.cond (t_ 10) (.seq (R_ 0 [O_ 11 (.bd [(.lit (.string ⟨#[]⟩)),(.lit (.string ⟨#[]⟩)),(.lit (.bool false)),(.lit (.int .i64 0)),(.lit (.int .i64 0)),(.lit (.int .i64 0))] []) 0,U_ (.st 6 (t_ 4) (t_ 11)) 0,O_ 5 (.mv (b_ false)) 0]) .ret) .skip)) (.seq (R_ 0 [O_ 13 (.ld 2 true (t_ 2)) 0,O_ 14 (.mv (t_ 1)) 0,O_ 15 (.cl 49 [(t_ 13),(t_ 14)]) 0,O_ 12 (.mv (t_ 15)) 0,O_ 16 (.ex (t_ 12) 0) 0,O_ 17 (.ex (t_ 12) 1) 0,O_ 6 (.mv (t_ 16)) 0,O_ 7 (.mv (t_ 17)) 0]) (.seq (.seq (R_ 0 [O_ 18 (.mv (t_ 7)) 0]) (.cond (t_ 18) (R_ 0 [O_ 19 (.mv (t_ 6)) 0,O_ 20 (.bin .add (t_ 19) (i_ 1)) 0,O_ 6 (.mv (t_ 20)) 0]) .skip)) (.seq (.seq (R_ 0 [O_ 21 (.mv (t_ 6)) 0,O_ 22 (.fa 1 (t_ 2)) 0,O_ 23 (.ld 1 false (t_ 22)) 0,O_ 24 (.lens (t_ 23)) 0,O_ 25 (.bin .eql (t_ 21) (t_ 24)) 0]) (.cond (t_ 25) (.seq (R_ 0 [O_ 26 (.bd [(.lit (.string ⟨#[]⟩)),(.lit (.string ⟨#[]⟩)),(.lit (.bool false)),(.lit (.int .i64 0)),(.lit (.int .i64 0)),(.lit (.int .i64 0))] []) 0,U_ (.st 6 (t_ 4) (t_ 26)) 0,O_ 5 (.mv (b_ false)) 0]) .ret) .skip)) (.seq (R_ 0 [O_ 27 (.fa 1 (t_ 2)) 0,O_ 28 (.ld 1 false (t_ 27)) 0,O_ 29 (.mv (t_ 6)) 0,O_ 30 (.ixs 6 (t_ 28) (t_ 29)) 0,O_ 31 (.ld 6 true (t_ 30)) 0,U_ (.st 6 (t_ 4) (t_ 31)) 0,O_ 5 (.mv (b_ true)) 0]) .ret))))))
theorem gc121_ok:compF Tryz.prog Tryz.f121=some (gc121.er,32,[.cell 4 6 true,.tmp 5]):=by unfold gc121;kernel_rfl
theorem p_book_Next_v {u1:Bool} (a0:BookState) (a1:ByteArray):CallsO Tryz.prog 121 [.agg [.i a0.Seq,.sl (List.map BookRow.v a0.Rows) u1],.s a1] (fun r:BookRow × Bool=>.tup [BookRow.v r.1,V.b r.2]) (p_book_Next a0 a1):=by
 refine callsO_comp mix Tryz.func121 gc121_ok fun r H=>?_
 rw [p_book_Next] at H
 conv=>whnf
 refine ask_c (p_book_Check_v _) H rfl rfl (fun v1 H=>?_);conv=>whnf
 refine tst_c H (fun b2 H=>?_) (fun b2 H=>?_)
 ·conv=>whnf
  refine lq_ ?_;conv=>whnf
  exact fin0_c (enc:=(fun r:BookRow × Bool=>.tup [BookRow.v r.1,V.b r.2])) H (.inr rfl) (.cons (.cell rfl rfl (Nat.le_of_ble_eq_true rfl)) (.cons (.tmp rfl) (.nil))) rfl rfl
 conv=>whnf
 refine ask_c (p_book_State_find_v _ _) H rfl rfl (fun v3 H=>?_);conv=>whnf
 refine tst_d H (fun b4 H=>?_) (fun b4 H=>?_)
 ·conv=>whnf
  refine LenQ.M ?_;conv=>whnf
  refine tst_c H (fun b7 H=>?_) (fun b7 H=>?_)
  ·conv=>whnf
   refine lq_ ?_;conv=>whnf
   exact fin0_c (enc:=(fun r:BookRow × Bool=>.tup [BookRow.v r.1,V.b r.2])) H (.inr rfl) (.cons (.cell rfl rfl (Nat.le_of_ble_eq_true rfl)) (.cons (.tmp rfl) (.nil))) rfl rfl
  conv=>whnf
  refine ixs_c (f:=BookRow.v) H (fun _=>rfl) (fun x8 H=>?_);conv=>whnf
  refine lq_ ?_;conv=>whnf
  exact fin0_c (enc:=(fun r:BookRow × Bool=>.tup [BookRow.v r.1,V.b r.2])) H (.inr rfl) (.cons (.cell rfl rfl (Nat.le_of_ble_eq_true rfl)) (.cons (.tmp rfl) (.nil))) rfl rfl
 conv=>whnf
 refine Ari.w ?_;conv=>whnf
 refine LenQ.M ?_;conv=>whnf
 refine tst_c H (fun b5 H=>?_) (fun b5 H=>?_)
 ·conv=>whnf
  refine lq_ ?_;conv=>whnf
  exact fin0_c (enc:=(fun r:BookRow × Bool=>.tup [BookRow.v r.1,V.b r.2])) H (.inr rfl) (.cons (.cell rfl rfl (Nat.le_of_ble_eq_true rfl)) (.cons (.tmp rfl) (.nil))) rfl rfl
 conv=>whnf
 refine ixs_c (f:=BookRow.v) H (fun _=>rfl) (fun x6 H=>?_);conv=>whnf
 refine lq_ ?_;conv=>whnf
 exact fin0_c (enc:=(fun r:BookRow × Bool=>.tup [BookRow.v r.1,V.b r.2])) H (.inr rfl) (.cons (.cell rfl rfl (Nat.le_of_ble_eq_true rfl)) (.cons (.tmp rfl) (.nil))) rfl rfl
def gc91:BCode:=(.seq (R_ 2 [O_ 5 (.bx (t_ 2)) 0,O_ 6 (.al (.agg [(.lit (.int .u8 0)),(.lit (.string ⟨#[]⟩)),(.lit (.string ⟨#[]⟩)),(.lit (.string ⟨#[]⟩)),(.lit (.int .i64 0)),(.lit (.int .i64 0)),(.lit (.int .i64 0)),(.lit (.int .i64 0))])) 1]) (.seq (.seq (R_ 0 [O_ 8 (.ld 4 true (t_ 5)) 0,O_ 9 (.cl 51 [(t_ 8)]) 0,O_ 10 (.bin .neq (t_ 9) (i_ 0)) 0,O_ 11 (.mv (t_ 10)) 0,⟨(some 12),.mv (t_ 0),(some (11,false)),0⟩,⟨(some 13),.mv (t_ 1),(some (11,false)),0⟩,⟨(some 14),.cl 53 [(t_ 12),(t_ 13)],(some (11,false)),0⟩,⟨(some 15),.un .not (t_ 14),(some (11,false)),0⟩,O_ 16 (.pick (t_ 11) (b_ true) (t_ 15)) 0]) (.cond (t_ 16) (.seq (R_ 0 [O_ 17 (.bd [(.lit (.int .u8 0)),(.lit (.string ⟨#[]⟩)),(.lit (.string ⟨#[]⟩)),(.lit (.string ⟨#[]⟩)),(.lit (.int .i64 0)),(.lit (.int .i64 0)),(.lit (.int .i64 0)),(.lit (.int .i64 0))] []) 0,U_ (.st 8 (t_ 6) (t_ 17)) 0]) .ret) .skip)) (.seq (R_ 1 [O_ 18 (.mv (t_ 0)) 0,O_ 19 (.mv (t_ 1)) 0,O_ 20 (.fa 3 (t_ 5)) 0,O_ 21 (.ld 1 false (t_ 20)) 0,O_ 22 (.bd [(.lit (.int .u8 0)),(.lit (.string ⟨#[]⟩)),(.lit (.string ⟨#[]⟩)),(.lit (.string ⟨#[]⟩)),(.lit (.int .i64 0)),(.lit (.int .i64 0)),(.lit (.int .i64 0)),(.lit (.int .i64 0))] [(0,1,(.const (.int .u8 35))),(1,1,(t_ 18)),(2,1,(t_ 19)),(7,1,(t_ 21))]) 0,O_ 7 (.al (.agg [(.lit (.int .u8 0)),(.lit (.string ⟨#[]⟩)),(.lit (.string ⟨#[]⟩)),(.lit (.string ⟨#[]⟩)),(.lit (.int .i64 0)),(.lit (.int .i64 0)),(.lit (.int .i64 0)),(.lit (.int .i64 0))])) 0,U_ (.st 8 (t_ 7) (t_ 22)) 1]) (.seq (.seq (R_ 0 [O_ 23 (.fa 0 (t_ 5)) 0,O_ 24 (.ld 1 false (t_ 23)) 0]) (.cond (t_ 24) (.reg 0 [O_ 25 (.fa 1 (t_ 5)) 0,O_ 26 (.ld 1 false (t_ 25)) 0,O_ 27 (.fa 2 (t_ 5)) 0,O_ 28 (.ld 1 false (t_ 27)) 0,O_ 29 (.fa 0 (t_ 7)) 0,U_ (.st 1 (t_ 29) (.const (.int .u8 34))) 0,O_ 30 (.fa 4 (t_ 7)) 0,U_ (.st 1 (t_ 30) (t_ 26)) 0,O_ 31 (.fa 5 (t_ 7)) 0,U_ (.st 1 (t_ 31) (t_ 28)) 0] (some [[],[0],[],[2],[],[4],[5,4,1,0],[0,1,4,5,6],[7,6,5,4,3,2,1,0],[0,1,2,3,4,5,6,7,8]]) 0 []) .skip)) (.seq (R_ 0 [O_ 32 (.ld 8 true (t_ 7)) 0,U_ (.st 8 (t_ 6) (t_ 32)) 0]) .ret)))))
theorem gc91_ok:compF Tryz.prog Tryz.f91=some (gc91.er,33,[.cell 6 8 true]):=by unfold gc91;kernel_rfl
theorem p_pres_Say_v (a0:ByteArray) (a1:ByteArray) (a2:PresPres):CallsO Tryz.prog 91 [.s a0,.s a1,.agg [.b a2.On,.i a2.Show,.i a2.Prio,.i a2.Seq]] StanzaStanza.v (p_pres_Say a0 a1 a2):=by
 refine callsO_comp mix Tryz.func91 gc91_ok fun r H=>?_
 rw [p_pres_Say] at H
 conv=>whnf
 refine ask_c (p_pres_Check_v _) H rfl rfl (fun v1 H=>?_);conv=>whnf
 refine tst_c H (fun b2 H=>?_) (fun b2 H=>?_)
 ·conv=>whnf
  iterate 5 (refine Tst.T ?_;conv=>whnf)
  refine lq_ ?_;conv=>whnf
  exact fin0_c (enc:=StanzaStanza.v) H (.inr rfl) (.cons (.cell rfl rfl (Nat.le_of_ble_eq_true rfl)) (.nil)) rfl rfl
 conv=>whnf
 iterate 2 (refine Tst.F ?_;conv=>whnf)
 refine ask_c (p_pres_named_v _ _) H rfl rfl (fun v3 H=>?_);conv=>whnf
 iterate 2 (refine Tst.F ?_;conv=>whnf)
 refine Tst.not ?_
 refine tst_d H (fun b4 H=>?_) (fun b4 H=>?_)
 ·conv=>whnf
  refine lq_ ?_;conv=>whnf
  exact fin0_c (enc:=StanzaStanza.v) H (.inr rfl) (.cons (.cell rfl rfl (Nat.le_of_ble_eq_true rfl)) (.nil)) rfl rfl
 conv=>whnf
 refine lq_ ?_;conv=>whnf
 refine tst_d H (fun b5 H=>?_) (fun b5 H=>?_)
 ·conv=>whnf
  refine lq_ ?_;conv=>whnf
  exact fin0_c (enc:=StanzaStanza.v) H (.inr rfl) (.cons (.cell rfl rfl (Nat.le_of_ble_eq_true rfl)) (.nil)) rfl rfl
 conv=>whnf
 refine lq_ ?_;conv=>whnf
 refine lq_ ?_;conv=>whnf
 refine lq_ ?_;conv=>whnf
 refine FootQ.mk ⟨rfl,?_⟩;conv=>whnf
 refine lq_ ?_;conv=>whnf
 exact fin0_c (enc:=StanzaStanza.v) H (.inr rfl) (.cons (.cell rfl rfl (Nat.le_of_ble_eq_true rfl)) (.nil)) rfl rfl
def gc92:BCode:=(.seq (R_ 0 [O_ 4 (.mv (i_ 0)) 0]) (.seq (.seq (R_ 0 [O_ 6 (.mv (t_ 0)) 0,O_ 7 (.lens (t_ 6)) 0,O_ 8 (.mv (i_ 0)) 0]) (.block 0 (.loop (.seq (R_ 0 [O_ 9 (.bin .lss (t_ 8) (t_ 7)) 0]) (.seq (.cond (t_ 9) .skip (.exit 0)) (.seq (.block 1 (.seq (R_ 0 [O_ 10 (.mv (t_ 8)) 0,O_ 5 (.mv (t_ 10)) 0]) (.seq (R_ 0 [O_ 11 (.mv (t_ 1)) 0,O_ 12 (.mv (t_ 0)) 0,O_ 13 (.mv (t_ 5)) 0,O_ 14 (.ixs 1 (t_ 12) (t_ 13)) 0,O_ 15 (.ld 1 false (t_ 14)) 0,O_ 16 (.bin .eql (t_ 11) (t_ 15)) 0]) (.cond (t_ 16) (.seq (R_ 0 [O_ 17 (.mv (t_ 5)) 0,O_ 4 (.mv (t_ 17)) 0]) .ret) .skip)))) (R_ 0 [O_ 18 (.bin .add (t_ 8) (i_ 1)) 0,O_ 8 (.mv (t_ 18)) 0]))))))) (.seq (R_ 0 [O_ 4 (.mv (.const (.int .i64 (-1)))) 0]) .ret)))
theorem gc92_ok:compF Tryz.prog Tryz.f92=some (gc92.er,19,[.tmp 4]):=by unfold gc92;kernel_rfl
theorem p_slices_Index_string_v {u1:Bool} (a0:List ByteArray) (a1:ByteArray):CallsO Tryz.prog 92 [.sl (List.map V.s a0) u1,.s a1] V.i (p_slices_Index_string a0 a1):=by
 refine callsO_comp mix Tryz.func92 gc92_ok fun r H=>?_
 rw [p_slices_Index_string] at H
 conv=>whnf
 refine LenQ.M ?_;conv=>whnf
 obtain ⟨o2,HL3,HQ4⟩:=bind_c H
 refine loop_c [4,8] [5,9,10,11,12,13,14,15,16,17,18] [5,9,10,11,12,13,14,15,16,17,18] (fun n vals st=>(∃ y6,p_slices_Index_string_l1  a0 a1 (a0.length:Int) n y6=some o2∧vals=[.i (0:Int),.i y6]∧st=[])) fuel 0 [] (⟨_,HL3,rfl,rfl⟩) (Nat.zero_le _) rfl (by kernel_rfl) (by kernel_rfl) rfl trivial ?_
 rintro (_ | n5) _ _ (⟨y6,H,rfl,rfl⟩)
 ·rw [p_slices_Index_string_l1] at H;cases H
 rw [p_slices_Index_string_l1] at H
 conv=>whnf
 refine tst_d H (fun b7 H=>?_) (fun b7 H=>?_)
 ·conv=>whnf
  obtain rfl:=Option.some.inj H
  have H:=HQ4
  try dsimp only at H
  exact fi_ H
 conv=>whnf
 refine ixs_c (f:=V.s) H (fun _=>rfl) (fun x8 H=>?_);conv=>whnf
 refine tst_c H (fun b9 H=>?_) (fun b9 H=>?_)
 ·conv=>whnf
  obtain rfl:=Option.some.inj H
  have H:=HQ4
  try dsimp only at H
  exact fi_ H
 conv=>whnf
 refine Ari.w ?_;conv=>whnf
 exact again_c [5,9,10,11,12,13,14,15,16,17,18] n5 0 [] (⟨_,H,rfl,rfl⟩) (Nat.lt_succ_self _) (Nat.zero_le _) rfl (by kernel_rfl) (by kernel_rfl) rfl trivial
def gc55:BCode:=(.seq (R_ 0 [O_ 4 (.mv (b_ false)) 0]) (.seq (R_ 0 [O_ 5 (.mv (t_ 0)) 0,O_ 6 (.mv (t_ 1)) 0,O_ 7 (.cl 92 [(t_ 5),(t_ 6)]) 0,O_ 8 (.bin .geq (t_ 7) (i_ 0)) 0,O_ 4 (.mv (t_ 8)) 0]) .ret))
theorem gc55_ok:compF Tryz.prog Tryz.f55=some (gc55.er,9,[.tmp 4]):=by unfold gc55;kernel_rfl
theorem p_slices_Contains_string_v {u1:Bool} (a0:List ByteArray) (a1:ByteArray):CallsO Tryz.prog 55 [.sl (List.map V.s a0) u1,.s a1] V.b (p_slices_Contains_string a0 a1):=by
 refine callsO_comp mix Tryz.func55 gc55_ok fun r H=>?_
 rw [p_slices_Contains_string] at H
 conv=>whnf
 refine ask_c (p_slices_Index_string_v _ _) H rfl rfl (fun v1 H=>?_);conv=>whnf
 exact fb_ H
def gc28:BCode:=(.seq (R_ 2 [O_ 2 (.bx (t_ 0)) 0,O_ 3 (.bx (t_ 1)) 1,O_ 4 (.mv (b_ false)) 2]) (.seq (.reg 0 [O_ 5 (.fa 0 (t_ 2)) 0,O_ 6 (.ld 1 false (t_ 5)) 0,O_ 7 (.fa 0 (t_ 3)) 0,O_ 8 (.ld 1 false (t_ 7)) 0,O_ 9 (.cl 55 [(t_ 6),(t_ 8)]) 0,O_ 10 (.mv (t_ 9)) 0,⟨(some 11),.fa 1 (t_ 2),(some (10,false)),0⟩,⟨(some 12),.ld 1 false (t_ 11),(some (10,false)),0⟩,⟨(some 13),.fa 0 (t_ 3),(some (10,false)),0⟩,⟨(some 14),.ld 1 false (t_ 13),(some (10,false)),0⟩,⟨(some 15),.fa 1 (t_ 3),(some (10,false)),0⟩,⟨(some 16),.ld 1 false (t_ 15),(some (10,false)),0⟩,⟨(some 17),.cl 26 [(t_ 14),(t_ 16)],(some (10,false)),0⟩,⟨(some 18),.cl 55 [(t_ 12),(t_ 17)],(some (10,false)),0⟩,O_ 19 (.pick (t_ 10) (b_ true) (t_ 18)) 0,O_ 4 (.mv (t_ 19)) 0] (some [[],[0],[],[2],[2,3,0,1],[1,0,3,2,4],[4,2,3,0,1,5],[5,1,0,3,2,4,6],[4,2,3,0,1,5],[5,1,0,3,2,4,8],[4,2,3,0,1,5],[5,1,0,3,2,4,10],[10,11,8,4,2,3,0,1,5,9],[9,8,11,10,12,6,4,2,3,0,1,5,7],[7,6,12,10,11,8,9,13,4,2,3,0,1,5],[5,1,0,3,2,4,13,9,8,11,10,12,6,7,14]]) 0 []) .ret))
theorem gc28_ok:compF Tryz.prog Tryz.f28=some (gc28.er,20,[.tmp 4]):=by unfold gc28;kernel_rfl
theorem p_snap_Sees_v {u1 u2:Bool} (a0:SnapEyes) (a1:BookRow):CallsO Tryz.prog 28 [.agg [.sl (List.map V.s a0.Users) u1,.sl (List.map V.s a0.Keys) u2],.agg [.s a1.User,.s a1.Res,.b a1.P.On,.i a1.P.Show,.i a1.P.Prio,.i a1.P.Seq]] V.b (p_snap_Sees a0 a1):=by
 refine callsO_comp mix Tryz.func28 gc28_ok fun r H=>?_
 rw [p_snap_Sees] at H
 conv=>whnf
 refine ask_c (p_slices_Contains_string_v _ _) H rfl rfl (fun v1 H=>?_);conv=>whnf
 refine tst_c H (fun b2 H=>?_) (fun b2 H=>?_)
 ·conv=>whnf
  iterate 8 (refine Tst.T ?_;conv=>whnf)
  refine FootQ.mk ⟨rfl,?_⟩;conv=>whnf
  exact fb_ H
 conv=>whnf
 iterate 6 (refine Tst.F ?_;conv=>whnf)
 refine ask_c (p_pres_Key_v _ _) H rfl rfl (fun v3 H=>?_);conv=>whnf
 refine Tst.F ?_;conv=>whnf
 refine ask_c (p_slices_Contains_string_v _ _) H rfl rfl (fun v4 H=>?_);conv=>whnf
 refine Tst.F ?_;conv=>whnf
 refine FootQ.mk ⟨rfl,?_⟩;conv=>whnf
 exact fb_ H
def gc44:BCode:=(.seq (R_ 1 [O_ 1 (.bx (t_ 0)) 0,O_ 2 (.mv (i_ 0)) 1]) (.seq (R_ 1 [O_ 4 (.ld 4 true (t_ 1)) 0,O_ 3 (.al (.agg [(.lit (.bool false)),(.lit (.bool false)),(.lit (.string ⟨#[]⟩)),(.lit (.int .i64 0))])) 0,U_ (.st 4 (t_ 3) (t_ 4)) 1]) (.seq (.seq (R_ 0 [O_ 5 (.fa 0 (t_ 3)) 0,O_ 6 (.ld 1 false (t_ 5)) 0]) (.cond (t_ 6) (R_ 0 [O_ 7 (.fa 2 (t_ 1)) 0,O_ 8 (.ld 1 false (t_ 7)) 0,O_ 9 (.fa 3 (t_ 1)) 0,O_ 10 (.ld 1 false (t_ 9)) 0,O_ 11 (.bd [(.lit (.bool false)),(.lit (.bool false)),(.lit (.string ⟨#[]⟩)),(.lit (.int .i64 0))] [(2,1,(t_ 8)),(3,1,(t_ 10))]) 0,U_ (.st 4 (t_ 3) (t_ 11)) 0]) .skip)) (.seq (.seq (R_ 0 [O_ 12 (.fa 1 (t_ 1)) 0,O_ 13 (.ld 1 false (t_ 12)) 0,O_ 14 (.mv (t_ 13)) 0,⟨(some 15),.fa 0 (t_ 1),(some (14,true)),0⟩,⟨(some 16),.ld 1 false (t_ 15),(some (14,true)),0⟩,O_ 17 (.pick (t_ 14) (t_ 16) (b_ false)) 0]) (.cond (t_ 17) (R_ 0 [O_ 18 (.bd [(.lit (.bool false)),(.lit (.bool false)),(.lit (.string ⟨#[]⟩)),(.lit (.int .i64 0))] []) 0,U_ (.st 4 (t_ 3) (t_ 18)) 0]) .skip)) (.seq (.seq (R_ 0 [O_ 19 (.ld 4 true (t_ 3)) 0,O_ 20 (.bd [(.lit (.bool false)),(.lit (.bool false)),(.lit (.string ⟨#[]⟩)),(.lit (.int .i64 0))] []) 0,O_ 21 (.eqa true [0,0,2,1] (t_ 19) (t_ 20)) 0]) (.cond (t_ 21) (.seq (R_ 0 [O_ 2 (.mv (i_ 4)) 0]) .ret) .skip)) (.seq (.seq (R_ 0 [O_ 22 (.fa 3 (t_ 1)) 0,O_ 23 (.ld 1 false (t_ 22)) 0,O_ 24 (.bin .lss (t_ 23) (i_ 0)) 0,O_ 25 (.mv (t_ 24)) 0,⟨(some 26),.fa 3 (t_ 1),(some (25,false)),0⟩,⟨(some 27),.ld 1 false (t_ 26),(some (25,false)),0⟩,⟨(some 28),.bin .gtr (t_ 27) (i_ 1099511627776),(some (25,false)),0⟩,O_ 29 (.pick (t_ 25) (b_ true) (t_ 28)) 0]) (.cond (t_ 29) (.seq (R_ 0 [O_ 2 (.mv (i_ 8)) 0]) .ret) .skip)) (.seq (R_ 0 [O_ 2 (.mv (i_ 0)) 0]) .ret)))))))
theorem gc44_ok:compF Tryz.prog Tryz.f44=some (gc44.er,30,[.tmp 2]):=by unfold gc44;kernel_rfl
theorem p_snap_Check_v (a0:SnapState):CallsO Tryz.prog 44 [.agg [.b a0.On,.b a0.Begun,.s a0.After,.i a0.Told]] V.i (p_snap_Check a0):=by
 refine callsO_comp mix Tryz.func44 gc44_ok fun r H=>?_
 rw [p_snap_Check] at H
 conv=>whnf
 refine lq_ ?_;conv=>whnf
 refine tst_d H (fun b1 H=>?_) (fun b1 H=>?_)
 ·conv=>whnf
  refine tst_d H (fun b9 H=>?_) (fun b9 H=>?_)
  ·conv=>whnf
   iterate 3 (refine Tst.F ?_;conv=>whnf)
   refine Tst.not ?_
   refine tst_d H (fun b13 H=>?_) (fun b13 H=>?_)
   ·conv=>whnf
    exact fi_ H
   conv=>whnf
   refine tst_c H (fun b14 H=>?_) (fun b14 H=>?_)
   ·conv=>whnf
    iterate 4 (refine Tst.T ?_;conv=>whnf)
    exact fi_ H
   conv=>whnf
   iterate 3 (refine Tst.F ?_;conv=>whnf)
   refine tst_c H (fun b15 H=>?_) (fun b15 H=>?_)
   ·conv=>whnf
    exact fi_ H
   conv=>whnf
   exact fi_ H
  conv=>whnf
  iterate 2 (refine Tst.T ?_;conv=>whnf)
  refine Tst.isF b1 ?_;conv=>whnf
  refine Tst.not ?_
  refine tst_d H (fun b10 H=>?_) (fun b10 H=>?_)
  ·conv=>whnf
   exact fi_ H
  conv=>whnf
  refine tst_c H (fun b11 H=>?_) (fun b11 H=>?_)
  ·conv=>whnf
   iterate 4 (refine Tst.T ?_;conv=>whnf)
   exact fi_ H
  conv=>whnf
  iterate 3 (refine Tst.F ?_;conv=>whnf)
  refine tst_c H (fun b12 H=>?_) (fun b12 H=>?_)
  ·conv=>whnf
   exact fi_ H
  conv=>whnf
  exact fi_ H
 conv=>whnf
 refine lq_ ?_;conv=>whnf
 refine tst_d H (fun b2 H=>?_) (fun b2 H=>?_)
 ·conv=>whnf
  iterate 3 (refine Tst.F ?_;conv=>whnf)
  refine Tst.not ?_
  refine tst_d H (fun b6 H=>?_) (fun b6 H=>?_)
  ·conv=>whnf
   exact fi_ H
  conv=>whnf
  refine tst_c H (fun b7 H=>?_) (fun b7 H=>?_)
  ·conv=>whnf
   iterate 4 (refine Tst.T ?_;conv=>whnf)
   exact fi_ H
  conv=>whnf
  iterate 3 (refine Tst.F ?_;conv=>whnf)
  refine tst_c H (fun b8 H=>?_) (fun b8 H=>?_)
  ·conv=>whnf
   exact fi_ H
  conv=>whnf
  exact fi_ H
 conv=>whnf
 iterate 2 (refine Tst.T ?_;conv=>whnf)
 refine Tst.isT b1 ?_;conv=>whnf
 refine lq_ ?_;conv=>whnf
 refine Tst.not ?_
 refine tst_d H (fun b3 H=>?_) (fun b3 H=>?_)
 ·conv=>whnf
  exact fi_ H
 conv=>whnf
 refine tst_c H (fun b4 H=>?_) (fun b4 H=>?_)
 ·conv=>whnf
  iterate 4 (refine Tst.T ?_;conv=>whnf)
  exact fi_ H
 conv=>whnf
 iterate 3 (refine Tst.F ?_;conv=>whnf)
 refine tst_c H (fun b5 H=>?_) (fun b5 H=>?_)
 ·conv=>whnf
  exact fi_ H
 conv=>whnf
 exact fi_ H
def gc36:BCode:=(.seq (R_ 1 [O_ 2 (.bx (t_ 0)) 0,O_ 4 (.mv (b_ false)) 1]) (.seq (.seq (R_ 0 [O_ 5 (.fa 0 (t_ 2)) 0,O_ 6 (.ld 1 false (t_ 5)) 0,O_ 7 (.un .not (t_ 6)) 0]) (.cond (t_ 7) (.seq (R_ 0 [O_ 4 (.mv (b_ false)) 0]) .ret) .skip)) (.seq (R_ 0 [O_ 8 (.fa 1 (t_ 2)) 0,O_ 9 (.ld 1 false (t_ 8)) 0,O_ 10 (.un .not (t_ 9)) 0,O_ 11 (.mv (t_ 10)) 0,⟨(some 12),.fa 2 (t_ 2),(some (11,false)),0⟩,⟨(some 13),.ld 1 false (t_ 12),(some (11,false)),0⟩,⟨(some 14),.mv (t_ 1),(some (11,false)),0⟩,⟨(some 15),.bin .lss (t_ 13) (t_ 14),(some (11,false)),0⟩,O_ 16 (.pick (t_ 11) (b_ true) (t_ 15)) 0,O_ 4 (.mv (t_ 16)) 0]) .ret)))
theorem gc36_ok:compF Tryz.prog Tryz.f36=some (gc36.er,17,[.tmp 4]):=by unfold gc36;kernel_rfl
theorem p_snap_Covers_v (a0:SnapState) (a1:ByteArray):CallsO Tryz.prog 36 [.agg [.b a0.On,.b a0.Begun,.s a0.After,.i a0.Told],.s a1] V.b (p_snap_Covers a0 a1):=by
 refine callsO_comp mix Tryz.func36 gc36_ok fun r H=>?_
 rw [p_snap_Covers] at H
 conv=>whnf
 refine Tst.not ?_
 refine tst_d H (fun b1 H=>?_) (fun b1 H=>?_)
 ·conv=>whnf
  exact fb_ H
 conv=>whnf
 refine Tst.not ?_
 refine tst_c H (fun b2 H=>?_) (fun b2 H=>?_)
 ·conv=>whnf
  iterate 4 (refine Tst.F ?_;conv=>whnf)
  exact fb_ H
 conv=>whnf
 iterate 4 (refine Tst.T ?_;conv=>whnf)
 exact fb_ H
def gc65:BCode:=(.seq (R_ 1 [O_ 0 (.al (.agg [(.lit (.bool false)),(.lit (.bool false)),(.lit (.string ⟨#[]⟩)),(.lit (.int .i64 0))])) 0]) (.seq (R_ 0 [O_ 1 (.bd [(.lit (.bool false)),(.lit (.bool false)),(.lit (.string ⟨#[]⟩)),(.lit (.int .i64 0))] [(0,1,(b_ true))]) 0,U_ (.st 4 (t_ 0) (t_ 1)) 0]) .ret))
theorem gc65_ok:compF Tryz.prog Tryz.f65=some (gc65.er,2,[.cell 0 4 true]):=by unfold gc65;kernel_rfl
theorem p_snap_Begin_v:CallsO Tryz.prog 65 [] SnapState.v (p_snap_Begin):=by
 refine callsO_comp mix Tryz.func65 gc65_ok fun r H=>?_
 rw [p_snap_Begin] at H
 conv=>whnf
 refine lq_ ?_;conv=>whnf
 exact fin0_c (enc:=SnapState.v) H (.inr rfl) (.cons (.cell rfl rfl (Nat.le_of_ble_eq_true rfl)) (.nil)) rfl rfl
end Go.Proofs.YthnihifblmnkdaaGreat

namespace Go.Proofs.YthnihifblmnkdaaGreat
open Go.RowKit
def dv119 (c:Code):BCode:=(.seq (.reg 2 [⟨(some 2),.bx (.tmp 0),none,0⟩,⟨(some 3),.bx (.tmp 1),none,1⟩,⟨(some 4),.mv (.const (.slice none 0 0)),none,2⟩] none 0 []) (.seq (.reg 1 [⟨(some 5),.al (.sl [] true),none,0⟩] none 0 []) (.seq (.seq (.reg 0 [⟨(some 8),.ld 2 true (.tmp 2),none,0⟩,⟨(some 9),.ld 2 true (.tmp 3),none,0⟩,⟨(some 10),.cl 106 [(.tmp 8),(.tmp 9),(.const (.string ⟨#[]⟩))],none,0⟩] none 3 []) (.block 0 (.raw c))) (.seq (.reg 0 [⟨(some 17),.ld 1 false (.tmp 5),none,0⟩,⟨(some 4),.mv (.tmp 17),none,0⟩] none 0 []) .ret))))
theorem dv119_ok:compF Tryz.prog Tryz.f119=some ((dv119 (rangeAt Tryz.f119 0)).er,18,[.tmp 4]):=by unfold dv119;kernel_rfl
def aenS (x:ItmS):List V:=[.s x.1,x.2.v]
theorem haenS (z:ItmS) (m:Mem) (bk:Bks):RepL m bk (encS z) (aenS z):=by
 have hrow:Rep m bk (.agg #[.string z.2.User,.string z.2.Res,.bool z.2.P.On,.int .i64 z.2.P.Show,.int .i64 z.2.P.Prio,.int .i64 z.2.P.Seq]) z.2.v:=by
  refine .agg rfl (fun v hv=>?_) fun i g1 g2=>?_
  ·simp at hv
   rcases hv with rfl | rfl | rfl | rfl | rfl | rfl <;> rfl
  ·have hi:i=0∨i=1∨i=2∨i=3∨i=4∨i=5:=by simp at g1;omega
   rcases hi with rfl | rfl | rfl | rfl | rfl | rfl <;> exact .lit rfl
 refine ⟨rfl,fun j h1 h2=>?_⟩
 have hj:j=0∨j=1:=by simp [encS] at h1;omega
 rcases hj with rfl | rfl
 ·exact .lit rfl
 ·exact hrow
set_option maxRecDepth 100000 in
set_option maxHeartbeats 4000000 in
theorem view_of (e:SnapEyes) (b:BookState) (xs:List ItmS) (hn:xs.length≤1000000)
  (hit:∀ st:List Slot,st[3]?=some (.live [.i b.Seq,.sl (List.map BookRow.v b.Rows) false] 2)→st[4]?=some (.live [.s ⟨#[]⟩] 0)→st[5]?=some (.live [.sl (List.map V.s e.Users) false,.sl (List.map V.s e.Keys) false] 2)→ItS Tryz.prog 120 [.ptr 3 0,.ptr 4 0,.ptr 5 0] st 4 encS xs) :
  CallsO Tryz.prog 119 [e.v,b.v] (fun l:List BookRow=>V.sl (l.map BookRow.v) false) (some (xs.map (·.2))):=by
 refine callsO_comp mix Tryz.func119 dv119_ok fun r H=>?_
 conv=>whnf
 refine Ask_S (rowsS rfl rfl rfl e b ⟨#[]⟩) rfl ?_;conv=>whnf
 rw [rg119]
 refine range_c (α:=ItmS) mix da119_ok db119_ok fl119.1 fl119.2 sc119.1 sc119.2 (enters_of Tryz.func120 (by kernel_rfl) rfl) rfl (hit _ rfl rfl rfl) haenS (fun _=>rfl)
  (fun pre st1=>∃ s:ByteArray,(pre=[]∧st1=[Slot.live [V.sl (List.map V.s e.Users) false,V.sl (List.map V.s e.Keys) false] 0,Slot.live [V.i b.Seq,V.sl (List.map BookRow.v b.Rows) false] 0,Slot.live [V.sl (List.map BookRow.v []) true] 0,Slot.live [V.i b.Seq,V.sl (List.map BookRow.v b.Rows) false] 2,Slot.live [V.s s] 0,Slot.live [V.sl (List.map V.s e.Users) false,V.sl (List.map V.s e.Keys) false] 2]) ∨
   (pre≠[]∧st1=[Slot.live [V.sl (List.map V.s e.Users) false,V.sl (List.map V.s e.Keys) false] 0,Slot.live [V.i b.Seq,V.sl (List.map BookRow.v b.Rows) false] 0,Slot.live [V.osl 6 0 (pre.map (·.2)).length 6 false] 0,Slot.live [V.i b.Seq,V.sl (List.map BookRow.v b.Rows) false] 2,Slot.live [V.s s] 0,Slot.live [V.sl (List.map V.s e.Users) false,V.sl (List.map V.s e.Keys) false] 2,Slot.live (cellsM BookRow.v (pre.map (·.2))) (cellsM BookRow.v (pre.map (·.2))).length])) ?_ ?_ ⟨_,.inl ⟨rfl,rfl⟩⟩ ?_ ?_
 ·rintro pre st1 s ⟨s0,⟨h,rfl⟩ | ⟨h,rfl⟩⟩
  ·exact ⟨s,.inl ⟨h,rfl⟩⟩
  ·exact ⟨s,.inr ⟨h,rfl⟩⟩
 ·rintro pre st1 ⟨s0,⟨h,rfl⟩ | ⟨h,rfl⟩⟩ <;> exact ⟨s0,rfl⟩
 ·rintro pre ⟨k,x⟩ post st1 hx ⟨s,⟨rfl,rfl⟩ | ⟨hne,rfl⟩⟩
  ·conv=>whnf
   refine ⟨Nat.le_of_ble_eq_true rfl,?_⟩;conv=>whnf
   refine ⟨rfl,fun s2=>?_⟩;conv=>whnf
   refine appN_c (f:=BookRow.v) (F:=[]) (G:=[x]) (X:=some) (r:=[x]) rfl (fun _=>rfl) (srcM (f:=BookRow.v) (fun _=>rfl) _ _) rfl (.v (srcOwn (f:=BookRow.v) (l:=[x]) (fun _=>rfl) rfl rfl rfl)) (by decide) rfl (by simp) (fun L H=>?_);conv=>whnf
   obtain rfl:=Option.some.inj H
   refine ⟨Nat.le_of_ble_eq_true rfl,?_⟩;conv=>whnf
   refine ⟨rfl,fun _=>⟨7,[0,1,2,3,4,5,8],_,?_,s2,.inr ⟨by simp,rfl⟩⟩,fun h=>absurd rfl h⟩
   exact wk_mask (junk:=[]) (Nat.le_of_ble_eq_true rfl) rfl rfl rfl rfl ⟨⟨rfl,rfl,rfl⟩,⟨rfl,rfl,rfl⟩,⟨rfl,rfl,rfl⟩,⟨rfl,rfl,rfl⟩,⟨rfl,rfl,rfl⟩,⟨rfl,rfl,rfl⟩,wkB_live0 rfl (cellsM_idlt (f:=BookRow.v) (fun _=>rfl) _) rfl trivial⟩
  ·conv=>whnf
   refine ⟨Nat.le_of_ble_eq_true rfl,?_⟩;conv=>whnf
   refine ⟨rfl,fun s2=>?_⟩;conv=>whnf
   have HA:(app? (pre.map (·.2)) [x]).bind some=some (pre.map (·.2)++[x]):=by
    unfold app?
    rw [if_pos (by rw [hx] at hn;simp at hn ⊢;omega)];rfl
   refine appO_c (f:=BookRow.v) HA (fun _=>rfl) rfl (Nat.le_refl _) (.v (srcOwn (f:=BookRow.v) (l:=[x]) (fun _=>rfl) rfl rfl rfl)) (by decide) rfl (by simp) (fun L H=>?_)
   conv=>whnf
   obtain rfl:=Option.some.inj H
   refine ⟨Nat.le_of_ble_eq_true rfl,?_⟩;conv=>whnf
   have em:(pre++[(k,x)]).map (·.2)=pre.map (·.2)++[x]:=by simp
   rw [em]
   refine ⟨rfl,fun _=>⟨7,[0,1,2,3,4,5,9],_,?_,s2,.inr ⟨by simp,rfl⟩⟩,fun h=>absurd rfl h⟩
   exact wk_mask (junk:=[]) (Nat.le_of_ble_eq_true rfl) rfl rfl rfl rfl ⟨⟨rfl,rfl,rfl⟩,⟨rfl,rfl,rfl⟩,⟨rfl,rfl,rfl⟩,⟨rfl,rfl,rfl⟩,⟨rfl,rfl,rfl⟩,⟨rfl,rfl,rfl⟩,wkB_live0 rfl (cellsM_idlt (f:=BookRow.v) (fun _=>rfl) _) rfl trivial⟩
 ·rintro st1 ⟨s,⟨h,rfl⟩ | ⟨hne,rfl⟩⟩
  ·subst h
   conv=>whnf
   refine finR_c (enc:=fun l:List BookRow=>V.sl (l.map BookRow.v) false) H ?_;conv=>whnf
   exact ⟨_,.v (.c .slw)⟩
  ·conv=>whnf
   refine finR_c (enc:=fun l:List BookRow=>V.sl (l.map BookRow.v) false) H ?_;conv=>whnf
   exact ⟨_,.v (.c (fzown (f:=BookRow.v) (l:=xs.map (·.2)) rfl rfl (fun _=>rfl) (fun _=>rfl)))⟩
def p_snap_items (e:SnapEyes) (b:BookState) (s:ByteArray):Option (List ItmS):=rowsI p_book_Next p_pres_Key p_snap_Sees e b fuel s
theorem items_it {e:SnapEyes} {b:BookState} {s:ByteArray} {xs:List ItmS} (hx:p_snap_items e b s=some xs) {st:List Slot} {i3 i4 i5:Nat} (h3:st[i3]?=some (.live [.i b.Seq,.sl (List.map BookRow.v b.Rows) false] 2)) (h4:st[i4]?=some (.live [.s s] 0)) (h5:st[i5]?=some (.live [.sl (List.map V.s e.Users) false,.sl (List.map V.s e.Keys) false] 2)):ItS Tryz.prog 120 [.ptr i3 0,.ptr i4 0,.ptr i5 0] st i4 encS xs :=
 it_rows (fun b a=>p_book_Next_v b a) (fun u r=>p_pres_Key_v u r) (fun e x=>p_snap_Sees_v e x) hx h3 h4 h5
def p_snap_View (e:SnapEyes) (b:BookState):Option (List BookRow):=(p_snap_items e b ⟨#[]⟩).bind fun xs=>bif decide (xs.length≤1000000) then some (xs.map (·.2)) else none
theorem p_snap_View_f (e:SnapEyes) (b:BookState):CallsO Tryz.prog 119 [e.v,b.v] (fun l:List BookRow=>V.sl (l.map BookRow.v) false) (p_snap_View e b):=by
 intro r hr
 unfold p_snap_View at hr
 obtain ⟨xs,hx,hr⟩:=Option.bind_eq_some_iff.1 hr
 by_cases hn:xs.length≤1000000
 ·rw [decide_eq_true hn,cond_true] at hr
  exact view_of e b xs hn (fun st h3 h4 h5=>items_it hx h3 h4 h5) r hr
 ·rw [decide_eq_false hn,cond_false] at hr;cases hr
theorem callsV_fz {P:Program} {f:FuncId} {vs vs' : List V} {v:V} {rd:List Nat} (ha:FzA [] vs vs' rd) (h:CallsV P f vs' v):CallsV P f vs v:=fun m w cargs hg hm hr=>by
 have s0:Sim 0 m m noBk w []:=⟨Nat.zero_le _,hm,fun _ _ h=>h,fun _ _ h=>.inl h,fun _ _ _ h=>by simp at h,fun _ _ _ _ _ _ _ _ h=>by simp at h,fun _ _=>rfl⟩
 have ht:=(ha.rep s0 (cs:=cargs.toList) ⟨by simpa using hr.1,fun j a b=>by simpa using hr.2 j (by simpa using a) b⟩).toA
 rw [Array.toArray_toList] at ht
 exact h m w cargs hg hm ht
theorem p_snap_View_v {u1 u2 u3:Bool} (e:SnapEyes) (b:BookState):CallsO Tryz.prog 119 [.agg [.sl (List.map V.s e.Users) u1,.sl (List.map V.s e.Keys) u2],.agg [.i b.Seq,.sl (List.map BookRow.v b.Rows) u3]] (fun l:List BookRow=>V.sl (l.map BookRow.v) false) (p_snap_View e b):=fun r hr =>
 callsV_fz (.cons (fzagg (.cons .slw (.cons .slw .nil)) rfl) (.cons (fzagg (.cons (.id rfl) (.cons .slw .nil)) rfl) .nil)) (p_snap_View_f e b r hr)
end Go.Proofs.YthnihifblmnkdaaGreat

namespace Go.Proofs.YthnihifblmnkdaaGreat
open Go.RowKit
def p_snap_Count (a0:SnapEyes) (a1:BookState):Option (Int) :=
 (p_snap_View a0 a1).bind fun v1 =>
 some (v1.length:Int)
end Go.Proofs.YthnihifblmnkdaaGreat

