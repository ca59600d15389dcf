/- A part of the proof: 3 texts joined. -/
import Derived.Test.YtmmmcpeickfolaaGreatZaA14
import Derived.Test.YtmmmcpeickfolaaGreatZaA10
import Derived.KernelRfl
import Derived.Test.YtmmmcpeickfolaaGreatZaA13
import Derived.Lib.SliceRun
import Derived.Test.YtmmmcpeickfolaaGreatZaA12
set_option linter.all false
namespace Go.Proofs.YtmmmcpeickfolaaGreat
open Go.RowKit
set_option maxRecDepth 100000
set_option maxHeartbeats 4000000
def gc183:BCode:=(.seq (R_ 0 [O_ 10 (.mv (t_ 1)) 0,O_ 11 (.bin .add (t_ 10) (i_ 1)) 0,O_ 8 (.mv (t_ 11)) 0]) (.block 0 (.loop (.seq (.seq (R_ 0 [O_ 12 (.mv (t_ 8)) 0,O_ 13 (.mv (t_ 2)) 0,O_ 14 (.bin .lss (t_ 12) (t_ 13)) 0]) (.cond (t_ 14) .skip (.exit 0))) (.seq (.block 1 (.seq (R_ 0 [O_ 17 (.mv (t_ 8)) 0,O_ 9 (.mv (t_ 17)) 0]) (.block 2 (.loop (.seq (.seq (.reg 0 [O_ 18 (.mv (t_ 9)) 0,O_ 19 (.mv (t_ 1)) 0,O_ 20 (.bin .gtr (t_ 18) (t_ 19)) 0,O_ 21 (.mv (t_ 20)) 0,⟨(some 22),.mv (t_ 3),(some (21,true)),0⟩,⟨(some 23),.mv (t_ 0),(some (21,true)),0⟩,⟨(some 24),.mv (t_ 9),(some (21,true)),0⟩,⟨(some 25),.ixs 5 (t_ 23) (t_ 24),(some (21,true)),0⟩,⟨(some 26),.ld 5 true (t_ 25),(some (21,true)),0⟩,⟨(some 27),.mv (t_ 0),(some (21,true)),0⟩,⟨(some 28),.mv (t_ 9),(some (21,true)),0⟩,⟨(some 29),.bin .sub (t_ 28) (i_ 1),(some (21,true)),0⟩,⟨(some 30),.ixs 5 (t_ 27) (t_ 29),(some (21,true)),0⟩,⟨(some 31),.ld 5 true (t_ 30),(some (21,true)),0⟩,⟨(some 32),.cv (t_ 22) [(t_ 26),(t_ 31)],(some (21,true)),0⟩,⟨(some 33),.bin .lss (t_ 32) (i_ 0),(some (21,true)),0⟩,O_ 34 (.pick (t_ 21) (t_ 33) (b_ false)) 0] (some [[],[],[1,0],[0,1,2],[2,1,0,3],[2,1,0,3],[2,1,0,3],[6,3,0,1,2,5],[5,2,1,0,3,6,7],[2,1,0,3],[2,1,0,3],[3,0,1,2,10],[10,11,3,0,1,2,9],[9,2,1,0,3,11,10,12],[12,10,11,9,13,7,6,5,8,3,0,1,2,4],[4,2,1,0,3,8,5,6,7,13,9,11,10,12,14],[14,12,10,11,9,13,7,6,5,8,4,15,2,1,0,3]]) 0 []) (.cond (t_ 34) .skip (.exit 2))) (.seq (.block 3 (.reg 0 [O_ 37 (.mv (t_ 0)) 0,O_ 38 (.mv (t_ 9)) 0,O_ 39 (.mv (t_ 0)) 0,O_ 40 (.mv (t_ 9)) 0,O_ 41 (.bin .sub (t_ 40) (i_ 1)) 0,O_ 42 (.mv (t_ 0)) 0,O_ 43 (.mv (t_ 9)) 0,O_ 44 (.bin .sub (t_ 43) (i_ 1)) 0,O_ 45 (.ixs 5 (t_ 42) (t_ 44)) 0,O_ 46 (.ld 5 true (t_ 45)) 0,O_ 47 (.mv (t_ 0)) 0,O_ 48 (.mv (t_ 9)) 0,O_ 49 (.ixs 5 (t_ 47) (t_ 48)) 0,O_ 50 (.ld 5 true (t_ 49)) 0,O_ 51 (.ixs 5 (t_ 37) (t_ 38)) 0,U_ (.st 5 (t_ 51) (t_ 46)) 0,O_ 52 (.ixs 5 (t_ 39) (t_ 41)) 0,U_ (.st 5 (t_ 52) (t_ 50)) 0] (some [[],[],[],[],[3],[],[],[6],[6,7,5],[5,7,6,8],[],[],[11,10],[10,11,12],[12,11,10,13,9,8,7,6,5,1,0],[0,1,5,6,7,8,9,13,10,11,12,14],[15,14,13,12,11,10,9,8,7,6,5,1,0,3,4,2],[2,4,3,0,1,5,6,7,8,9,10,11,12,13,14,15,16]]) 0 [])) (R_ 0 [O_ 35 (.mv (t_ 9)) 0,O_ 36 (.bin .sub (t_ 35) (i_ 1)) 0,O_ 9 (.mv (t_ 36)) 0]))))))) (R_ 0 [O_ 15 (.mv (t_ 8)) 0,O_ 16 (.bin .add (t_ 15) (i_ 1)) 0,O_ 8 (.mv (t_ 16)) 0]))))))
theorem gc183_ok:compF Tryz.prog Tryz.f183=some (gc183.er,53,[]):=by unfold gc183;kernel_rfl
theorem p_slices_insertionSortCmpFunc_item_Item__v (a0:List ItemItem) (a1:Int) (a2:Int) (a3:ItemItem→ItemItem→Option Int) {a3_g:Nat} {a3_k:List V} (a3_h:Clo2 Tryz.prog a3_g a3_k ItemItem.v ItemItem.v V.i a3):InPl Tryz.prog 183 ItemItem.v 5 [.i a1,.i a2,.clo (.func a3_g) a3_k] a0 (p_slices_insertionSortCmpFunc_item_Item_ a0 a1 a2 a3):=by
 refine inPl_comp mix Tryz.func183 gc183_ok fun r H=>?_
 rw [p_slices_insertionSortCmpFunc_item_Item_] at H
 conv=>whnf
 refine Ari.w ?_;conv=>whnf
 obtain ⟨o2,HL3,HQ4⟩:=bind_c H
 refine loop_c [8] [9,12,13,14,15,16,17,18,19,20,21,22,23,24,25,26,27,28,29,30,31,32,33,34,35,36,37,38,39,40,41,42,43,44,45,46,47,48,49,50,51,52] [9,12,13,14,15,16,17,18,19,20,21,22,23,24,25,26,27,28,29,30,31,32,33,34,35,36,37,38,39,40,41,42,43,44,45,46,47,48,49,50,51,52] (fun n vals st=>(∃ y6 y7,p_slices_insertionSortCmpFunc_item_Item__l1  a0 a3 a1 a2 n y6 y7=some o2∧vals=[.i y6]∧st=[.live (cellsM ItemItem.v y7) 0])) fuel 1 [] (⟨_,_,HL3,rfl,rfl⟩) (Nat.le_of_ble_eq_true rfl) rfl (by simp only [maskF,setF,List.set_cons_zero,List.set_cons_succ,V.ren.renL,V.ren,renL_id _ a3_h.own] <;> rfl) (by simp only [maskF,setF,List.set_cons_zero,List.set_cons_succ,V.idlt.belowL,V.idlt,fun n=>idltL_up (n:=n) _ a3_h.own] <;> rfl) rfl (wkB_live0 rfl (cellsM_idlt (f:=ItemItem.v) (fun _=>rfl) _) rfl trivial) ?_
 rintro (_ | n5) _ _ (⟨y6,y7,H,rfl,rfl⟩)
 ·rw [p_slices_insertionSortCmpFunc_item_Item__l1] at H;cases H
 rw [p_slices_insertionSortCmpFunc_item_Item__l1] at H
 conv=>whnf
 refine tst_d H (fun b8 H=>?_) (fun b8 H=>?_)
 ·conv=>whnf
  obtain rfl:=Option.some.inj H
  have H:=HQ4
  try dsimp only at H
  exact inFin_c (f:=ItemItem.v) (es:=5) (l:=a0) (.inl rfl) H rfl (fun _=>rfl)
 conv=>whnf
 obtain ⟨o10,HL11,HQ12⟩:=bind_c H
 refine loop_c [9] [18,19,20,21,22,23,24,25,26,27,28,29,30,31,32,33,34,35,36,37,38,39,40,41,42,43,44,45,46,47,48,49,50,51,52] [18,19,20,21,22,23,24,25,26,27,28,29,30,31,32,33,34,35,36,37,38,39,40,41,42,43,44,45,46,47,48,49,50,51,52] (fun n vals st=>(∃ y14 y15,p_slices_insertionSortCmpFunc_item_Item__l2  a0 a3 a1 n y14 y15=some o10∧vals=[.i y14]∧st=[.live (cellsM ItemItem.v y15) 0])) fuel 1 [] (⟨_,_,HL11,rfl,rfl⟩) (Nat.le_of_ble_eq_true rfl) rfl (by simp only [maskF,setF,List.set_cons_zero,List.set_cons_succ,V.ren.renL,V.ren,renL_id _ a3_h.own] <;> rfl) (by simp only [maskF,setF,List.set_cons_zero,List.set_cons_succ,V.idlt.belowL,V.idlt,fun n=>idltL_up (n:=n) _ a3_h.own] <;> rfl) rfl (wkB_live0 rfl (cellsM_idlt (f:=ItemItem.v) (fun _=>rfl) _) rfl trivial) ?_
 rintro (_ | n13) _ _ (⟨y14,y15,H,rfl,rfl⟩)
 ·rw [p_slices_insertionSortCmpFunc_item_Item__l2] at H;cases H
 rw [p_slices_insertionSortCmpFunc_item_Item__l2] at H
 conv=>whnf
 refine tst_d H (fun b16 H=>?_) (fun b16 H=>?_)
 ·conv=>whnf
  iterate 12 (refine Tst.F ?_;conv=>whnf)
  refine FootQ.mk ⟨rfl,?_⟩;conv=>whnf
  refine Tst.F ?_;conv=>whnf
  obtain rfl:=Option.some.inj H
  have H:=HQ12
  try dsimp only at H
  refine Ari.w ?_;conv=>whnf
  exact again_c [9,12,13,14,15,16,17,18,19,20,21,22,23,24,25,26,27,28,29,30,31,32,33,34,35,36,37,38,39,40,41,42,43,44,45,46,47,48,49,50,51,52] n5 1 [] (⟨_,_,H,rfl,rfl⟩) (Nat.lt_succ_self _) (Nat.le_of_ble_eq_true rfl) rfl (by simp only [maskF,setF,List.set_cons_zero,List.set_cons_succ,V.ren.renL,V.ren,renL_id _ a3_h.own] <;> rfl) (by simp only [maskF,setF,List.set_cons_zero,List.set_cons_succ,V.idlt.belowL,V.idlt,fun n=>idltL_up (n:=n) _ a3_h.own] <;> rfl) rfl (wkB_live0 rfl (cellsM_idlt (f:=ItemItem.v) (fun _=>rfl) _) rfl trivial)
 conv=>whnf
 iterate 3 (refine Tst.T ?_;conv=>whnf)
 refine ⟨rfl,ixa_c H (fun x17 h18 H=>?_)⟩;conv=>whnf
 refine Tst.T ?_;conv=>whnf
 refine ldo_c (f:=ItemItem.v) (es:=5) h18 (fun _=>rfl) 0 (by omega) (by decide) ?_;conv=>whnf
 iterate 3 (refine Tst.T ?_;conv=>whnf)
 refine Ari.w ?_;conv=>whnf
 refine Tst.T ?_;conv=>whnf
 refine ⟨rfl,ixa_c H (fun x19 h20 H=>?_)⟩;conv=>whnf
 refine Tst.T ?_;conv=>whnf
 refine ldo_c (f:=ItemItem.v) (es:=5) h20 (fun _=>rfl) 0 (by omega) (by decide) ?_;conv=>whnf
 refine Tst.T ?_;conv=>whnf
 refine askC2_c a3_h H (.cons (fzagg (.cons (.id rfl) (.cons (.id rfl) (.cons (.id rfl) (.cons (.id rfl) (.cons (.id rfl) (.nil)))))) rfl) (.cons (fzagg (.cons (.id rfl) (.cons (.id rfl) (.cons (.id rfl) (.cons (.id rfl) (.cons (.id rfl) (.nil)))))) rfl) (.nil))) (fun v21 H=>?_);conv=>whnf
 iterate 2 (refine Tst.T ?_;conv=>whnf)
 refine FootQ.mk ⟨rfl,?_⟩;conv=>whnf
 refine tst_d H (fun b22 H=>?_) (fun b22 H=>?_)
 ·conv=>whnf
  obtain rfl:=Option.some.inj H
  have H:=HQ12
  try dsimp only at H
  refine Ari.w ?_;conv=>whnf
  exact again_c [9,12,13,14,15,16,17,18,19,20,21,22,23,24,25,26,27,28,29,30,31,32,33,34,35,36,37,38,39,40,41,42,43,44,45,46,47,48,49,50,51,52] n5 1 [] (⟨_,_,H,rfl,rfl⟩) (Nat.lt_succ_self _) (Nat.le_of_ble_eq_true rfl) rfl (by simp only [maskF,setF,List.set_cons_zero,List.set_cons_succ,V.ren.renL,V.ren,renL_id _ a3_h.own] <;> rfl) (by simp only [maskF,setF,List.set_cons_zero,List.set_cons_succ,V.idlt.belowL,V.idlt,fun n=>idltL_up (n:=n) _ a3_h.own] <;> rfl) rfl (wkB_live0 rfl (cellsM_idlt (f:=ItemItem.v) (fun _=>rfl) _) rfl trivial)
 conv=>whnf
 iterate 2 (refine Ari.w ?_;conv=>whnf)
 refine ⟨rfl,ixa_c H (fun x23 h24 H=>?_)⟩;conv=>whnf
 refine ldo_c (f:=ItemItem.v) (es:=5) h24 (fun _=>rfl) 0 (by omega) (by decide) ?_;conv=>whnf
 refine ⟨rfl,ixa_c H (fun x25 h26 H=>?_)⟩;conv=>whnf
 refine ldo_c (f:=ItemItem.v) (es:=5) h26 (fun _=>rfl) 0 (by omega) (by decide) ?_;conv=>whnf
 refine ⟨rfl,ixa_c H (fun x27 h28 H=>?_)⟩;conv=>whnf
 refine ⟨Nat.zero_le _,sto_c (f:=ItemItem.v) (es:=5) h28 (x':=x23) (fun _=>rfl) 0 (by omega) (Nat.le_of_ble_eq_true rfl) (by rfl) ?_⟩;conv=>whnf
 refine ⟨rfl,ixa_c H (fun x29 h30 H=>?_)⟩;conv=>whnf
 refine ⟨Nat.zero_le _,sto_c (f:=ItemItem.v) (es:=5) h30 (x':=x25) (fun _=>rfl) 0 (by omega) (Nat.le_of_ble_eq_true rfl) (by rfl) ?_⟩;conv=>whnf
 refine FootQ.mk ⟨rfl,?_⟩;conv=>whnf
 refine Ari.w ?_;conv=>whnf
 exact again_c [18,19,20,21,22,23,24,25,26,27,28,29,30,31,32,33,34,35,36,37,38,39,40,41,42,43,44,45,46,47,48,49,50,51,52] n13 1 [] (⟨_,_,H,rfl,rfl⟩) (Nat.lt_succ_self _) (Nat.le_of_ble_eq_true rfl) rfl (by simp only [maskF,setF,List.set_cons_zero,List.set_cons_succ,V.ren.renL,V.ren,renL_id _ a3_h.own] <;> rfl) (by simp only [maskF,setF,List.set_cons_zero,List.set_cons_succ,V.idlt.belowL,V.idlt,fun n=>idltL_up (n:=n) _ a3_h.own] <;> rfl) rfl (wkB_live0 rfl (cellsM_idlt (f:=ItemItem.v) (fun _=>rfl) _) rfl trivial)
theorem p_slices_insertionSortCmpFunc_item_Item__n (a0:List ItemItem) (hn0:a0=[]) (a1:Int) (a2:Int) (a3:ItemItem→ItemItem→Option Int) {a3_g:Nat} {a3_k:List V} (a3_h:Clo2 Tryz.prog a3_g a3_k ItemItem.v ItemItem.v V.i a3):CallsO Tryz.prog 183 [.sl (List.map ItemItem.v []) true,.i a1,.i a2,.clo (.func a3_g) a3_k] (fun _:List ItemItem=>V.tup []) (p_slices_insertionSortCmpFunc_item_Item_ a0 a1 a2 a3):=by
 refine callsO_comp mix Tryz.func183 gc183_ok fun r H=>?_
 rw [p_slices_insertionSortCmpFunc_item_Item_] at H
 conv=>whnf
 refine Ari.w ?_;conv=>whnf
 obtain ⟨o2,HL3,HQ4⟩:=bind_c H
 refine loop_c [8] [9,12,13,14,15,16,17,18,19,20,21,22,23,24,25,26,27,28,29,30,31,32,33,34,35,36,37,38,39,40,41,42,43,44,45,46,47,48,49,50,51,52] [9,12,13,14,15,16,17,18,19,20,21,22,23,24,25,26,27,28,29,30,31,32,33,34,35,36,37,38,39,40,41,42,43,44,45,46,47,48,49,50,51,52] (fun n vals st=>(∃ y6 y7,p_slices_insertionSortCmpFunc_item_Item__l1  a0 a3 a1 a2 n y6 y7=some o2∧vals=[.i y6]∧st=[])) fuel 0 [] (⟨_,_,HL3,rfl,rfl⟩) (Nat.zero_le _) rfl (by simp only [maskF,setF,List.set_cons_zero,List.set_cons_succ,V.ren.renL,V.ren,renL_id _ a3_h.own] <;> rfl) (by simp only [maskF,setF,List.set_cons_zero,List.set_cons_succ,V.idlt.belowL,V.idlt,fun n=>idltL_up (n:=n) _ a3_h.own] <;> rfl) rfl trivial ?_
 rintro (_ | n5) _ _ (⟨y6,y7,H,rfl,rfl⟩)
 ·rw [p_slices_insertionSortCmpFunc_item_Item__l1] at H;cases H
 rw [p_slices_insertionSortCmpFunc_item_Item__l1] at H
 conv=>whnf
 refine tst_d H (fun b8 H=>?_) (fun b8 H=>?_)
 ·conv=>whnf
  obtain rfl:=Option.some.inj H
  have H:=HQ4
  try dsimp only at H
  exact fin0_c (enc:=fun _:List ItemItem=>V.tup []) H (.inl rfl) .nil rfl rfl
 conv=>whnf
 obtain ⟨o10,HL11,HQ12⟩:=bind_c H
 refine loop_c [9] [18,19,20,21,22,23,24,25,26,27,28,29,30,31,32,33,34,35,36,37,38,39,40,41,42,43,44,45,46,47,48,49,50,51,52] [18,19,20,21,22,23,24,25,26,27,28,29,30,31,32,33,34,35,36,37,38,39,40,41,42,43,44,45,46,47,48,49,50,51,52] (fun n vals st=>(∃ y14 y15,p_slices_insertionSortCmpFunc_item_Item__l2  a0 a3 a1 n y14 y15=some o10∧vals=[.i y14]∧st=[])) fuel 0 [] (⟨_,_,HL11,rfl,rfl⟩) (Nat.zero_le _) rfl (by simp only [maskF,setF,List.set_cons_zero,List.set_cons_succ,V.ren.renL,V.ren,renL_id _ a3_h.own] <;> rfl) (by simp only [maskF,setF,List.set_cons_zero,List.set_cons_succ,V.idlt.belowL,V.idlt,fun n=>idltL_up (n:=n) _ a3_h.own] <;> rfl) rfl trivial ?_
 rintro (_ | n13) _ _ (⟨y14,y15,H,rfl,rfl⟩)
 ·rw [p_slices_insertionSortCmpFunc_item_Item__l2] at H;cases H
 rw [p_slices_insertionSortCmpFunc_item_Item__l2] at H
 conv=>whnf
 refine tst_c H (fun b16 H=>?_) (fun b16 H=>?_)
 ·conv=>whnf
  iterate 3 (refine Tst.T ?_;conv=>whnf)
  exact nil_arr (by rw [hn0];rfl) H
 conv=>whnf
 iterate 12 (refine Tst.F ?_;conv=>whnf)
 refine FootQ.mk ⟨rfl,?_⟩;conv=>whnf
 refine Tst.F ?_;conv=>whnf
 obtain rfl:=Option.some.inj H
 have H:=HQ12
 try dsimp only at H
 refine Ari.w ?_;conv=>whnf
 exact again_c [9,12,13,14,15,16,17,18,19,20,21,22,23,24,25,26,27,28,29,30,31,32,33,34,35,36,37,38,39,40,41,42,43,44,45,46,47,48,49,50,51,52] n5 0 [] (⟨_,_,H,rfl,rfl⟩) (Nat.lt_succ_self _) (Nat.zero_le _) rfl (by simp only [maskF,setF,List.set_cons_zero,List.set_cons_succ,V.ren.renL,V.ren,renL_id _ a3_h.own] <;> rfl) (by simp only [maskF,setF,List.set_cons_zero,List.set_cons_succ,V.idlt.belowL,V.idlt,fun n=>idltL_up (n:=n) _ a3_h.own] <;> rfl) rfl trivial
def gc139:BCode:=(.seq (R_ 0 [O_ 6 (.mv (i_ 20)) 0]) (.seq (R_ 0 [O_ 10 (.mv (t_ 6)) 0,O_ 7 (.mv (i_ 0)) 0,O_ 8 (.mv (t_ 10)) 0]) (.seq (.block 0 (.loop (.seq (.seq (R_ 0 [O_ 11 (.mv (t_ 8)) 0,O_ 12 (.mv (t_ 1)) 0,O_ 13 (.bin .leq (t_ 11) (t_ 12)) 0]) (.cond (t_ 13) .skip (.exit 0))) (.block 1 (.seq (R_ 0 [O_ 14 (.mv (t_ 0)) 0,O_ 15 (.mv (t_ 7)) 0,O_ 16 (.mv (t_ 8)) 0,O_ 17 (.mv (t_ 2)) 0,O_ 18 (.cl 183 [(t_ 14),(t_ 15),(t_ 16),(t_ 17)]) 0]) (.seq (R_ 0 [O_ 19 (.mv (t_ 8)) 0,O_ 7 (.mv (t_ 19)) 0]) (R_ 0 [O_ 20 (.mv (t_ 8)) 0,O_ 21 (.mv (t_ 6)) 0,O_ 22 (.bin .add (t_ 20) (t_ 21)) 0,O_ 8 (.mv (t_ 22)) 0]))))))) (.seq (R_ 0 [O_ 23 (.mv (t_ 0)) 0,O_ 24 (.mv (t_ 7)) 0,O_ 25 (.mv (t_ 1)) 0,O_ 26 (.mv (t_ 2)) 0,O_ 27 (.cl 183 [(t_ 23),(t_ 24),(t_ 25),(t_ 26)]) 0]) (.block 2 (.loop (.seq (.seq (R_ 0 [O_ 28 (.mv (t_ 6)) 0,O_ 29 (.mv (t_ 1)) 0,O_ 30 (.bin .lss (t_ 28) (t_ 29)) 0]) (.cond (t_ 30) .skip (.exit 2))) (.block 3 (.seq (R_ 0 [O_ 31 (.mv (t_ 6)) 0,O_ 32 (.bin .mul (i_ 2) (t_ 31)) 0,O_ 7 (.mv (i_ 0)) 0,O_ 8 (.mv (t_ 32)) 0]) (.seq (.block 4 (.loop (.seq (.seq (R_ 0 [O_ 33 (.mv (t_ 8)) 0,O_ 34 (.mv (t_ 1)) 0,O_ 35 (.bin .leq (t_ 33) (t_ 34)) 0]) (.cond (t_ 35) .skip (.exit 4))) (.block 5 (.seq (R_ 0 [O_ 36 (.mv (t_ 0)) 0,O_ 37 (.mv (t_ 7)) 0,O_ 38 (.mv (t_ 7)) 0,O_ 39 (.mv (t_ 6)) 0,O_ 40 (.bin .add (t_ 38) (t_ 39)) 0,O_ 41 (.mv (t_ 8)) 0,O_ 42 (.mv (t_ 2)) 0,O_ 43 (.cl 184 [(t_ 36),(t_ 37),(t_ 40),(t_ 41),(t_ 42)]) 0]) (.seq (R_ 0 [O_ 44 (.mv (t_ 8)) 0,O_ 7 (.mv (t_ 44)) 0]) (R_ 0 [O_ 45 (.mv (t_ 8)) 0,O_ 46 (.mv (t_ 6)) 0,O_ 47 (.bin .mul (i_ 2) (t_ 46)) 0,O_ 48 (.bin .add (t_ 45) (t_ 47)) 0,O_ 8 (.mv (t_ 48)) 0]))))))) (.seq (.seq (R_ 0 [O_ 49 (.mv (t_ 7)) 0,O_ 50 (.mv (t_ 6)) 0,O_ 51 (.bin .add (t_ 49) (t_ 50)) 0,O_ 9 (.mv (t_ 51)) 0]) (.seq (R_ 0 [O_ 52 (.mv (t_ 9)) 0,O_ 53 (.mv (t_ 1)) 0,O_ 54 (.bin .lss (t_ 52) (t_ 53)) 0]) (.cond (t_ 54) (R_ 0 [O_ 55 (.mv (t_ 0)) 0,O_ 56 (.mv (t_ 7)) 0,O_ 57 (.mv (t_ 9)) 0,O_ 58 (.mv (t_ 1)) 0,O_ 59 (.mv (t_ 2)) 0,O_ 60 (.cl 184 [(t_ 55),(t_ 56),(t_ 57),(t_ 58),(t_ 59)]) 0]) .skip))) (R_ 0 [O_ 61 (.mv (t_ 6)) 0,O_ 62 (.bin .mul (t_ 61) (i_ 2)) 0,O_ 6 (.mv (t_ 62)) 0]))))))))))))
theorem gc139_ok:compF Tryz.prog Tryz.f139=some (gc139.er,63,[]):=by unfold gc139;kernel_rfl
theorem p_slices_stableCmpFunc_item_Item__v (a0:List ItemItem) (a1:Int) (a2:ItemItem→ItemItem→Option Int) {a2_g:Nat} {a2_k:List V} (a2_h:Clo2 Tryz.prog a2_g a2_k ItemItem.v ItemItem.v V.i a2):InPl Tryz.prog 139 ItemItem.v 5 [.i a1,.clo (.func a2_g) a2_k] a0 (p_slices_stableCmpFunc_item_Item_ a0 a1 a2):=by
 refine inPl_comp mix Tryz.func139 gc139_ok fun r H=>?_
 rw [p_slices_stableCmpFunc_item_Item_] at H
 conv=>whnf
 obtain ⟨o2,HL3,HQ4⟩:=bind_c H
 refine loop_c [7,8] [11,12,13,14,15,16,17,18,19,20,21,22] [11,12,13,14,15,16,17,18,19,20,21,22] (fun n vals st=>(∃ y6 y7 y8,p_slices_stableCmpFunc_item_Item__l1  a0 a2 a1 n y6 y7 y8=some o2∧vals=[.i y6,.i y7]∧st=[.live (cellsM ItemItem.v y8) 0])) fuel 1 [] (⟨_,_,_,HL3,rfl,rfl⟩) (Nat.le_of_ble_eq_true rfl) rfl (by simp only [maskF,setF,List.set_cons_zero,List.set_cons_succ,V.ren.renL,V.ren,renL_id _ a2_h.own] <;> rfl) (by simp only [maskF,setF,List.set_cons_zero,List.set_cons_succ,V.idlt.belowL,V.idlt,fun n=>idltL_up (n:=n) _ a2_h.own] <;> rfl) rfl (wkB_live0 rfl (cellsM_idlt (f:=ItemItem.v) (fun _=>rfl) _) rfl trivial) ?_
 rintro (_ | n5) _ _ (⟨y6,y7,y8,H,rfl,rfl⟩)
 ·rw [p_slices_stableCmpFunc_item_Item__l1] at H;cases H
 rw [p_slices_stableCmpFunc_item_Item__l1] at H
 conv=>whnf
 refine tst_c H (fun b9 H=>?_) (fun b9 H=>?_)
 ·conv=>whnf
  refine askIn_c (f:=ItemItem.v) (p_slices_insertionSortCmpFunc_item_Item__v _ _ _ _ a2_h) H (by simp only [V.idlt.belowL,V.idlt,a2_h.own] <;> rfl) (fun _=>rfl) (fun _=>rfl) rfl (fun l11 h10 H=>?_);conv=>whnf
  refine Ari.w ?_;conv=>whnf
  exact again_c [11,12,13,14,15,16,17,18,19,20,21,22] n5 1 [] (⟨_,_,_,H,rfl,rfl⟩) (Nat.lt_succ_self _) (Nat.le_of_ble_eq_true rfl) rfl (by simp only [maskF,setF,List.set_cons_zero,List.set_cons_succ,V.ren.renL,V.ren,renL_id _ a2_h.own] <;> rfl) (by simp only [maskF,setF,List.set_cons_zero,List.set_cons_succ,V.idlt.belowL,V.idlt,fun n=>idltL_up (n:=n) _ a2_h.own] <;> rfl) rfl (wkB_live0 rfl (cellsM_idlt (f:=ItemItem.v) (fun _=>rfl) _) rfl trivial)
 conv=>whnf
 obtain rfl:=Option.some.inj H
 have H:=HQ4
 try dsimp only at H
 refine askIn_c (f:=ItemItem.v) (p_slices_insertionSortCmpFunc_item_Item__v _ _ _ _ a2_h) H (by simp only [V.idlt.belowL,V.idlt,a2_h.own] <;> rfl) (fun _=>rfl) (fun _=>rfl) rfl (fun l13 h12 H=>?_);conv=>whnf
 obtain ⟨o15,HL16,HQ17⟩:=bind_c H
 refine loop_c [6] [7,8,9,28,29,30,31,32,33,34,35,36,37,38,39,40,41,42,43,44,45,46,47,48,49,50,51,52,53,54,55,56,57,58,59,60,61,62,23] [7,8,9,28,29,30,31,32,33,34,35,36,37,38,39,40,41,42,43,44,45,46,47,48,49,50,51,52,53,54,55,56,57,58,59,60,61,62,23] (fun n vals st=>(∃ y19,p_slices_stableCmpFunc_item_Item__l2  a1 n y19=some o15∧vals=[.i y19]∧st=[.live (cellsM ItemItem.v l13) 0])) fuel 1 [] (⟨_,HL16,rfl,rfl⟩) (Nat.le_of_ble_eq_true rfl) rfl (by simp only [maskF,setF,List.set_cons_zero,List.set_cons_succ,V.ren.renL,V.ren,renL_id _ a2_h.own] <;> rfl) (by simp only [maskF,setF,List.set_cons_zero,List.set_cons_succ,V.idlt.belowL,V.idlt,fun n=>idltL_up (n:=n) _ a2_h.own] <;> rfl) rfl (wkB_live0 rfl (cellsM_idlt (f:=ItemItem.v) (fun _=>rfl) _) rfl trivial) ?_
 rintro (_ | n18) _ _ (⟨y19,H,rfl,rfl⟩)
 ·rw [p_slices_stableCmpFunc_item_Item__l2] at H;cases H
 rw [p_slices_stableCmpFunc_item_Item__l2] at H
 conv=>whnf
 refine tst_d H (fun b20 H=>?_) (fun b20 H=>?_)
 ·conv=>whnf
  obtain rfl:=Option.some.inj H
  have H:=HQ17
  try dsimp only at H
  exact inFin_c (f:=ItemItem.v) (es:=5) (l:=a0) (.inl rfl) H rfl (fun _=>rfl)
 conv=>whnf
 refine Ari.w ?_;conv=>whnf
 obtain ⟨o22,HL23,HQ24⟩:=bind_c H
 refine loop_c [7,8] [33,34,35,36,37,38,39,40,41,42,43,44,45,46,47,48] [33,34,35,36,37,38,39,40,41,42,43,44,45,46,47,48] (fun n vals st=>(p_slices_stableCmpFunc_item_Item__l3  a1 (w64 ((2:Int) * y19)) n=some o22∧vals=[.i (0:Int),.i (w64 ((2:Int) * y19))]∧st=[.live (cellsM ItemItem.v l13) 0])) fuel 1 [] (⟨HL23,rfl,rfl⟩) (Nat.le_of_ble_eq_true rfl) rfl (by simp only [maskF,setF,List.set_cons_zero,List.set_cons_succ,V.ren.renL,V.ren,renL_id _ a2_h.own] <;> rfl) (by simp only [maskF,setF,List.set_cons_zero,List.set_cons_succ,V.idlt.belowL,V.idlt,fun n=>idltL_up (n:=n) _ a2_h.own] <;> rfl) rfl (wkB_live0 rfl (cellsM_idlt (f:=ItemItem.v) (fun _=>rfl) _) rfl trivial) ?_
 rintro (_ | n25) _ _ (⟨H,rfl,rfl⟩)
 ·rw [p_slices_stableCmpFunc_item_Item__l3] at H;cases H
 rw [p_slices_stableCmpFunc_item_Item__l3] at H
 conv=>whnf
 refine tst_c H (fun b26 H=>?_) (fun b26 H=>?_)
 ·conv=>whnf
  refine Ari.w ?_;conv=>whnf
  cases H
 conv=>whnf
 obtain rfl:=Option.some.inj H
 have H:=HQ24
 try dsimp only at H
 refine Ari.w ?_;conv=>whnf
 refine tst_c H (fun b27 H=>?_) (fun b27 H=>?_)
 ·conv=>whnf
  cases H
 conv=>whnf
 refine Ari.w ?_;conv=>whnf
 exact again_c [7,8,9,28,29,30,31,32,33,34,35,36,37,38,39,40,41,42,43,44,45,46,47,48,49,50,51,52,53,54,55,56,57,58,59,60,61,62,23] n18 1 [] (⟨_,H,rfl,rfl⟩) (Nat.lt_succ_self _) (Nat.le_of_ble_eq_true rfl) rfl (by simp only [maskF,setF,List.set_cons_zero,List.set_cons_succ,V.ren.renL,V.ren,renL_id _ a2_h.own] <;> rfl) (by simp only [maskF,setF,List.set_cons_zero,List.set_cons_succ,V.idlt.belowL,V.idlt,fun n=>idltL_up (n:=n) _ a2_h.own] <;> rfl) rfl (wkB_live0 rfl (cellsM_idlt (f:=ItemItem.v) (fun _=>rfl) _) rfl trivial)
theorem p_slices_stableCmpFunc_item_Item__n (a0:List ItemItem) (hn0:a0=[]) (a1:Int) (a2:ItemItem→ItemItem→Option Int) {a2_g:Nat} {a2_k:List V} (a2_h:Clo2 Tryz.prog a2_g a2_k ItemItem.v ItemItem.v V.i a2):CallsO Tryz.prog 139 [.sl (List.map ItemItem.v []) true,.i a1,.clo (.func a2_g) a2_k] (fun _:List ItemItem=>V.tup []) (p_slices_stableCmpFunc_item_Item_ a0 a1 a2):=by
 refine callsO_comp mix Tryz.func139 gc139_ok fun r H=>?_
 rw [p_slices_stableCmpFunc_item_Item_] at H
 conv=>whnf
 obtain ⟨o2,HL3,HQ4⟩:=bind_c H
 refine loop_c [7,8] [11,12,13,14,15,16,17,18,19,20,21,22] [11,12,13,14,15,16,17,18,19,20,21,22] (fun n vals st=>(∃ y6 y7 y8,p_slices_stableCmpFunc_item_Item__l1  a0 a2 a1 n y6 y7 y8=some o2∧vals=[.i y6,.i y7]∧st=[])) fuel 0 [] (⟨_,_,_,HL3,rfl,rfl⟩) (Nat.zero_le _) rfl (by simp only [maskF,setF,List.set_cons_zero,List.set_cons_succ,V.ren.renL,V.ren,renL_id _ a2_h.own] <;> rfl) (by simp only [maskF,setF,List.set_cons_zero,List.set_cons_succ,V.idlt.belowL,V.idlt,fun n=>idltL_up (n:=n) _ a2_h.own] <;> rfl) rfl trivial ?_
 rintro (_ | n5) _ _ (⟨y6,y7,y8,H,rfl,rfl⟩)
 ·rw [p_slices_stableCmpFunc_item_Item__l1] at H;cases H
 rw [p_slices_stableCmpFunc_item_Item__l1] at H
 conv=>whnf
 refine tst_c H (fun b9 H=>?_) (fun b9 H=>?_)
 ·conv=>whnf
  refine askInN_c (n:=(List.length a0)) (by rw [hn0];rfl) (fun y hy=>p_slices_insertionSortCmpFunc_item_Item__n y hy _ _ _ a2_h) H (by simp only [V.idlt.belowL,V.idlt,a2_h.own] <;> rfl) (fun l11 h10 H=>?_);conv=>whnf
  refine Ari.w ?_;conv=>whnf
  exact again_c [11,12,13,14,15,16,17,18,19,20,21,22] n5 0 [] (⟨_,_,_,H,rfl,rfl⟩) (Nat.lt_succ_self _) (Nat.zero_le _) rfl (by simp only [maskF,setF,List.set_cons_zero,List.set_cons_succ,V.ren.renL,V.ren,renL_id _ a2_h.own] <;> rfl) (by simp only [maskF,setF,List.set_cons_zero,List.set_cons_succ,V.idlt.belowL,V.idlt,fun n=>idltL_up (n:=n) _ a2_h.own] <;> rfl) rfl trivial
 conv=>whnf
 obtain rfl:=Option.some.inj H
 have H:=HQ4
 try dsimp only at H
 refine askInN_c (n:=(List.length a0)) (by rw [hn0];rfl) (fun y hy=>p_slices_insertionSortCmpFunc_item_Item__n y hy _ _ _ a2_h) H (by simp only [V.idlt.belowL,V.idlt,a2_h.own] <;> rfl) (fun l13 h12 H=>?_);conv=>whnf
 obtain ⟨o15,HL16,HQ17⟩:=bind_c H
 refine loop_c [6] [7,8,9,28,29,30,31,32,33,34,35,36,37,38,39,40,41,42,43,44,45,46,47,48,49,50,51,52,53,54,55,56,57,58,59,60,61,62] [7,8,9,28,29,30,31,32,33,34,35,36,37,38,39,40,41,42,43,44,45,46,47,48,49,50,51,52,53,54,55,56,57,58,59,60,61,62] (fun n vals st=>(∃ y19,p_slices_stableCmpFunc_item_Item__l2  a1 n y19=some o15∧vals=[.i y19]∧st=[])) fuel 0 [] (⟨_,HL16,rfl,rfl⟩) (Nat.zero_le _) rfl (by simp only [maskF,setF,List.set_cons_zero,List.set_cons_succ,V.ren.renL,V.ren,renL_id _ a2_h.own] <;> rfl) (by simp only [maskF,setF,List.set_cons_zero,List.set_cons_succ,V.idlt.belowL,V.idlt,fun n=>idltL_up (n:=n) _ a2_h.own] <;> rfl) rfl trivial ?_
 rintro (_ | n18) _ _ (⟨y19,H,rfl,rfl⟩)
 ·rw [p_slices_stableCmpFunc_item_Item__l2] at H;cases H
 rw [p_slices_stableCmpFunc_item_Item__l2] at H
 conv=>whnf
 refine tst_d H (fun b20 H=>?_) (fun b20 H=>?_)
 ·conv=>whnf
  obtain rfl:=Option.some.inj H
  have H:=HQ17
  try dsimp only at H
  exact fin0_c (enc:=fun _:List ItemItem=>V.tup []) H (.inl rfl) .nil rfl rfl
 conv=>whnf
 refine Ari.w ?_;conv=>whnf
 obtain ⟨o22,HL23,HQ24⟩:=bind_c H
 refine loop_c [7,8] [33,34,35,36,37,38,39,40,41,42,43,44,45,46,47,48] [33,34,35,36,37,38,39,40,41,42,43,44,45,46,47,48] (fun n vals st=>(p_slices_stableCmpFunc_item_Item__l3  a1 (w64 ((2:Int) * y19)) n=some o22∧vals=[.i (0:Int),.i (w64 ((2:Int) * y19))]∧st=[])) fuel 0 [] (⟨HL23,rfl,rfl⟩) (Nat.zero_le _) rfl (by simp only [maskF,setF,List.set_cons_zero,List.set_cons_succ,V.ren.renL,V.ren,renL_id _ a2_h.own] <;> rfl) (by simp only [maskF,setF,List.set_cons_zero,List.set_cons_succ,V.idlt.belowL,V.idlt,fun n=>idltL_up (n:=n) _ a2_h.own] <;> rfl) rfl trivial ?_
 rintro (_ | n25) _ _ (⟨H,rfl,rfl⟩)
 ·rw [p_slices_stableCmpFunc_item_Item__l3] at H;cases H
 rw [p_slices_stableCmpFunc_item_Item__l3] at H
 conv=>whnf
 refine tst_c H (fun b26 H=>?_) (fun b26 H=>?_)
 ·conv=>whnf
  refine Ari.w ?_;conv=>whnf
  cases H
 conv=>whnf
 obtain rfl:=Option.some.inj H
 have H:=HQ24
 try dsimp only at H
 refine Ari.w ?_;conv=>whnf
 refine tst_c H (fun b27 H=>?_) (fun b27 H=>?_)
 ·conv=>whnf
  cases H
 conv=>whnf
 refine Ari.w ?_;conv=>whnf
 exact again_c [7,8,9,28,29,30,31,32,33,34,35,36,37,38,39,40,41,42,43,44,45,46,47,48,49,50,51,52,53,54,55,56,57,58,59,60,61,62] n18 0 [] (⟨_,H,rfl,rfl⟩) (Nat.lt_succ_self _) (Nat.zero_le _) rfl (by simp only [maskF,setF,List.set_cons_zero,List.set_cons_succ,V.ren.renL,V.ren,renL_id _ a2_h.own] <;> rfl) (by simp only [maskF,setF,List.set_cons_zero,List.set_cons_succ,V.idlt.belowL,V.idlt,fun n=>idltL_up (n:=n) _ a2_h.own] <;> rfl) rfl trivial
end Go.Proofs.YtmmmcpeickfolaaGreat

namespace Go.Proofs.YtmmmcpeickfolaaGreat
open Go.RowKit Go.Lib
set_option maxHeartbeats 4000000
set_option maxRecDepth 100000
theorem cloS89 (A:Addr) (n c:Nat) (cs:List Value) (w:World) (hn:0 < n) (hbig:n≤1000000) (hcl:cs.length=n * 5) (hcs:∀ j v,cs[j]?=some v→w.cell? (A.add j)=some v) (h1:∀ v ∈ cs,v.oneCell'=true) :
  Calls Tryz.prog 89 #[.slice (some A) n c] w fun e w'=>∃ ZS:Array Value,e=.returned (.slice (some ⟨w.heap.size + 1,0,none⟩) n (grownCap (w.alloc (.cells #[] 110)) n 0 110))∧w'=(w.alloc (.cells #[] 110)).drew.alloc (.cells (cs.toArray++ZS) 110)∧grownCap (w.alloc (.cells #[] 110)) n 0 110 * 5≤(cs.toArray++ZS).size:=by
 have tS:Tryz.prog.underlying 96=some (.slice 110):=by kernel_rfl
 have uS:=run_underlying tS
 have qS:∀ (w:World) (a:Option Addr) (n c n' c' : Nat),(binOp .eql 96 (.slice a n c) (.slice none n' c')).run Tryz.prog w=.ok (.bool a.isNone) w:=fun w a n c n' c'=>Lib.run_eql_slice_nil w _ _ a n c n' c' tS
 have mixed:Tryz.prog.follows .mixedOrders=true:=mix
 obtain ⟨i0,z,hi0,hzs,hz0,hzc,hzb⟩:=infB_ok (P:=Tryz.prog) (e:=110) (es:=5) (by kernel_rfl)
 have hsrc:Src Tryz.prog i0.size 96 (.slice (some A) n c) n cs (w.alloc (.cells #[] 110)):=by
  rw [hzs]
  exact Src.ofSlice _ tS A n c cs (by omega) (fun j u hj=>Lib.cell?_alloc_some _ (hcs j u hj)) h1
 have hold:(Builtin.firstCells i0.size 0 (.slice (some ⟨w.heap.size,0,none⟩) 0 0)).run Tryz.prog (w.alloc (.cells #[] 110)).drew=.ok ([]:List Value).toArray (w.alloc (.cells #[] 110)).drew:=by
  rw [hzs]
  exact run_firstCells_some _ 5 0 ⟨w.heap.size,0,none⟩ 0 0 [] (by simp) (fun j v hj=>by simp at hj)
 have hrun:∀ ty,(Builtin.append_ #[96,96] ty #[.slice (some ⟨w.heap.size,0,none⟩) 0 0,.slice (some A) n c]).run Tryz.prog (w.alloc (.cells #[] 110))=_:=fun ty =>
  run_append_grow_src (w.alloc (.cells #[] 110)) 96 96 ty 110 i0 z tS hi0 hz0 (some ⟨w.heap.size,0,none⟩) 0 0 [] hold _ n cs hsrc (by omega) (by omega) (growslice_fits (by omega) (grown_bound (by omega) hzb))
 simp only [Nat.zero_add,List.nil_append,World.size_alloc] at hrun
 have hge:=grownCap_ge (w.alloc (.cells #[] 110)) n 0 110
 have hsz:grownCap (w.alloc (.cells #[] 110)) n 0 110 * 5≤(cs.toArray++Builtin.zeroCells z.cells (grownCap (w.alloc (.cells #[] 110)) n 0 110 - n)).size:=by
  simp only [Array.size_append,size_zeroCells,hzc,List.size_toArray,hcl]
  omega
 obtain ⟨ZS,hrun,hsz⟩ : ∃ ZS:Array Value,(∀ ty,(Builtin.append_ #[96,96] ty #[.slice (some ⟨w.heap.size,0,none⟩) 0 0,.slice (some A) n c]).run Tryz.prog (w.alloc (.cells #[] 110))=.ok (.slice (some ⟨w.heap.size + 1,0,none⟩) n (grownCap (w.alloc (.cells #[] 110)) n 0 110)) ((w.alloc (.cells #[] 110)).drew.alloc (.cells (cs.toArray++ZS) 110)))∧grownCap (w.alloc (.cells #[] 110)) n 0 110 * 5≤(cs.toArray++ZS).size:=⟨_,hrun,hsz⟩
 have main:Calls Tryz.prog 89 #[.slice (some A) n c] w fun e w'=>e=.returned (.slice (some ⟨w.heap.size + 1,0,none⟩) n (grownCap (w.alloc (.cells #[] 110)) n 0 110))∧w'=(w.alloc (.cells #[] 110)).drew.alloc (.cells (cs.toArray++ZS) 110):=by
  clear hsz hold hsrc hz0 hcs
  go_enter Tryz.func89,Tryz.ntmps89
  go_wp2_with (at_builtin;refine Lib.wpList_append_run _ rfl _ _ _ _ rfl _ _ rfl rfl _ _ (hrun _) ?_)
  go_ret
  exact ⟨rfl,rfl⟩
 refine main.mono ?_
 rintro e w' ⟨rfl,rfl⟩
 exact ⟨ZS,rfl,rfl,hsz⟩
theorem cloZ89 (A:Addr) (c:Nat) (w:World):Calls Tryz.prog 89 #[.slice (some A) 0 c] w fun e w'=>e=.returned (.slice (some ⟨w.heap.size,0,none⟩) 0 0)∧∃ q,w'=(w.alloc (.cells #[] 110)).drewN q:=by
 have tS:Tryz.prog.underlying 96=some (.slice 110):=by kernel_rfl
 have uS:=run_underlying tS
 have qS:∀ (w:World) (a:Option Addr) (n c n' c' : Nat),(binOp .eql 96 (.slice a n c) (.slice none n' c')).run Tryz.prog w=.ok (.bool a.isNone) w:=fun w a n c n' c'=>Lib.run_eql_slice_nil w _ _ a n c n' c' tS
 have mixed:Tryz.prog.follows .mixedOrders=true:=mix
 obtain ⟨i0,z,hi0,hzs,hz0,hzc,hzb⟩:=infB_ok (P:=Tryz.prog) (e:=110) (es:=5) (by kernel_rfl)
 have hsz:(Tryz.prog.info? 110).map (·.size)=some 5:=by rw [hi0];simp [hzs]
 have hrun:∀ ty,(Builtin.append_ #[96,96] ty #[.slice (some ⟨w.heap.size,0,none⟩) 0 0,.slice (some A) 0 c]).run Tryz.prog (w.alloc (.cells #[] 110))=.ok (.slice (some ⟨w.heap.size,0,none⟩) 0 0) (w.alloc (.cells #[] 110)):=fun ty=>by
  have hl:∀ (x:Addr) (W:World),(loadCells x 0).run Tryz.prog W=.ok #[] W:=fun x W=>by simpa using run_loadCells_list (P:=Tryz.prog) W x [] (by simp)
  simp [Builtin.append_,uS,Builtin.lenOf,Builtin.firstCells,sizeOf,typeInfo,hi0,hl,storeCells]
 have main:Calls Tryz.prog 89 #[.slice (some A) 0 c] w fun e w'=>e=.returned (.slice (some ⟨w.heap.size,0,none⟩) 0 0)∧w'=w.alloc (.cells #[] 110):=by
  go_enter Tryz.func89,Tryz.ntmps89
  go_wp2_with (at_builtin;refine Lib.wpList_append_run _ rfl _ _ _ _ rfl _ _ rfl rfl _ _ (hrun _) ?_)
  go_ret
  exact ⟨rfl,rfl⟩
 refine main.mono ?_
 rintro e w' ⟨rfl,rfl⟩
 exact ⟨rfl,0,rfl⟩
theorem cloN89 (n c:Nat) (w:World):Calls Tryz.prog 89 #[.slice none n c] w fun e w'=>e=.returned (.slice none 0 0)∧w'=w:=by
 have tS:Tryz.prog.underlying 96=some (.slice 110):=by kernel_rfl
 have uS:=run_underlying tS
 have qS:∀ (w:World) (a:Option Addr) (n c n' c' : Nat),(binOp .eql 96 (.slice a n c) (.slice none n' c')).run Tryz.prog w=.ok (.bool a.isNone) w:=fun w a n c n' c'=>Lib.run_eql_slice_nil w _ _ a n c n' c' tS
 have mixed:Tryz.prog.follows .mixedOrders=true:=mix
 go_enter Tryz.func89,Tryz.ntmps89
 go_wp2
 go_ret
 exact ⟨rfl,rfl⟩
theorem cloR89_v:CloRoads Tryz.prog 89 5 110:=⟨cloS89,cloZ89,cloN89⟩
end Go.Proofs.YtmmmcpeickfolaaGreat

namespace Go.Proofs.YtmmmcpeickfolaaGreat
open Go.RowKit
set_option maxRecDepth 100000
set_option maxHeartbeats 4000000
def gc90:BCode:=(R_ 0 [O_ 4 (.mv (t_ 0)) 0,O_ 5 (.mv (t_ 0)) 0,O_ 6 (.lens (t_ 5)) 0,O_ 7 (.mv (t_ 1)) 0,O_ 8 (.cl 139 [(t_ 4),(t_ 6),(t_ 7)]) 0])
theorem gc90_ok:compF Tryz.prog Tryz.f90=some (gc90.er,9,[]):=by unfold gc90;kernel_rfl
theorem p_slices_SortStableFunc_item_Item_v (a0:List ItemItem) (a1:ItemItem→ItemItem→Option Int) {a1_g:Nat} {a1_k:List V} (a1_h:Clo2 Tryz.prog a1_g a1_k ItemItem.v ItemItem.v V.i a1):InPl Tryz.prog 90 ItemItem.v 5 [.clo (.func a1_g) a1_k] a0 (p_slices_SortStableFunc_item_Item a0 a1):=by
 refine inPl_comp mix Tryz.func90 gc90_ok fun r H=>?_
 rw [p_slices_SortStableFunc_item_Item] at H
 conv=>whnf
 refine askIn_c (f:=ItemItem.v) (p_slices_stableCmpFunc_item_Item__v _ _ _ a1_h) H (by simp only [V.idlt.belowL,V.idlt,a1_h.own] <;> rfl) (fun _=>rfl) (fun _=>rfl) rfl (fun l2 h1 H=>?_);conv=>whnf
 exact inFin_c (f:=ItemItem.v) (es:=5) (l:=a0) (.inl rfl) H rfl (fun _=>rfl)
theorem p_slices_SortStableFunc_item_Item_n (a0:List ItemItem) (hn0:a0=[]) (a1:ItemItem→ItemItem→Option Int) {a1_g:Nat} {a1_k:List V} (a1_h:Clo2 Tryz.prog a1_g a1_k ItemItem.v ItemItem.v V.i a1):CallsO Tryz.prog 90 [.sl (List.map ItemItem.v []) true,.clo (.func a1_g) a1_k] (fun _:List ItemItem=>V.tup []) (p_slices_SortStableFunc_item_Item a0 a1):=by
 refine callsO_comp mix Tryz.func90 gc90_ok fun r H=>?_
 rw [p_slices_SortStableFunc_item_Item] at H
 conv=>whnf
 refine LenQ.ok ?_;conv=>whnf
 rw [show (((List.map ItemItem.v ([]:List ItemItem)).length:Nat):Int)=(List.length a0:Int) by rw [hn0];rfl]
 refine askInN_c (n:=(List.length a0)) (by rw [hn0];rfl) (fun y hy=>p_slices_stableCmpFunc_item_Item__n y hy _ _ a1_h) H (by simp only [V.idlt.belowL,V.idlt,a1_h.own] <;> rfl) (fun l2 h1 H=>?_);conv=>whnf
 exact fin0_c (enc:=fun _:List ItemItem=>V.tup []) H (.inl rfl) .nil rfl rfl
def gc186:BCode:=(.seq (R_ 0 [O_ 2 (.mv (b_ false)) 0]) (.seq (R_ 0 [O_ 3 (.mv (t_ 0)) 0,O_ 4 (.mv (t_ 0)) 0,O_ 5 (.bin .neq (t_ 3) (t_ 4)) 0,O_ 2 (.mv (t_ 5)) 0]) .ret))
theorem gc186_ok:compF Tryz.prog Tryz.f186=some (gc186.er,6,[.tmp 2]):=by unfold gc186;kernel_rfl
theorem p_cmp_isNaN_int__v (a0:Int):CallsO Tryz.prog 186 [.i a0] V.b (p_cmp_isNaN_int_ a0):=by
 refine callsO_comp mix Tryz.func186 gc186_ok fun r H=>?_
 rw [p_cmp_isNaN_int_] at H
 conv=>whnf
 exact fb_ H
def gc142:BCode:=(.seq (R_ 0 [O_ 4 (.mv (i_ 0)) 0]) (.seq (R_ 0 [O_ 7 (.mv (t_ 0)) 0,O_ 8 (.cl 186 [(t_ 7)]) 0,O_ 5 (.mv (t_ 8)) 0]) (.seq (R_ 0 [O_ 9 (.mv (t_ 1)) 0,O_ 10 (.cl 186 [(t_ 9)]) 0,O_ 6 (.mv (t_ 10)) 0]) (.seq (.seq (R_ 0 [O_ 11 (.mv (t_ 5)) 0]) (.cond (t_ 11) (.seq (.seq (R_ 0 [O_ 12 (.mv (t_ 6)) 0]) (.cond (t_ 12) (.seq (R_ 0 [O_ 4 (.mv (i_ 0)) 0]) .ret) .skip)) (.seq (R_ 0 [O_ 4 (.mv (.const (.int .i64 (-1)))) 0]) .ret)) .skip)) (.seq (.seq (R_ 0 [O_ 13 (.mv (t_ 6)) 0]) (.cond (t_ 13) (.seq (R_ 0 [O_ 4 (.mv (i_ 1)) 0]) .ret) .skip)) (.seq (.seq (R_ 0 [O_ 14 (.mv (t_ 0)) 0,O_ 15 (.mv (t_ 1)) 0,O_ 16 (.bin .lss (t_ 14) (t_ 15)) 0]) (.cond (t_ 16) (.seq (R_ 0 [O_ 4 (.mv (.const (.int .i64 (-1)))) 0]) .ret) .skip)) (.seq (.seq (R_ 0 [O_ 17 (.mv (t_ 0)) 0,O_ 18 (.mv (t_ 1)) 0,O_ 19 (.bin .gtr (t_ 17) (t_ 18)) 0]) (.cond (t_ 19) (.seq (R_ 0 [O_ 4 (.mv (i_ 1)) 0]) .ret) .skip)) (.seq (R_ 0 [O_ 4 (.mv (i_ 0)) 0]) .ret))))))))
theorem gc142_ok:compF Tryz.prog Tryz.f142=some (gc142.er,20,[.tmp 4]):=by unfold gc142;kernel_rfl
theorem p_cmp_Compare_int__v (a0:Int) (a1:Int):CallsO Tryz.prog 142 [.i a0,.i a1] V.i (p_cmp_Compare_int_ a0 a1):=by
 refine callsO_comp mix Tryz.func142 gc142_ok fun r H=>?_
 rw [p_cmp_Compare_int_] at H
 conv=>whnf
 refine ask_c (p_cmp_isNaN_int__v _) H rfl rfl (fun v1 H=>?_);conv=>whnf
 refine ask_c (p_cmp_isNaN_int__v _) H rfl rfl (fun v2 H=>?_);conv=>whnf
 refine tst_c H (fun b3 H=>?_) (fun b3 H=>?_)
 ·conv=>whnf
  refine tst_c H (fun b4 H=>?_) (fun b4 H=>?_)
  ·conv=>whnf
   exact fi_ H
  conv=>whnf
  exact fi_ H
 conv=>whnf
 refine tst_c H (fun b5 H=>?_) (fun b5 H=>?_)
 ·conv=>whnf
  exact fi_ H
 conv=>whnf
 refine tst_c H (fun b6 H=>?_) (fun b6 H=>?_)
 ·conv=>whnf
  exact fi_ H
 conv=>whnf
 refine tst_c H (fun b7 H=>?_) (fun b7 H=>?_)
 ·conv=>whnf
  exact fi_ H
 conv=>whnf
 exact fi_ H
def gc140:BCode:=(.seq (R_ 0 [O_ 2 (.mv (i_ 0)) 0]) (.seq (R_ 0 [O_ 3 (.mv (i_ 0)) 0]) (.seq (.seq (R_ 0 [O_ 6 (.mv (t_ 0)) 0,O_ 7 (.lens (t_ 6)) 0,O_ 8 (.mv (i_ 0)) 0]) (.block 0 (.loop (.seq (R_ 0 [O_ 9 (.bin .lss (t_ 8) (t_ 7)) 0]) (.seq (.cond (t_ 9) .skip (.exit 0)) (.seq (.block 1 (.seq (R_ 0 [O_ 10 (.ixs 1 (t_ 6) (t_ 8)) 0,O_ 11 (.ld 1 false (t_ 10)) 0,O_ 5 (.mv (t_ 11)) 0]) (.seq (R_ 0 [O_ 12 (.mv (t_ 5)) 0,O_ 13 (.mv (t_ 3)) 0,O_ 14 (.bin .neq (t_ 12) (t_ 13)) 0]) (.cond (t_ 14) (.seq (R_ 0 [O_ 15 (.mv (t_ 5)) 0,O_ 2 (.mv (t_ 15)) 0]) .ret) .skip)))) (R_ 0 [O_ 16 (.bin .add (t_ 8) (i_ 1)) 0,O_ 8 (.mv (t_ 16)) 0]))))))) (.seq (R_ 0 [O_ 17 (.mv (t_ 3)) 0,O_ 2 (.mv (t_ 17)) 0]) .ret))))
theorem gc140_ok:compF Tryz.prog Tryz.f140=some (gc140.er,18,[.tmp 2]):=by unfold gc140;kernel_rfl
theorem p_cmp_Or_int__v {u1:Bool} (a0:List Int):CallsO Tryz.prog 140 [.sl (List.map V.i a0) u1] V.i (p_cmp_Or_int_ a0):=by
 refine callsO_comp mix Tryz.func140 gc140_ok fun r H=>?_
 rw [p_cmp_Or_int_] at H
 conv=>whnf
 refine LenQ.M ?_;conv=>whnf
 obtain ⟨o2,HL3,HQ4⟩:=bind_c H
 refine loop_c [2,8] [5,9,10,11,12,13,14,15,16] [5,9,10,11,12,13,14,15,16] (fun n vals st=>(∃ y6,p_cmp_Or_int__l1  a0 (a0.length:Int) n y6=some o2∧vals=[.i (0:Int),.i y6]∧st=[])) fuel 0 [] (⟨_,HL3,rfl,rfl⟩) (Nat.zero_le _) rfl (by kernel_rfl) (by kernel_rfl) rfl trivial ?_
 rintro (_ | n5) _ _ (⟨y6,H,rfl,rfl⟩)
 ·rw [p_cmp_Or_int__l1] at H;cases H
 rw [p_cmp_Or_int__l1] at H
 conv=>whnf
 refine tst_d H (fun b7 H=>?_) (fun b7 H=>?_)
 ·conv=>whnf
  obtain rfl:=Option.some.inj H
  have H:=HQ4
  try dsimp only at H
  exact fi_ H
 conv=>whnf
 refine ixs_c (f:=V.i) H (fun _=>rfl) (fun x8 H=>?_);conv=>whnf
 refine tst_c H (fun b9 H=>?_) (fun b9 H=>?_)
 ·conv=>whnf
  obtain rfl:=Option.some.inj H
  have H:=HQ4
  try dsimp only at H
  exact fi_ H
 conv=>whnf
 refine Ari.w ?_;conv=>whnf
 exact again_c [5,9,10,11,12,13,14,15,16] n5 0 [] (⟨_,H,rfl,rfl⟩) (Nat.lt_succ_self _) (Nat.zero_le _) rfl (by kernel_rfl) (by kernel_rfl) rfl trivial
def gc91:BCode:=(.seq (R_ 2 [O_ 2 (.bx (t_ 0)) 0,O_ 3 (.bx (t_ 1)) 1,O_ 4 (.mv (i_ 0)) 2]) (.seq (.reg 1 [O_ 5 (.fa 0 (t_ 2)) 0,O_ 6 (.ld 1 false (t_ 5)) 0,O_ 7 (.fa 0 (t_ 3)) 0,O_ 8 (.ld 1 false (t_ 7)) 0,O_ 9 (.cl 141 [(t_ 6),(t_ 8)]) 0,O_ 10 (.fa 3 (t_ 2)) 0,O_ 11 (.ld 1 false (t_ 10)) 0,O_ 12 (.fa 3 (t_ 3)) 0,O_ 13 (.ld 1 false (t_ 12)) 0,O_ 14 (.cl 142 [(t_ 11),(t_ 13)]) 0,O_ 15 (.bs 1 2 [(.lit (.int .i64 0)),(.lit (.int .i64 0))] [(0,(t_ 9)),(1,(t_ 14))]) 0,O_ 16 (.cl 140 [(t_ 15)]) 1,O_ 4 (.mv (t_ 16)) 1] (some [[],[0],[],[2],[2,3,0,1],[],[5],[],[7],[1,0,3,2,4,7,8,5,6],[6,5,8,7,9,1,0,3,2,4],[4,2,3,0,1,9,7,8,5,6,10],[10,6,5,8,7,9,1,0,3,2,4,11]]) 0 []) .ret))
theorem gc91_ok:compF Tryz.prog Tryz.f91=some (gc91.er,17,[.tmp 4]):=by unfold gc91;kernel_rfl
theorem p_item_Item_order_v (a0:ItemItem) (a1:ItemItem):CallsO Tryz.prog 91 [.agg [.s a0.Contact,.s a0.Name,.i a0.Sub,.i a0.Ver,.b a0.Own],.agg [.s a1.Contact,.s a1.Name,.i a1.Sub,.i a1.Ver,.b a1.Own]] V.i (p_item_Item_order a0 a1):=by
 refine callsO_comp mix Tryz.func91 gc91_ok fun r H=>?_
 rw [p_item_Item_order] at H
 conv=>whnf
 refine ask_c (p_strings_Compare_v _ _) H rfl rfl (fun v1 H=>?_);conv=>whnf
 refine ask_c (p_cmp_Compare_int__v _ _) H rfl rfl (fun v2 H=>?_);conv=>whnf
 refine askF_c (p_cmp_Or_int__v _) H (.cons (.c (fzown (f:=V.i) (l:=[v1,v2]) rfl rfl (fun _=>rfl) (fun _=>rfl))) (.nil)) (fun v3 H=>?_);conv=>whnf
 refine FootQ.mk ⟨rfl,?_⟩;conv=>whnf
 exact fi_ H
def gc47:BCode:=(.seq (R_ 0 [O_ 2 (.mv (.const (.slice none 0 0))) 0]) (.seq (.reg 0 [O_ 4 (.mv (t_ 0)) 0,O_ 5 (.cl 89 [(t_ 4)]) 0,O_ 3 (.mv (t_ 5)) 0] none 1 []) (.seq (R_ 0 [O_ 6 (.mv (t_ 3)) 0,O_ 7 (.cl 90 [(t_ 6),(.func 91)]) 0]) (.seq (R_ 0 [O_ 8 (.mv (t_ 3)) 0,O_ 2 (.mv (t_ 8)) 0]) .ret))))
theorem gc47_ok:compF Tryz.prog Tryz.f47=some (gc47.er,9,[.tmp 2]):=by unfold gc47;kernel_rfl
theorem p_item_Sort_v {u1:Bool} (a0:List ItemItem):CallsO Tryz.prog 47 [.sl (List.map ItemItem.v a0) u1] (fun l:List ItemItem=>V.sl (l.map ItemItem.v) false) (p_item_Sort a0):=by
 refine callsO_comp mix Tryz.func47 gc47_ok fun r H=>?_
 rw [p_item_Sort] at H
 conv=>whnf
 refine clone_c (f:=ItemItem.v) (id:=0) cloR89_v H (fun _=>rfl) (fun _=>rfl) rfl (fun H=>?_) (fun l1 H=>?_)
 ·conv=>whnf
  refine askInN_c (n:=(List.length ([]:List ItemItem))) rfl (fun y hy=>p_slices_SortStableFunc_item_Item_n y hy _ ⟨⟨_,Tryz.func91,by kernel_rfl,by kernel_rfl⟩,rfl,fun x0 x1=>p_item_Item_order_v _ _⟩) H rfl (fun l5 h4 H=>?_);conv=>whnf
  obtain rfl:=nil_len h4
  refine finR_c (enc:=(fun l:List ItemItem=>V.sl (l.map ItemItem.v) false)) H ?_;conv=>whnf
  exact ⟨_,.v (.c (.slw))⟩
 conv=>whnf
 refine askIn_c (f:=ItemItem.v) (p_slices_SortStableFunc_item_Item_v _ _ ⟨⟨_,Tryz.func91,by kernel_rfl,by kernel_rfl⟩,rfl,fun x0 x1=>p_item_Item_order_v _ _⟩) H rfl (fun _=>rfl) (fun _=>rfl) rfl (fun l3 h2 H=>?_);conv=>whnf
 refine finRz_c (enc:=(fun l:List ItemItem=>V.sl (l.map ItemItem.v) false)) [0] H ?_;conv=>whnf
 refine ⟨Nat.zero_le _,?_⟩;conv=>whnf
 exact ⟨_,.v (.c (fzc_made (f:=ItemItem.v) (l:=l3) rfl rfl rfl h2 (fun _=>rfl) (fun _=>rfl)))⟩
def gc127:BCode:=(.seq (R_ 0 [O_ 2 (.mv (i_ 0)) 0]) (.seq (.block 0 (.seq (.seq (R_ 0 [O_ 4 (.mv (t_ 0)) 0,O_ 5 (.bin .lss (t_ 4) (i_ 0)) 0,O_ 3 (.mv (t_ 5)) 0]) (.cond (t_ 3) .skip (R_ 0 [O_ 6 (.mv (t_ 0)) 0,O_ 7 (.bin .gtr (t_ 6) (i_ 15)) 0,O_ 3 (.mv (t_ 7)) 0]))) (.cond (t_ 3) (.seq (R_ 0 [O_ 2 (.mv (i_ 8)) 0]) .ret) (.seq (.seq (R_ 0 [O_ 9 (.mv (t_ 0)) 0,O_ 10 (.bin .and (t_ 9) (i_ 5)) 0,O_ 11 (.bin .eql (t_ 10) (i_ 5)) 0,O_ 8 (.mv (t_ 11)) 0]) (.cond (t_ 8) .skip (R_ 0 [O_ 12 (.mv (t_ 0)) 0,O_ 13 (.bin .and (t_ 12) (i_ 10)) 0,O_ 14 (.bin .eql (t_ 13) (i_ 10)) 0,O_ 8 (.mv (t_ 14)) 0]))) (.cond (t_ 8) (.seq (R_ 0 [O_ 2 (.mv (i_ 4)) 0]) .ret) .skip))))) (.seq (R_ 0 [O_ 2 (.mv (i_ 0)) 0]) .ret)))
theorem gc127_ok:compF Tryz.prog Tryz.f127=some (gc127.er,15,[.tmp 2]):=by unfold gc127;kernel_rfl
theorem p_subs_Check_v (a0:Int):CallsO Tryz.prog 127 [.i a0] V.i (p_subs_Check a0):=by
 refine callsO_comp mix Tryz.func127 gc127_ok fun r H=>?_
 rw [p_subs_Check] at H
 conv=>whnf
 refine tst_c H (fun b1 H=>?_) (fun b1 H=>?_)
 ·conv=>whnf
  refine Tst.T ?_;conv=>whnf
  exact fi_ H
 conv=>whnf
 refine tst_c H (fun b2 H=>?_) (fun b2 H=>?_)
 ·conv=>whnf
  exact fi_ H
 conv=>whnf
 refine tst_c H (fun b3 H=>?_) (fun b3 H=>?_)
 ·conv=>whnf
  refine Tst.T ?_;conv=>whnf
  exact fi_ H
 conv=>whnf
 refine tst_c H (fun b4 H=>?_) (fun b4 H=>?_)
 ·conv=>whnf
  exact fi_ H
 conv=>whnf
 exact fi_ H
def gc124:BCode:=(.seq (R_ 1 [O_ 1 (.bx (t_ 0)) 0,O_ 2 (.mv (i_ 0)) 1]) (.seq (.seq (R_ 0 [O_ 4 (.fa 0 (t_ 1)) 0,O_ 5 (.ld 1 false (t_ 4)) 0,O_ 6 (.cl 70 [(t_ 5)]) 0,O_ 7 (.un .not (t_ 6)) 0]) (.cond (t_ 7) (.seq (R_ 0 [O_ 2 (.mv (i_ 11)) 0]) .ret) .skip)) (.seq (.seq (R_ 0 [O_ 8 (.fa 1 (t_ 1)) 0,O_ 9 (.ld 1 false (t_ 8)) 0,O_ 10 (.lent (t_ 9)) 0,O_ 11 (.bin .gtr (t_ 10) (i_ 24)) 0]) (.cond (t_ 11) (.seq (R_ 0 [O_ 2 (.mv (i_ 5)) 0]) .ret) .skip)) (.seq (.seq (R_ 0 [O_ 12 (.fa 1 (t_ 1)) 0,O_ 13 (.ld 1 false (t_ 12)) 0,O_ 14 (.cl 69 [(t_ 13)]) 0,O_ 15 (.un .not (t_ 14)) 0]) (.cond (t_ 15) (.seq (R_ 0 [O_ 2 (.mv (i_ 11)) 0]) .ret) .skip)) (.seq (.seq (R_ 0 [O_ 16 (.fa 2 (t_ 1)) 0,O_ 17 (.ld 1 false (t_ 16)) 0,O_ 18 (.cl 127 [(t_ 17)]) 0,O_ 3 (.mv (t_ 18)) 0]) (.seq (R_ 0 [O_ 19 (.mv (t_ 3)) 0,O_ 20 (.bin .neq (t_ 19) (i_ 0)) 0]) (.cond (t_ 20) (.seq (R_ 0 [O_ 21 (.mv (t_ 3)) 0,O_ 2 (.mv (t_ 21)) 0]) .ret) .skip))) (.seq (.seq (R_ 0 [O_ 22 (.fa 3 (t_ 1)) 0,O_ 23 (.ld 1 false (t_ 22)) 0,O_ 24 (.bin .lss (t_ 23) (i_ 0)) 0,O_ 25 (.mv (t_ 24)) 0,⟨(some 26),.fa 3 (t_ 1),(some (25,false)),0⟩,⟨(some 27),.ld 1 false (t_ 26),(some (25,false)),0⟩,⟨(some 28),.bin .gtr (t_ 27) (i_ 1099511627776),(some (25,false)),0⟩,O_ 29 (.pick (t_ 25) (b_ true) (t_ 28)) 0]) (.cond (t_ 29) (.seq (R_ 0 [O_ 2 (.mv (i_ 8)) 0]) .ret) .skip)) (.seq (.seq (R_ 0 [O_ 30 (.fa 1 (t_ 1)) 0,O_ 31 (.ld 1 false (t_ 30)) 0,O_ 32 (.bin .neq (t_ 31) (.const (.string ⟨#[]⟩))) 0,O_ 33 (.mv (t_ 32)) 0,⟨(some 34),.fa 4 (t_ 1),(some (33,true)),0⟩,⟨(some 35),.ld 1 false (t_ 34),(some (33,true)),0⟩,⟨(some 36),.un .not (t_ 35),(some (33,true)),0⟩,O_ 37 (.pick (t_ 33) (t_ 36) (b_ false)) 0]) (.cond (t_ 37) (.seq (R_ 0 [O_ 2 (.mv (i_ 4)) 0]) .ret) .skip)) (.seq (R_ 0 [O_ 2 (.mv (i_ 0)) 0]) .ret))))))))
theorem gc124_ok:compF Tryz.prog Tryz.f124=some (gc124.er,38,[.tmp 2]):=by unfold gc124;kernel_rfl
theorem p_item_Check_v (a0:ItemItem):CallsO Tryz.prog 124 [.agg [.s a0.Contact,.s a0.Name,.i a0.Sub,.i a0.Ver,.b a0.Own]] V.i (p_item_Check a0):=by
 refine callsO_comp mix Tryz.func124 gc124_ok fun r H=>?_
 rw [p_item_Check] at H
 conv=>whnf
 refine ask_c (p_addr_IsBare_v _) H rfl rfl (fun v1 H=>?_);conv=>whnf
 refine Tst.not ?_
 refine tst_d H (fun b2 H=>?_) (fun b2 H=>?_)
 ·conv=>whnf
  exact fi_ H
 conv=>whnf
 refine tst_c H (fun b3 H=>?_) (fun b3 H=>?_)
 ·conv=>whnf
  exact fi_ H
 conv=>whnf
 refine ask_c (p_utf_Plain_v _) H rfl rfl (fun v4 H=>?_);conv=>whnf
 refine Tst.not ?_
 refine tst_d H (fun b5 H=>?_) (fun b5 H=>?_)
 ·conv=>whnf
  exact fi_ H
 conv=>whnf
 refine ask_c (p_subs_Check_v _) H rfl rfl (fun v6 H=>?_);conv=>whnf
 refine tst_c H (fun b7 H=>?_) (fun b7 H=>?_)
 ·conv=>whnf
  exact fi_ H
 conv=>whnf
 refine tst_c H (fun b8 H=>?_) (fun b8 H=>?_)
 ·conv=>whnf
  iterate 4 (refine Tst.T ?_;conv=>whnf)
  exact fi_ H
 conv=>whnf
 iterate 3 (refine Tst.F ?_;conv=>whnf)
 refine tst_c H (fun b9 H=>?_) (fun b9 H=>?_)
 ·conv=>whnf
  exact fi_ H
 conv=>whnf
 refine Tst.not ?_
 refine tst_c H (fun b10 H=>?_) (fun b10 H=>?_)
 ·conv=>whnf
  iterate 4 (refine Tst.F ?_;conv=>whnf)
  exact fi_ H
 conv=>whnf
 iterate 3 (refine Tst.T ?_;conv=>whnf)
 refine Tst.not ?_
 refine tst_c H (fun b11 H=>?_) (fun b11 H=>?_)
 ·conv=>whnf
  exact fi_ H
 conv=>whnf
 exact fi_ H
def gc135:BCode:=(.seq (R_ 1 [O_ 1 (.bx (t_ 0)) 0,O_ 2 (.mv (b_ false)) 1]) (.seq (R_ 0 [O_ 3 (.fa 2 (t_ 1)) 0,O_ 4 (.ld 1 false (t_ 3)) 0,O_ 5 (.bin .eql (t_ 4) (i_ 0)) 0,O_ 6 (.mv (t_ 5)) 0,⟨(some 7),.fa 4 (t_ 1),(some (6,true)),0⟩,⟨(some 8),.ld 1 false (t_ 7),(some (6,true)),0⟩,⟨(some 9),.un .not (t_ 8),(some (6,true)),0⟩,O_ 10 (.pick (t_ 6) (t_ 9) (b_ false)) 0,O_ 2 (.mv (t_ 10)) 0]) .ret))
theorem gc135_ok:compF Tryz.prog Tryz.f135=some (gc135.er,11,[.tmp 2]):=by unfold gc135;kernel_rfl
theorem p_item_Idle_v (a0:ItemItem):CallsO Tryz.prog 135 [.agg [.s a0.Contact,.s a0.Name,.i a0.Sub,.i a0.Ver,.b a0.Own]] V.b (p_item_Idle a0):=by
 refine callsO_comp mix Tryz.func135 gc135_ok fun r H=>?_
 rw [p_item_Idle] at H
 conv=>whnf
 refine tst_c H (fun b1 H=>?_) (fun b1 H=>?_)
 ·conv=>whnf
  iterate 3 (refine Tst.T ?_;conv=>whnf)
  exact fb_ H
 conv=>whnf
 iterate 3 (refine Tst.F ?_;conv=>whnf)
 exact fb_ H
def gc134:BCode:=(.seq (R_ 1 [O_ 2 (.bx (t_ 0)) 0,O_ 4 (.mv (b_ false)) 1]) (.seq (R_ 0 [O_ 5 (.fa 2 (t_ 2)) 0,O_ 6 (.ld 1 false (t_ 5)) 0,O_ 7 (.cl 127 [(t_ 6)]) 0,O_ 8 (.bin .eql (t_ 7) (i_ 0)) 0,O_ 9 (.mv (t_ 8)) 0,⟨(some 10),.fa 2 (t_ 2),(some (9,true)),0⟩,⟨(some 11),.ld 1 false (t_ 10),(some (9,true)),0⟩,⟨(some 12),.mv (t_ 1),(some (9,true)),0⟩,⟨(some 13),.bin .and (t_ 11) (t_ 12),(some (9,true)),0⟩,⟨(some 14),.bin .neq (t_ 13) (i_ 0),(some (9,true)),0⟩,O_ 15 (.pick (t_ 9) (t_ 14) (b_ false)) 0,O_ 4 (.mv (t_ 15)) 0]) .ret))
theorem gc134_ok:compF Tryz.prog Tryz.f134=some (gc134.er,16,[.tmp 4]):=by unfold gc134;kernel_rfl
theorem p_item_Item_has_v (a0:ItemItem) (a1:Int):CallsO Tryz.prog 134 [.agg [.s a0.Contact,.s a0.Name,.i a0.Sub,.i a0.Ver,.b a0.Own],.i a1] V.b (p_item_Item_has a0 a1):=by
 refine callsO_comp mix Tryz.func134 gc134_ok fun r H=>?_
 rw [p_item_Item_has] at H
 conv=>whnf
 refine ask_c (p_subs_Check_v _) H rfl rfl (fun v1 H=>?_);conv=>whnf
 refine tst_c H (fun b2 H=>?_) (fun b2 H=>?_)
 ·conv=>whnf
  iterate 5 (refine Tst.T ?_;conv=>whnf)
  exact fb_ H
 conv=>whnf
 iterate 5 (refine Tst.F ?_;conv=>whnf)
 exact fb_ H
def gc80:BCode:=(.seq (R_ 1 [O_ 1 (.bx (t_ 0)) 0,O_ 2 (.mv (b_ false)) 1]) (.seq (R_ 0 [O_ 3 (.fa 4 (t_ 1)) 0,O_ 4 (.ld 1 false (t_ 3)) 0,O_ 5 (.mv (t_ 4)) 0,⟨(some 6),.ld 5 true (t_ 1),(some (5,false)),0⟩,⟨(some 7),.cl 134 [(t_ 6),(i_ 7)],(some (5,false)),0⟩,O_ 8 (.pick (t_ 5) (b_ true) (t_ 7)) 0,O_ 2 (.mv (t_ 8)) 0]) .ret))
theorem gc80_ok:compF Tryz.prog Tryz.f80=some (gc80.er,9,[.tmp 2]):=by unfold gc80;kernel_rfl
theorem p_item_Listed_v (a0:ItemItem):CallsO Tryz.prog 80 [.agg [.s a0.Contact,.s a0.Name,.i a0.Sub,.i a0.Ver,.b a0.Own]] V.b (p_item_Listed a0):=by
 refine callsO_comp mix Tryz.func80 gc80_ok fun r H=>?_
 rw [p_item_Listed] at H
 conv=>whnf
 refine tst_c H (fun b1 H=>?_) (fun b1 H=>?_)
 ·conv=>whnf
  iterate 2 (refine Tst.T ?_;conv=>whnf)
  exact fb_ H
 conv=>whnf
 refine Tst.F ?_;conv=>whnf
 refine ask_c (p_item_Item_has_v _ _) H rfl rfl (fun v2 H=>?_);conv=>whnf
 refine Tst.F ?_;conv=>whnf
 exact fb_ H
def gc130:BCode:=(.seq (R_ 1 [O_ 1 (.bx (t_ 0)) 0,O_ 2 (.mv (b_ false)) 1]) (.seq (R_ 0 [O_ 3 (.ld 5 true (t_ 1)) 0,O_ 4 (.cl 134 [(t_ 3),(i_ 1)]) 0,O_ 2 (.mv (t_ 4)) 0]) .ret))
theorem gc130_ok:compF Tryz.prog Tryz.f130=some (gc130.er,5,[.tmp 2]):=by unfold gc130;kernel_rfl
theorem p_item_Sees_v (a0:ItemItem):CallsO Tryz.prog 130 [.agg [.s a0.Contact,.s a0.Name,.i a0.Sub,.i a0.Ver,.b a0.Own]] V.b (p_item_Sees a0):=by
 refine callsO_comp mix Tryz.func130 gc130_ok fun r H=>?_
 rw [p_item_Sees] at H
 conv=>whnf
 refine ask_c (p_item_Item_has_v _ _) H rfl rfl (fun v1 H=>?_);conv=>whnf
 exact fb_ H
def gc131:BCode:=(.seq (R_ 1 [O_ 1 (.bx (t_ 0)) 0,O_ 2 (.mv (b_ false)) 1]) (.seq (R_ 0 [O_ 3 (.ld 5 true (t_ 1)) 0,O_ 4 (.cl 134 [(t_ 3),(i_ 2)]) 0,O_ 2 (.mv (t_ 4)) 0]) .ret))
theorem gc131_ok:compF Tryz.prog Tryz.f131=some (gc131.er,5,[.tmp 2]):=by unfold gc131;kernel_rfl
theorem p_item_Seen_v (a0:ItemItem):CallsO Tryz.prog 131 [.agg [.s a0.Contact,.s a0.Name,.i a0.Sub,.i a0.Ver,.b a0.Own]] V.b (p_item_Seen a0):=by
 refine callsO_comp mix Tryz.func131 gc131_ok fun r H=>?_
 rw [p_item_Seen] at H
 conv=>whnf
 refine ask_c (p_item_Item_has_v _ _) H rfl rfl (fun v1 H=>?_);conv=>whnf
 exact fb_ H
end Go.Proofs.YtmmmcpeickfolaaGreat

