/- A part of the proof: 2 texts joined. -/
import Derived.Test.YtpkodpcfafipdaaGreatQtB1
import Derived.Test.YtpkodpcfafipdaaGreatQtB2
import Derived.Test.YtpkodpcfafipdaaGreatQtA12
import Derived.KernelRfl
set_option linter.all false
namespace Go.Proofs.YtpkodpcfafipdaaGreat
open Go.RowKit
set_option maxRecDepth 100000
set_option maxHeartbeats 4000000
def gc7:BCode:=(.seq (R_ 0 [O_ 2 (.mv (b_ false)) 0]) (.seq (.seq (R_ 0 [O_ 5 (.mv (t_ 0)) 0,O_ 6 (.lens (t_ 5)) 0,O_ 7 (.bin .gtr (t_ 6) (i_ 40)) 0]) (.cond (t_ 7) (.seq (R_ 0 [O_ 2 (.mv (b_ false)) 0]) .ret) .skip)) (.seq (.seq (R_ 0 [O_ 3 (.mv (i_ 0)) 0]) (.block 0 (.loop (.seq (.seq (R_ 0 [O_ 8 (.mv (t_ 3)) 0,O_ 9 (.mv (t_ 0)) 0,O_ 10 (.lens (t_ 9)) 0,O_ 11 (.bin .lss (t_ 8) (t_ 10)) 0]) (.cond (t_ 11) .skip (.exit 0))) (.seq (.block 1 (.seq (.seq (R_ 0 [O_ 14 (.mv (t_ 0)) 0,O_ 15 (.mv (t_ 3)) 0,O_ 16 (.ixs 5 (t_ 14) (t_ 15)) 0,O_ 17 (.fa 0 (t_ 16)) 0,O_ 18 (.fa 1 (t_ 17)) 0,O_ 19 (.ld 1 false (t_ 18)) 0,O_ 20 (.lens (t_ 19)) 0,O_ 21 (.bin .gtr (t_ 20) (i_ 20)) 0,O_ 22 (.mv (t_ 21)) 0,⟨(some 23),.mv (t_ 0),(some (22,false)),0⟩,⟨(some 24),.mv (t_ 3),(some (22,false)),0⟩,⟨(some 25),.ixs 5 (t_ 23) (t_ 24),(some (22,false)),0⟩,⟨(some 26),.fa 0 (t_ 25),(some (22,false)),0⟩,⟨(some 27),.fa 2 (t_ 26),(some (22,false)),0⟩,⟨(some 28),.ld 1 false (t_ 27),(some (22,false)),0⟩,⟨(some 29),.lens (t_ 28),(some (22,false)),0⟩,⟨(some 30),.bin .gtr (t_ 29) (i_ 20),(some (22,false)),0⟩,O_ 31 (.pick (t_ 22) (b_ true) (t_ 30)) 0,O_ 32 (.mv (t_ 31)) 0,⟨(some 33),.mv (t_ 0),(some (32,false)),0⟩,⟨(some 34),.mv (t_ 3),(some (32,false)),0⟩,⟨(some 35),.ixs 5 (t_ 33) (t_ 34),(some (32,false)),0⟩,⟨(some 36),.fa 3 (t_ 35),(some (32,false)),0⟩,⟨(some 37),.ld 1 false (t_ 36),(some (32,false)),0⟩,⟨(some 38),.lent (t_ 37),(some (32,false)),0⟩,⟨(some 39),.bin .gtr (t_ 38) (i_ 20),(some (32,false)),0⟩,O_ 40 (.pick (t_ 32) (b_ true) (t_ 39)) 0]) (.cond (t_ 40) (.seq (R_ 0 [O_ 2 (.mv (b_ false)) 0]) .ret) .skip)) (.seq (R_ 0 [O_ 4 (.mv (i_ 0)) 0]) (.block 2 (.loop (.seq (.seq (R_ 0 [O_ 41 (.mv (t_ 4)) 0,O_ 42 (.mv (t_ 0)) 0,O_ 43 (.mv (t_ 3)) 0,O_ 44 (.ixs 5 (t_ 42) (t_ 43)) 0,O_ 45 (.fa 0 (t_ 44)) 0,O_ 46 (.fa 1 (t_ 45)) 0,O_ 47 (.ld 1 false (t_ 46)) 0,O_ 48 (.lens (t_ 47)) 0,O_ 49 (.bin .lss (t_ 41) (t_ 48)) 0]) (.cond (t_ 49) .skip (.exit 2))) (.seq (.block 3 (.seq (R_ 0 [O_ 52 (.mv (t_ 0)) 0,O_ 53 (.mv (t_ 3)) 0,O_ 54 (.ixs 5 (t_ 52) (t_ 53)) 0,O_ 55 (.fa 0 (t_ 54)) 0,O_ 56 (.fa 1 (t_ 55)) 0,O_ 57 (.ld 1 false (t_ 56)) 0,O_ 58 (.mv (t_ 4)) 0,O_ 59 (.ixs 9 (t_ 57) (t_ 58)) 0,O_ 60 (.fa 1 (t_ 59)) 0,O_ 61 (.ld 8 true (t_ 60)) 0,O_ 62 (.cl 22 [(t_ 61)]) 0,O_ 63 (.un .not (t_ 62)) 0]) (.cond (t_ 63) (.seq (R_ 0 [O_ 2 (.mv (b_ false)) 0]) .ret) .skip))) (R_ 0 [O_ 50 (.mv (t_ 4)) 0,O_ 51 (.bin .add (t_ 50) (i_ 1)) 0,O_ 4 (.mv (t_ 51)) 0])))))))) (R_ 0 [O_ 12 (.mv (t_ 3)) 0,O_ 13 (.bin .add (t_ 12) (i_ 1)) 0,O_ 3 (.mv (t_ 13)) 0])))))) (.seq (R_ 0 [O_ 2 (.mv (b_ true)) 0]) .ret))))
theorem gc7_ok:compF Tryz.prog Tryz.f7=some (gc7.er,64,[.tmp 2]):=by unfold gc7;kernel_rfl
theorem p_law36_few_v {u1:Bool} (a0:List Law36Act):CallsO Tryz.prog 7 [.sl (List.map Law36Act.v a0) u1] V.b (p_law36_few a0):=by
 refine callsO_comp mix Tryz.func7 gc7_ok fun r H=>?_
 rw [p_law36_few] at H
 conv=>whnf
 refine LenQ.M ?_;conv=>whnf
 refine tst_c H (fun b1 H=>?_) (fun b1 H=>?_)
 ·conv=>whnf
  exact fb_ H
 conv=>whnf
 obtain ⟨o3,HL4,HQ5⟩:=bind_c H
 refine loop_c [2,3] [4,8,9,10,11,12,13,14,15,16,17,18,19,20,21,22,23,24,25,26,27,28,29,30,31,32,33,34,35,36,37,38,39,40,41,42,43,44,45,46,47,48,49,50,51,52,53,54,55,56,57,58,59,60,61,62,63] [4,8,9,10,11,12,13,14,15,16,17,18,19,20,21,22,23,24,25,26,27,28,29,30,31,32,33,34,35,36,37,38,39,40,41,42,43,44,45,46,47,48,49,50,51,52,53,54,55,56,57,58,59,60,61,62,63] (fun n vals st=>(∃ y7,p_law36_few_l1  a0 n y7=some o3∧vals=[.b false,.i y7]∧st=[])) fuel 0 [] (⟨_,HL4,rfl,rfl⟩) (Nat.zero_le _) rfl (by kernel_rfl) (by kernel_rfl) rfl trivial ?_
 rintro (_ | n6) _ _ (⟨y7,H,rfl,rfl⟩)
 ·rw [p_law36_few_l1] at H;cases H
 rw [p_law36_few_l1] at H
 conv=>whnf
 refine LenQ.M ?_;conv=>whnf
 refine tst_d H (fun b8 H=>?_) (fun b8 H=>?_)
 ·conv=>whnf
  obtain rfl:=Option.some.inj H
  have H:=HQ5
  try dsimp only at H
  exact fb_ H
 conv=>whnf
 refine ixs_c (f:=Law36Act.v) H (fun _=>rfl) (fun x9 H=>?_);conv=>whnf
 refine lq_ ?_;conv=>whnf
 refine lq_ ?_;conv=>whnf
 refine LenQ.M ?_;conv=>whnf
 refine tst_c H (fun b10 H=>?_) (fun b10 H=>?_)
 ·conv=>whnf
  iterate 17 (refine Tst.T ?_;conv=>whnf)
  obtain rfl:=Option.some.inj H
  have H:=HQ5
  try dsimp only at H
  exact fb_ H
 conv=>whnf
 iterate 2 (refine Tst.F ?_;conv=>whnf)
 refine ixs_c (f:=Law36Act.v) H (fun _=>rfl) (fun x11 H=>?_);conv=>whnf
 refine Tst.F ?_;conv=>whnf
 refine lq_ ?_;conv=>whnf
 refine Tst.F ?_;conv=>whnf
 refine lq_ ?_;conv=>whnf
 iterate 2 (refine Tst.F ?_;conv=>whnf)
 refine LenQ.M ?_;conv=>whnf
 iterate 2 (refine Tst.F ?_;conv=>whnf)
 refine tst_c H (fun b12 H=>?_) (fun b12 H=>?_)
 ·conv=>whnf
  iterate 8 (refine Tst.T ?_;conv=>whnf)
  obtain rfl:=Option.some.inj H
  have H:=HQ5
  try dsimp only at H
  exact fb_ H
 conv=>whnf
 iterate 2 (refine Tst.F ?_;conv=>whnf)
 refine ixs_c (f:=Law36Act.v) H (fun _=>rfl) (fun x13 H=>?_);conv=>whnf
 refine Tst.F ?_;conv=>whnf
 refine lq_ ?_;conv=>whnf
 iterate 4 (refine Tst.F ?_;conv=>whnf)
 refine tst_c H (fun b14 H=>?_) (fun b14 H=>?_)
 ·conv=>whnf
  obtain rfl:=Option.some.inj H
  have H:=HQ5
  try dsimp only at H
  exact fb_ H
 conv=>whnf
 obtain ⟨o16,HL17,HQ18⟩:=bind_c H
 refine loop_c [2,4] [41,42,43,44,45,46,47,48,49,50,51,52,53,54,55,56,57,58,59,60,61,62,63] [41,42,43,44,45,46,47,48,49,50,51,52,53,54,55,56,57,58,59,60,61,62,63] (fun n vals st=>(∃ y20,p_law36_few_l2  a0 y7 n y20=some o16∧vals=[.b false,.i y20]∧st=[])) fuel 0 [] (⟨_,HL17,rfl,rfl⟩) (Nat.zero_le _) rfl (by kernel_rfl) (by kernel_rfl) rfl trivial ?_
 rintro (_ | n19) _ _ (⟨y20,H,rfl,rfl⟩)
 ·rw [p_law36_few_l2] at H;cases H
 rw [p_law36_few_l2] at H
 conv=>whnf
 refine ixs_c (f:=Law36Act.v) H (fun _=>rfl) (fun x21 H=>?_);conv=>whnf
 refine lq_ ?_;conv=>whnf
 refine lq_ ?_;conv=>whnf
 refine LenQ.M ?_;conv=>whnf
 refine tst_d H (fun b22 H=>?_) (fun b22 H=>?_)
 ·conv=>whnf
  obtain rfl:=Option.some.inj H
  have H:=HQ18
  try dsimp only at H
  refine Ari.w ?_;conv=>whnf
  exact again_c [4,8,9,10,11,12,13,14,15,16,17,18,19,20,21,22,23,24,25,26,27,28,29,30,31,32,33,34,35,36,37,38,39,40,41,42,43,44,45,46,47,48,49,50,51,52,53,54,55,56,57,58,59,60,61,62,63] n6 0 [] (⟨_,H,rfl,rfl⟩) (Nat.lt_succ_self _) (Nat.zero_le _) rfl (by kernel_rfl) (by kernel_rfl) rfl trivial
 conv=>whnf
 refine ixs_c (f:=Law36Act.v) H (fun _=>rfl) (fun x23 H=>?_);conv=>whnf
 refine lq_ ?_;conv=>whnf
 refine lq_ ?_;conv=>whnf
 refine ixs_c (f:=Ref33Said.v) H (fun _=>rfl) (fun x24 H=>?_);conv=>whnf
 refine lq_ ?_;conv=>whnf
 refine ask_c (p_ref10_Light_v _) H rfl rfl (fun v25 H=>?_);conv=>whnf
 refine Tst.not ?_
 refine tst_d H (fun b26 H=>?_) (fun b26 H=>?_)
 ·conv=>whnf
  obtain rfl:=Option.some.inj H
  have H:=HQ18
  try dsimp only at H
  obtain rfl:=Option.some.inj H
  have H:=HQ5
  try dsimp only at H
  exact fb_ H
 conv=>whnf
 refine Ari.w ?_;conv=>whnf
 exact again_c [41,42,43,44,45,46,47,48,49,50,51,52,53,54,55,56,57,58,59,60,61,62,63] n19 0 [] (⟨_,H,rfl,rfl⟩) (Nat.lt_succ_self _) (Nat.zero_le _) rfl (by kernel_rfl) (by kernel_rfl) rfl trivial
def gc11:BCode:=(.seq (R_ 2 [O_ 1 (.bx (t_ 0)) 0,O_ 2 (.al (.agg [(.lit (.int .i64 0)),(.sl [] true),(.sl [] true)])) 1]) (.seq (R_ 1 [O_ 5 (.fa 0 (t_ 1)) 0,O_ 6 (.ld 1 false (t_ 5)) 0,O_ 7 (.fa 2 (t_ 1)) 0,O_ 8 (.ld 1 false (t_ 7)) 0,O_ 9 (.bd [(.lit (.int .i64 0)),(.sl [] true),(.sl [] true)] [(0,1,(t_ 6)),(2,1,(t_ 8))]) 0,O_ 3 (.al (.agg [(.lit (.int .i64 0)),(.sl [] true),(.sl [] true)])) 0,U_ (.st 3 (t_ 3) (t_ 9)) 1]) (.seq (.seq (R_ 0 [O_ 4 (.mv (i_ 0)) 0]) (.block 0 (.loop (.seq (.seq (R_ 0 [O_ 10 (.mv (t_ 4)) 0,O_ 11 (.fa 1 (t_ 1)) 0,O_ 12 (.ld 1 false (t_ 11)) 0,O_ 13 (.lens (t_ 12)) 0,O_ 14 (.bin .lss (t_ 10) (t_ 13)) 0]) (.cond (t_ 14) .skip (.exit 0))) (.seq (.block 1 (.reg 2 [O_ 17 (.fa 1 (t_ 3)) 0,O_ 18 (.ld 1 false (t_ 17)) 0,O_ 19 (.fa 1 (t_ 1)) 0,O_ 20 (.ld 1 false (t_ 19)) 0,O_ 21 (.mv (t_ 4)) 0,O_ 22 (.ixs 9 (t_ 20) (t_ 21)) 0,O_ 23 (.fa 0 (t_ 22)) 0,O_ 24 (.ld 1 false (t_ 23)) 0,O_ 25 (.fa 1 (t_ 1)) 0,O_ 26 (.ld 1 false (t_ 25)) 0,O_ 27 (.mv (t_ 4)) 0,O_ 28 (.ixs 9 (t_ 26) (t_ 27)) 0,O_ 29 (.fa 1 (t_ 28)) 0,O_ 30 (.ld 8 true (t_ 29)) 0,O_ 31 (.bd [(.lit (.int .i64 0)),(.lit (.int .u8 0)),(.lit (.string ⟨#[]⟩)),(.lit (.string ⟨#[]⟩)),(.lit (.string ⟨#[]⟩)),(.lit (.int .i64 0)),(.lit (.int .i64 0)),(.lit (.int .i64 0)),(.lit (.int .i64 0))] [(0,1,(t_ 24)),(1,8,(t_ 30))]) 0,O_ 32 (.bs 9 1 [(.lit (.int .i64 0)),(.lit (.int .u8 0)),(.lit (.string ⟨#[]⟩)),(.lit (.string ⟨#[]⟩)),(.lit (.string ⟨#[]⟩)),(.lit (.int .i64 0)),(.lit (.int .i64 0)),(.lit (.int .i64 0)),(.lit (.int .i64 0))] [(0,(t_ 31))]) 0,O_ 33 (.ap 9 96 (t_ 18) (t_ 32)) 1,O_ 34 (.fa 1 (t_ 3)) 2,U_ (.st 1 (t_ 34) (t_ 33)) 2] (some [[],[0],[],[2],[],[4,2,3],[3,2,4,5],[5,4,2,3,6],[],[8],[],[10,8,9],[9,8,10,11],[11,10,8,9,12],[12,9,8,10,11,13,6,3,2,4,5,7],[7,5,4,2,3,6,13,11,10,8,9,12,14],[14,12,9,8,10,11,13,6,3,2,4,5,7,15,0,1],[16,15,14,13,12,11,10,9,8,7,6,5,4,3,2,1,0],[0,1,2,3,4,5,6,7,8,9,10,11,12,13,14,15,16,17]]) 0 [])) (R_ 0 [O_ 15 (.mv (t_ 4)) 0,O_ 16 (.bin .add (t_ 15) (i_ 1)) 0,O_ 4 (.mv (t_ 16)) 0])))))) (.seq (R_ 0 [O_ 35 (.ld 3 true (t_ 3)) 0,U_ (.st 3 (t_ 2) (t_ 35)) 0]) .ret))))
theorem gc11_ok:compF Tryz.prog Tryz.f11=some (gc11.er,36,[.cell 2 3 true]):=by unfold gc11;kernel_rfl
theorem p_law36_result_v {u1 u2:Bool} (a0:Ref33Result):CallsO Tryz.prog 11 [.agg [.i a0.E,.sl (List.map Ref33Said.v a0.Said) u1,.sl (List.map V.i a0.Shut) u2]] Ref33Result.v (p_law36_result a0):=by
 refine callsO_comp mix Tryz.func11 gc11_ok fun r H=>?_
 rw [p_law36_result] at H
 conv=>whnf
 refine lq_ ?_;conv=>whnf
 obtain ⟨o2,HL3,HQ4⟩:=bind_c H
 refine loop_c [4] [10,11,12,13,14,15,16,17,18,19,20,21,22,23,24,25,26,27,28,29,30,31,32,33,34,5,7] [10,11,12,13,14,15,16,17,18,19,20,21,22,23,24,25,26,27,28,29,30,31,32,33,34,5,7] (fun n vals st=>(∃ y6 y7,p_law36_result_l1  a0 n y6 y7=some o2∧vals=[.i y6]∧st=[.live [.i a0.E,.sl (List.map Ref33Said.v a0.Said) u1,.sl (List.map V.i a0.Shut) u2] 0,.live [.i (0:Int),.sl (List.map Ref33Said.v []) true,.sl (List.map V.i []) true] 0,.live [.i y7.E,.sl (List.map Ref33Said.v y7.Said) true,.sl (List.map V.i y7.Shut) u2] 0])∨(∃ y12 y13,p_law36_result_l1  a0 n y12 y13=some o2∧vals=[.i y12]∧st=[.live [.i a0.E,.sl (List.map Ref33Said.v a0.Said) u1,.sl (List.map V.i a0.Shut) u2] 0,.live [.i (0:Int),.sl (List.map Ref33Said.v []) true,.sl (List.map V.i []) true] 0,.live [.i y13.E,.osl 3 0 (List.length y13.Said) 9 false,.sl (List.map V.i y13.Shut) u2] 0,.live (cellsM Ref33Said.v y13.Said) (cellsM Ref33Said.v y13.Said).length])) fuel 3 [] (.inl (⟨_,_,HL3,rfl,rfl⟩)) (Nat.zero_le _) rfl (by kernel_rfl) (by kernel_rfl) rfl ⟨⟨rfl,rfl,rfl⟩,⟨⟨rfl,rfl,rfl⟩,⟨⟨rfl,rfl,rfl⟩,trivial⟩⟩⟩ ?_
 rintro (_ | n5) _ _ (⟨y6,y7,H,rfl,rfl⟩ | ⟨y12,y13,H,rfl,rfl⟩)
 ·rw [p_law36_result_l1] at H;cases H
 ·rw [p_law36_result_l1] at H;cases H
 ·rw [p_law36_result_l1] at H
  conv=>whnf
  refine LenQ.M ?_;conv=>whnf
  refine tst_d H (fun b8 H=>?_) (fun b8 H=>?_)
  ·conv=>whnf
   obtain rfl:=Option.some.inj H
   have H:=HQ4
   try dsimp only at H
   refine lq_ ?_;conv=>whnf
   refine finR_c (enc:=Ref33Result.v) H ?_;conv=>whnf
   exact ⟨_,.v (fzagg (.cons (.id rfl) (.cons (.slw) (.cons (.slw) (.nil)))) rfl)⟩
  conv=>whnf
  refine ixs_c (f:=Ref33Said.v) H (fun _=>rfl) (fun x9 H=>?_);conv=>whnf
  refine lq_ ?_;conv=>whnf
  refine ixs_c (f:=Ref33Said.v) H (fun _=>rfl) (fun x10 H=>?_);conv=>whnf
  refine lq_ ?_;conv=>whnf
  refine appN_c (f:=Ref33Said.v) H (fun _=>rfl) (srcM (f:=Ref33Said.v) (fun _=>rfl) _ _) rfl (.v (srcOwn (f:=Ref33Said.v) (l:=[(Ref33Said.mk x9.Conn x10.S)]) (fun _=>rfl) rfl rfl rfl)) (by decide) rfl (by simp) (fun l11 H=>?_);conv=>whnf
  refine lq_ ?_;conv=>whnf
  refine FootQ.mk ⟨rfl,?_⟩;conv=>whnf
  refine Ari.w ?_;conv=>whnf
  exact again_c [10,11,12,13,14,15,16,17,18,19,20,21,22,23,24,25,26,27,28,29,30,31,32,33,34,5,7] n5 4 [0,1,2,4] (.inr (⟨_,_,H,rfl,rfl⟩)) (Nat.lt_succ_self _) (Nat.zero_le _) rfl (by kernel_rfl) (by kernel_rfl) rfl ⟨⟨rfl,rfl,rfl⟩,⟨⟨rfl,rfl,rfl⟩,⟨⟨rfl,rfl,rfl⟩,wkB_live0 rfl (cellsM_idlt (f:=Ref33Said.v) (fun _=>rfl) _) rfl trivial⟩⟩⟩
 rw [p_law36_result_l1] at H
 conv=>whnf
 refine LenQ.M ?_;conv=>whnf
 refine tst_d H (fun b14 H=>?_) (fun b14 H=>?_)
 ·conv=>whnf
  obtain rfl:=Option.some.inj H
  have H:=HQ4
  try dsimp only at H
  refine lq_ ?_;conv=>whnf
  refine finR_c (enc:=Ref33Result.v) H ?_;conv=>whnf
  exact ⟨_,.v (fzagg (.cons (.id rfl) (.cons (fzown (f:=Ref33Said.v) (l:=y13.Said) rfl rfl (fun _=>rfl) (fun _=>rfl)) (.cons (.slw) (.nil)))) rfl)⟩
 conv=>whnf
 refine ixs_c (f:=Ref33Said.v) H (fun _=>rfl) (fun x15 H=>?_);conv=>whnf
 refine lq_ ?_;conv=>whnf
 refine ixs_c (f:=Ref33Said.v) H (fun _=>rfl) (fun x16 H=>?_);conv=>whnf
 refine lq_ ?_;conv=>whnf
 refine appO_c (f:=Ref33Said.v) H (fun _=>rfl) rfl (Nat.le_refl _) (.v (srcOwn (f:=Ref33Said.v) (l:=[(Ref33Said.mk x15.Conn x16.S)]) (fun _=>rfl) rfl rfl rfl)) (by decide) rfl (by simp) (fun l17 H=>?_);conv=>whnf
 refine lq_ ?_;conv=>whnf
 refine FootQ.mk ⟨rfl,?_⟩;conv=>whnf
 refine Ari.w ?_;conv=>whnf
 exact again_c [10,11,12,13,14,15,16,17,18,19,20,21,22,23,24,25,26,27,28,29,30,31,32,33,34,5,7] n5 4 [0,1,2,5] (.inr (⟨_,_,H,rfl,rfl⟩)) (Nat.lt_succ_self _) (Nat.zero_le _) rfl (by kernel_rfl) (by kernel_rfl) rfl ⟨⟨rfl,rfl,rfl⟩,⟨⟨rfl,rfl,rfl⟩,⟨⟨rfl,rfl,rfl⟩,wkB_live0 rfl (cellsM_idlt (f:=Ref33Said.v) (fun _=>rfl) _) rfl trivial⟩⟩⟩
def gc20:BCode:=(.seq (R_ 0 [O_ 2 (.mv (.const (.pointer none))) 0]) (.seq (.reg 0 [O_ 5 (.cl 9 []) 0,O_ 3 (.mv (t_ 5)) 0] none 2 []) (.seq (.seq (R_ 0 [O_ 4 (.mv (i_ 0)) 0]) (.block 0 (.loop (.seq (.seq (R_ 0 [O_ 6 (.mv (t_ 4)) 0,O_ 7 (.mv (t_ 0)) 0,O_ 8 (.lens (t_ 7)) 0,O_ 9 (.bin .lss (t_ 6) (t_ 8)) 0]) (.cond (t_ 9) .skip (.exit 0))) (.seq (.block 1 (.seq (R_ 0 [O_ 12 (.mv (t_ 0)) 0,O_ 13 (.mv (t_ 4)) 0,O_ 14 (.ixs 5 (t_ 12) (t_ 13)) 0,O_ 15 (.fa 3 (t_ 14)) 0,O_ 16 (.ld 1 false (t_ 15)) 0,O_ 17 (.bin .eql (t_ 16) (.const (.string ⟨#[]⟩))) 0]) (.cond (t_ 17) (R_ 0 [O_ 18 (.mv (t_ 3)) 0,O_ 19 (.mv (t_ 0)) 0,O_ 20 (.mv (t_ 4)) 0,O_ 21 (.ixs 5 (t_ 19) (t_ 20)) 0,O_ 22 (.fa 0 (t_ 21)) 0,O_ 23 (.ld 3 true (t_ 22)) 0,O_ 24 (.cl 11 [(t_ 23)]) 0,O_ 25 (.cl 10 [(t_ 18),(t_ 24)]) 0]) (.reg 0 [O_ 26 (.mv (t_ 3)) 0,O_ 27 (.mv (t_ 0)) 0,O_ 28 (.mv (t_ 4)) 0,O_ 29 (.ixs 5 (t_ 27) (t_ 28)) 0,O_ 30 (.fa 3 (t_ 29)) 0,O_ 31 (.ld 1 false (t_ 30)) 0,O_ 32 (.mv (t_ 0)) 0,O_ 33 (.mv (t_ 4)) 0,O_ 34 (.ixs 5 (t_ 32) (t_ 33)) 0,O_ 35 (.fa 4 (t_ 34)) 0,O_ 36 (.ld 1 false (t_ 35)) 0,O_ 37 (.cl 13 [(t_ 26),(t_ 31),(t_ 36)]) 0] (some [[],[],[],[2,1],[1,2,3],[3,2,1,4],[],[],[7,6],[6,7,8],[8,7,6,9],[9,6,7,8,10,4,1,2,3,5,0]]) 0 [])))) (R_ 0 [O_ 10 (.mv (t_ 4)) 0,O_ 11 (.bin .add (t_ 10) (i_ 1)) 0,O_ 4 (.mv (t_ 11)) 0])))))) (.seq (R_ 0 [O_ 38 (.mv (t_ 3)) 0,O_ 2 (.mv (t_ 38)) 0]) .ret))))
theorem gc20_ok:compF Tryz.prog Tryz.f20=some (gc20.er,39,[.tmp 2]):=by unfold gc20;kernel_rfl
theorem p_law36_count_o {u1:Bool} (a0:List Law36Act) (y:TallyTally) (H:p_law36_count a0=some y):CallsS Tryz.prog 20 [.sl (List.map Law36Act.v a0) u1] [.fresh,.fresh] (.ptr 0 0) [.live ((fun r:TallyTally=>(cellsM SyncatomicInt64.v r.counts++([.lit (.int .u32 r.once.done.v_),.lit (.int .i32 r.once.m.mu.state),.lit (.int .u32 r.once.m.mu.sema),.sl (List.map V.s r.names) false]))) y) 0,.fresh]:=by
 refine callsR_c (n0:=2) mix Tryz.func20 gc20_ok rfl ?_
 rw [p_law36_count] at H
 conv=>whnf
 refine askN_c 2 3 (fun s hs=>p_tally_New_o  s hs) H rfl rfl rfl rfl (fun s=>(belowL_app (cellsM_idlt (f:=SyncatomicInt64.v) (fun _=>rfl) _) rfl)) (.nil) (fun y1 H=>?_);conv=>whnf
 obtain ⟨o3,HL4,HQ5⟩:=bind_c H
 refine loop_c [4] [6,7,8,9,10,11,12,13,14,15,16,17,18,19,20,21,22,23,24,25,26,27,28,29,30,31,32,33,34,35,36,37,5] [6,7,8,9,10,11,12,13,14,15,16,17,18,19,20,21,22,23,24,25,26,27,28,29,30,31,32,33,34,35,36,37,5] (fun n vals st=>(∃ y7 y8,p_law36_count_l1  a0 n y7 y8=some o3∧vals=[.i y7]∧st=[.fresh,.fresh,.live (cellsM SyncatomicInt64.v y8.counts++([.lit (.int .u32 y8.once.done.v_),.lit (.int .i32 y8.once.m.mu.state),.lit (.int .u32 y8.once.m.mu.sema),.sl (List.map V.s y8.names) false])) 0])) fuel 3 [] (⟨_,_,HL4,rfl,rfl⟩) (Nat.le_of_ble_eq_true rfl) rfl (by kernel_rfl) (by kernel_rfl) rfl (by exact ⟨rfl,⟨rfl,wkB_live0 rfl (belowL_app (cellsM_idlt (f:=SyncatomicInt64.v) (fun _=>rfl) _) rfl) rfl trivial⟩⟩) ?_
 rintro (_ | n6) _ _ (⟨y7,y8,H,rfl,rfl⟩)
 ·rw [p_law36_count_l1] at H;cases H
 rw [p_law36_count_l1] at H
 conv=>whnf
 refine LenQ.M ?_;conv=>whnf
 refine tst_d H (fun b9 H=>?_) (fun b9 H=>?_)
 ·conv=>whnf
  obtain rfl:=Option.some.inj H
  have H:=HQ5
  try dsimp only at H
  refine finNw_c (T:=(fun r:TallyTally=>(cellsM SyncatomicInt64.v r.counts++([.lit (.int .u32 r.once.done.v_),.lit (.int .i32 r.once.m.mu.state),.lit (.int .u32 r.once.m.mu.sema),.sl (List.map V.s r.names) false])))) (y:=y) [] 2 (.inr rfl) H ?_;conv=>whnf
  exact ⟨⟨(cellsM SyncatomicInt64.v y8.counts++([.lit (.int .u32 y8.once.done.v_),.lit (.int .i32 y8.once.m.mu.state),.lit (.int .u32 y8.once.m.mu.sema),.sl (List.map V.s y8.names) false])),_,rfl,(fzl_app (.cons (.id rfl) (.cons (.id rfl) (.cons (.id rfl) (.cons (.id rfl) (.nil))))) (fzl_lit (cellsM_idlt (f:=SyncatomicInt64.v) (fun _=>rfl) _))),(one_app (one_M (f:=SyncatomicInt64.v) (fun _=>rfl) _) rfl)⟩,rfl,rfl⟩
 conv=>whnf
 refine ixs_c (f:=Law36Act.v) H (fun _=>rfl) (fun x10 H=>?_);conv=>whnf
 refine lq_ ?_;conv=>whnf
 refine tst_c H (fun b11 H=>?_) (fun b11 H=>?_)
 ·conv=>whnf
  refine ixs_c (f:=Law36Act.v) H (fun _=>rfl) (fun x12 H=>?_);conv=>whnf
  refine lq_ ?_;conv=>whnf
  refine ask_c (p_law36_result_v _) H rfl rfl (fun v13 H=>?_);conv=>whnf
  refine askCo_c [2] (fun s hs=>p_tally_Tally_Note_p1_0 _ _ s hs) H (fun _=>rfl) rfl ⟨rfl,trivial⟩ rfl (closed_cons (belowL_app (cellsM_idlt (f:=SyncatomicInt64.v) (fun _=>rfl) _) rfl) closed_nil) (fun s=>(closed_cons (belowL_app (cellsM_idlt (f:=SyncatomicInt64.v) (fun _=>rfl) _) rfl) closed_nil)) (fun _=>rfl) (.kp rfl (.kp rfl (.nil))) (fun v14 H=>?_);conv=>whnf
  refine Ari.w ?_;conv=>whnf
  exact again_c [6,7,8,9,10,11,12,13,14,15,16,17,18,19,20,21,22,23,24,25,26,27,28,29,30,31,32,33,34,35,36,37,5] n6 3 [] (⟨_,_,H,rfl,rfl⟩) (Nat.lt_succ_self _) (Nat.le_of_ble_eq_true rfl) rfl (by kernel_rfl) (by kernel_rfl) rfl (by exact ⟨rfl,⟨rfl,wkB_live0 rfl (belowL_app (cellsM_idlt (f:=SyncatomicInt64.v) (fun _=>rfl) _) rfl) rfl trivial⟩⟩)
 conv=>whnf
 refine ixs_c (f:=Law36Act.v) H (fun _=>rfl) (fun x15 H=>?_);conv=>whnf
 refine lq_ ?_;conv=>whnf
 refine ixs_c (f:=Law36Act.v) H (fun _=>rfl) (fun x16 H=>?_);conv=>whnf
 refine lq_ ?_;conv=>whnf
 refine askCo_c [2] (fun s hs=>p_tally_Tally_Add_p1_0 _ _ _ s hs) H (fun _=>rfl) rfl ⟨rfl,trivial⟩ rfl (closed_cons (belowL_app (cellsM_idlt (f:=SyncatomicInt64.v) (fun _=>rfl) _) rfl) closed_nil) (fun s=>(closed_cons (belowL_app (cellsM_idlt (f:=SyncatomicInt64.v) (fun _=>rfl) _) rfl) closed_nil)) (fun _=>rfl) (.kp rfl (.kp rfl (.kp rfl (.nil)))) (fun v17 H=>?_);conv=>whnf
 refine FootQ.mk ⟨rfl,?_⟩;conv=>whnf
 refine Ari.w ?_;conv=>whnf
 exact again_c [6,7,8,9,10,11,12,13,14,15,16,17,18,19,20,21,22,23,24,25,26,27,28,29,30,31,32,33,34,35,36,37,5] n6 3 [] (⟨_,_,H,rfl,rfl⟩) (Nat.lt_succ_self _) (Nat.le_of_ble_eq_true rfl) rfl (by kernel_rfl) (by kernel_rfl) rfl (by exact ⟨rfl,⟨rfl,wkB_live0 rfl (belowL_app (cellsM_idlt (f:=SyncatomicInt64.v) (fun _=>rfl) _) rfl) rfl trivial⟩⟩)
end Go.Proofs.YtpkodpcfafipdaaGreat

namespace Go.Proofs.YtpkodpcfafipdaaGreat
open Go.RowKit
set_option maxRecDepth 100000
set_option maxHeartbeats 4000000
def gc21:BCode:=(.seq (R_ 0 [O_ 4 (.mv (b_ false)) 0]) (.seq (.seq (R_ 0 [O_ 6 (.mv (t_ 0)) 0,O_ 7 (.eqp false (t_ 6) (.const (.pointer none))) 0,O_ 8 (.mv (t_ 7)) 0,⟨(some 9),.mv (t_ 1),(some (8,false)),0⟩,⟨(some 10),.eqp false (t_ 9) (.const (.pointer none)),(some (8,false)),0⟩,O_ 11 (.pick (t_ 8) (b_ true) (t_ 10)) 0,O_ 12 (.mv (t_ 11)) 0,⟨(some 13),.mv (t_ 0),(some (12,false)),0⟩,⟨(some 14),.mv (t_ 1),(some (12,false)),0⟩,⟨(some 15),.eqp false (t_ 13) (t_ 14),(some (12,false)),0⟩,O_ 16 (.pick (t_ 12) (b_ true) (t_ 15)) 0]) (.cond (t_ 16) (.seq (R_ 0 [O_ 4 (.mv (b_ false)) 0]) .ret) .skip)) (.seq (.seq (R_ 0 [O_ 17 (.mv (i_ 0)) 0]) (.block 0 (.loop (.seq (R_ 0 [O_ 18 (.bin .lss (t_ 17) (i_ 12)) 0]) (.seq (.cond (t_ 18) .skip (.exit 0)) (.seq (.block 1 (.seq (R_ 0 [O_ 19 (.mv (t_ 17)) 0,O_ 5 (.mv (t_ 19)) 0]) (R_ 0 [O_ 20 (.mv (t_ 0)) 0,O_ 21 (.mv (t_ 5)) 0,O_ 22 (.mv (t_ 1)) 0,O_ 23 (.mv (t_ 5)) 0,O_ 24 (.nc (t_ 22)) 0,O_ 25 (.fa 0 (t_ 24)) 0,O_ 26 (.ixa 12 1 (t_ 25) (t_ 23)) 0,O_ 27 (.cl 34 [(t_ 26)]) 0,O_ 28 (.cl 25 [(t_ 20),(t_ 21),(t_ 27)]) 0]))) (R_ 0 [O_ 29 (.bin .add (t_ 17) (i_ 1)) 0,O_ 17 (.mv (t_ 29)) 0]))))))) (.seq (R_ 0 [O_ 4 (.mv (b_ true)) 0]) .ret))))
theorem gc21_ok:compF Tryz.prog Tryz.f21=some (gc21.er,30,[.tmp 4]):=by unfold gc21;kernel_rfl
theorem p_tally_Tally_Join_p2_0 {u1 u2:Bool}  (a0:TallyTally) (a1:TallyTally) (r:TallyTally × Bool) (H:p_tally_Tally_Join a0 a1=some r):CallsS Tryz.prog 21 [.ptr 0 0,.ptr 1 0] [.live (cellsM SyncatomicInt64.v a0.counts++([.lit (.int .u32 a0.once.done.v_),.lit (.int .i32 a0.once.m.mu.state),.lit (.int .u32 a0.once.m.mu.sema),.sl (List.map V.s a0.names) u1])) 0,.live (cellsM SyncatomicInt64.v a1.counts++([.lit (.int .u32 a1.once.done.v_),.lit (.int .i32 a1.once.m.mu.state),.lit (.int .u32 a1.once.m.mu.sema),.sl (List.map V.s a1.names) u2])) 0] ((fun r:TallyTally × Bool=>V.b r.2) r) [.live ((fun r:TallyTally × Bool=>(cellsM SyncatomicInt64.v r.1.counts++([.lit (.int .u32 r.1.once.done.v_),.lit (.int .i32 r.1.once.m.mu.state),.lit (.int .u32 r.1.once.m.mu.sema),.sl (List.map V.s r.1.names) false]))) r) 0,.live (cellsM SyncatomicInt64.v a1.counts++([.lit (.int .u32 a1.once.done.v_),.lit (.int .i32 a1.once.m.mu.state),.lit (.int .u32 a1.once.m.mu.sema),.sl (List.map V.s a1.names) u2])) 0]:=by
 refine callsR_c (n0:=2) mix Tryz.func21 gc21_ok rfl ?_
 rw [p_tally_Tally_Join] at H
 conv=>whnf
 iterate 8 (refine Tst.F ?_;conv=>whnf)
 obtain ⟨o2,HL3,HQ4⟩:=bind_c H
 refine loop_c [17] [5,18,19,20,21,22,23,24,25,26,27,28,29,6,9,13,14] [5,18,19,20,21,22,23,24,25,26,27,28,29,6,9,13,14] (fun n vals st=>(∃ y6 y7,p_tally_Tally_Join_l1  a1 n y6 y7=some o2∧vals=[.i y6]∧st=[.live (cellsM SyncatomicInt64.v y7.counts++([.lit (.int .u32 y7.once.done.v_),.lit (.int .i32 y7.once.m.mu.state),.lit (.int .u32 y7.once.m.mu.sema),.sl (List.map V.s y7.names) u1])) 0,.live (cellsM SyncatomicInt64.v a1.counts++([.lit (.int .u32 a1.once.done.v_),.lit (.int .i32 a1.once.m.mu.state),.lit (.int .u32 a1.once.m.mu.sema),.sl (List.map V.s a1.names) u2])) 0])∨(∃ y12 y13,p_tally_Tally_Join_l1  a1 n y12 y13=some o2∧vals=[.i y12]∧st=[.live (cellsM SyncatomicInt64.v y13.counts++([.lit (.int .u32 y13.once.done.v_),.lit (.int .i32 y13.once.m.mu.state),.lit (.int .u32 y13.once.m.mu.sema),.sl (List.map V.s y13.names) false])) 0,.live (cellsM SyncatomicInt64.v a1.counts++([.lit (.int .u32 a1.once.done.v_),.lit (.int .i32 a1.once.m.mu.state),.lit (.int .u32 a1.once.m.mu.sema),.sl (List.map V.s a1.names) u2])) 0])) fuel 2 [] (.inl (⟨_,_,HL3,rfl,rfl⟩)) (Nat.le_of_ble_eq_true rfl) rfl (by kernel_rfl) (by kernel_rfl) rfl (wkB_live0 rfl (belowL_app (cellsM_idlt (f:=SyncatomicInt64.v) (fun _=>rfl) _) rfl) rfl (wkB_live0 rfl (belowL_app (cellsM_idlt (f:=SyncatomicInt64.v) (fun _=>rfl) _) rfl) rfl wkB_nil)) ?_
 rintro (_ | n5) _ _ (⟨y6,y7,H,rfl,rfl⟩ | ⟨y12,y13,H,rfl,rfl⟩)
 ·rw [p_tally_Tally_Join_l1] at H;cases H
 ·rw [p_tally_Tally_Join_l1] at H;cases H
 ·rw [p_tally_Tally_Join_l1] at H
  conv=>whnf
  refine tst_d H (fun b8 H=>?_) (fun b8 H=>?_)
  ·conv=>whnf
   obtain rfl:=Option.some.inj H
   have H:=HQ4
   try dsimp only at H
   refine finP_c (y:=r) (st0:=[.live (cellsM SyncatomicInt64.v a0.counts++([.lit (.int .u32 a0.once.done.v_),.lit (.int .i32 a0.once.m.mu.state),.lit (.int .u32 a0.once.m.mu.sema),.sl (List.map V.s a0.names) u1])) 0,.live (cellsM SyncatomicInt64.v a1.counts++([.lit (.int .u32 a1.once.done.v_),.lit (.int .i32 a1.once.m.mu.state),.lit (.int .u32 a1.once.m.mu.sema),.sl (List.map V.s a1.names) u2])) 0]) (enc:=(fun r:TallyTally × Bool=>V.b r.2)) (T:=(fun r:TallyTally × Bool=>(cellsM SyncatomicInt64.v r.1.counts++([.lit (.int .u32 r.1.once.done.v_),.lit (.int .i32 r.1.once.m.mu.state),.lit (.int .u32 r.1.once.m.mu.sema),.sl (List.map V.s r.1.names) false])))) (i:=0) [] (.inr rfl) H (Nat.le_of_ble_eq_true rfl) ?_;conv=>whnf
   exact ⟨⟨⟨rfl,(okN_M (belowL_app (cellsM_idlt (f:=SyncatomicInt64.v) (fun _=>rfl) _) rfl))⟩,trivial⟩,⟨_,_,rfl,(fzl_app (.cons (.id rfl) (.cons (.id rfl) (.cons (.id rfl) (.cons (.slw) (.nil))))) (fzl_lit (cellsM_idlt (f:=SyncatomicInt64.v) (fun _=>rfl) _))),(one_app (one_M (f:=SyncatomicInt64.v) (fun _=>rfl) _) rfl)⟩,⟨rfl,rfl⟩⟩
  conv=>whnf
  refine ixa_c H (fun x9 h10 H=>?_);conv=>whnf
  refine Ask_S (callsS_loadM (p:=([]:List V)) (f:=SyncatomicInt64.v) (seg:=a1.counts) (m:=[.lit (.int .u32 a1.once.done.v_),.lit (.int .i32 a1.once.m.mu.state),.lit (.int .u32 a1.once.m.mu.sema),.sl (List.map V.s a1.names) u2]) (es:=1) rfl (by first | rfl | (simp only [List.append_assoc,List.cons_append,List.nil_append,List.append_nil];done) | simp) h10 (fun _=>rfl) (by simp) rfl) rfl ?_;conv=>whnf
  refine askCo_c [0] (fun s hs=>p_tally_Tally_more_p1_0 _ _ _ s hs) H (fun _=>rfl) rfl ⟨rfl,trivial⟩ rfl (closed_cons (belowL_app (cellsM_idlt (f:=SyncatomicInt64.v) (fun _=>rfl) _) rfl) closed_nil) (fun s=>(closed_cons (belowL_app (cellsM_idlt (f:=SyncatomicInt64.v) (fun _=>rfl) _) rfl) closed_nil)) (fun _=>rfl) (.kp rfl (.kp rfl (.kp rfl (.nil)))) (fun v11 H=>?_);conv=>whnf
  refine Ari.w ?_;conv=>whnf
  exact again_c [5,18,19,20,21,22,23,24,25,26,27,28,29,6,9,13,14] n5 2 [] (.inr (⟨_,_,H,rfl,rfl⟩)) (Nat.lt_succ_self _) (Nat.le_of_ble_eq_true rfl) rfl (by kernel_rfl) (by kernel_rfl) rfl (wkB_live0 rfl (belowL_app (cellsM_idlt (f:=SyncatomicInt64.v) (fun _=>rfl) _) rfl) rfl (wkB_live0 rfl (belowL_app (cellsM_idlt (f:=SyncatomicInt64.v) (fun _=>rfl) _) rfl) rfl wkB_nil))
 rw [p_tally_Tally_Join_l1] at H
 conv=>whnf
 refine tst_d H (fun b14 H=>?_) (fun b14 H=>?_)
 ·conv=>whnf
  obtain rfl:=Option.some.inj H
  have H:=HQ4
  try dsimp only at H
  refine finP_c (y:=r) (st0:=[.live (cellsM SyncatomicInt64.v a0.counts++([.lit (.int .u32 a0.once.done.v_),.lit (.int .i32 a0.once.m.mu.state),.lit (.int .u32 a0.once.m.mu.sema),.sl (List.map V.s a0.names) u1])) 0,.live (cellsM SyncatomicInt64.v a1.counts++([.lit (.int .u32 a1.once.done.v_),.lit (.int .i32 a1.once.m.mu.state),.lit (.int .u32 a1.once.m.mu.sema),.sl (List.map V.s a1.names) u2])) 0]) (enc:=(fun r:TallyTally × Bool=>V.b r.2)) (T:=(fun r:TallyTally × Bool=>(cellsM SyncatomicInt64.v r.1.counts++([.lit (.int .u32 r.1.once.done.v_),.lit (.int .i32 r.1.once.m.mu.state),.lit (.int .u32 r.1.once.m.mu.sema),.sl (List.map V.s r.1.names) false])))) (i:=0) [] (.inr rfl) H (Nat.le_of_ble_eq_true rfl) ?_;conv=>whnf
  exact ⟨⟨⟨rfl,(okN_M (belowL_app (cellsM_idlt (f:=SyncatomicInt64.v) (fun _=>rfl) _) rfl))⟩,trivial⟩,⟨_,_,rfl,(fzl_app (.cons (.id rfl) (.cons (.id rfl) (.cons (.id rfl) (.cons (.id rfl) (.nil))))) (fzl_lit (cellsM_idlt (f:=SyncatomicInt64.v) (fun _=>rfl) _))),(one_app (one_M (f:=SyncatomicInt64.v) (fun _=>rfl) _) rfl)⟩,⟨rfl,rfl⟩⟩
 conv=>whnf
 refine ixa_c H (fun x15 h16 H=>?_);conv=>whnf
 refine Ask_S (callsS_loadM (p:=([]:List V)) (f:=SyncatomicInt64.v) (seg:=a1.counts) (m:=[.lit (.int .u32 a1.once.done.v_),.lit (.int .i32 a1.once.m.mu.state),.lit (.int .u32 a1.once.m.mu.sema),.sl (List.map V.s a1.names) u2]) (es:=1) rfl (by first | rfl | (simp only [List.append_assoc,List.cons_append,List.nil_append,List.append_nil];done) | simp) h16 (fun _=>rfl) (by simp) rfl) rfl ?_;conv=>whnf
 refine askCo_c [0] (fun s hs=>p_tally_Tally_more_p1_0 _ _ _ s hs) H (fun _=>rfl) rfl ⟨rfl,trivial⟩ rfl (closed_cons (belowL_app (cellsM_idlt (f:=SyncatomicInt64.v) (fun _=>rfl) _) rfl) closed_nil) (fun s=>(closed_cons (belowL_app (cellsM_idlt (f:=SyncatomicInt64.v) (fun _=>rfl) _) rfl) closed_nil)) (fun _=>rfl) (.kp rfl (.kp rfl (.kp rfl (.nil)))) (fun v17 H=>?_);conv=>whnf
 refine Ari.w ?_;conv=>whnf
 exact again_c [5,18,19,20,21,22,23,24,25,26,27,28,29,6,9,13,14] n5 2 [] (.inr (⟨_,_,H,rfl,rfl⟩)) (Nat.lt_succ_self _) (Nat.le_of_ble_eq_true rfl) rfl (by kernel_rfl) (by kernel_rfl) rfl (wkB_live0 rfl (belowL_app (cellsM_idlt (f:=SyncatomicInt64.v) (fun _=>rfl) _) rfl) rfl (wkB_live0 rfl (belowL_app (cellsM_idlt (f:=SyncatomicInt64.v) (fun _=>rfl) _) rfl) rfl wkB_nil))
def gc18:BCode:=(.seq (R_ 0 [O_ 2 (.mv (.const (.string ⟨#[]⟩))) 0]) (.seq (.seq (R_ 0 [O_ 3 (.mv (t_ 0)) 0]) (.block 0 (.seq (R_ 0 [O_ 5 (.bin .eql (t_ 3) (i_ 0)) 0,O_ 4 (.mv (t_ 5)) 0]) (.cond (t_ 4) (.seq (R_ 0 [O_ 2 (.mv (.const (.string ⟨#[115,116,101,112,115]⟩))) 0]) .ret) (.seq (R_ 0 [O_ 7 (.bin .eql (t_ 3) (i_ 1)) 0,O_ 6 (.mv (t_ 7)) 0]) (.cond (t_ 6) (.seq (R_ 0 [O_ 2 (.mv (.const (.string ⟨#[119,114,111,110,103]⟩))) 0]) .ret) (.seq (R_ 0 [O_ 9 (.bin .eql (t_ 3) (i_ 2)) 0,O_ 8 (.mv (t_ 9)) 0]) (.cond (t_ 8) (.seq (R_ 0 [O_ 2 (.mv (.const (.string ⟨#[115,97,105,100]⟩))) 0]) .ret) (.seq (R_ 0 [O_ 11 (.bin .eql (t_ 3) (i_ 3)) 0,O_ 10 (.mv (t_ 11)) 0]) (.cond (t_ 10) (.seq (R_ 0 [O_ 2 (.mv (.const (.string ⟨#[98,121,116,101,115]⟩))) 0]) .ret) (.seq (R_ 0 [O_ 13 (.bin .eql (t_ 3) (i_ 4)) 0,O_ 12 (.mv (t_ 13)) 0]) (.cond (t_ 12) (.seq (R_ 0 [O_ 2 (.mv (.const (.string ⟨#[103,114,97,110,116,101,100]⟩))) 0]) .ret) (.seq (R_ 0 [O_ 15 (.bin .eql (t_ 3) (i_ 5)) 0,O_ 14 (.mv (t_ 15)) 0]) (.cond (t_ 14) (.seq (R_ 0 [O_ 2 (.mv (.const (.string ⟨#[114,101,102,117,115,101,100]⟩))) 0]) .ret) (.seq (R_ 0 [O_ 17 (.bin .eql (t_ 3) (i_ 6)) 0,O_ 16 (.mv (t_ 17)) 0]) (.cond (t_ 16) (.seq (R_ 0 [O_ 2 (.mv (.const (.string ⟨#[115,101,101,110]⟩))) 0]) .ret) (.seq (R_ 0 [O_ 19 (.bin .eql (t_ 3) (i_ 7)) 0,O_ 18 (.mv (t_ 19)) 0]) (.cond (t_ 18) (.seq (R_ 0 [O_ 2 (.mv (.const (.string ⟨#[103,111,110,101]⟩))) 0]) .ret) (.seq (R_ 0 [O_ 21 (.bin .eql (t_ 3) (i_ 8)) 0,O_ 20 (.mv (t_ 21)) 0]) (.cond (t_ 20) (.seq (R_ 0 [O_ 2 (.mv (.const (.string ⟨#[115,110,97,112,115]⟩))) 0]) .ret) (.seq (R_ 0 [O_ 23 (.bin .eql (t_ 3) (i_ 9)) 0,O_ 22 (.mv (t_ 23)) 0]) (.cond (t_ 22) (.seq (R_ 0 [O_ 2 (.mv (.const (.string ⟨#[114,111,115,116,101,114,115]⟩))) 0]) .ret) (.seq (R_ 0 [O_ 25 (.bin .eql (t_ 3) (i_ 10)) 0,O_ 24 (.mv (t_ 25)) 0]) (.cond (t_ 24) (.seq (R_ 0 [O_ 2 (.mv (.const (.string ⟨#[110,111,116,101,115]⟩))) 0]) .ret) .skip)))))))))))))))))))))))) (.seq (R_ 0 [O_ 2 (.mv (.const (.string ⟨#[115,104,117,116]⟩))) 0]) .ret)))
theorem gc18_ok:compF Tryz.prog Tryz.f18=some (gc18.er,26,[.tmp 2]):=by unfold gc18;kernel_rfl
theorem p_ref36_Name_v (a0:Int):CallsO Tryz.prog 18 [.i a0] V.s (p_ref36_Name a0):=by
 refine callsO_comp mix Tryz.func18 gc18_ok fun r H=>?_
 rw [p_ref36_Name] at H
 conv=>whnf
 refine tst_c H (fun b1 H=>?_) (fun b1 H=>?_)
 ·conv=>whnf
  exact fin0_c (enc:=V.s) H (.inr rfl) (.cons (.tmp rfl) (.nil)) rfl rfl
 conv=>whnf
 refine tst_c H (fun b2 H=>?_) (fun b2 H=>?_)
 ·conv=>whnf
  exact fin0_c (enc:=V.s) H (.inr rfl) (.cons (.tmp rfl) (.nil)) rfl rfl
 conv=>whnf
 refine tst_c H (fun b3 H=>?_) (fun b3 H=>?_)
 ·conv=>whnf
  exact fin0_c (enc:=V.s) H (.inr rfl) (.cons (.tmp rfl) (.nil)) rfl rfl
 conv=>whnf
 refine tst_c H (fun b4 H=>?_) (fun b4 H=>?_)
 ·conv=>whnf
  exact fin0_c (enc:=V.s) H (.inr rfl) (.cons (.tmp rfl) (.nil)) rfl rfl
 conv=>whnf
 refine tst_c H (fun b5 H=>?_) (fun b5 H=>?_)
 ·conv=>whnf
  exact fin0_c (enc:=V.s) H (.inr rfl) (.cons (.tmp rfl) (.nil)) rfl rfl
 conv=>whnf
 refine tst_c H (fun b6 H=>?_) (fun b6 H=>?_)
 ·conv=>whnf
  exact fin0_c (enc:=V.s) H (.inr rfl) (.cons (.tmp rfl) (.nil)) rfl rfl
 conv=>whnf
 refine tst_c H (fun b7 H=>?_) (fun b7 H=>?_)
 ·conv=>whnf
  exact fin0_c (enc:=V.s) H (.inr rfl) (.cons (.tmp rfl) (.nil)) rfl rfl
 conv=>whnf
 refine tst_c H (fun b8 H=>?_) (fun b8 H=>?_)
 ·conv=>whnf
  exact fin0_c (enc:=V.s) H (.inr rfl) (.cons (.tmp rfl) (.nil)) rfl rfl
 conv=>whnf
 refine tst_c H (fun b9 H=>?_) (fun b9 H=>?_)
 ·conv=>whnf
  exact fin0_c (enc:=V.s) H (.inr rfl) (.cons (.tmp rfl) (.nil)) rfl rfl
 conv=>whnf
 refine tst_c H (fun b10 H=>?_) (fun b10 H=>?_)
 ·conv=>whnf
  exact fin0_c (enc:=V.s) H (.inr rfl) (.cons (.tmp rfl) (.nil)) rfl rfl
 conv=>whnf
 refine tst_c H (fun b11 H=>?_) (fun b11 H=>?_)
 ·conv=>whnf
  exact fin0_c (enc:=V.s) H (.inr rfl) (.cons (.tmp rfl) (.nil)) rfl rfl
 conv=>whnf
 exact fin0_c (enc:=V.s) H (.inr rfl) (.cons (.tmp rfl) (.nil)) rfl rfl
end Go.Proofs.YtpkodpcfafipdaaGreat

