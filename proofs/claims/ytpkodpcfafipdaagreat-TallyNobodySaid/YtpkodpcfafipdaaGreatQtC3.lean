/- TallyNobody: for every input the call returns true, and its arguments read as they did. -/
import Derived.Test.YtpkodpcfafipdaaGreatQtC1
import Derived.Test.YtpkodpcfafipdaaGreatQtC2
import Derived.Test.YtpkodpcfafipdaaGreatQtA12
import Derived.KernelRfl
import Derived.Test.YtpkodpcfafipdaaGreatQtA13
import Derived.Test.YtpkodpcfafipdaaGreatRows
set_option linter.all false
namespace Go.Proofs.YtpkodpcfafipdaaGreat
open Go.RowKit
set_option maxRecDepth 100000
set_option maxHeartbeats 4000000
def gc7:BCode:=(.seq (R_ 0 [O_ 2 (.mv (b_ false)) 0]) (.seq (.seq (R_ 0 [O_ 5 (.mv (t_ 0)) 0,O_ 6 (.lens (t_ 5)) 0,O_ 7 (.bin .gtr (t_ 6) (i_ 40)) 0]) (.cond (t_ 7) (.seq (R_ 0 [O_ 2 (.mv (b_ false)) 0]) .ret) .skip)) (.seq (.seq (R_ 0 [O_ 3 (.mv (i_ 0)) 0]) (.block 0 (.loop (.seq (.seq (R_ 0 [O_ 8 (.mv (t_ 3)) 0,O_ 9 (.mv (t_ 0)) 0,O_ 10 (.lens (t_ 9)) 0,O_ 11 (.bin .lss (t_ 8) (t_ 10)) 0]) (.cond (t_ 11) .skip (.exit 0))) (.seq (.block 1 (.seq (.seq (R_ 0 [O_ 14 (.mv (t_ 0)) 0,O_ 15 (.mv (t_ 3)) 0,O_ 16 (.ixs 5 (t_ 14) (t_ 15)) 0,O_ 17 (.fa 0 (t_ 16)) 0,O_ 18 (.fa 1 (t_ 17)) 0,O_ 19 (.ld 1 false (t_ 18)) 0,O_ 20 (.lens (t_ 19)) 0,O_ 21 (.bin .gtr (t_ 20) (i_ 20)) 0,O_ 22 (.mv (t_ 21)) 0,⟨(some 23),.mv (t_ 0),(some (22,false)),0⟩,⟨(some 24),.mv (t_ 3),(some (22,false)),0⟩,⟨(some 25),.ixs 5 (t_ 23) (t_ 24),(some (22,false)),0⟩,⟨(some 26),.fa 0 (t_ 25),(some (22,false)),0⟩,⟨(some 27),.fa 2 (t_ 26),(some (22,false)),0⟩,⟨(some 28),.ld 1 false (t_ 27),(some (22,false)),0⟩,⟨(some 29),.lens (t_ 28),(some (22,false)),0⟩,⟨(some 30),.bin .gtr (t_ 29) (i_ 20),(some (22,false)),0⟩,O_ 31 (.pick (t_ 22) (b_ true) (t_ 30)) 0,O_ 32 (.mv (t_ 31)) 0,⟨(some 33),.mv (t_ 0),(some (32,false)),0⟩,⟨(some 34),.mv (t_ 3),(some (32,false)),0⟩,⟨(some 35),.ixs 5 (t_ 33) (t_ 34),(some (32,false)),0⟩,⟨(some 36),.fa 3 (t_ 35),(some (32,false)),0⟩,⟨(some 37),.ld 1 false (t_ 36),(some (32,false)),0⟩,⟨(some 38),.lent (t_ 37),(some (32,false)),0⟩,⟨(some 39),.bin .gtr (t_ 38) (i_ 20),(some (32,false)),0⟩,O_ 40 (.pick (t_ 32) (b_ true) (t_ 39)) 0]) (.cond (t_ 40) (.seq (R_ 0 [O_ 2 (.mv (b_ false)) 0]) .ret) .skip)) (.seq (R_ 0 [O_ 4 (.mv (i_ 0)) 0]) (.block 2 (.loop (.seq (.seq (R_ 0 [O_ 41 (.mv (t_ 4)) 0,O_ 42 (.mv (t_ 0)) 0,O_ 43 (.mv (t_ 3)) 0,O_ 44 (.ixs 5 (t_ 42) (t_ 43)) 0,O_ 45 (.fa 0 (t_ 44)) 0,O_ 46 (.fa 1 (t_ 45)) 0,O_ 47 (.ld 1 false (t_ 46)) 0,O_ 48 (.lens (t_ 47)) 0,O_ 49 (.bin .lss (t_ 41) (t_ 48)) 0]) (.cond (t_ 49) .skip (.exit 2))) (.seq (.block 3 (.seq (R_ 0 [O_ 52 (.mv (t_ 0)) 0,O_ 53 (.mv (t_ 3)) 0,O_ 54 (.ixs 5 (t_ 52) (t_ 53)) 0,O_ 55 (.fa 0 (t_ 54)) 0,O_ 56 (.fa 1 (t_ 55)) 0,O_ 57 (.ld 1 false (t_ 56)) 0,O_ 58 (.mv (t_ 4)) 0,O_ 59 (.ixs 9 (t_ 57) (t_ 58)) 0,O_ 60 (.fa 1 (t_ 59)) 0,O_ 61 (.ld 8 true (t_ 60)) 0,O_ 62 (.cl 22 [(t_ 61)]) 0,O_ 63 (.un .not (t_ 62)) 0]) (.cond (t_ 63) (.seq (R_ 0 [O_ 2 (.mv (b_ false)) 0]) .ret) .skip))) (R_ 0 [O_ 50 (.mv (t_ 4)) 0,O_ 51 (.bin .add (t_ 50) (i_ 1)) 0,O_ 4 (.mv (t_ 51)) 0])))))))) (R_ 0 [O_ 12 (.mv (t_ 3)) 0,O_ 13 (.bin .add (t_ 12) (i_ 1)) 0,O_ 3 (.mv (t_ 13)) 0])))))) (.seq (R_ 0 [O_ 2 (.mv (b_ true)) 0]) .ret))))
theorem gc7_ok:compF Tryz.prog Tryz.f7=some (gc7.er,64,[.tmp 2]):=by unfold gc7;kernel_rfl
theorem p_law36_few_v {u1:Bool} (a0:List Law36Act):CallsO Tryz.prog 7 [.sl (List.map Law36Act.v a0) u1] V.b (p_law36_few a0):=by
 refine callsO_comp mix Tryz.func7 gc7_ok fun r H=>?_
 rw [p_law36_few] at H
 conv=>whnf
 refine LenQ.M ?_;conv=>whnf
 refine tst_c H (fun b1 H=>?_) (fun b1 H=>?_)
 ·conv=>whnf
  exact fb_ H
 conv=>whnf
 obtain ⟨o3,HL4,HQ5⟩:=bind_c H
 refine loop_c [2,3] [4,8,9,10,11,12,13,14,15,16,17,18,19,20,21,22,23,24,25,26,27,28,29,30,31,32,33,34,35,36,37,38,39,40,41,42,43,44,45,46,47,48,49,50,51,52,53,54,55,56,57,58,59,60,61,62,63] [4,8,9,10,11,12,13,14,15,16,17,18,19,20,21,22,23,24,25,26,27,28,29,30,31,32,33,34,35,36,37,38,39,40,41,42,43,44,45,46,47,48,49,50,51,52,53,54,55,56,57,58,59,60,61,62,63] (fun n vals st=>(∃ y7,p_law36_few_l1  a0 n y7=some o3∧vals=[.b false,.i y7]∧st=[])) fuel 0 [] (⟨_,HL4,rfl,rfl⟩) (Nat.zero_le _) rfl (by kernel_rfl) (by kernel_rfl) rfl trivial ?_
 rintro (_ | n6) _ _ (⟨y7,H,rfl,rfl⟩)
 ·rw [p_law36_few_l1] at H;cases H
 rw [p_law36_few_l1] at H
 conv=>whnf
 refine LenQ.M ?_;conv=>whnf
 refine tst_d H (fun b8 H=>?_) (fun b8 H=>?_)
 ·conv=>whnf
  obtain rfl:=Option.some.inj H
  have H:=HQ5
  try dsimp only at H
  exact fb_ H
 conv=>whnf
 refine ixs_c (f:=Law36Act.v) H (fun _=>rfl) (fun x9 H=>?_);conv=>whnf
 refine lq_ ?_;conv=>whnf
 refine lq_ ?_;conv=>whnf
 refine LenQ.M ?_;conv=>whnf
 refine tst_c H (fun b10 H=>?_) (fun b10 H=>?_)
 ·conv=>whnf
  iterate 17 (refine Tst.T ?_;conv=>whnf)
  obtain rfl:=Option.some.inj H
  have H:=HQ5
  try dsimp only at H
  exact fb_ H
 conv=>whnf
 iterate 2 (refine Tst.F ?_;conv=>whnf)
 refine ixs_c (f:=Law36Act.v) H (fun _=>rfl) (fun x11 H=>?_);conv=>whnf
 refine Tst.F ?_;conv=>whnf
 refine lq_ ?_;conv=>whnf
 refine Tst.F ?_;conv=>whnf
 refine lq_ ?_;conv=>whnf
 iterate 2 (refine Tst.F ?_;conv=>whnf)
 refine LenQ.M ?_;conv=>whnf
 iterate 2 (refine Tst.F ?_;conv=>whnf)
 refine tst_c H (fun b12 H=>?_) (fun b12 H=>?_)
 ·conv=>whnf
  iterate 8 (refine Tst.T ?_;conv=>whnf)
  obtain rfl:=Option.some.inj H
  have H:=HQ5
  try dsimp only at H
  exact fb_ H
 conv=>whnf
 iterate 2 (refine Tst.F ?_;conv=>whnf)
 refine ixs_c (f:=Law36Act.v) H (fun _=>rfl) (fun x13 H=>?_);conv=>whnf
 refine Tst.F ?_;conv=>whnf
 refine lq_ ?_;conv=>whnf
 iterate 4 (refine Tst.F ?_;conv=>whnf)
 refine tst_c H (fun b14 H=>?_) (fun b14 H=>?_)
 ·conv=>whnf
  obtain rfl:=Option.some.inj H
  have H:=HQ5
  try dsimp only at H
  exact fb_ H
 conv=>whnf
 obtain ⟨o16,HL17,HQ18⟩:=bind_c H
 refine loop_c [2,4] [41,42,43,44,45,46,47,48,49,50,51,52,53,54,55,56,57,58,59,60,61,62,63] [41,42,43,44,45,46,47,48,49,50,51,52,53,54,55,56,57,58,59,60,61,62,63] (fun n vals st=>(∃ y20,p_law36_few_l2  a0 y7 n y20=some o16∧vals=[.b false,.i y20]∧st=[])) fuel 0 [] (⟨_,HL17,rfl,rfl⟩) (Nat.zero_le _) rfl (by kernel_rfl) (by kernel_rfl) rfl trivial ?_
 rintro (_ | n19) _ _ (⟨y20,H,rfl,rfl⟩)
 ·rw [p_law36_few_l2] at H;cases H
 rw [p_law36_few_l2] at H
 conv=>whnf
 refine ixs_c (f:=Law36Act.v) H (fun _=>rfl) (fun x21 H=>?_);conv=>whnf
 refine lq_ ?_;conv=>whnf
 refine lq_ ?_;conv=>whnf
 refine LenQ.M ?_;conv=>whnf
 refine tst_d H (fun b22 H=>?_) (fun b22 H=>?_)
 ·conv=>whnf
  obtain rfl:=Option.some.inj H
  have H:=HQ18
  try dsimp only at H
  refine Ari.w ?_;conv=>whnf
  exact again_c [4,8,9,10,11,12,13,14,15,16,17,18,19,20,21,22,23,24,25,26,27,28,29,30,31,32,33,34,35,36,37,38,39,40,41,42,43,44,45,46,47,48,49,50,51,52,53,54,55,56,57,58,59,60,61,62,63] n6 0 [] (⟨_,H,rfl,rfl⟩) (Nat.lt_succ_self _) (Nat.zero_le _) rfl (by kernel_rfl) (by kernel_rfl) rfl trivial
 conv=>whnf
 refine ixs_c (f:=Law36Act.v) H (fun _=>rfl) (fun x23 H=>?_);conv=>whnf
 refine lq_ ?_;conv=>whnf
 refine lq_ ?_;conv=>whnf
 refine ixs_c (f:=Ref33Said.v) H (fun _=>rfl) (fun x24 H=>?_);conv=>whnf
 refine lq_ ?_;conv=>whnf
 refine ask_c (p_ref10_Light_v _) H rfl rfl (fun v25 H=>?_);conv=>whnf
 refine Tst.not ?_
 refine tst_d H (fun b26 H=>?_) (fun b26 H=>?_)
 ·conv=>whnf
  obtain rfl:=Option.some.inj H
  have H:=HQ18
  try dsimp only at H
  obtain rfl:=Option.some.inj H
  have H:=HQ5
  try dsimp only at H
  exact fb_ H
 conv=>whnf
 refine Ari.w ?_;conv=>whnf
 exact again_c [41,42,43,44,45,46,47,48,49,50,51,52,53,54,55,56,57,58,59,60,61,62,63] n19 0 [] (⟨_,H,rfl,rfl⟩) (Nat.lt_succ_self _) (Nat.zero_le _) rfl (by kernel_rfl) (by kernel_rfl) rfl trivial
def gc11:BCode:=(.seq (R_ 2 [O_ 1 (.bx (t_ 0)) 0,O_ 2 (.al (.agg [(.lit (.int .i64 0)),(.sl [] true),(.sl [] true)])) 1]) (.seq (R_ 1 [O_ 5 (.fa 0 (t_ 1)) 0,O_ 6 (.ld 1 false (t_ 5)) 0,O_ 7 (.fa 2 (t_ 1)) 0,O_ 8 (.ld 1 false (t_ 7)) 0,O_ 9 (.bd [(.lit (.int .i64 0)),(.sl [] true),(.sl [] true)] [(0,1,(t_ 6)),(2,1,(t_ 8))]) 0,O_ 3 (.al (.agg [(.lit (.int .i64 0)),(.sl [] true),(.sl [] true)])) 0,U_ (.st 3 (t_ 3) (t_ 9)) 1]) (.seq (.seq (R_ 0 [O_ 4 (.mv (i_ 0)) 0]) (.block 0 (.loop (.seq (.seq (R_ 0 [O_ 10 (.mv (t_ 4)) 0,O_ 11 (.fa 1 (t_ 1)) 0,O_ 12 (.ld 1 false (t_ 11)) 0,O_ 13 (.lens (t_ 12)) 0,O_ 14 (.bin .lss (t_ 10) (t_ 13)) 0]) (.cond (t_ 14) .skip (.exit 0))) (.seq (.block 1 (.reg 2 [O_ 17 (.fa 1 (t_ 3)) 0,O_ 18 (.ld 1 false (t_ 17)) 0,O_ 19 (.fa 1 (t_ 1)) 0,O_ 20 (.ld 1 false (t_ 19)) 0,O_ 21 (.mv (t_ 4)) 0,O_ 22 (.ixs 9 (t_ 20) (t_ 21)) 0,O_ 23 (.fa 0 (t_ 22)) 0,O_ 24 (.ld 1 false (t_ 23)) 0,O_ 25 (.fa 1 (t_ 1)) 0,O_ 26 (.ld 1 false (t_ 25)) 0,O_ 27 (.mv (t_ 4)) 0,O_ 28 (.ixs 9 (t_ 26) (t_ 27)) 0,O_ 29 (.fa 1 (t_ 28)) 0,O_ 30 (.ld 8 true (t_ 29)) 0,O_ 31 (.bd [(.lit (.int .i64 0)),(.lit (.int .u8 0)),(.lit (.string ⟨#[]⟩)),(.lit (.string ⟨#[]⟩)),(.lit (.string ⟨#[]⟩)),(.lit (.int .i64 0)),(.lit (.int .i64 0)),(.lit (.int .i64 0)),(.lit (.int .i64 0))] [(0,1,(t_ 24)),(1,8,(t_ 30))]) 0,O_ 32 (.bs 9 1 [(.lit (.int .i64 0)),(.lit (.int .u8 0)),(.lit (.string ⟨#[]⟩)),(.lit (.string ⟨#[]⟩)),(.lit (.string ⟨#[]⟩)),(.lit (.int .i64 0)),(.lit (.int .i64 0)),(.lit (.int .i64 0)),(.lit (.int .i64 0))] [(0,(t_ 31))]) 0,O_ 33 (.ap 9 96 (t_ 18) (t_ 32)) 1,O_ 34 (.fa 1 (t_ 3)) 2,U_ (.st 1 (t_ 34) (t_ 33)) 2] (some [[],[0],[],[2],[],[4,2,3],[3,2,4,5],[5,4,2,3,6],[],[8],[],[10,8,9],[9,8,10,11],[11,10,8,9,12],[12,9,8,10,11,13,6,3,2,4,5,7],[7,5,4,2,3,6,13,11,10,8,9,12,14],[14,12,9,8,10,11,13,6,3,2,4,5,7,15,0,1],[16,15,14,13,12,11,10,9,8,7,6,5,4,3,2,1,0],[0,1,2,3,4,5,6,7,8,9,10,11,12,13,14,15,16,17]]) 0 [])) (R_ 0 [O_ 15 (.mv (t_ 4)) 0,O_ 16 (.bin .add (t_ 15) (i_ 1)) 0,O_ 4 (.mv (t_ 16)) 0])))))) (.seq (R_ 0 [O_ 35 (.ld 3 true (t_ 3)) 0,U_ (.st 3 (t_ 2) (t_ 35)) 0]) .ret))))
theorem gc11_ok:compF Tryz.prog Tryz.f11=some (gc11.er,36,[.cell 2 3 true]):=by unfold gc11;kernel_rfl
theorem p_law36_result_v {u1 u2:Bool} (a0:Ref33Result):CallsO Tryz.prog 11 [.agg [.i a0.E,.sl (List.map Ref33Said.v a0.Said) u1,.sl (List.map V.i a0.Shut) u2]] Ref33Result.v (p_law36_result a0):=by
 refine callsO_comp mix Tryz.func11 gc11_ok fun r H=>?_
 rw [p_law36_result] at H
 conv=>whnf
 refine lq_ ?_;conv=>whnf
 obtain ⟨o2,HL3,HQ4⟩:=bind_c H
 refine loop_c [4] [10,11,12,13,14,15,16,17,18,19,20,21,22,23,24,25,26,27,28,29,30,31,32,33,34,5,7] [10,11,12,13,14,15,16,17,18,19,20,21,22,23,24,25,26,27,28,29,30,31,32,33,34,5,7] (fun n vals st=>(∃ y6 y7,p_law36_result_l1  a0 n y6 y7=some o2∧vals=[.i y6]∧st=[.live [.i a0.E,.sl (List.map Ref33Said.v a0.Said) u1,.sl (List.map V.i a0.Shut) u2] 0,.live [.i (0:Int),.sl (List.map Ref33Said.v []) true,.sl (List.map V.i []) true] 0,.live [.i y7.E,.sl (List.map Ref33Said.v y7.Said) true,.sl (List.map V.i y7.Shut) u2] 0])∨(∃ y12 y13,p_law36_result_l1  a0 n y12 y13=some o2∧vals=[.i y12]∧st=[.live [.i a0.E,.sl (List.map Ref33Said.v a0.Said) u1,.sl (List.map V.i a0.Shut) u2] 0,.live [.i (0:Int),.sl (List.map Ref33Said.v []) true,.sl (List.map V.i []) true] 0,.live [.i y13.E,.osl 3 0 (List.length y13.Said) 9 false,.sl (List.map V.i y13.Shut) u2] 0,.live (cellsM Ref33Said.v y13.Said) (cellsM Ref33Said.v y13.Said).length])) fuel 3 [] (.inl (⟨_,_,HL3,rfl,rfl⟩)) (Nat.zero_le _) rfl (by kernel_rfl) (by kernel_rfl) rfl ⟨⟨rfl,rfl,rfl⟩,⟨⟨rfl,rfl,rfl⟩,⟨⟨rfl,rfl,rfl⟩,trivial⟩⟩⟩ ?_
 rintro (_ | n5) _ _ (⟨y6,y7,H,rfl,rfl⟩ | ⟨y12,y13,H,rfl,rfl⟩)
 ·rw [p_law36_result_l1] at H;cases H
 ·rw [p_law36_result_l1] at H;cases H
 ·rw [p_law36_result_l1] at H
  conv=>whnf
  refine LenQ.M ?_;conv=>whnf
  refine tst_d H (fun b8 H=>?_) (fun b8 H=>?_)
  ·conv=>whnf
   obtain rfl:=Option.some.inj H
   have H:=HQ4
   try dsimp only at H
   refine lq_ ?_;conv=>whnf
   refine finR_c (enc:=Ref33Result.v) H ?_;conv=>whnf
   exact ⟨_,.v (fzagg (.cons (.id rfl) (.cons (.slw) (.cons (.slw) (.nil)))) rfl)⟩
  conv=>whnf
  refine ixs_c (f:=Ref33Said.v) H (fun _=>rfl) (fun x9 H=>?_);conv=>whnf
  refine lq_ ?_;conv=>whnf
  refine ixs_c (f:=Ref33Said.v) H (fun _=>rfl) (fun x10 H=>?_);conv=>whnf
  refine lq_ ?_;conv=>whnf
  refine appN_c (f:=Ref33Said.v) H (fun _=>rfl) (srcM (f:=Ref33Said.v) (fun _=>rfl) _ _) rfl (.v (srcOwn (f:=Ref33Said.v) (l:=[(Ref33Said.mk x9.Conn x10.S)]) (fun _=>rfl) rfl rfl rfl)) (by decide) rfl (by simp) (fun l11 H=>?_);conv=>whnf
  refine lq_ ?_;conv=>whnf
  refine FootQ.mk ⟨rfl,?_⟩;conv=>whnf
  refine Ari.w ?_;conv=>whnf
  exact again_c [10,11,12,13,14,15,16,17,18,19,20,21,22,23,24,25,26,27,28,29,30,31,32,33,34,5,7] n5 4 [0,1,2,4] (.inr (⟨_,_,H,rfl,rfl⟩)) (Nat.lt_succ_self _) (Nat.zero_le _) rfl (by kernel_rfl) (by kernel_rfl) rfl ⟨⟨rfl,rfl,rfl⟩,⟨⟨rfl,rfl,rfl⟩,⟨⟨rfl,rfl,rfl⟩,wkB_live0 rfl (cellsM_idlt (f:=Ref33Said.v) (fun _=>rfl) _) rfl trivial⟩⟩⟩
 rw [p_law36_result_l1] at H
 conv=>whnf
 refine LenQ.M ?_;conv=>whnf
 refine tst_d H (fun b14 H=>?_) (fun b14 H=>?_)
 ·conv=>whnf
  obtain rfl:=Option.some.inj H
  have H:=HQ4
  try dsimp only at H
  refine lq_ ?_;conv=>whnf
  refine finR_c (enc:=Ref33Result.v) H ?_;conv=>whnf
  exact ⟨_,.v (fzagg (.cons (.id rfl) (.cons (fzown (f:=Ref33Said.v) (l:=y13.Said) rfl rfl (fun _=>rfl) (fun _=>rfl)) (.cons (.slw) (.nil)))) rfl)⟩
 conv=>whnf
 refine ixs_c (f:=Ref33Said.v) H (fun _=>rfl) (fun x15 H=>?_);conv=>whnf
 refine lq_ ?_;conv=>whnf
 refine ixs_c (f:=Ref33Said.v) H (fun _=>rfl) (fun x16 H=>?_);conv=>whnf
 refine lq_ ?_;conv=>whnf
 refine appO_c (f:=Ref33Said.v) H (fun _=>rfl) rfl (Nat.le_refl _) (.v (srcOwn (f:=Ref33Said.v) (l:=[(Ref33Said.mk x15.Conn x16.S)]) (fun _=>rfl) rfl rfl rfl)) (by decide) rfl (by simp) (fun l17 H=>?_);conv=>whnf
 refine lq_ ?_;conv=>whnf
 refine FootQ.mk ⟨rfl,?_⟩;conv=>whnf
 refine Ari.w ?_;conv=>whnf
 exact again_c [10,11,12,13,14,15,16,17,18,19,20,21,22,23,24,25,26,27,28,29,30,31,32,33,34,5,7] n5 4 [0,1,2,5] (.inr (⟨_,_,H,rfl,rfl⟩)) (Nat.lt_succ_self _) (Nat.zero_le _) rfl (by kernel_rfl) (by kernel_rfl) rfl ⟨⟨rfl,rfl,rfl⟩,⟨⟨rfl,rfl,rfl⟩,⟨⟨rfl,rfl,rfl⟩,wkB_live0 rfl (cellsM_idlt (f:=Ref33Said.v) (fun _=>rfl) _) rfl trivial⟩⟩⟩
def gc20:BCode:=(.seq (R_ 0 [O_ 2 (.mv (.const (.pointer none))) 0]) (.seq (.reg 0 [O_ 5 (.cl 9 []) 0,O_ 3 (.mv (t_ 5)) 0] none 2 []) (.seq (.seq (R_ 0 [O_ 4 (.mv (i_ 0)) 0]) (.block 0 (.loop (.seq (.seq (R_ 0 [O_ 6 (.mv (t_ 4)) 0,O_ 7 (.mv (t_ 0)) 0,O_ 8 (.lens (t_ 7)) 0,O_ 9 (.bin .lss (t_ 6) (t_ 8)) 0]) (.cond (t_ 9) .skip (.exit 0))) (.seq (.block 1 (.seq (R_ 0 [O_ 12 (.mv (t_ 0)) 0,O_ 13 (.mv (t_ 4)) 0,O_ 14 (.ixs 5 (t_ 12) (t_ 13)) 0,O_ 15 (.fa 3 (t_ 14)) 0,O_ 16 (.ld 1 false (t_ 15)) 0,O_ 17 (.bin .eql (t_ 16) (.const (.string ⟨#[]⟩))) 0]) (.cond (t_ 17) (R_ 0 [O_ 18 (.mv (t_ 3)) 0,O_ 19 (.mv (t_ 0)) 0,O_ 20 (.mv (t_ 4)) 0,O_ 21 (.ixs 5 (t_ 19) (t_ 20)) 0,O_ 22 (.fa 0 (t_ 21)) 0,O_ 23 (.ld 3 true (t_ 22)) 0,O_ 24 (.cl 11 [(t_ 23)]) 0,O_ 25 (.cl 10 [(t_ 18),(t_ 24)]) 0]) (.reg 0 [O_ 26 (.mv (t_ 3)) 0,O_ 27 (.mv (t_ 0)) 0,O_ 28 (.mv (t_ 4)) 0,O_ 29 (.ixs 5 (t_ 27) (t_ 28)) 0,O_ 30 (.fa 3 (t_ 29)) 0,O_ 31 (.ld 1 false (t_ 30)) 0,O_ 32 (.mv (t_ 0)) 0,O_ 33 (.mv (t_ 4)) 0,O_ 34 (.ixs 5 (t_ 32) (t_ 33)) 0,O_ 35 (.fa 4 (t_ 34)) 0,O_ 36 (.ld 1 false (t_ 35)) 0,O_ 37 (.cl 13 [(t_ 26),(t_ 31),(t_ 36)]) 0] (some [[],[],[],[2,1],[1,2,3],[3,2,1,4],[],[],[7,6],[6,7,8],[8,7,6,9],[9,6,7,8,10,4,1,2,3,5,0]]) 0 [])))) (R_ 0 [O_ 10 (.mv (t_ 4)) 0,O_ 11 (.bin .add (t_ 10) (i_ 1)) 0,O_ 4 (.mv (t_ 11)) 0])))))) (.seq (R_ 0 [O_ 38 (.mv (t_ 3)) 0,O_ 2 (.mv (t_ 38)) 0]) .ret))))
theorem gc20_ok:compF Tryz.prog Tryz.f20=some (gc20.er,39,[.tmp 2]):=by unfold gc20;kernel_rfl
theorem p_law36_count_o {u1:Bool} (a0:List Law36Act) (y:TallyTally) (H:p_law36_count a0=some y):CallsS Tryz.prog 20 [.sl (List.map Law36Act.v a0) u1] [.fresh,.fresh] (.ptr 0 0) [.live ((fun r:TallyTally=>(cellsM SyncatomicInt64.v r.counts++([.lit (.int .u32 r.once.done.v_),.lit (.int .i32 r.once.m.mu.state),.lit (.int .u32 r.once.m.mu.sema),.sl (List.map V.s r.names) false]))) y) 0,.fresh]:=by
 refine callsR_c (n0:=2) mix Tryz.func20 gc20_ok rfl ?_
 rw [p_law36_count] at H
 conv=>whnf
 refine askN_c 2 3 (fun s hs=>p_tally_New_o  s hs) H rfl rfl rfl rfl (fun s=>(belowL_app (cellsM_idlt (f:=SyncatomicInt64.v) (fun _=>rfl) _) rfl)) (.nil) (fun y1 H=>?_);conv=>whnf
 obtain ⟨o3,HL4,HQ5⟩:=bind_c H
 refine loop_c [4] [6,7,8,9,10,11,12,13,14,15,16,17,18,19,20,21,22,23,24,25,26,27,28,29,30,31,32,33,34,35,36,37,5] [6,7,8,9,10,11,12,13,14,15,16,17,18,19,20,21,22,23,24,25,26,27,28,29,30,31,32,33,34,35,36,37,5] (fun n vals st=>(∃ y7 y8,p_law36_count_l1  a0 n y7 y8=some o3∧vals=[.i y7]∧st=[.fresh,.fresh,.live (cellsM SyncatomicInt64.v y8.counts++([.lit (.int .u32 y8.once.done.v_),.lit (.int .i32 y8.once.m.mu.state),.lit (.int .u32 y8.once.m.mu.sema),.sl (List.map V.s y8.names) false])) 0])) fuel 3 [] (⟨_,_,HL4,rfl,rfl⟩) (Nat.le_of_ble_eq_true rfl) rfl (by kernel_rfl) (by kernel_rfl) rfl (by exact ⟨rfl,⟨rfl,wkB_live0 rfl (belowL_app (cellsM_idlt (f:=SyncatomicInt64.v) (fun _=>rfl) _) rfl) rfl trivial⟩⟩) ?_
 rintro (_ | n6) _ _ (⟨y7,y8,H,rfl,rfl⟩)
 ·rw [p_law36_count_l1] at H;cases H
 rw [p_law36_count_l1] at H
 conv=>whnf
 refine LenQ.M ?_;conv=>whnf
 refine tst_d H (fun b9 H=>?_) (fun b9 H=>?_)
 ·conv=>whnf
  obtain rfl:=Option.some.inj H
  have H:=HQ5
  try dsimp only at H
  refine finNw_c (T:=(fun r:TallyTally=>(cellsM SyncatomicInt64.v r.counts++([.lit (.int .u32 r.once.done.v_),.lit (.int .i32 r.once.m.mu.state),.lit (.int .u32 r.once.m.mu.sema),.sl (List.map V.s r.names) false])))) (y:=y) [] 2 (.inr rfl) H ?_;conv=>whnf
  exact ⟨⟨(cellsM SyncatomicInt64.v y8.counts++([.lit (.int .u32 y8.once.done.v_),.lit (.int .i32 y8.once.m.mu.state),.lit (.int .u32 y8.once.m.mu.sema),.sl (List.map V.s y8.names) false])),_,rfl,(fzl_app (.cons (.id rfl) (.cons (.id rfl) (.cons (.id rfl) (.cons (.id rfl) (.nil))))) (fzl_lit (cellsM_idlt (f:=SyncatomicInt64.v) (fun _=>rfl) _))),(one_app (one_M (f:=SyncatomicInt64.v) (fun _=>rfl) _) rfl)⟩,rfl,rfl⟩
 conv=>whnf
 refine ixs_c (f:=Law36Act.v) H (fun _=>rfl) (fun x10 H=>?_);conv=>whnf
 refine lq_ ?_;conv=>whnf
 refine tst_c H (fun b11 H=>?_) (fun b11 H=>?_)
 ·conv=>whnf
  refine ixs_c (f:=Law36Act.v) H (fun _=>rfl) (fun x12 H=>?_);conv=>whnf
  refine lq_ ?_;conv=>whnf
  refine ask_c (p_law36_result_v _) H rfl rfl (fun v13 H=>?_);conv=>whnf
  refine askCo_c [2] (fun s hs=>p_tally_Tally_Note_p1_0 _ _ s hs) H (fun _=>rfl) rfl ⟨rfl,trivial⟩ rfl (closed_cons (belowL_app (cellsM_idlt (f:=SyncatomicInt64.v) (fun _=>rfl) _) rfl) closed_nil) (fun s=>(closed_cons (belowL_app (cellsM_idlt (f:=SyncatomicInt64.v) (fun _=>rfl) _) rfl) closed_nil)) (fun _=>rfl) (.kp rfl (.kp rfl (.nil))) (fun v14 H=>?_);conv=>whnf
  refine Ari.w ?_;conv=>whnf
  exact again_c [6,7,8,9,10,11,12,13,14,15,16,17,18,19,20,21,22,23,24,25,26,27,28,29,30,31,32,33,34,35,36,37,5] n6 3 [] (⟨_,_,H,rfl,rfl⟩) (Nat.lt_succ_self _) (Nat.le_of_ble_eq_true rfl) rfl (by kernel_rfl) (by kernel_rfl) rfl (by exact ⟨rfl,⟨rfl,wkB_live0 rfl (belowL_app (cellsM_idlt (f:=SyncatomicInt64.v) (fun _=>rfl) _) rfl) rfl trivial⟩⟩)
 conv=>whnf
 refine ixs_c (f:=Law36Act.v) H (fun _=>rfl) (fun x15 H=>?_);conv=>whnf
 refine lq_ ?_;conv=>whnf
 refine ixs_c (f:=Law36Act.v) H (fun _=>rfl) (fun x16 H=>?_);conv=>whnf
 refine lq_ ?_;conv=>whnf
 refine askCo_c [2] (fun s hs=>p_tally_Tally_Add_p1_0 _ _ _ s hs) H (fun _=>rfl) rfl ⟨rfl,trivial⟩ rfl (closed_cons (belowL_app (cellsM_idlt (f:=SyncatomicInt64.v) (fun _=>rfl) _) rfl) closed_nil) (fun s=>(closed_cons (belowL_app (cellsM_idlt (f:=SyncatomicInt64.v) (fun _=>rfl) _) rfl) closed_nil)) (fun _=>rfl) (.kp rfl (.kp rfl (.kp rfl (.nil)))) (fun v17 H=>?_);conv=>whnf
 refine FootQ.mk ⟨rfl,?_⟩;conv=>whnf
 refine Ari.w ?_;conv=>whnf
 exact again_c [6,7,8,9,10,11,12,13,14,15,16,17,18,19,20,21,22,23,24,25,26,27,28,29,30,31,32,33,34,35,36,37,5] n6 3 [] (⟨_,_,H,rfl,rfl⟩) (Nat.lt_succ_self _) (Nat.le_of_ble_eq_true rfl) rfl (by kernel_rfl) (by kernel_rfl) rfl (by exact ⟨rfl,⟨rfl,wkB_live0 rfl (belowL_app (cellsM_idlt (f:=SyncatomicInt64.v) (fun _=>rfl) _) rfl) rfl trivial⟩⟩)
end Go.Proofs.YtpkodpcfafipdaaGreat

namespace Go.Proofs.YtpkodpcfafipdaaGreat
open Go.RowKit
set_option maxRecDepth 1000000
set_option maxHeartbeats 4000000
def gc5:BCode:=(.seq (R_ 0 [O_ 6 (.mv (b_ false)) 0]) (.seq (.seq (R_ 0 [O_ 12 (.mv (t_ 0)) 0,O_ 13 (.cl 7 [(t_ 12)]) 0,O_ 14 (.un .not (t_ 13)) 0]) (.cond (t_ 14) (.seq (R_ 0 [O_ 15 (.cl 8 []) 0,O_ 6 (.mv (t_ 15)) 0]) .ret) .skip)) (.seq (R_ 0 [O_ 7 (.mv (.const (.pointer none))) 0]) (.seq (.seq (R_ 0 [O_ 8 (.mv (i_ 0)) 0]) (.block 0 (.loop (.seq (.seq (R_ 0 [O_ 16 (.mv (t_ 8)) 0,O_ 17 (.mv (t_ 0)) 0,O_ 18 (.lens (t_ 17)) 0,O_ 19 (.bin .lss (t_ 16) (t_ 18)) 0]) (.cond (t_ 19) .skip (.exit 0))) (.seq (.block 1 (.seq (R_ 0 [O_ 22 (.mv (t_ 7)) 0,O_ 23 (.mv (t_ 0)) 0,O_ 24 (.mv (t_ 8)) 0,O_ 25 (.ixs 5 (t_ 23) (t_ 24)) 0,O_ 26 (.fa 0 (t_ 25)) 0,O_ 27 (.ld 3 true (t_ 26)) 0,O_ 28 (.cl 11 [(t_ 27)]) 0,O_ 29 (.cl 10 [(t_ 22),(t_ 28)]) 0]) (.seq (.reg 0 [O_ 30 (.mv (t_ 7)) 0,O_ 31 (.mv (t_ 0)) 0,O_ 32 (.mv (t_ 8)) 0,O_ 33 (.ixs 5 (t_ 31) (t_ 32)) 0,O_ 34 (.fa 3 (t_ 33)) 0,O_ 35 (.ld 1 false (t_ 34)) 0,O_ 36 (.mv (t_ 0)) 0,O_ 37 (.mv (t_ 8)) 0,O_ 38 (.ixs 5 (t_ 36) (t_ 37)) 0,O_ 39 (.fa 4 (t_ 38)) 0,O_ 40 (.ld 1 false (t_ 39)) 0,O_ 41 (.cl 13 [(t_ 30),(t_ 35),(t_ 40)]) 0] (some [[],[],[],[2,1],[1,2,3],[3,2,1,4],[],[],[7,6],[6,7,8],[8,7,6,9],[9,6,7,8,10,4,1,2,3,5,0]]) 0 []) (.cond (t_ 41) (.seq (R_ 0 [O_ 6 (.mv (b_ false)) 0]) .ret) .skip)))) (R_ 0 [O_ 20 (.mv (t_ 8)) 0,O_ 21 (.bin .add (t_ 20) (i_ 1)) 0,O_ 8 (.mv (t_ 21)) 0])))))) (.seq (.reg 0 [O_ 42 (.cl 9 []) 0,O_ 9 (.mv (t_ 42)) 0] none 2 []) (.seq (R_ 0 [O_ 43 (.cl 17 []) 0,O_ 10 (.mv (t_ 43)) 0]) (.join (.seq (R_ 0 [O_ 44 (.mv (t_ 9)) 0,O_ 45 (.eqp false (t_ 44) (.const (.pointer none))) 0,O_ 46 (.mv (t_ 45)) 0,⟨(some 47),.mv (t_ 10),(some (46,false)),0⟩,⟨(some 48),.lens (t_ 47),(some (46,false)),0⟩,⟨(some 49),.bin .neq (t_ 48) (i_ 12),(some (46,false)),0⟩,O_ 50 (.pick (t_ 46) (b_ true) (t_ 49)) 0,O_ 51 (.mv (t_ 50)) 0,⟨(some 52),.mv (t_ 9),(some (51,false)),0⟩,⟨(some 53),.mv (t_ 10),(some (51,false)),0⟩,⟨(some 54),.mv (t_ 1),(some (51,false)),0⟩,⟨(some 55),.bin .rem (t_ 54) (.const (.int .u8 12)),(some (51,false)),0⟩,⟨(some 56),.cvi .i64 (t_ 55),(some (51,false)),0⟩,⟨(some 57),.ixs 1 (t_ 53) (t_ 56),(some (51,false)),0⟩,⟨(some 58),.ld 1 false (t_ 57),(some (51,false)),0⟩,⟨(some 59),.mv (t_ 2),(some (51,false)),0⟩,⟨(some 60),.cvi .i64 (t_ 59),(some (51,false)),0⟩,⟨(some 61),.cl 13 [(t_ 52),(t_ 58),(t_ 60)],(some (51,false)),0⟩,⟨(some 62),.un .not (t_ 61),(some (51,false)),0⟩,O_ 63 (.pick (t_ 51) (b_ true) (t_ 62)) 0]) (.cond (t_ 63) (.seq (R_ 0 [O_ 6 (.mv (b_ false)) 0]) .ret) .skip)) (.seq (.seq (R_ 0 [O_ 11 (.mv (i_ 0)) 0]) (.block 2 (.loop (.seq (.seq (R_ 0 [O_ 64 (.mv (t_ 11)) 0,O_ 65 (.bin .lss (t_ 64) (i_ 12)) 0]) (.cond (t_ 65) .skip (.exit 2))) (.seq (.block 3 (.seq (R_ 0 [O_ 68 (.mv (t_ 9)) 0,O_ 69 (.mv (t_ 10)) 0,O_ 70 (.mv (t_ 11)) 0,O_ 71 (.ixs 1 (t_ 69) (t_ 70)) 0,O_ 72 (.ld 1 false (t_ 71)) 0,O_ 73 (.cl 19 [(t_ 68),(t_ 72)]) 0,O_ 74 (.mv (t_ 2)) 0,O_ 75 (.cvi .i64 (t_ 74)) 0,O_ 76 (.bin .eql (t_ 73) (t_ 75)) 0,O_ 77 (.mv (t_ 11)) 0,O_ 78 (.mv (t_ 1)) 0,O_ 79 (.bin .rem (t_ 78) (.const (.int .u8 12))) 0,O_ 80 (.cvi .i64 (t_ 79)) 0,O_ 81 (.bin .eql (t_ 77) (t_ 80)) 0,O_ 82 (.mv (t_ 81)) 0,⟨(some 83),.mv (t_ 2),(some (82,false)),0⟩,⟨(some 84),.bin .eql (t_ 83) (.const (.int .u32 0)),(some (82,false)),0⟩,O_ 85 (.pick (t_ 82) (b_ true) (t_ 84)) 0,O_ 86 (.binb true (t_ 76) (t_ 85)) 0]) (.cond (t_ 86) (.seq (R_ 0 [O_ 6 (.mv (b_ false)) 0]) .ret) .skip))) (R_ 0 [O_ 66 (.mv (t_ 11)) 0,O_ 67 (.bin .add (t_ 66) (i_ 1)) 0,O_ 11 (.mv (t_ 67)) 0])))))) (.seq (.reg 0 [O_ 87 (.mv (t_ 7)) 0,O_ 88 (.cl 19 [(t_ 87),(.const (.string ⟨#[115,116,101,112,115]⟩))]) 0,O_ 89 (.bin .eql (t_ 88) (i_ 0)) 0,O_ 90 (.mv (t_ 89)) 0,⟨(some 91),.mv (t_ 7),(some (90,true)),0⟩,⟨(some 92),.cl 16 [(t_ 91)],(some (90,true)),0⟩,⟨(some 93),.lens (t_ 92),(some (90,true)),0⟩,⟨(some 94),.bin .eql (t_ 93) (i_ 0),(some (90,true)),0⟩,O_ 95 (.pick (t_ 90) (t_ 94) (b_ false)) 0,O_ 96 (.mv (t_ 95)) 0,⟨(some 97),.mv (t_ 7),(some (96,true)),0⟩,⟨(some 98),.mv (t_ 0),(some (96,true)),0⟩,⟨(some 99),.cl 20 [(t_ 98)],(some (96,true)),0⟩,⟨(some 100),.cl 21 [(t_ 97),(t_ 99)],(some (96,true)),0⟩,⟨(some 101),.un .not (t_ 100),(some (96,true)),0⟩,O_ 102 (.pick (t_ 96) (t_ 101) (b_ false)) 0,O_ 103 (.mv (t_ 102)) 0,⟨(some 104),.mv (t_ 0),(some (103,true)),0⟩,⟨(some 105),.cl 20 [(t_ 104)],(some (103,true)),0⟩,⟨(some 106),.mv (t_ 7),(some (103,true)),0⟩,⟨(some 107),.cl 21 [(t_ 105),(t_ 106)],(some (103,true)),0⟩,⟨(some 108),.un .not (t_ 107),(some (103,true)),0⟩,O_ 109 (.pick (t_ 103) (t_ 108) (b_ false)) 0,O_ 110 (.mv (t_ 109)) 0,⟨(some 111),.cl 8 [],(some (110,true)),0⟩,O_ 112 (.pick (t_ 110) (t_ 111) (b_ false)) 0,O_ 6 (.mv (t_ 112)) 0] none 4 []) .ret)))))))))
theorem gc5_ok:compF Tryz.prog Tryz.f5=some (gc5.er,113,[.tmp 6]):=by unfold gc5;kernel_rfl
theorem p_law36_TallyNobody_v {u1:Bool} (a0:List Law36Act) (a1:Int) (a2:Int):CallsO Tryz.prog 5 [.sl (List.map Law36Act.v a0) u1,.y8 a1,.lit (.int .u32 a2)] V.b (tru? (p_law36_TallyNobody a0 a1 a2)):=by
 refine callsO_comp mix Tryz.func5 gc5_ok fun r H=>?_
 have H1:=tru_of H
 clear H
 obtain ⟨rfl,H⟩:=H1
 rw [p_law36_TallyNobody] at H
 conv=>whnf
 refine ask_c (p_law36_few_v _) H rfl rfl (fun v1 H=>?_);conv=>whnf
 refine Tst.not ?_
 refine tst_d H (fun b2 H=>?_) (fun b2 H=>?_)
 ·conv=>whnf
  refine ask_c (p_law36_awake_v) H rfl rfl (fun v54 H=>?_);conv=>whnf
  exact fb_ H
 conv=>whnf
 obtain ⟨o4,HL5,HQ6⟩:=bind_c H
 refine loop_c [6,8] [16,17,18,19,20,21,22,23,24,25,26,27,28,29,30,31,32,33,34,35,36,37,38,39,40,41] [16,17,18,19,20,21,22,23,24,25,26,27,28,29,30,31,32,33,34,35,36,37,38,39,40,41] (fun n vals st=>(∃ y8,p_law36_TallyNobody_l1  a0 n y8=some o4∧vals=[.b false,.i y8]∧st=[])) fuel 0 [] (⟨_,HL5,rfl,rfl⟩) (Nat.zero_le _) rfl (by kernel_rfl) (by kernel_rfl) rfl trivial ?_
 rintro (_ | n7) _ _ (⟨y8,H,rfl,rfl⟩)
 ·rw [p_law36_TallyNobody_l1] at H;cases H
 rw [p_law36_TallyNobody_l1] at H
 conv=>whnf
 refine LenQ.M ?_;conv=>whnf
 refine tst_c H (fun b9 H=>?_) (fun b9 H=>?_)
 ·conv=>whnf
  refine ixs_c (f:=Law36Act.v) H (fun _=>rfl) (fun x10 H=>?_);conv=>whnf
  refine lq_ ?_;conv=>whnf
  refine ask_c (p_law36_result_v _) H rfl rfl (fun v11 H=>?_);conv=>whnf
  refine ask_c (p_tally_Tally_Note_n0_v _) H rfl rfl (fun v12 H=>?_);conv=>whnf
  refine ixs_c (f:=Law36Act.v) H (fun _=>rfl) (fun x13 H=>?_);conv=>whnf
  refine lq_ ?_;conv=>whnf
  refine ixs_c (f:=Law36Act.v) H (fun _=>rfl) (fun x14 H=>?_);conv=>whnf
  refine lq_ ?_;conv=>whnf
  refine ask_c (p_tally_Tally_Add_n0_v _ _) H rfl rfl (fun v15 H=>?_);conv=>whnf
  refine FootQ.mk ⟨rfl,?_⟩;conv=>whnf
  refine tst_c H (fun b16 H=>?_) (fun b16 H=>?_)
  ·conv=>whnf
   obtain rfl:=Option.some.inj H
   have H:=HQ6
   try dsimp only at H
   exact fb_ H
  conv=>whnf
  refine Ari.w ?_;conv=>whnf
  exact again_c [16,17,18,19,20,21,22,23,24,25,26,27,28,29,30,31,32,33,34,35,36,37,38,39,40,41] n7 0 [] (⟨_,H,rfl,rfl⟩) (Nat.lt_succ_self _) (Nat.zero_le _) rfl (by kernel_rfl) (by kernel_rfl) rfl trivial
 conv=>whnf
 obtain rfl:=Option.some.inj H
 have H:=HQ6
 try dsimp only at H
 refine askN_c 0 1 (fun s hs=>p_tally_New_o  s hs) H rfl rfl rfl rfl (fun s=>(belowL_app (cellsM_idlt (f:=SyncatomicInt64.v) (fun _=>rfl) _) rfl)) (.nil) (fun y17 H=>?_);conv=>whnf
 refine ask_c (p_tally_Names_v) H rfl rfl (fun v18 H=>?_);conv=>whnf
 obtain ⟨K19,hK20,o21,HL22,HQ23⟩:=join0_c H
 refine join_c [6,9] [44,45,46,47,48,49,50,51,52,53,54,55,56,57,58,59,60,61,62,63,42] (fun vals st=>(∃ y29,K19 (.inr y29)=some true∧vals=[.b false,.ptr 0 0]∧st=[.live (cellsM SyncatomicInt64.v y29.counts++([.lit (.int .u32 y29.once.done.v_),.lit (.int .i32 y29.once.m.mu.state),.lit (.int .u32 y29.once.m.mu.sema),.sl (List.map V.s y29.names) false])) 0])) ?_ ?_
 ·have H:=HL22
  conv=>whnf
  iterate 2 (refine Tst.F ?_;conv=>whnf)
  refine LenQ.M ?_;conv=>whnf
  iterate 2 (refine Tst.F ?_;conv=>whnf)
  refine tst_c H (fun b25 H=>?_) (fun b25 H=>?_)
  ·conv=>whnf
   iterate 12 (refine Tst.T ?_;conv=>whnf)
   obtain rfl:=Option.some.inj H
   have H:=HQ23
   rw [hK20] at H
   try dsimp only at H
   exact fb_ H
  conv=>whnf
  iterate 3 (refine Tst.F ?_;conv=>whnf)
  refine ⟨by decide,?_⟩;conv=>whnf
  refine Tst.F ?_;conv=>whnf
  refine Ari.w ?_;conv=>whnf
  refine Tst.F ?_;conv=>whnf
  refine ixs_c (f:=V.s) H (fun _=>rfl) (fun x26 H=>?_);conv=>whnf
  iterate 3 (refine Tst.F ?_;conv=>whnf)
  refine Ari.w ?_;conv=>whnf
  refine Tst.F ?_;conv=>whnf
  refine askCo_c [0] (fun s hs=>p_tally_Tally_Add_p1_0 _ _ _ s hs) H (fun _=>rfl) rfl ⟨rfl,trivial⟩ rfl (closed_cons (belowL_app (cellsM_idlt (f:=SyncatomicInt64.v) (fun _=>rfl) _) rfl) closed_nil) (fun s=>(closed_cons (belowL_app (cellsM_idlt (f:=SyncatomicInt64.v) (fun _=>rfl) _) rfl) closed_nil)) (fun _=>rfl) (.kp rfl (.kp rfl (.kp rfl (.nil)))) (fun v27 H=>?_);conv=>whnf
  iterate 2 (refine Tst.F ?_;conv=>whnf)
  refine Tst.not ?_
  refine tst_d H (fun b28 H=>?_) (fun b28 H=>?_)
  ·conv=>whnf
   obtain rfl:=Option.some.inj H
   have H:=HQ23
   rw [hK20] at H
   try dsimp only at H
   exact fb_ H
  conv=>whnf
  obtain rfl:=Option.some.inj H
  exact arrive_c [44,45,46,47,48,49,50,51,52,53,54,55,56,57,58,59,60,61,62,63,42] 1 [] (⟨_,HQ23,rfl,rfl⟩) (Nat.zero_le _) rfl (by kernel_rfl) (by kernel_rfl) rfl (by exact wkB_live0 rfl (belowL_app (cellsM_idlt (f:=SyncatomicInt64.v) (fun _=>rfl) _) rfl) rfl trivial)
 rintro _ _ (⟨y29,H,rfl,rfl⟩)
 rw [hK20] at H
 try dsimp only at H
 conv=>whnf
 obtain ⟨o31,HL32,HQ33⟩:=bind_c H
 refine loop_c [6,11] [64,65,66,67,68,69,70,71,72,73,74,75,76,77,78,79,80,81,82,83,84,85,86] [64,65,66,67,68,69,70,71,72,73,74,75,76,77,78,79,80,81,82,83,84,85,86] (fun n vals st=>(∃ y35 y36,p_law36_TallyNobody_l2  a1 a2 v18 n y35 y36=some o31∧vals=[.b false,.i y35]∧st=[.live (cellsM SyncatomicInt64.v y36.counts++([.lit (.int .u32 y36.once.done.v_),.lit (.int .i32 y36.once.m.mu.state),.lit (.int .u32 y36.once.m.mu.sema),.sl (List.map V.s y36.names) false])) 0])) fuel 1 [] (⟨_,_,HL32,rfl,rfl⟩) (Nat.zero_le _) rfl (by kernel_rfl) (by kernel_rfl) rfl (by exact wkB_live0 rfl (belowL_app (cellsM_idlt (f:=SyncatomicInt64.v) (fun _=>rfl) _) rfl) rfl trivial) ?_
 rintro (_ | n34) _ _ (⟨y35,y36,H,rfl,rfl⟩)
 ·rw [p_law36_TallyNobody_l2] at H;cases H
 rw [p_law36_TallyNobody_l2] at H
 conv=>whnf
 refine tst_c H (fun b37 H=>?_) (fun b37 H=>?_)
 ·conv=>whnf
  refine ixs_c (f:=V.s) H (fun _=>rfl) (fun x38 H=>?_);conv=>whnf
  refine askCo_c [0] (fun s hs=>p_tally_Tally_Get_p1_0 _ _ s hs) H (fun _=>rfl) rfl ⟨rfl,trivial⟩ rfl (closed_cons (belowL_app (cellsM_idlt (f:=SyncatomicInt64.v) (fun _=>rfl) _) rfl) closed_nil) (fun s=>(closed_cons (belowL_app (cellsM_idlt (f:=SyncatomicInt64.v) (fun _=>rfl) _) rfl) closed_nil)) (fun _=>rfl) (.kp rfl (.kp rfl (.nil))) (fun v39 H=>?_);conv=>whnf
  refine Ari.w ?_;conv=>whnf
  refine ⟨by decide,?_⟩;conv=>whnf
  refine Ari.w ?_;conv=>whnf
  refine tst_c H (fun b40 H=>?_) (fun b40 H=>?_)
  ·conv=>whnf
   iterate 2 (refine Tst.T ?_;conv=>whnf)
   refine tst_c H (fun b41 H=>?_) (fun b41 H=>?_)
   ·conv=>whnf
    obtain rfl:=Option.some.inj H
    have H:=HQ33
    try dsimp only at H
    exact fb_ H
   conv=>whnf
   refine Ari.w ?_;conv=>whnf
   exact again_c [64,65,66,67,68,69,70,71,72,73,74,75,76,77,78,79,80,81,82,83,84,85,86] n34 1 [] (⟨_,_,H,rfl,rfl⟩) (Nat.lt_succ_self _) (Nat.zero_le _) rfl (by kernel_rfl) (by kernel_rfl) rfl (by exact wkB_live0 rfl (belowL_app (cellsM_idlt (f:=SyncatomicInt64.v) (fun _=>rfl) _) rfl) rfl trivial)
  conv=>whnf
  iterate 2 (refine Tst.F ?_;conv=>whnf)
  refine tst_c H (fun b42 H=>?_) (fun b42 H=>?_)
  ·conv=>whnf
   obtain rfl:=Option.some.inj H
   have H:=HQ33
   try dsimp only at H
   exact fb_ H
  conv=>whnf
  refine Ari.w ?_;conv=>whnf
  exact again_c [64,65,66,67,68,69,70,71,72,73,74,75,76,77,78,79,80,81,82,83,84,85,86] n34 1 [] (⟨_,_,H,rfl,rfl⟩) (Nat.lt_succ_self _) (Nat.zero_le _) rfl (by kernel_rfl) (by kernel_rfl) rfl (by exact wkB_live0 rfl (belowL_app (cellsM_idlt (f:=SyncatomicInt64.v) (fun _=>rfl) _) rfl) rfl trivial)
 conv=>whnf
 obtain rfl:=Option.some.inj H
 have H:=HQ33
 try dsimp only at H
 refine ask_c (p_tally_Tally_Get_n0_v _) H rfl rfl (fun v43 H=>?_);conv=>whnf
 refine tstT_c H (fun b44 H=>?_);conv=>whnf
 refine Tst.T ?_;conv=>whnf
 refine ask_c (p_tally_Tally_List_n0_v) H rfl rfl (fun v45 H=>?_);conv=>whnf
 refine Tst.T ?_;conv=>whnf
 refine LenQ.M ?_;conv=>whnf
 iterate 2 (refine Tst.T ?_;conv=>whnf)
 refine tstT_c H (fun b46 H=>?_);conv=>whnf
 iterate 2 (refine Tst.T ?_;conv=>whnf)
 refine askN_c 1 2 (fun s hs=>p_law36_count_o _ s hs) H rfl rfl rfl rfl (fun s=>(belowL_app (cellsM_idlt (f:=SyncatomicInt64.v) (fun _=>rfl) _) rfl)) (.kp rfl (.nil)) (fun y47 H=>?_);conv=>whnf
 refine Tst.T ?_;conv=>whnf
 refine askCo_c [1] (fun s hs=>p_tally_Tally_Join_n0_p1_0 _ s hs) H (fun _=>rfl) rfl ⟨rfl,trivial⟩ rfl (closed_cons (belowL_app (cellsM_idlt (f:=SyncatomicInt64.v) (fun _=>rfl) _) rfl) closed_nil) (fun s=>(closed_cons (belowL_app (cellsM_idlt (f:=SyncatomicInt64.v) (fun _=>rfl) _) rfl) closed_nil)) (fun _=>rfl) (.kp rfl (.kp rfl (.nil))) (fun v48 H=>?_);conv=>whnf
 iterate 2 (refine Tst.T ?_;conv=>whnf)
 refine Tst.not ?_
 refine tstF_c H (fun b49 H=>?_);conv=>whnf
 refine Tst.T ?_;conv=>whnf
 refine askN_c 3 4 (fun s hs=>p_law36_count_o _ s hs) H rfl rfl rfl rfl (fun s=>(belowL_app (cellsM_idlt (f:=SyncatomicInt64.v) (fun _=>rfl) _) rfl)) (.kp rfl (.nil)) (fun y50 H=>?_);conv=>whnf
 iterate 2 (refine Tst.T ?_;conv=>whnf)
 refine askCo_c [3] (fun s hs=>p_tally_Tally_Join_n1_p1_0 _ s hs) H (fun _=>rfl) rfl ⟨rfl,trivial⟩ rfl (closed_cons (belowL_app (cellsM_idlt (f:=SyncatomicInt64.v) (fun _=>rfl) _) rfl) closed_nil) (fun s=>(closed_cons (belowL_app (cellsM_idlt (f:=SyncatomicInt64.v) (fun _=>rfl) _) rfl) closed_nil)) (fun _=>rfl) (.kp rfl (.kp rfl (.nil))) (fun v51 H=>?_);conv=>whnf
 iterate 2 (refine Tst.T ?_;conv=>whnf)
 refine Tst.not ?_
 refine tstF_c H (fun b52 H=>?_);conv=>whnf
 refine ask_c (p_law36_awake_v) H rfl rfl (fun v53 H=>?_);conv=>whnf
 refine Tst.T ?_;conv=>whnf
 exact fb_ H
end Go.Proofs.YtpkodpcfafipdaaGreat

namespace Go.Proofs.YtpkodpcfafipdaaGreat
open Go.ChangeShapes Go.WideShapes Go.ChangeAt Go.RowKit Go.Joins Go.Deep
theorem tallyNobody_named:Tryz.pinned.checked.prog.funcNamed Rows.tallyNobodyRow.func=some 5:=by kernel_rfl
theorem tallyNobody_closed:joinedFacts Tryz.pinned.checked.prog 5 Tryz.f5 Rows.tallyNobodySpec Rows.tallyNobodyRow=true:=by kernel_rfl
end Go.Proofs.YtpkodpcfafipdaaGreat

namespace Go.Proofs.YtpkodpcfafipdaaGreat
open Go.ChangeShapes Go.WideShapes Go.ChangeAt Go.RowKit Go.Joins Go.Deep
set_option maxRecDepth 100000 in
theorem tallyNobody_lifted (os:Os) (started:os.Started) (H:Type) (enc:TypeId × Value→H) :
  ReturnsInHanded {} Tryz.checked os 5 .any (Rows.tallyNobodySpec.pre6 enc Tryz.prog Tryz.f5 Rows.tallyNobodyRow.domain false) (Rows.tallyNobodySpec.post enc Tryz.prog Tryz.f5 false true false false):=by
 refine returnsInHanded_of_change_shaped (C:=Tryz.checked) own0 started (by kernel_rfl) Tryz.func5
  (ChangeSpec.witness6 (enc:=enc) (C:=Tryz.checked) false ⟨#[],#[.slice none 0 0,.int .u8 0,.int .u32 0],[]⟩ 8 (by kernel_rfl) (by kernel_rfl) (by kernel_rfl) (by kernel_rfl)) ?_
 intro W base args ds gs before hval0 hW hcnd _ hsh _
 have hval:∀ (j:Nat) t v,Tryz.f5.params[j]?=some t→args[j]?=some v→Value.okWide Tryz.prog W .any base t v:=hval0
 have hW':=hW
 obtain ⟨p,q,hA0,hV,rfl,hfz,hnd⟩:=hW
 have hA:DataW.TrodAll enc Tryz.prog W 0 (fun _=>true) true Tryz.f5.params.toList args.toList ds p:=hA0
 rw [Tryz.params5] at hA hval
 have hA2:=hA
 obtain ⟨v0,v1,v2,d0,d1,d2,p0,p1,p2,rfl,rfl,hp,h0,h1,h2⟩:=trodAll_three hA
 obtain ⟨rfl,rfl⟩:=trodVars_none hV
 obtain ⟨fu0,hf0⟩:=h0
 obtain ⟨q0,l0,k0,rfl⟩:=okWide_slice Tryz.underlying22 (hval 0 _ v0 rfl rfl)
 obtain ⟨a0,w0,r0⟩:=rd_T22 hf0
 have hx0:Rep (MW W) noBk _ _:=r0.2 0 (by simp [Value.cells]) (by simp)
 obtain ⟨fu1,hf1⟩:=h1
 obtain ⟨q1,rfl⟩:=okWide_int Tryz.underlying5 (hval 1 _ v1 rfl rfl)
 obtain ⟨a1,w1,r1⟩:=rd_int Tryz.underlying5 hf1
 have hx1:Rep (MW W) noBk _ _:=r1.2 0 (by simp [Value.cells]) (by simp)
 obtain ⟨fu2,hf2⟩:=h2
 obtain ⟨q2,rfl⟩:=okWide_int Tryz.underlying57 (hval 2 _ v2 rfl rfl)
 obtain ⟨a2,w2,r2⟩:=rd_int Tryz.underlying57 hf2
 have hx2:Rep (MW W) noBk _ _:=r2.2 0 (by simp [Value.cells]) (by simp)
 refine (rep_one (callsO_true (p_law36_TallyNobody_v a0 a1 a2) (tru_ok (tallyNobody_wf a0 a1 a2 w0 w1 w2))) (maxLen_cell W hsh) (repAr3 hx0 hx1 hx2)).mono ?_
 rintro e W' ⟨rfl,bel⟩
 refine ⟨_,rfl,_,_,_,[],p,[],hW',?_,?_,?_,?_,?_⟩
 ·exact trodAll_mk1 (shut_bool Tryz.underlying4 true)
 ·exact trodAll_below laid0 bel (by
   intro t ht
   simp at ht
   rcases ht with rfl | rfl | rfl <;> exact ⟨by kernel_rfl,of_decide_eq_true (by kernel_rfl)⟩) hA2
 ·rfl
 ·exact bel.frame _
 ·exact fun h=>by cases h
theorem tallyNobody_holds:Rows.TallyNobodySaid :=
 OpenClaim.holds_of_wide 5 Tryz.f5 rfl rfl rfl rfl rfl rfl rfl ⟨rfl,rfl,rfl,rfl,rfl⟩ rfl rfl rfl rfl rfl tallyNobody_named Tryz.func5 tallyNobody_closed
  (of_decide_eq_true (by kernel_rfl)) (by unfold Func.isWrapper;first | (rw [if_pos (by decide +kernel)];kernel_rfl) | (rw [if_neg (by decide +kernel)];exact ⟨rfl,rfl⟩))
  (fun os started H enc _=>tallyNobody_lifted os started H enc)
#print axioms tallyNobody_holds
end Go.Proofs.YtpkodpcfafipdaaGreat

