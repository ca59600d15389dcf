/- TallyCounts: for every input the call returns true, and its arguments read as they did. -/
import Derived.Test.YtpkodpcfafipdaaGreatQtD1
import Derived.Test.YtpkodpcfafipdaaGreatQtD3
import Derived.Test.YtpkodpcfafipdaaGreatQtA12
import Derived.KernelRfl
import Derived.Test.YtpkodpcfafipdaaGreatQtA13
import Derived.Test.YtpkodpcfafipdaaGreatRows
import Derived.Test.YtpkodpcfafipdaaGreatQtD2
set_option linter.all false
namespace Go.Proofs.YtpkodpcfafipdaaGreat
open Go.RowKit
set_option maxRecDepth 100000
set_option maxHeartbeats 4000000
def gc7:BCode:=(.seq (R_ 0 [O_ 2 (.mv (b_ false)) 0]) (.seq (.seq (R_ 0 [O_ 5 (.mv (t_ 0)) 0,O_ 6 (.lens (t_ 5)) 0,O_ 7 (.bin .gtr (t_ 6) (i_ 40)) 0]) (.cond (t_ 7) (.seq (R_ 0 [O_ 2 (.mv (b_ false)) 0]) .ret) .skip)) (.seq (.seq (R_ 0 [O_ 3 (.mv (i_ 0)) 0]) (.block 0 (.loop (.seq (.seq (R_ 0 [O_ 8 (.mv (t_ 3)) 0,O_ 9 (.mv (t_ 0)) 0,O_ 10 (.lens (t_ 9)) 0,O_ 11 (.bin .lss (t_ 8) (t_ 10)) 0]) (.cond (t_ 11) .skip (.exit 0))) (.seq (.block 1 (.seq (.seq (R_ 0 [O_ 14 (.mv (t_ 0)) 0,O_ 15 (.mv (t_ 3)) 0,O_ 16 (.ixs 5 (t_ 14) (t_ 15)) 0,O_ 17 (.fa 0 (t_ 16)) 0,O_ 18 (.fa 1 (t_ 17)) 0,O_ 19 (.ld 1 false (t_ 18)) 0,O_ 20 (.lens (t_ 19)) 0,O_ 21 (.bin .gtr (t_ 20) (i_ 20)) 0,O_ 22 (.mv (t_ 21)) 0,⟨(some 23),.mv (t_ 0),(some (22,false)),0⟩,⟨(some 24),.mv (t_ 3),(some (22,false)),0⟩,⟨(some 25),.ixs 5 (t_ 23) (t_ 24),(some (22,false)),0⟩,⟨(some 26),.fa 0 (t_ 25),(some (22,false)),0⟩,⟨(some 27),.fa 2 (t_ 26),(some (22,false)),0⟩,⟨(some 28),.ld 1 false (t_ 27),(some (22,false)),0⟩,⟨(some 29),.lens (t_ 28),(some (22,false)),0⟩,⟨(some 30),.bin .gtr (t_ 29) (i_ 20),(some (22,false)),0⟩,O_ 31 (.pick (t_ 22) (b_ true) (t_ 30)) 0,O_ 32 (.mv (t_ 31)) 0,⟨(some 33),.mv (t_ 0),(some (32,false)),0⟩,⟨(some 34),.mv (t_ 3),(some (32,false)),0⟩,⟨(some 35),.ixs 5 (t_ 33) (t_ 34),(some (32,false)),0⟩,⟨(some 36),.fa 3 (t_ 35),(some (32,false)),0⟩,⟨(some 37),.ld 1 false (t_ 36),(some (32,false)),0⟩,⟨(some 38),.lent (t_ 37),(some (32,false)),0⟩,⟨(some 39),.bin .gtr (t_ 38) (i_ 20),(some (32,false)),0⟩,O_ 40 (.pick (t_ 32) (b_ true) (t_ 39)) 0]) (.cond (t_ 40) (.seq (R_ 0 [O_ 2 (.mv (b_ false)) 0]) .ret) .skip)) (.seq (R_ 0 [O_ 4 (.mv (i_ 0)) 0]) (.block 2 (.loop (.seq (.seq (R_ 0 [O_ 41 (.mv (t_ 4)) 0,O_ 42 (.mv (t_ 0)) 0,O_ 43 (.mv (t_ 3)) 0,O_ 44 (.ixs 5 (t_ 42) (t_ 43)) 0,O_ 45 (.fa 0 (t_ 44)) 0,O_ 46 (.fa 1 (t_ 45)) 0,O_ 47 (.ld 1 false (t_ 46)) 0,O_ 48 (.lens (t_ 47)) 0,O_ 49 (.bin .lss (t_ 41) (t_ 48)) 0]) (.cond (t_ 49) .skip (.exit 2))) (.seq (.block 3 (.seq (R_ 0 [O_ 52 (.mv (t_ 0)) 0,O_ 53 (.mv (t_ 3)) 0,O_ 54 (.ixs 5 (t_ 52) (t_ 53)) 0,O_ 55 (.fa 0 (t_ 54)) 0,O_ 56 (.fa 1 (t_ 55)) 0,O_ 57 (.ld 1 false (t_ 56)) 0,O_ 58 (.mv (t_ 4)) 0,O_ 59 (.ixs 9 (t_ 57) (t_ 58)) 0,O_ 60 (.fa 1 (t_ 59)) 0,O_ 61 (.ld 8 true (t_ 60)) 0,O_ 62 (.cl 22 [(t_ 61)]) 0,O_ 63 (.un .not (t_ 62)) 0]) (.cond (t_ 63) (.seq (R_ 0 [O_ 2 (.mv (b_ false)) 0]) .ret) .skip))) (R_ 0 [O_ 50 (.mv (t_ 4)) 0,O_ 51 (.bin .add (t_ 50) (i_ 1)) 0,O_ 4 (.mv (t_ 51)) 0])))))))) (R_ 0 [O_ 12 (.mv (t_ 3)) 0,O_ 13 (.bin .add (t_ 12) (i_ 1)) 0,O_ 3 (.mv (t_ 13)) 0])))))) (.seq (R_ 0 [O_ 2 (.mv (b_ true)) 0]) .ret))))
theorem gc7_ok:compF Tryz.prog Tryz.f7=some (gc7.er,64,[.tmp 2]):=by unfold gc7;kernel_rfl
theorem p_law36_few_v {u1:Bool} (a0:List Law36Act):CallsO Tryz.prog 7 [.sl (List.map Law36Act.v a0) u1] V.b (p_law36_few a0):=by
 refine callsO_comp mix Tryz.func7 gc7_ok fun r H=>?_
 rw [p_law36_few] at H
 conv=>whnf
 refine LenQ.M ?_;conv=>whnf
 refine tst_c H (fun b1 H=>?_) (fun b1 H=>?_)
 ·conv=>whnf
  exact fb_ H
 conv=>whnf
 obtain ⟨o3,HL4,HQ5⟩:=bind_c H
 refine loop_c [2,3] [4,8,9,10,11,12,13,14,15,16,17,18,19,20,21,22,23,24,25,26,27,28,29,30,31,32,33,34,35,36,37,38,39,40,41,42,43,44,45,46,47,48,49,50,51,52,53,54,55,56,57,58,59,60,61,62,63] [4,8,9,10,11,12,13,14,15,16,17,18,19,20,21,22,23,24,25,26,27,28,29,30,31,32,33,34,35,36,37,38,39,40,41,42,43,44,45,46,47,48,49,50,51,52,53,54,55,56,57,58,59,60,61,62,63] (fun n vals st=>(∃ y7,p_law36_few_l1  a0 n y7=some o3∧vals=[.b false,.i y7]∧st=[])) fuel 0 [] (⟨_,HL4,rfl,rfl⟩) (Nat.zero_le _) rfl (by kernel_rfl) (by kernel_rfl) rfl trivial ?_
 rintro (_ | n6) _ _ (⟨y7,H,rfl,rfl⟩)
 ·rw [p_law36_few_l1] at H;cases H
 rw [p_law36_few_l1] at H
 conv=>whnf
 refine LenQ.M ?_;conv=>whnf
 refine tst_d H (fun b8 H=>?_) (fun b8 H=>?_)
 ·conv=>whnf
  obtain rfl:=Option.some.inj H
  have H:=HQ5
  try dsimp only at H
  exact fb_ H
 conv=>whnf
 refine ixs_c (f:=Law36Act.v) H (fun _=>rfl) (fun x9 H=>?_);conv=>whnf
 refine lq_ ?_;conv=>whnf
 refine lq_ ?_;conv=>whnf
 refine LenQ.M ?_;conv=>whnf
 refine tst_c H (fun b10 H=>?_) (fun b10 H=>?_)
 ·conv=>whnf
  iterate 17 (refine Tst.T ?_;conv=>whnf)
  obtain rfl:=Option.some.inj H
  have H:=HQ5
  try dsimp only at H
  exact fb_ H
 conv=>whnf
 iterate 2 (refine Tst.F ?_;conv=>whnf)
 refine ixs_c (f:=Law36Act.v) H (fun _=>rfl) (fun x11 H=>?_);conv=>whnf
 refine Tst.F ?_;conv=>whnf
 refine lq_ ?_;conv=>whnf
 refine Tst.F ?_;conv=>whnf
 refine lq_ ?_;conv=>whnf
 iterate 2 (refine Tst.F ?_;conv=>whnf)
 refine LenQ.M ?_;conv=>whnf
 iterate 2 (refine Tst.F ?_;conv=>whnf)
 refine tst_c H (fun b12 H=>?_) (fun b12 H=>?_)
 ·conv=>whnf
  iterate 8 (refine Tst.T ?_;conv=>whnf)
  obtain rfl:=Option.some.inj H
  have H:=HQ5
  try dsimp only at H
  exact fb_ H
 conv=>whnf
 iterate 2 (refine Tst.F ?_;conv=>whnf)
 refine ixs_c (f:=Law36Act.v) H (fun _=>rfl) (fun x13 H=>?_);conv=>whnf
 refine Tst.F ?_;conv=>whnf
 refine lq_ ?_;conv=>whnf
 iterate 4 (refine Tst.F ?_;conv=>whnf)
 refine tst_c H (fun b14 H=>?_) (fun b14 H=>?_)
 ·conv=>whnf
  obtain rfl:=Option.some.inj H
  have H:=HQ5
  try dsimp only at H
  exact fb_ H
 conv=>whnf
 obtain ⟨o16,HL17,HQ18⟩:=bind_c H
 refine loop_c [2,4] [41,42,43,44,45,46,47,48,49,50,51,52,53,54,55,56,57,58,59,60,61,62,63] [41,42,43,44,45,46,47,48,49,50,51,52,53,54,55,56,57,58,59,60,61,62,63] (fun n vals st=>(∃ y20,p_law36_few_l2  a0 y7 n y20=some o16∧vals=[.b false,.i y20]∧st=[])) fuel 0 [] (⟨_,HL17,rfl,rfl⟩) (Nat.zero_le _) rfl (by kernel_rfl) (by kernel_rfl) rfl trivial ?_
 rintro (_ | n19) _ _ (⟨y20,H,rfl,rfl⟩)
 ·rw [p_law36_few_l2] at H;cases H
 rw [p_law36_few_l2] at H
 conv=>whnf
 refine ixs_c (f:=Law36Act.v) H (fun _=>rfl) (fun x21 H=>?_);conv=>whnf
 refine lq_ ?_;conv=>whnf
 refine lq_ ?_;conv=>whnf
 refine LenQ.M ?_;conv=>whnf
 refine tst_d H (fun b22 H=>?_) (fun b22 H=>?_)
 ·conv=>whnf
  obtain rfl:=Option.some.inj H
  have H:=HQ18
  try dsimp only at H
  refine Ari.w ?_;conv=>whnf
  exact again_c [4,8,9,10,11,12,13,14,15,16,17,18,19,20,21,22,23,24,25,26,27,28,29,30,31,32,33,34,35,36,37,38,39,40,41,42,43,44,45,46,47,48,49,50,51,52,53,54,55,56,57,58,59,60,61,62,63] n6 0 [] (⟨_,H,rfl,rfl⟩) (Nat.lt_succ_self _) (Nat.zero_le _) rfl (by kernel_rfl) (by kernel_rfl) rfl trivial
 conv=>whnf
 refine ixs_c (f:=Law36Act.v) H (fun _=>rfl) (fun x23 H=>?_);conv=>whnf
 refine lq_ ?_;conv=>whnf
 refine lq_ ?_;conv=>whnf
 refine ixs_c (f:=Ref33Said.v) H (fun _=>rfl) (fun x24 H=>?_);conv=>whnf
 refine lq_ ?_;conv=>whnf
 refine ask_c (p_ref10_Light_v _) H rfl rfl (fun v25 H=>?_);conv=>whnf
 refine Tst.not ?_
 refine tst_d H (fun b26 H=>?_) (fun b26 H=>?_)
 ·conv=>whnf
  obtain rfl:=Option.some.inj H
  have H:=HQ18
  try dsimp only at H
  obtain rfl:=Option.some.inj H
  have H:=HQ5
  try dsimp only at H
  exact fb_ H
 conv=>whnf
 refine Ari.w ?_;conv=>whnf
 exact again_c [41,42,43,44,45,46,47,48,49,50,51,52,53,54,55,56,57,58,59,60,61,62,63] n19 0 [] (⟨_,H,rfl,rfl⟩) (Nat.lt_succ_self _) (Nat.zero_le _) rfl (by kernel_rfl) (by kernel_rfl) rfl trivial
def gc11:BCode:=(.seq (R_ 2 [O_ 1 (.bx (t_ 0)) 0,O_ 2 (.al (.agg [(.lit (.int .i64 0)),(.sl [] true),(.sl [] true)])) 1]) (.seq (R_ 1 [O_ 5 (.fa 0 (t_ 1)) 0,O_ 6 (.ld 1 false (t_ 5)) 0,O_ 7 (.fa 2 (t_ 1)) 0,O_ 8 (.ld 1 false (t_ 7)) 0,O_ 9 (.bd [(.lit (.int .i64 0)),(.sl [] true),(.sl [] true)] [(0,1,(t_ 6)),(2,1,(t_ 8))]) 0,O_ 3 (.al (.agg [(.lit (.int .i64 0)),(.sl [] true),(.sl [] true)])) 0,U_ (.st 3 (t_ 3) (t_ 9)) 1]) (.seq (.seq (R_ 0 [O_ 4 (.mv (i_ 0)) 0]) (.block 0 (.loop (.seq (.seq (R_ 0 [O_ 10 (.mv (t_ 4)) 0,O_ 11 (.fa 1 (t_ 1)) 0,O_ 12 (.ld 1 false (t_ 11)) 0,O_ 13 (.lens (t_ 12)) 0,O_ 14 (.bin .lss (t_ 10) (t_ 13)) 0]) (.cond (t_ 14) .skip (.exit 0))) (.seq (.block 1 (.reg 2 [O_ 17 (.fa 1 (t_ 3)) 0,O_ 18 (.ld 1 false (t_ 17)) 0,O_ 19 (.fa 1 (t_ 1)) 0,O_ 20 (.ld 1 false (t_ 19)) 0,O_ 21 (.mv (t_ 4)) 0,O_ 22 (.ixs 9 (t_ 20) (t_ 21)) 0,O_ 23 (.fa 0 (t_ 22)) 0,O_ 24 (.ld 1 false (t_ 23)) 0,O_ 25 (.fa 1 (t_ 1)) 0,O_ 26 (.ld 1 false (t_ 25)) 0,O_ 27 (.mv (t_ 4)) 0,O_ 28 (.ixs 9 (t_ 26) (t_ 27)) 0,O_ 29 (.fa 1 (t_ 28)) 0,O_ 30 (.ld 8 true (t_ 29)) 0,O_ 31 (.bd [(.lit (.int .i64 0)),(.lit (.int .u8 0)),(.lit (.string ⟨#[]⟩)),(.lit (.string ⟨#[]⟩)),(.lit (.string ⟨#[]⟩)),(.lit (.int .i64 0)),(.lit (.int .i64 0)),(.lit (.int .i64 0)),(.lit (.int .i64 0))] [(0,1,(t_ 24)),(1,8,(t_ 30))]) 0,O_ 32 (.bs 9 1 [(.lit (.int .i64 0)),(.lit (.int .u8 0)),(.lit (.string ⟨#[]⟩)),(.lit (.string ⟨#[]⟩)),(.lit (.string ⟨#[]⟩)),(.lit (.int .i64 0)),(.lit (.int .i64 0)),(.lit (.int .i64 0)),(.lit (.int .i64 0))] [(0,(t_ 31))]) 0,O_ 33 (.ap 9 96 (t_ 18) (t_ 32)) 1,O_ 34 (.fa 1 (t_ 3)) 2,U_ (.st 1 (t_ 34) (t_ 33)) 2] (some [[],[0],[],[2],[],[4,2,3],[3,2,4,5],[5,4,2,3,6],[],[8],[],[10,8,9],[9,8,10,11],[11,10,8,9,12],[12,9,8,10,11,13,6,3,2,4,5,7],[7,5,4,2,3,6,13,11,10,8,9,12,14],[14,12,9,8,10,11,13,6,3,2,4,5,7,15,0,1],[16,15,14,13,12,11,10,9,8,7,6,5,4,3,2,1,0],[0,1,2,3,4,5,6,7,8,9,10,11,12,13,14,15,16,17]]) 0 [])) (R_ 0 [O_ 15 (.mv (t_ 4)) 0,O_ 16 (.bin .add (t_ 15) (i_ 1)) 0,O_ 4 (.mv (t_ 16)) 0])))))) (.seq (R_ 0 [O_ 35 (.ld 3 true (t_ 3)) 0,U_ (.st 3 (t_ 2) (t_ 35)) 0]) .ret))))
theorem gc11_ok:compF Tryz.prog Tryz.f11=some (gc11.er,36,[.cell 2 3 true]):=by unfold gc11;kernel_rfl
theorem p_law36_result_v {u1 u2:Bool} (a0:Ref33Result):CallsO Tryz.prog 11 [.agg [.i a0.E,.sl (List.map Ref33Said.v a0.Said) u1,.sl (List.map V.i a0.Shut) u2]] Ref33Result.v (p_law36_result a0):=by
 refine callsO_comp mix Tryz.func11 gc11_ok fun r H=>?_
 rw [p_law36_result] at H
 conv=>whnf
 refine lq_ ?_;conv=>whnf
 obtain ⟨o2,HL3,HQ4⟩:=bind_c H
 refine loop_c [4] [10,11,12,13,14,15,16,17,18,19,20,21,22,23,24,25,26,27,28,29,30,31,32,33,34,5,7] [10,11,12,13,14,15,16,17,18,19,20,21,22,23,24,25,26,27,28,29,30,31,32,33,34,5,7] (fun n vals st=>(∃ y6 y7,p_law36_result_l1  a0 n y6 y7=some o2∧vals=[.i y6]∧st=[.live [.i a0.E,.sl (List.map Ref33Said.v a0.Said) u1,.sl (List.map V.i a0.Shut) u2] 0,.live [.i (0:Int),.sl (List.map Ref33Said.v []) true,.sl (List.map V.i []) true] 0,.live [.i y7.E,.sl (List.map Ref33Said.v y7.Said) true,.sl (List.map V.i y7.Shut) u2] 0])∨(∃ y12 y13,p_law36_result_l1  a0 n y12 y13=some o2∧vals=[.i y12]∧st=[.live [.i a0.E,.sl (List.map Ref33Said.v a0.Said) u1,.sl (List.map V.i a0.Shut) u2] 0,.live [.i (0:Int),.sl (List.map Ref33Said.v []) true,.sl (List.map V.i []) true] 0,.live [.i y13.E,.osl 3 0 (List.length y13.Said) 9 false,.sl (List.map V.i y13.Shut) u2] 0,.live (cellsM Ref33Said.v y13.Said) (cellsM Ref33Said.v y13.Said).length])) fuel 3 [] (.inl (⟨_,_,HL3,rfl,rfl⟩)) (Nat.zero_le _) rfl (by kernel_rfl) (by kernel_rfl) rfl ⟨⟨rfl,rfl,rfl⟩,⟨⟨rfl,rfl,rfl⟩,⟨⟨rfl,rfl,rfl⟩,trivial⟩⟩⟩ ?_
 rintro (_ | n5) _ _ (⟨y6,y7,H,rfl,rfl⟩ | ⟨y12,y13,H,rfl,rfl⟩)
 ·rw [p_law36_result_l1] at H;cases H
 ·rw [p_law36_result_l1] at H;cases H
 ·rw [p_law36_result_l1] at H
  conv=>whnf
  refine LenQ.M ?_;conv=>whnf
  refine tst_d H (fun b8 H=>?_) (fun b8 H=>?_)
  ·conv=>whnf
   obtain rfl:=Option.some.inj H
   have H:=HQ4
   try dsimp only at H
   refine lq_ ?_;conv=>whnf
   refine finR_c (enc:=Ref33Result.v) H ?_;conv=>whnf
   exact ⟨_,.v (fzagg (.cons (.id rfl) (.cons (.slw) (.cons (.slw) (.nil)))) rfl)⟩
  conv=>whnf
  refine ixs_c (f:=Ref33Said.v) H (fun _=>rfl) (fun x9 H=>?_);conv=>whnf
  refine lq_ ?_;conv=>whnf
  refine ixs_c (f:=Ref33Said.v) H (fun _=>rfl) (fun x10 H=>?_);conv=>whnf
  refine lq_ ?_;conv=>whnf
  refine appN_c (f:=Ref33Said.v) H (fun _=>rfl) (srcM (f:=Ref33Said.v) (fun _=>rfl) _ _) rfl (.v (srcOwn (f:=Ref33Said.v) (l:=[(Ref33Said.mk x9.Conn x10.S)]) (fun _=>rfl) rfl rfl rfl)) (by decide) rfl (by simp) (fun l11 H=>?_);conv=>whnf
  refine lq_ ?_;conv=>whnf
  refine FootQ.mk ⟨rfl,?_⟩;conv=>whnf
  refine Ari.w ?_;conv=>whnf
  exact again_c [10,11,12,13,14,15,16,17,18,19,20,21,22,23,24,25,26,27,28,29,30,31,32,33,34,5,7] n5 4 [0,1,2,4] (.inr (⟨_,_,H,rfl,rfl⟩)) (Nat.lt_succ_self _) (Nat.zero_le _) rfl (by kernel_rfl) (by kernel_rfl) rfl ⟨⟨rfl,rfl,rfl⟩,⟨⟨rfl,rfl,rfl⟩,⟨⟨rfl,rfl,rfl⟩,wkB_live0 rfl (cellsM_idlt (f:=Ref33Said.v) (fun _=>rfl) _) rfl trivial⟩⟩⟩
 rw [p_law36_result_l1] at H
 conv=>whnf
 refine LenQ.M ?_;conv=>whnf
 refine tst_d H (fun b14 H=>?_) (fun b14 H=>?_)
 ·conv=>whnf
  obtain rfl:=Option.some.inj H
  have H:=HQ4
  try dsimp only at H
  refine lq_ ?_;conv=>whnf
  refine finR_c (enc:=Ref33Result.v) H ?_;conv=>whnf
  exact ⟨_,.v (fzagg (.cons (.id rfl) (.cons (fzown (f:=Ref33Said.v) (l:=y13.Said) rfl rfl (fun _=>rfl) (fun _=>rfl)) (.cons (.slw) (.nil)))) rfl)⟩
 conv=>whnf
 refine ixs_c (f:=Ref33Said.v) H (fun _=>rfl) (fun x15 H=>?_);conv=>whnf
 refine lq_ ?_;conv=>whnf
 refine ixs_c (f:=Ref33Said.v) H (fun _=>rfl) (fun x16 H=>?_);conv=>whnf
 refine lq_ ?_;conv=>whnf
 refine appO_c (f:=Ref33Said.v) H (fun _=>rfl) rfl (Nat.le_refl _) (.v (srcOwn (f:=Ref33Said.v) (l:=[(Ref33Said.mk x15.Conn x16.S)]) (fun _=>rfl) rfl rfl rfl)) (by decide) rfl (by simp) (fun l17 H=>?_);conv=>whnf
 refine lq_ ?_;conv=>whnf
 refine FootQ.mk ⟨rfl,?_⟩;conv=>whnf
 refine Ari.w ?_;conv=>whnf
 exact again_c [10,11,12,13,14,15,16,17,18,19,20,21,22,23,24,25,26,27,28,29,30,31,32,33,34,5,7] n5 4 [0,1,2,5] (.inr (⟨_,_,H,rfl,rfl⟩)) (Nat.lt_succ_self _) (Nat.zero_le _) rfl (by kernel_rfl) (by kernel_rfl) rfl ⟨⟨rfl,rfl,rfl⟩,⟨⟨rfl,rfl,rfl⟩,⟨⟨rfl,rfl,rfl⟩,wkB_live0 rfl (cellsM_idlt (f:=Ref33Said.v) (fun _=>rfl) _) rfl trivial⟩⟩⟩
end Go.Proofs.YtpkodpcfafipdaaGreat

namespace Go.Proofs.YtpkodpcfafipdaaGreat
open Go.RowKit
set_option maxRecDepth 1000000
set_option maxHeartbeats 4000000
def gc3:BCode:=(.seq (R_ 0 [O_ 4 (.mv (b_ false)) 0]) (.join (.seq (R_ 0 [O_ 15 (.mv (t_ 0)) 0,O_ 16 (.cl 7 [(t_ 15)]) 0,O_ 17 (.un .not (t_ 16)) 0,O_ 18 (.mv (t_ 17)) 0,⟨(some 19),.mv (t_ 1),(some (18,false)),0⟩,⟨(some 20),.lent (t_ 19),(some (18,false)),0⟩,⟨(some 21),.bin .gtr (t_ 20) (i_ 20),(some (18,false)),0⟩,O_ 22 (.pick (t_ 18) (b_ true) (t_ 21)) 0]) (.cond (t_ 22) (.seq (R_ 0 [O_ 23 (.cl 8 []) 0,O_ 4 (.mv (t_ 23)) 0]) .ret) .skip)) (.seq (.reg 0 [O_ 24 (.cl 9 []) 0,O_ 5 (.mv (t_ 24)) 0] none 2 []) (.seq (R_ 1 [O_ 6 (.al (.agg [(.lit (.int .i64 0)),(.lit (.int .i64 0)),(.lit (.int .i64 0)),(.lit (.int .i64 0)),(.lit (.int .i64 0)),(.lit (.int .i64 0)),(.lit (.int .i64 0)),(.lit (.int .i64 0)),(.lit (.int .i64 0)),(.lit (.int .i64 0)),(.lit (.int .i64 0)),(.lit (.int .i64 0))])) 0]) (.seq (.seq (R_ 0 [O_ 7 (.mv (i_ 0)) 0]) (.block 0 (.loop (.seq (.seq (R_ 0 [O_ 25 (.mv (t_ 7)) 0,O_ 26 (.mv (t_ 0)) 0,O_ 27 (.lens (t_ 26)) 0,O_ 28 (.bin .lss (t_ 25) (t_ 27)) 0]) (.cond (t_ 28) .skip (.exit 0))) (.seq (.block 1 (.seq (.seq (R_ 0 [O_ 31 (.mv (t_ 0)) 0,O_ 32 (.mv (t_ 7)) 0,O_ 33 (.ixs 5 (t_ 31) (t_ 32)) 0,O_ 34 (.fa 3 (t_ 33)) 0,O_ 35 (.ld 1 false (t_ 34)) 0,O_ 36 (.bin .eql (t_ 35) (.const (.string ⟨#[]⟩))) 0]) (.cond (t_ 36) (.seq (R_ 0 [O_ 37 (.mv (t_ 5)) 0,O_ 38 (.mv (t_ 0)) 0,O_ 39 (.mv (t_ 7)) 0,O_ 40 (.ixs 5 (t_ 38) (t_ 39)) 0,O_ 41 (.fa 0 (t_ 40)) 0,O_ 42 (.ld 3 true (t_ 41)) 0,O_ 43 (.cl 11 [(t_ 42)]) 0,O_ 44 (.cl 10 [(t_ 37),(t_ 43)]) 0]) (.seq (.reg 0 [O_ 45 (.ld 12 true (t_ 6)) 0,O_ 46 (.mv (t_ 0)) 0,O_ 47 (.mv (t_ 7)) 0,O_ 48 (.ixs 5 (t_ 46) (t_ 47)) 0,O_ 49 (.fa 0 (t_ 48)) 0,O_ 50 (.ld 3 true (t_ 49)) 0,O_ 51 (.cl 12 [(t_ 45),(t_ 50)]) 0,U_ (.st 12 (t_ 6) (t_ 51)) 0] (some [[],[],[],[2,1],[1,2,3],[3,2,1,4],[4,1,2,3,5,0],[0,5,3,2,1,4,6]]) 0 []) (.exit 1))) .skip)) (.seq (.reg 0 [O_ 52 (.mv (t_ 5)) 0,O_ 53 (.mv (t_ 0)) 0,O_ 54 (.mv (t_ 7)) 0,O_ 55 (.ixs 5 (t_ 53) (t_ 54)) 0,O_ 56 (.fa 3 (t_ 55)) 0,O_ 57 (.ld 1 false (t_ 56)) 0,O_ 58 (.mv (t_ 0)) 0,O_ 59 (.mv (t_ 7)) 0,O_ 60 (.ixs 5 (t_ 58) (t_ 59)) 0,O_ 61 (.fa 4 (t_ 60)) 0,O_ 62 (.ld 1 false (t_ 61)) 0,O_ 63 (.cl 13 [(t_ 52),(t_ 57),(t_ 62)]) 0,O_ 8 (.mv (t_ 63)) 0] (some [[],[],[],[2,1],[1,2,3],[3,2,1,4],[],[],[7,6],[6,7,8],[8,7,6,9],[9,6,7,8,10,4,1,2,3,5,0],[0,5,3,2,1,4,10,8,7,6,9,11]]) 0 []) (.seq (.reg 1 [O_ 65 (.ld 12 true (t_ 6)) 0,O_ 66 (.mv (t_ 0)) 0,O_ 67 (.mv (t_ 7)) 0,O_ 68 (.ixs 5 (t_ 66) (t_ 67)) 0,O_ 69 (.fa 3 (t_ 68)) 0,O_ 70 (.ld 1 false (t_ 69)) 0,O_ 71 (.mv (t_ 0)) 0,O_ 72 (.mv (t_ 7)) 0,O_ 73 (.ixs 5 (t_ 71) (t_ 72)) 0,O_ 74 (.fa 4 (t_ 73)) 0,O_ 75 (.ld 1 false (t_ 74)) 0,O_ 76 (.cl 14 [(t_ 65),(t_ 70),(t_ 75)]) 0,O_ 64 (.mv (t_ 76)) 0,O_ 77 (.ex (t_ 64) 0) 0,O_ 78 (.ex (t_ 64) 1) 0,O_ 9 (.al (.agg [(.lit (.int .i64 0)),(.lit (.int .i64 0)),(.lit (.int .i64 0)),(.lit (.int .i64 0)),(.lit (.int .i64 0)),(.lit (.int .i64 0)),(.lit (.int .i64 0)),(.lit (.int .i64 0)),(.lit (.int .i64 0)),(.lit (.int .i64 0)),(.lit (.int .i64 0)),(.lit (.int .i64 0))])) 0,U_ (.st 12 (t_ 9) (t_ 77)) 1,O_ 10 (.mv (t_ 78)) 1] (some [[],[],[],[2,1],[1,2,3],[3,2,1,4],[],[],[7,6],[6,7,8],[8,7,6,9],[9,6,7,8,10,4,1,2,3,5,0],[0,5,3,2,1,4,10,8,7,6,9,11],[11,9,6,7,8,10,4,1,2,3,5,0,12],[11,9,6,7,8,10,4,1,2,3,5,0,12],[],[12,0,5,3,2,1,4,10,8,7,6,9,11,13,15],[15,13,16,12,0,5,3,2,1,4,10,8,7,6,9,11,14]]) 0 []) (.seq (R_ 0 [O_ 79 (.ld 12 true (t_ 9)) 0,U_ (.st 12 (t_ 6) (t_ 79)) 0]) (.seq (R_ 0 [O_ 80 (.mv (t_ 8)) 0,O_ 81 (.mv (t_ 10)) 0,O_ 82 (.binb true (t_ 80) (t_ 81)) 0]) (.cond (t_ 82) (.seq (R_ 0 [O_ 4 (.mv (b_ false)) 0]) .ret) .skip))))))) (R_ 0 [O_ 29 (.mv (t_ 7)) 0,O_ 30 (.bin .add (t_ 29) (i_ 1)) 0,O_ 7 (.mv (t_ 30)) 0])))))) (.seq (R_ 0 [O_ 11 (.mv (i_ 0)) 0]) (.join (.seq (R_ 0 [O_ 83 (.mv (t_ 1)) 0,O_ 84 (.cl 15 [(t_ 83)]) 0,O_ 85 (.bin .geq (t_ 84) (i_ 0)) 0]) (.cond (t_ 85) (R_ 0 [O_ 86 (.mv (t_ 1)) 0,O_ 87 (.cl 15 [(t_ 86)]) 0,O_ 88 (.ixa 12 1 (t_ 6) (t_ 87)) 0,O_ 89 (.ld 1 false (t_ 88)) 0,O_ 11 (.mv (t_ 89)) 0]) .skip)) (.seq (R_ 0 [O_ 90 (.mv (t_ 5)) 0,O_ 91 (.cl 16 [(t_ 90)]) 0,O_ 12 (.mv (t_ 91)) 0]) (.seq (.reg 0 [O_ 92 (.cl 17 []) 0,O_ 13 (.mv (t_ 92)) 0] none 2 []) (.join (.seq (R_ 0 [O_ 93 (.mv (t_ 12)) 0,O_ 94 (.lens (t_ 93)) 0,O_ 95 (.bin .neq (t_ 94) (i_ 12)) 0,O_ 96 (.mv (t_ 95)) 0,⟨(some 97),.mv (t_ 13),(some (96,false)),0⟩,⟨(some 98),.lens (t_ 97),(some (96,false)),0⟩,⟨(some 99),.bin .neq (t_ 98) (i_ 12),(some (96,false)),0⟩,O_ 100 (.pick (t_ 96) (b_ true) (t_ 99)) 0]) (.cond (t_ 100) (.seq (R_ 0 [O_ 4 (.mv (b_ false)) 0]) .ret) .skip)) (.seq (.seq (R_ 0 [O_ 14 (.mv (i_ 0)) 0]) (.block 2 (.loop (.seq (.seq (R_ 0 [O_ 101 (.mv (t_ 14)) 0,O_ 102 (.bin .lss (t_ 101) (i_ 12)) 0]) (.cond (t_ 102) .skip (.exit 2))) (.seq (.block 3 (.seq (.seq (.reg 0 [O_ 105 (.mv (t_ 13)) 0,O_ 106 (.mv (t_ 14)) 0,O_ 107 (.ixs 1 (t_ 105) (t_ 106)) 0,O_ 108 (.ld 1 false (t_ 107)) 0,O_ 109 (.mv (t_ 14)) 0,O_ 110 (.cl 18 [(t_ 109)]) 0,O_ 111 (.bin .neq (t_ 108) (t_ 110)) 0,O_ 112 (.mv (t_ 111)) 0,⟨(some 113),.mv (t_ 12),(some (112,false)),0⟩,⟨(some 114),.mv (t_ 14),(some (112,false)),0⟩,⟨(some 115),.ixs 2 (t_ 113) (t_ 114),(some (112,false)),0⟩,⟨(some 116),.fa 0 (t_ 115),(some (112,false)),0⟩,⟨(some 117),.ld 1 false (t_ 116),(some (112,false)),0⟩,⟨(some 118),.mv (t_ 14),(some (112,false)),0⟩,⟨(some 119),.cl 18 [(t_ 118)],(some (112,false)),0⟩,⟨(some 120),.bin .neq (t_ 117) (t_ 119),(some (112,false)),0⟩,O_ 121 (.pick (t_ 112) (b_ true) (t_ 120)) 0,O_ 122 (.mv (t_ 121)) 0,⟨(some 123),.mv (t_ 12),(some (122,false)),0⟩,⟨(some 124),.mv (t_ 14),(some (122,false)),0⟩,⟨(some 125),.ixs 2 (t_ 123) (t_ 124),(some (122,false)),0⟩,⟨(some 126),.fa 1 (t_ 125),(some (122,false)),0⟩,⟨(some 127),.ld 1 false (t_ 126),(some (122,false)),0⟩,⟨(some 128),.mv (t_ 14),(some (122,false)),0⟩,⟨(some 129),.ixa 12 1 (t_ 6) (t_ 128),(some (122,false)),0⟩,⟨(some 130),.ld 1 false (t_ 129),(some (122,false)),0⟩,⟨(some 131),.bin .neq (t_ 127) (t_ 130),(some (122,false)),0⟩,O_ 132 (.pick (t_ 122) (b_ true) (t_ 131)) 0] (some [[],[],[1,0],[0,1,2],[],[4],[4,5,2,1,0,3],[3,0,1,2,5,4,6],[6,4,5,2,1,0,3,7],[6,4,5,2,1,0,3,7],[9,7,3,0,1,2,5,4,6,8],[8,6,4,5,2,1,0,3,7,9,10],[10,9,7,3,0,1,2,5,4,6,8,11],[6,4,5,2,1,0,3,7],[7,3,0,1,2,5,4,6,13],[13,14,11,8,6,4,5,2,1,0,3,7,9,10,12],[12,10,9,8,11,14,13,15,6,4,5,2,1,0,3,7],[7,3,0,1,2,5,4,6,15,13,14,11,8,9,10,12,16],[16,12,10,9,8,11,14,13,15,6,4,5,2,1,0,3,7,17],[16,12,10,9,8,11,14,13,15,6,4,5,2,1,0,3,7,17],[19,17,7,3,0,1,2,5,4,6,15,13,14,11,8,9,10,12,16,18],[18,16,12,10,9,8,11,14,13,15,6,4,5,2,1,0,3,7,17,19,20],[20,19,17,7,3,0,1,2,5,4,6,15,13,14,11,8,9,10,12,16,18,21],[16,12,10,9,8,11,14,13,15,6,4,5,2,1,0,3,7,17],[17,7,3,0,1,2,5,4,6,15,13,14,11,8,9,10,12,16,23],[23,16,12,10,9,8,11,14,13,15,6,4,5,2,1,0,3,7,17,24],[24,23,25,21,18,16,12,10,9,8,11,14,13,15,6,4,5,2,1,0,3,7,17,19,20,22],[22,20,19,18,21,25,23,24,26,16,12,10,9,8,11,14,13,15,6,4,5,2,1,0,3,7,17]]) 0 []) (.cond (t_ 132) (.seq (R_ 0 [O_ 4 (.mv (b_ false)) 0]) .ret) .skip)) (R_ 0 [O_ 133 (.mv (t_ 13)) 0,O_ 134 (.mv (t_ 14)) 0,O_ 135 (.ixs 1 (t_ 133) (t_ 134)) 0,U_ (.st 1 (t_ 135) (.const (.string ⟨#[]⟩))) 0]))) (R_ 0 [O_ 103 (.mv (t_ 14)) 0,O_ 104 (.bin .add (t_ 103) (i_ 1)) 0,O_ 14 (.mv (t_ 104)) 0])))))) (.seq (R_ 0 [O_ 136 (.mv (t_ 5)) 0,O_ 137 (.mv (t_ 1)) 0,O_ 138 (.cl 19 [(t_ 136),(t_ 137)]) 0,O_ 139 (.mv (t_ 11)) 0,O_ 140 (.bin .eql (t_ 138) (t_ 139)) 0,O_ 141 (.mv (t_ 140)) 0,⟨(some 142),.cl 8 [],(some (141,true)),0⟩,O_ 143 (.pick (t_ 141) (t_ 142) (b_ false)) 0,O_ 4 (.mv (t_ 143)) 0]) .ret))))))))))))
theorem gc3_ok:compF Tryz.prog Tryz.f3=some (gc3.er,144,[.tmp 4]):=by unfold gc3;kernel_rfl
theorem p_law36_TallyCounts_v {u1:Bool} (a0:List Law36Act) (a1:ByteArray):CallsO Tryz.prog 3 [.sl (List.map Law36Act.v a0) u1,.s a1] V.b (tru? (p_law36_TallyCounts a0 a1)):=by
 refine callsO_comp mix Tryz.func3 gc3_ok fun r H=>?_
 have H1:=tru_of H
 clear H
 obtain ⟨rfl,H⟩:=H1
 rw [p_law36_TallyCounts] at H
 conv=>whnf
 obtain ⟨K1,hK2,o3,HL4,HQ5⟩:=join0_c H
 refine join_c [4] [15,16,17,18,19,20,21,22,23] (fun vals st=>(K1 (.inr ())=some true∧vals=[.b false]∧st=[])) ?_ ?_
 ·have H:=HL4
  conv=>whnf
  refine ask_c (p_law36_few_v _) H rfl rfl (fun v7 H=>?_);conv=>whnf
  refine Tst.not ?_
  refine tst_d H (fun b8 H=>?_) (fun b8 H=>?_)
  ·conv=>whnf
   iterate 4 (refine Tst.T ?_;conv=>whnf)
   refine ask_c (p_law36_awake_v) H rfl rfl (fun v11 H=>?_);conv=>whnf
   obtain rfl:=Option.some.inj H
   have H:=HQ5
   rw [hK2] at H
   try dsimp only at H
   exact fb_ H
  conv=>whnf
  iterate 3 (refine Tst.F ?_;conv=>whnf)
  refine tst_d H (fun b9 H=>?_) (fun b9 H=>?_)
  ·conv=>whnf
   obtain rfl:=Option.some.inj H
   exact arrive_c [15,16,17,18,19,20,21,22,23] 0 [] (⟨HQ5,rfl,rfl⟩) (Nat.zero_le _) rfl (by kernel_rfl) (by kernel_rfl) rfl trivial
  conv=>whnf
  refine ask_c (p_law36_awake_v) H rfl rfl (fun v10 H=>?_);conv=>whnf
  obtain rfl:=Option.some.inj H
  have H:=HQ5
  rw [hK2] at H
  try dsimp only at H
  exact fb_ H
 rintro _ _ (⟨H,rfl,rfl⟩)
 rw [hK2] at H
 try dsimp only at H
 conv=>whnf
 refine askN_c 0 1 (fun s hs=>p_tally_New_o  s hs) H rfl rfl rfl rfl (fun s=>(belowL_app (cellsM_idlt (f:=SyncatomicInt64.v) (fun _=>rfl) _) rfl)) (.nil) (fun y12 H=>?_);conv=>whnf
 obtain ⟨o14,HL15,HQ16⟩:=bind_c H
 refine loop_c [4,7,6] [8,9,10,25,26,27,28,29,30,31,32,33,34,35,36,37,38,39,40,41,42,43,44,45,46,47,48,49,50,51,52,53,54,55,56,57,58,59,60,61,62,63,64,65,66,67,68,69,70,71,72,73,74,75,76,77,78,79,80,81,82,24] [8,9,10,25,26,27,28,29,30,31,32,33,34,35,36,37,38,39,40,41,42,43,44,45,46,47,48,49,50,51,52,53,54,55,56,57,58,59,60,61,62,63,64,65,66,67,68,69,70,71,72,73,74,75,76,77,78,79,80,81,82,24] (fun n vals st=>(∃ y18 y19 y20,p_law36_TallyCounts_l1  a0 n y18 y19 y20=some o14∧vals=[.b false,.i y18,.ptr 1 0]∧st=[.live (cellsM SyncatomicInt64.v y19.counts++([.lit (.int .u32 y19.once.done.v_),.lit (.int .i32 y19.once.m.mu.state),.lit (.int .u32 y19.once.m.mu.sema),.sl (List.map V.s y19.names) false])) 0,.live [.i y20.a0,.i y20.a1,.i y20.a2,.i y20.a3,.i y20.a4,.i y20.a5,.i y20.a6,.i y20.a7,.i y20.a8,.i y20.a9,.i y20.a10,.i y20.a11] 0])) fuel 2 [0,2] (⟨_,_,_,HL15,rfl,rfl⟩) (Nat.zero_le _) rfl (by kernel_rfl) (by kernel_rfl) rfl (by exact wkB_live0 rfl (belowL_app (cellsM_idlt (f:=SyncatomicInt64.v) (fun _=>rfl) _) rfl) rfl ⟨⟨rfl,rfl,rfl⟩,trivial⟩) ?_
 rintro (_ | n17) _ _ (⟨y18,y19,y20,H,rfl,rfl⟩)
 ·rw [p_law36_TallyCounts_l1] at H;cases H
 rw [p_law36_TallyCounts_l1] at H
 conv=>whnf
 refine LenQ.M ?_;conv=>whnf
 refine tst_c H (fun b21 H=>?_) (fun b21 H=>?_)
 ·conv=>whnf
  refine ixs_c (f:=Law36Act.v) H (fun _=>rfl) (fun x22 H=>?_);conv=>whnf
  refine lq_ ?_;conv=>whnf
  refine tst_c H (fun b23 H=>?_) (fun b23 H=>?_)
  ·conv=>whnf
   refine ixs_c (f:=Law36Act.v) H (fun _=>rfl) (fun x24 H=>?_);conv=>whnf
   refine lq_ ?_;conv=>whnf
   refine ask_c (p_law36_result_v _) H rfl rfl (fun v25 H=>?_);conv=>whnf
   refine askCo_c [0] (fun s hs=>p_tally_Tally_Note_p1_0 _ _ s hs) H (fun _=>rfl) rfl ⟨rfl,trivial⟩ rfl (closed_cons (belowL_app (cellsM_idlt (f:=SyncatomicInt64.v) (fun _=>rfl) _) rfl) closed_nil) (fun s=>(closed_cons (belowL_app (cellsM_idlt (f:=SyncatomicInt64.v) (fun _=>rfl) _) rfl) closed_nil)) (fun _=>rfl) (.kp rfl (.kp rfl (.nil))) (fun v26 H=>?_);conv=>whnf
   refine ixs_c (f:=Law36Act.v) H (fun _=>rfl) (fun x27 H=>?_);conv=>whnf
   refine lq_ ?_;conv=>whnf
   refine ask_c (p_ref36_Tally_Note_v _ _) H rfl rfl (fun v28 H=>?_);conv=>whnf
   refine lq_ ?_;conv=>whnf
   refine FootQ.mk ⟨rfl,?_⟩;conv=>whnf
   refine Ari.w ?_;conv=>whnf
   exact again_c [8,9,10,25,26,27,28,29,30,31,32,33,34,35,36,37,38,39,40,41,42,43,44,45,46,47,48,49,50,51,52,53,54,55,56,57,58,59,60,61,62,63,64,65,66,67,68,69,70,71,72,73,74,75,76,77,78,79,80,81,82,24] n17 2 [] (⟨_,_,_,H,rfl,rfl⟩) (Nat.lt_succ_self _) (Nat.zero_le _) rfl (by kernel_rfl) (by kernel_rfl) rfl (by exact wkB_live0 rfl (belowL_app (cellsM_idlt (f:=SyncatomicInt64.v) (fun _=>rfl) _) rfl) rfl ⟨⟨rfl,rfl,rfl⟩,trivial⟩)
  conv=>whnf
  refine ixs_c (f:=Law36Act.v) H (fun _=>rfl) (fun x29 H=>?_);conv=>whnf
  refine lq_ ?_;conv=>whnf
  refine ixs_c (f:=Law36Act.v) H (fun _=>rfl) (fun x30 H=>?_);conv=>whnf
  refine lq_ ?_;conv=>whnf
  refine askCo_c [0] (fun s hs=>p_tally_Tally_Add_p1_0 _ _ _ s hs) H (fun _=>rfl) rfl ⟨rfl,trivial⟩ rfl (closed_cons (belowL_app (cellsM_idlt (f:=SyncatomicInt64.v) (fun _=>rfl) _) rfl) closed_nil) (fun s=>(closed_cons (belowL_app (cellsM_idlt (f:=SyncatomicInt64.v) (fun _=>rfl) _) rfl) closed_nil)) (fun _=>rfl) (.kp rfl (.kp rfl (.kp rfl (.nil)))) (fun v31 H=>?_);conv=>whnf
  refine FootQ.mk ⟨rfl,?_⟩;conv=>whnf
  refine ixs_c (f:=Law36Act.v) H (fun _=>rfl) (fun x32 H=>?_);conv=>whnf
  refine lq_ ?_;conv=>whnf
  refine ixs_c (f:=Law36Act.v) H (fun _=>rfl) (fun x33 H=>?_);conv=>whnf
  refine lq_ ?_;conv=>whnf
  refine ask_c (p_ref36_Tally_Add_v _ _ _) H rfl rfl (fun v34 H=>?_);conv=>whnf
  refine lq_ ?_;conv=>whnf
  refine FootQ.mk ⟨rfl,?_⟩;conv=>whnf
  refine lq_ ?_;conv=>whnf
  refine tst_c H (fun b35 H=>?_) (fun b35 H=>?_)
  ·conv=>whnf
   obtain rfl:=Option.some.inj H
   have H:=HQ16
   try dsimp only at H
   exact fb_ H
  conv=>whnf
  refine Ari.w ?_;conv=>whnf
  exact again_c [8,9,10,25,26,27,28,29,30,31,32,33,34,35,36,37,38,39,40,41,42,43,44,45,46,47,48,49,50,51,52,53,54,55,56,57,58,59,60,61,62,63,64,65,66,67,68,69,70,71,72,73,74,75,76,77,78,79,80,81,82,24] n17 2 [] (⟨_,_,_,H,rfl,rfl⟩) (Nat.lt_succ_self _) (Nat.zero_le _) rfl (by kernel_rfl) (by kernel_rfl) rfl (by exact wkB_live0 rfl (belowL_app (cellsM_idlt (f:=SyncatomicInt64.v) (fun _=>rfl) _) rfl) rfl ⟨⟨rfl,rfl,rfl⟩,trivial⟩)
 conv=>whnf
 obtain rfl:=Option.some.inj H
 have H:=HQ16
 try dsimp only at H
 obtain ⟨K36,hK37,o38,HL39,HQ40⟩:=join0_c H
 refine join_c [11,5,6] [83,84,85,86,87,88,89] (fun vals st=>(∃ y47,K36 y47=some true∧vals=[.i y47,.ptr 0 0,.ptr 1 0]∧st=[.live (cellsM SyncatomicInt64.v y19.counts++([.lit (.int .u32 y19.once.done.v_),.lit (.int .i32 y19.once.m.mu.state),.lit (.int .u32 y19.once.m.mu.sema),.sl (List.map V.s y19.names) false])) 0,.live [.i y20.a0,.i y20.a1,.i y20.a2,.i y20.a3,.i y20.a4,.i y20.a5,.i y20.a6,.i y20.a7,.i y20.a8,.i y20.a9,.i y20.a10,.i y20.a11] 0])) ?_ ?_
 ·have H:=HL39
  conv=>whnf
  refine ask_c (p_ref36_Place_v _) H rfl rfl (fun v42 H=>?_);conv=>whnf
  refine tst_d H (fun b43 H=>?_) (fun b43 H=>?_)
  ·conv=>whnf
   obtain rfl:=Option.some.inj H
   exact arrive_c [83,84,85,86,87,88,89] 2 [] (⟨_,HQ40,rfl,rfl⟩) (Nat.zero_le _) rfl (by kernel_rfl) (by kernel_rfl) rfl (by exact wkB_live0 rfl (belowL_app (cellsM_idlt (f:=SyncatomicInt64.v) (fun _=>rfl) _) rfl) rfl ⟨⟨rfl,rfl,rfl⟩,trivial⟩)
  conv=>whnf
  refine ask_c (p_ref36_Place_v _) H rfl rfl (fun v44 H=>?_);conv=>whnf
  refine ixa_c (l:=[y20.a0,y20.a1,y20.a2,y20.a3,y20.a4,y20.a5,y20.a6,y20.a7,y20.a8,y20.a9,y20.a10,y20.a11]) H (fun x45 h46 H=>?_);conv=>whnf
  refine ldmo_c (p:=[]) (f:=V.i) (seg:=[y20.a0,y20.a1,y20.a2,y20.a3,y20.a4,y20.a5,y20.a6,y20.a7,y20.a8,y20.a9,y20.a10,y20.a11]) (m:=[]) (es:=1) rfl h46 (fun _=>rfl) 0 (by show _=0 + _;omega) (by decide) ?_;conv=>whnf
  obtain rfl:=Option.some.inj H
  exact arrive_c [83,84,85,86,87,88,89] 2 [] (⟨_,HQ40,rfl,rfl⟩) (Nat.zero_le _) rfl (by kernel_rfl) (by kernel_rfl) rfl (by exact wkB_live0 rfl (belowL_app (cellsM_idlt (f:=SyncatomicInt64.v) (fun _=>rfl) _) rfl) rfl ⟨⟨rfl,rfl,rfl⟩,trivial⟩)
 rintro _ _ (⟨y47,H,rfl,rfl⟩)
 rw [hK37] at H
 try dsimp only at H
 conv=>whnf
 refine askCo_c [0] (fun s hs=>p_tally_Tally_List_p1_0 _ s hs) H (fun _=>rfl) rfl ⟨rfl,trivial⟩ rfl (closed_cons (belowL_app (cellsM_idlt (f:=SyncatomicInt64.v) (fun _=>rfl) _) rfl) closed_nil) (fun s=>(closed_cons (belowL_app (cellsM_idlt (f:=SyncatomicInt64.v) (fun _=>rfl) _) rfl) closed_nil)) (fun _=>rfl) (.kp rfl (.nil)) (fun v48 H=>?_);conv=>whnf
 refine askNm_c 2 3 H rfl rfl rfl (fun l49 H=>?_);conv=>whnf
 obtain ⟨K50,hK51,o52,HL53,HQ54⟩:=join0_c H
 refine join_c [4,5,6,13] [93,94,95,96,97,98,99,100,90,92] (fun vals st=>(K50 (.inr ())=some true∧vals=[.b false,.ptr 0 0,.ptr 1 0,.osl 2 0 12 1 true]∧st=[.live (cellsM SyncatomicInt64.v v48.1.counts++([.lit (.int .u32 v48.1.once.done.v_),.lit (.int .i32 v48.1.once.m.mu.state),.lit (.int .u32 v48.1.once.m.mu.sema),.sl (List.map V.s v48.1.names) false])) 0,.live [.i y20.a0,.i y20.a1,.i y20.a2,.i y20.a3,.i y20.a4,.i y20.a5,.i y20.a6,.i y20.a7,.i y20.a8,.i y20.a9,.i y20.a10,.i y20.a11] 0,.live (cellsM V.s l49) 0])) ?_ ?_
 ·have H:=HL53
  conv=>whnf
  refine LenQ.M ?_;conv=>whnf
  refine tst_c H (fun b56 H=>?_) (fun b56 H=>?_)
  ·conv=>whnf
   iterate 4 (refine Tst.T ?_;conv=>whnf)
   obtain rfl:=Option.some.inj H
   have H:=HQ54
   rw [hK51] at H
   try dsimp only at H
   exact fb_ H
  conv=>whnf
  iterate 3 (refine Tst.F ?_;conv=>whnf)
  refine tst_c H (fun b57 H=>?_) (fun b57 H=>?_)
  ·conv=>whnf
   obtain rfl:=Option.some.inj H
   have H:=HQ54
   rw [hK51] at H
   try dsimp only at H
   exact fb_ H
  conv=>whnf
  obtain rfl:=Option.some.inj H
  exact arrive_c [93,94,95,96,97,98,99,100,90,92] 3 [] (⟨HQ54,rfl,rfl⟩) (Nat.zero_le _) rfl (by kernel_rfl) (by kernel_rfl) rfl (by exact wkB_live0 rfl (belowL_app (cellsM_idlt (f:=SyncatomicInt64.v) (fun _=>rfl) _) rfl) rfl ⟨⟨rfl,rfl,rfl⟩,wkB_live0 rfl (cellsM_idlt (f:=V.s) (fun _=>rfl) _) rfl trivial⟩)
 rintro _ _ (⟨H,rfl,rfl⟩)
 rw [hK51] at H
 try dsimp only at H
 conv=>whnf
 obtain ⟨o59,HL60,HQ61⟩:=bind_c H
 refine loop_c [4,14] [101,102,103,104,105,106,107,108,109,110,111,112,113,114,115,116,117,118,119,120,121,122,123,124,125,126,127,128,129,130,131,132,133,134,135] [101,102,103,104,105,106,107,108,109,110,111,112,113,114,115,116,117,118,119,120,121,122,123,124,125,126,127,128,129,130,131,132,133,134,135] (fun n vals st=>(∃ y63 y64,p_law36_TallyCounts_l2  v48.2 y20 n y63 y64=some o59∧vals=[.b false,.i y63]∧st=[.live (cellsM SyncatomicInt64.v v48.1.counts++([.lit (.int .u32 v48.1.once.done.v_),.lit (.int .i32 v48.1.once.m.mu.state),.lit (.int .u32 v48.1.once.m.mu.sema),.sl (List.map V.s v48.1.names) false])) 0,.live [.i y20.a0,.i y20.a1,.i y20.a2,.i y20.a3,.i y20.a4,.i y20.a5,.i y20.a6,.i y20.a7,.i y20.a8,.i y20.a9,.i y20.a10,.i y20.a11] 0,.live (cellsM V.s y64) 0])) fuel 3 [] (⟨_,_,HL60,rfl,rfl⟩) (Nat.zero_le _) rfl (by kernel_rfl) (by kernel_rfl) rfl (by exact wkB_live0 rfl (belowL_app (cellsM_idlt (f:=SyncatomicInt64.v) (fun _=>rfl) _) rfl) rfl ⟨⟨rfl,rfl,rfl⟩,wkB_live0 rfl (cellsM_idlt (f:=V.s) (fun _=>rfl) _) rfl trivial⟩) ?_
 rintro (_ | n62) _ _ (⟨y63,y64,H,rfl,rfl⟩)
 ·rw [p_law36_TallyCounts_l2] at H;cases H
 rw [p_law36_TallyCounts_l2] at H
 conv=>whnf
 refine tst_d H (fun b65 H=>?_) (fun b65 H=>?_)
 ·conv=>whnf
  obtain rfl:=Option.some.inj H
  have H:=HQ61
  try dsimp only at H
  refine askCo_c [0] (fun s hs=>p_tally_Tally_Get_p1_0 _ _ s hs) H (fun _=>rfl) rfl ⟨rfl,trivial⟩ rfl (closed_cons (belowL_app (cellsM_idlt (f:=SyncatomicInt64.v) (fun _=>rfl) _) rfl) closed_nil) (fun s=>(closed_cons (belowL_app (cellsM_idlt (f:=SyncatomicInt64.v) (fun _=>rfl) _) rfl) closed_nil)) (fun _=>rfl) (.kp rfl (.kp rfl (.nil))) (fun v79 H=>?_);conv=>whnf
  refine tstT_c H (fun b80 H=>?_);conv=>whnf
  refine ask_c (p_law36_awake_v) H rfl rfl (fun v81 H=>?_);conv=>whnf
  refine Tst.T ?_;conv=>whnf
  exact fb_ H
 conv=>whnf
 refine ⟨rfl,ixa_c H (fun x66 h67 H=>?_)⟩;conv=>whnf
 refine ldo_c (f:=V.s) (es:=1) h67 (fun _=>rfl) 0 (by omega) (by decide) ?_;conv=>whnf
 refine ask_c (p_ref36_Name_v _) H rfl rfl (fun v68 H=>?_);conv=>whnf
 refine Tst.not ?_
 refine tst_d H (fun b69 H=>?_) (fun b69 H=>?_)
 ·conv=>whnf
  iterate 18 (refine Tst.T ?_;conv=>whnf)
  refine FootQ.mk ⟨rfl,?_⟩;conv=>whnf
  refine Tst.T ?_;conv=>whnf
  obtain rfl:=Option.some.inj H
  have H:=HQ61
  try dsimp only at H
  exact fb_ H
 conv=>whnf
 iterate 2 (refine Tst.F ?_;conv=>whnf)
 refine ixs_c (f:=TallyCount.v) H (fun _=>rfl) (fun x70 H=>?_);conv=>whnf
 refine Tst.F ?_;conv=>whnf
 refine lq_ ?_;conv=>whnf
 iterate 3 (refine Tst.F ?_;conv=>whnf)
 refine ask_c (p_ref36_Name_v _) H rfl rfl (fun v71 H=>?_);conv=>whnf
 iterate 2 (refine Tst.F ?_;conv=>whnf)
 refine Tst.not ?_
 refine tst_d H (fun b72 H=>?_) (fun b72 H=>?_)
 ·conv=>whnf
  iterate 9 (refine Tst.T ?_;conv=>whnf)
  refine FootQ.mk ⟨rfl,?_⟩;conv=>whnf
  refine Tst.T ?_;conv=>whnf
  obtain rfl:=Option.some.inj H
  have H:=HQ61
  try dsimp only at H
  exact fb_ H
 conv=>whnf
 iterate 2 (refine Tst.F ?_;conv=>whnf)
 refine ixs_c (f:=TallyCount.v) H (fun _=>rfl) (fun x73 H=>?_);conv=>whnf
 refine Tst.F ?_;conv=>whnf
 refine lq_ ?_;conv=>whnf
 iterate 3 (refine Tst.F ?_;conv=>whnf)
 refine ixa_c (l:=[y20.a0,y20.a1,y20.a2,y20.a3,y20.a4,y20.a5,y20.a6,y20.a7,y20.a8,y20.a9,y20.a10,y20.a11]) H (fun x74 h75 H=>?_);conv=>whnf
 refine Tst.F ?_;conv=>whnf
 refine ldmo_c (p:=[]) (f:=V.i) (seg:=[y20.a0,y20.a1,y20.a2,y20.a3,y20.a4,y20.a5,y20.a6,y20.a7,y20.a8,y20.a9,y20.a10,y20.a11]) (m:=[]) (es:=1) rfl h75 (fun _=>rfl) 0 (by show _=0 + _;omega) (by decide) ?_;conv=>whnf
 iterate 2 (refine Tst.F ?_;conv=>whnf)
 refine FootQ.mk ⟨rfl,?_⟩;conv=>whnf
 refine tst_c H (fun b76 H=>?_) (fun b76 H=>?_)
 ·conv=>whnf
  obtain rfl:=Option.some.inj H
  have H:=HQ61
  try dsimp only at H
  exact fb_ H
 conv=>whnf
 refine ⟨rfl,ixa_c H (fun x77 h78 H=>?_)⟩;conv=>whnf
 refine ⟨Nat.zero_le _,sto_c (f:=V.s) (es:=1) h78 (x':=(⟨#[]⟩ : ByteArray)) (fun _=>rfl) 0 (by omega) (Nat.le_of_ble_eq_true rfl) (by rfl) ?_⟩;conv=>whnf
 refine Ari.w ?_;conv=>whnf
 exact again_c [101,102,103,104,105,106,107,108,109,110,111,112,113,114,115,116,117,118,119,120,121,122,123,124,125,126,127,128,129,130,131,132,133,134,135] n62 3 [] (⟨_,_,H,rfl,rfl⟩) (Nat.lt_succ_self _) (Nat.zero_le _) rfl (by kernel_rfl) (by kernel_rfl) rfl (by exact wkB_live0 rfl (belowL_app (cellsM_idlt (f:=SyncatomicInt64.v) (fun _=>rfl) _) rfl) rfl ⟨⟨rfl,rfl,rfl⟩,wkB_live0 rfl (cellsM_idlt (f:=V.s) (fun _=>rfl) _) rfl trivial⟩)
end Go.Proofs.YtpkodpcfafipdaaGreat

namespace Go.Proofs.YtpkodpcfafipdaaGreat
open Go.ChangeShapes Go.WideShapes Go.ChangeAt Go.RowKit Go.Joins Go.Deep
theorem tallyCounts_named:Tryz.pinned.checked.prog.funcNamed Rows.tallyCountsRow.func=some 3:=by kernel_rfl
theorem tallyCounts_closed:joinedFacts Tryz.pinned.checked.prog 3 Tryz.f3 Rows.tallyCountsSpec Rows.tallyCountsRow=true:=by kernel_rfl
end Go.Proofs.YtpkodpcfafipdaaGreat

namespace Go.Proofs.YtpkodpcfafipdaaGreat
open Go.ChangeShapes Go.WideShapes Go.ChangeAt Go.RowKit Go.Joins Go.Deep
set_option maxRecDepth 100000 in
theorem tallyCounts_lifted (os:Os) (started:os.Started) (H:Type) (enc:TypeId × Value→H) :
  ReturnsInHanded {} Tryz.checked os 3 .any (Rows.tallyCountsSpec.pre6 enc Tryz.prog Tryz.f3 Rows.tallyCountsRow.domain false) (Rows.tallyCountsSpec.post enc Tryz.prog Tryz.f3 false true false false):=by
 refine returnsInHanded_of_change_shaped (C:=Tryz.checked) own0 started (by kernel_rfl) Tryz.func3
  (ChangeSpec.witness6 (enc:=enc) (C:=Tryz.checked) false ⟨#[],#[.slice none 0 0,.string ⟨#[]⟩],[]⟩ 8 (by kernel_rfl) (by kernel_rfl) (by kernel_rfl) (by kernel_rfl)) ?_
 intro W base args ds gs before hval0 hW hcnd _ hsh _
 have hval:∀ (j:Nat) t v,Tryz.f3.params[j]?=some t→args[j]?=some v→Value.okWide Tryz.prog W .any base t v:=hval0
 have hW':=hW
 obtain ⟨p,q,hA0,hV,rfl,hfz,hnd⟩:=hW
 have hA:DataW.TrodAll enc Tryz.prog W 0 (fun _=>true) true Tryz.f3.params.toList args.toList ds p:=hA0
 rw [Tryz.params3] at hA hval
 have hA2:=hA
 obtain ⟨v0,v1,d0,d1,p0,p1,rfl,rfl,hp,h0,h1⟩:=trodAll_two hA
 obtain ⟨rfl,rfl⟩:=trodVars_none hV
 obtain ⟨fu0,hf0⟩:=h0
 obtain ⟨q0,l0,k0,rfl⟩:=okWide_slice Tryz.underlying22 (hval 0 _ v0 rfl rfl)
 obtain ⟨a0,w0,r0⟩:=rd_T22 hf0
 have hx0:Rep (MW W) noBk _ _:=r0.2 0 (by simp [Value.cells]) (by simp)
 obtain ⟨fu1,hf1⟩:=h1
 obtain ⟨q1,rfl⟩:=okWide_string Tryz.underlying9 (hval 1 _ v1 rfl rfl)
 obtain ⟨a1,r1⟩:=rd_string Tryz.underlying9 hf1
 have hx1:Rep (MW W) noBk _ _:=r1.2 0 (by simp [Value.cells]) (by simp)
 refine (rep_one (callsO_true (p_law36_TallyCounts_v a0 a1) (tru_ok (tallyCounts_wf a0 a1 w0))) (maxLen_cell W hsh) (repAr2 hx0 hx1)).mono ?_
 rintro e W' ⟨rfl,bel⟩
 refine ⟨_,rfl,_,_,_,[],p,[],hW',?_,?_,?_,?_,?_⟩
 ·exact trodAll_mk1 (shut_bool Tryz.underlying4 true)
 ·exact trodAll_below laid0 bel (by
   intro t ht
   simp at ht
   rcases ht with rfl | rfl <;> exact ⟨by kernel_rfl,of_decide_eq_true (by kernel_rfl)⟩) hA2
 ·rfl
 ·exact bel.frame _
 ·exact fun h=>by cases h
theorem tallyCounts_holds:Rows.TallyCountsSaid :=
 OpenClaim.holds_of_wide 3 Tryz.f3 rfl rfl rfl rfl rfl rfl rfl ⟨rfl,rfl,rfl,rfl,rfl⟩ rfl rfl rfl rfl rfl tallyCounts_named Tryz.func3 tallyCounts_closed
  (of_decide_eq_true (by kernel_rfl)) (by unfold Func.isWrapper;first | (rw [if_pos (by decide +kernel)];kernel_rfl) | (rw [if_neg (by decide +kernel)];exact ⟨rfl,rfl⟩))
  (fun os started H enc _=>tallyCounts_lifted os started H enc)
#print axioms tallyCounts_holds
end Go.Proofs.YtpkodpcfafipdaaGreat

