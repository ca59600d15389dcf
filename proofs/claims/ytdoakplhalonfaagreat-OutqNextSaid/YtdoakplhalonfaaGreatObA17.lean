/- A part of the proof: 2 texts joined. -/
import Derived.Test.YtdoakplhalonfaaGreatObA9
import Derived.Test.YtdoakplhalonfaaGreatObA16
import Derived.Test.YtdoakplhalonfaaGreatObA1
import Derived.KernelRfl
set_option linter.all false
namespace Go.Proofs.YtdoakplhalonfaaGreat
open Go.RowKit
set_option maxRecDepth 100000
set_option maxHeartbeats 4000000
def gc87:BCode:=(.seq (R_ 1 [O_ 1 (.bx (t_ 0)) 0,O_ 2 (.mv (i_ 0)) 1]) (.seq (.block 0 (.seq (R_ 0 [O_ 8 (.fa 1 (t_ 1)) 0,O_ 9 (.ld 1 false (t_ 8)) 0,O_ 10 (.lens (t_ 9)) 0,O_ 11 (.bin .gtr (t_ 10) (i_ 16)) 0,O_ 7 (.mv (t_ 11)) 0]) (.cond (t_ 7) (.seq (R_ 0 [O_ 2 (.mv (i_ 5)) 0]) .ret) (.seq (R_ 0 [O_ 13 (.fa 0 (t_ 1)) 0,O_ 14 (.ld 1 false (t_ 13)) 0,O_ 15 (.bin .lss (t_ 14) (i_ 0)) 0,O_ 16 (.mv (t_ 15)) 0,⟨(some 17),.fa 0 (t_ 1),(some (16,false)),0⟩,⟨(some 18),.ld 1 false (t_ 17),(some (16,false)),0⟩,⟨(some 19),.bin .gtr (t_ 18) (i_ 1099511627776),(some (16,false)),0⟩,O_ 20 (.pick (t_ 16) (b_ true) (t_ 19)) 0,O_ 12 (.mv (t_ 20)) 0]) (.cond (t_ 12) (.seq (R_ 0 [O_ 2 (.mv (i_ 8)) 0]) .ret) .skip))))) (.seq (.seq (R_ 0 [O_ 3 (.mv (i_ 0)) 0]) (.block 1 (.loop (.seq (.seq (R_ 0 [O_ 21 (.mv (t_ 3)) 0,O_ 22 (.fa 1 (t_ 1)) 0,O_ 23 (.ld 1 false (t_ 22)) 0,O_ 24 (.lens (t_ 23)) 0,O_ 25 (.bin .lss (t_ 21) (t_ 24)) 0]) (.cond (t_ 25) .skip (.exit 1))) (.seq (.block 2 (.seq (R_ 0 [O_ 28 (.fa 1 (t_ 1)) 0,O_ 29 (.ld 1 false (t_ 28)) 0,O_ 30 (.mv (t_ 3)) 0,O_ 31 (.ixs 6 (t_ 29) (t_ 30)) 0,O_ 32 (.ld 6 true (t_ 31)) 0,O_ 33 (.cl 116 [(t_ 32)]) 0,O_ 34 (.bin .eql (t_ 33) (.const (.string ⟨#[]⟩))) 0]) (.cond (t_ 34) (.seq (R_ 0 [O_ 2 (.mv (i_ 11)) 0]) .ret) .skip))) (R_ 0 [O_ 26 (.mv (t_ 3)) 0,O_ 27 (.bin .add (t_ 26) (i_ 1)) 0,O_ 3 (.mv (t_ 27)) 0])))))) (.seq (.seq (R_ 0 [O_ 4 (.mv (i_ 0)) 0]) (.block 3 (.loop (.seq (.seq (R_ 0 [O_ 35 (.mv (t_ 4)) 0,O_ 36 (.fa 1 (t_ 1)) 0,O_ 37 (.ld 1 false (t_ 36)) 0,O_ 38 (.lens (t_ 37)) 0,O_ 39 (.bin .lss (t_ 35) (t_ 38)) 0]) (.cond (t_ 39) .skip (.exit 3))) (.seq (.block 4 (.seq (R_ 0 [O_ 42 (.fa 1 (t_ 1)) 0,O_ 43 (.ld 1 false (t_ 42)) 0,O_ 44 (.mv (t_ 4)) 0,O_ 45 (.ixs 6 (t_ 43) (t_ 44)) 0,O_ 46 (.fa 2 (t_ 45)) 0,O_ 47 (.ld 4 true (t_ 46)) 0,O_ 48 (.cl 79 [(t_ 47)]) 0,O_ 5 (.mv (t_ 48)) 0]) (.seq (.seq (R_ 0 [O_ 49 (.mv (t_ 5)) 0,O_ 50 (.bin .neq (t_ 49) (i_ 0)) 0]) (.cond (t_ 50) (.seq (R_ 0 [O_ 51 (.mv (t_ 5)) 0,O_ 2 (.mv (t_ 51)) 0]) .ret) .skip)) (.seq (R_ 0 [O_ 52 (.fa 1 (t_ 1)) 0,O_ 53 (.ld 1 false (t_ 52)) 0,O_ 54 (.mv (t_ 4)) 0,O_ 55 (.ixs 6 (t_ 53) (t_ 54)) 0,O_ 56 (.fa 2 (t_ 55)) 0,O_ 57 (.fa 0 (t_ 56)) 0,O_ 58 (.ld 1 false (t_ 57)) 0,O_ 59 (.un .not (t_ 58)) 0]) (.cond (t_ 59) (.seq (R_ 0 [O_ 2 (.mv (i_ 4)) 0]) .ret) .skip))))) (R_ 0 [O_ 40 (.mv (t_ 4)) 0,O_ 41 (.bin .add (t_ 40) (i_ 1)) 0,O_ 4 (.mv (t_ 41)) 0])))))) (.seq (.seq (R_ 0 [O_ 60 (.ld 2 true (t_ 1)) 0,O_ 61 (.cl 117 [(t_ 60)]) 0,O_ 62 (.un .not (t_ 61)) 0]) (.cond (t_ 62) (.seq (R_ 0 [O_ 2 (.mv (i_ 10)) 0]) .ret) .skip)) (.seq (.seq (R_ 0 [O_ 6 (.mv (i_ 0)) 0]) (.block 5 (.loop (.seq (.seq (R_ 0 [O_ 63 (.mv (t_ 6)) 0,O_ 64 (.fa 1 (t_ 1)) 0,O_ 65 (.ld 1 false (t_ 64)) 0,O_ 66 (.lens (t_ 65)) 0,O_ 67 (.bin .lss (t_ 63) (t_ 66)) 0]) (.cond (t_ 67) .skip (.exit 5))) (.seq (.block 6 (.seq (.reg 0 [O_ 70 (.ld 2 true (t_ 1)) 0,O_ 71 (.fa 1 (t_ 1)) 0,O_ 72 (.ld 1 false (t_ 71)) 0,O_ 73 (.mv (t_ 6)) 0,O_ 74 (.ixs 6 (t_ 72) (t_ 73)) 0,O_ 75 (.fa 0 (t_ 74)) 0,O_ 76 (.ld 1 false (t_ 75)) 0,O_ 77 (.cl 118 [(t_ 70),(t_ 76)]) 0,O_ 78 (.bin .gtr (t_ 77) (i_ 3)) 0] (some [[],[],[1],[],[3,1,2],[2,1,3,4],[4,3,1,2,5],[5,2,1,3,4,6,0],[0,6,4,3,1,2,5,7]]) 0 []) (.cond (t_ 78) (.seq (R_ 0 [O_ 2 (.mv (i_ 7)) 0]) .ret) .skip))) (R_ 0 [O_ 68 (.mv (t_ 6)) 0,O_ 69 (.bin .add (t_ 68) (i_ 1)) 0,O_ 6 (.mv (t_ 69)) 0])))))) (.seq (R_ 0 [O_ 2 (.mv (i_ 0)) 0]) .ret)))))))
theorem gc87_ok:compF Tryz.prog Tryz.f87=some (gc87.er,79,[.tmp 2]):=by unfold gc87;kernel_rfl
theorem p_ref24_Check_v {u1:Bool} (a0:BookState):CallsO Tryz.prog 87 [.agg [.i a0.Seq,.sl (List.map BookRow.v a0.Rows) u1]] V.i (p_ref24_Check a0):=by
 refine callsO_comp mix Tryz.func87 gc87_ok fun r H=>?_
 rw [p_ref24_Check] at H
 conv=>whnf
 refine LenQ.M ?_;conv=>whnf
 refine tst_c H (fun b1 H=>?_) (fun b1 H=>?_)
 ·conv=>whnf
  exact fi_ H
 conv=>whnf
 refine tst_c H (fun b2 H=>?_) (fun b2 H=>?_)
 ·conv=>whnf
  iterate 4 (refine Tst.T ?_;conv=>whnf)
  exact fi_ H
 conv=>whnf
 iterate 3 (refine Tst.F ?_;conv=>whnf)
 refine tst_c H (fun b3 H=>?_) (fun b3 H=>?_)
 ·conv=>whnf
  exact fi_ H
 conv=>whnf
 obtain ⟨o5,HL6,HQ7⟩:=bind_c H
 refine loop_c [2,3] [21,22,23,24,25,26,27,28,29,30,31,32,33,34,8,13,17] [21,22,23,24,25,26,27,28,29,30,31,32,33,34,8,13,17] (fun n vals st=>(∃ y9,p_ref24_Check_l1  a0 n y9=some o5∧vals=[.i (0:Int),.i y9]∧st=[.live [.i a0.Seq,.sl (List.map BookRow.v a0.Rows) u1] 0])) fuel 1 [] (⟨_,HL6,rfl,rfl⟩) (Nat.zero_le _) rfl (by kernel_rfl) (by kernel_rfl) rfl ⟨⟨rfl,rfl,rfl⟩,trivial⟩ ?_
 rintro (_ | n8) _ _ (⟨y9,H,rfl,rfl⟩)
 ·rw [p_ref24_Check_l1] at H;cases H
 rw [p_ref24_Check_l1] at H
 conv=>whnf
 refine LenQ.M ?_;conv=>whnf
 refine tst_c H (fun b10 H=>?_) (fun b10 H=>?_)
 ·conv=>whnf
  refine ixs_c (f:=BookRow.v) H (fun _=>rfl) (fun x11 H=>?_);conv=>whnf
  refine ask_c (p_ref24_key_v _) H rfl rfl (fun v12 H=>?_);conv=>whnf
  refine tst_c H (fun b13 H=>?_) (fun b13 H=>?_)
  ·conv=>whnf
   obtain rfl:=Option.some.inj H
   have H:=HQ7
   try dsimp only at H
   exact fi_ H
  conv=>whnf
  refine Ari.w ?_;conv=>whnf
  exact again_c [21,22,23,24,25,26,27,28,29,30,31,32,33,34,8,13,17] n8 1 [] (⟨_,H,rfl,rfl⟩) (Nat.lt_succ_self _) (Nat.zero_le _) rfl (by kernel_rfl) (by kernel_rfl) rfl ⟨⟨rfl,rfl,rfl⟩,trivial⟩
 conv=>whnf
 obtain rfl:=Option.some.inj H
 have H:=HQ7
 try dsimp only at H
 obtain ⟨o15,HL16,HQ17⟩:=bind_c H
 refine loop_c [2,4] [5,35,36,37,38,39,40,41,42,43,44,45,46,47,48,49,50,51,52,53,54,55,56,57,58,59,22] [5,35,36,37,38,39,40,41,42,43,44,45,46,47,48,49,50,51,52,53,54,55,56,57,58,59,22] (fun n vals st=>(∃ y19,p_ref24_Check_l2  a0 n y19=some o15∧vals=[.i (0:Int),.i y19]∧st=[.live [.i a0.Seq,.sl (List.map BookRow.v a0.Rows) u1] 0])) fuel 1 [] (⟨_,HL16,rfl,rfl⟩) (Nat.zero_le _) rfl (by kernel_rfl) (by kernel_rfl) rfl ⟨⟨rfl,rfl,rfl⟩,trivial⟩ ?_
 rintro (_ | n18) _ _ (⟨y19,H,rfl,rfl⟩)
 ·rw [p_ref24_Check_l2] at H;cases H
 rw [p_ref24_Check_l2] at H
 conv=>whnf
 refine LenQ.M ?_;conv=>whnf
 refine tst_c H (fun b20 H=>?_) (fun b20 H=>?_)
 ·conv=>whnf
  refine ixs_c (f:=BookRow.v) H (fun _=>rfl) (fun x21 H=>?_);conv=>whnf
  refine lq_ ?_;conv=>whnf
  refine ask_c (p_ref23_Check_v _) H rfl rfl (fun v22 H=>?_);conv=>whnf
  refine tst_c H (fun b23 H=>?_) (fun b23 H=>?_)
  ·conv=>whnf
   obtain rfl:=Option.some.inj H
   have H:=HQ17
   try dsimp only at H
   exact fi_ H
  conv=>whnf
  refine ixs_c (f:=BookRow.v) H (fun _=>rfl) (fun x24 H=>?_);conv=>whnf
  refine lq_ ?_;conv=>whnf
  refine lq_ ?_;conv=>whnf
  refine Tst.not ?_
  refine tst_d H (fun b25 H=>?_) (fun b25 H=>?_)
  ·conv=>whnf
   obtain rfl:=Option.some.inj H
   have H:=HQ17
   try dsimp only at H
   exact fi_ H
  conv=>whnf
  refine Ari.w ?_;conv=>whnf
  exact again_c [5,35,36,37,38,39,40,41,42,43,44,45,46,47,48,49,50,51,52,53,54,55,56,57,58,59,22] n18 1 [] (⟨_,H,rfl,rfl⟩) (Nat.lt_succ_self _) (Nat.zero_le _) rfl (by kernel_rfl) (by kernel_rfl) rfl ⟨⟨rfl,rfl,rfl⟩,trivial⟩
 conv=>whnf
 obtain rfl:=Option.some.inj H
 have H:=HQ17
 try dsimp only at H
 refine ask_c (p_ref24_ordered_v _) H rfl rfl (fun v26 H=>?_);conv=>whnf
 refine Tst.not ?_
 refine tst_d H (fun b27 H=>?_) (fun b27 H=>?_)
 ·conv=>whnf
  exact fi_ H
 conv=>whnf
 obtain ⟨o29,HL30,HQ31⟩:=bind_c H
 refine loop_c [2,6] [63,64,65,66,67,68,69,70,71,72,73,74,75,76,77,78,36] [63,64,65,66,67,68,69,70,71,72,73,74,75,76,77,78,36] (fun n vals st=>(∃ y33,p_ref24_Check_l3  a0 n y33=some o29∧vals=[.i (0:Int),.i y33]∧st=[.live [.i a0.Seq,.sl (List.map BookRow.v a0.Rows) u1] 0])) fuel 1 [] (⟨_,HL30,rfl,rfl⟩) (Nat.zero_le _) rfl (by kernel_rfl) (by kernel_rfl) rfl ⟨⟨rfl,rfl,rfl⟩,trivial⟩ ?_
 rintro (_ | n32) _ _ (⟨y33,H,rfl,rfl⟩)
 ·rw [p_ref24_Check_l3] at H;cases H
 rw [p_ref24_Check_l3] at H
 conv=>whnf
 refine LenQ.M ?_;conv=>whnf
 refine tst_d H (fun b34 H=>?_) (fun b34 H=>?_)
 ·conv=>whnf
  obtain rfl:=Option.some.inj H
  have H:=HQ31
  try dsimp only at H
  exact fi_ H
 conv=>whnf
 refine ixs_c (f:=BookRow.v) H (fun _=>rfl) (fun x35 H=>?_);conv=>whnf
 refine lq_ ?_;conv=>whnf
 refine ask_c (p_ref24_many_v _ _) H rfl rfl (fun v36 H=>?_);conv=>whnf
 refine FootQ.mk ⟨rfl,?_⟩;conv=>whnf
 refine tst_c H (fun b37 H=>?_) (fun b37 H=>?_)
 ·conv=>whnf
  obtain rfl:=Option.some.inj H
  have H:=HQ31
  try dsimp only at H
  exact fi_ H
 conv=>whnf
 refine Ari.w ?_;conv=>whnf
 exact again_c [63,64,65,66,67,68,69,70,71,72,73,74,75,76,77,78,36] n32 1 [] (⟨_,H,rfl,rfl⟩) (Nat.lt_succ_self _) (Nat.zero_le _) rfl (by kernel_rfl) (by kernel_rfl) rfl ⟨⟨rfl,rfl,rfl⟩,trivial⟩
def gc135:BCode:=(.seq (R_ 0 [O_ 4 (.mv (b_ false)) 0]) (.seq (.seq (R_ 0 [O_ 5 (.mv (i_ 0)) 0]) (.block 0 (.loop (.seq (.seq (R_ 0 [O_ 6 (.mv (t_ 5)) 0,O_ 7 (.mv (t_ 0)) 0,O_ 8 (.lens (t_ 7)) 0,O_ 9 (.bin .lss (t_ 6) (t_ 8)) 0]) (.cond (t_ 9) .skip (.exit 0))) (.seq (.block 1 (.seq (R_ 0 [O_ 12 (.mv (t_ 0)) 0,O_ 13 (.mv (t_ 5)) 0,O_ 14 (.ixs 1 (t_ 12) (t_ 13)) 0,O_ 15 (.ld 1 false (t_ 14)) 0,O_ 16 (.mv (t_ 1)) 0,O_ 17 (.bin .eql (t_ 15) (t_ 16)) 0]) (.cond (t_ 17) (.seq (R_ 0 [O_ 4 (.mv (b_ true)) 0]) .ret) .skip))) (R_ 0 [O_ 10 (.mv (t_ 5)) 0,O_ 11 (.bin .add (t_ 10) (i_ 1)) 0,O_ 5 (.mv (t_ 11)) 0])))))) (.seq (R_ 0 [O_ 4 (.mv (b_ false)) 0]) .ret)))
theorem gc135_ok:compF Tryz.prog Tryz.f135=some (gc135.er,18,[.tmp 4]):=by unfold gc135;kernel_rfl
theorem p_ref26_has_v {u1:Bool} (a0:List ByteArray) (a1:ByteArray):CallsO Tryz.prog 135 [.sl (List.map V.s a0) u1,.s a1] V.b (p_ref26_has a0 a1):=by
 refine callsO_comp mix Tryz.func135 gc135_ok fun r H=>?_
 rw [p_ref26_has] at H
 conv=>whnf
 obtain ⟨o2,HL3,HQ4⟩:=bind_c H
 refine loop_c [4,5] [6,7,8,9,10,11,12,13,14,15,16,17] [6,7,8,9,10,11,12,13,14,15,16,17] (fun n vals st=>(∃ y6,p_ref26_has_l1  a0 a1 n y6=some o2∧vals=[.b false,.i y6]∧st=[])) fuel 0 [] (⟨_,HL3,rfl,rfl⟩) (Nat.zero_le _) rfl (by kernel_rfl) (by kernel_rfl) rfl trivial ?_
 rintro (_ | n5) _ _ (⟨y6,H,rfl,rfl⟩)
 ·rw [p_ref26_has_l1] at H;cases H
 rw [p_ref26_has_l1] at H
 conv=>whnf
 refine LenQ.M ?_;conv=>whnf
 refine tst_d H (fun b7 H=>?_) (fun b7 H=>?_)
 ·conv=>whnf
  obtain rfl:=Option.some.inj H
  have H:=HQ4
  try dsimp only at H
  exact fb_ H
 conv=>whnf
 refine ixs_c (f:=V.s) H (fun _=>rfl) (fun x8 H=>?_);conv=>whnf
 refine tst_c H (fun b9 H=>?_) (fun b9 H=>?_)
 ·conv=>whnf
  obtain rfl:=Option.some.inj H
  have H:=HQ4
  try dsimp only at H
  exact fb_ H
 conv=>whnf
 refine Ari.w ?_;conv=>whnf
 exact again_c [6,7,8,9,10,11,12,13,14,15,16,17] n5 0 [] (⟨_,H,rfl,rfl⟩) (Nat.lt_succ_self _) (Nat.zero_le _) rfl (by kernel_rfl) (by kernel_rfl) rfl trivial
def gc119:BCode:=(.seq (R_ 2 [O_ 2 (.bx (t_ 0)) 0,O_ 3 (.bx (t_ 1)) 1,O_ 4 (.mv (b_ false)) 2]) (.seq (.reg 0 [O_ 5 (.fa 0 (t_ 2)) 0,O_ 6 (.ld 1 false (t_ 5)) 0,O_ 7 (.fa 0 (t_ 3)) 0,O_ 8 (.ld 1 false (t_ 7)) 0,O_ 9 (.cl 135 [(t_ 6),(t_ 8)]) 0,O_ 10 (.mv (t_ 9)) 0,⟨(some 11),.fa 1 (t_ 2),(some (10,false)),0⟩,⟨(some 12),.ld 1 false (t_ 11),(some (10,false)),0⟩,⟨(some 13),.fa 0 (t_ 3),(some (10,false)),0⟩,⟨(some 14),.ld 1 false (t_ 13),(some (10,false)),0⟩,⟨(some 15),.fa 1 (t_ 3),(some (10,false)),0⟩,⟨(some 16),.ld 1 false (t_ 15),(some (10,false)),0⟩,⟨(some 17),.cl 90 [(t_ 14),(t_ 16)],(some (10,false)),0⟩,⟨(some 18),.cl 135 [(t_ 12),(t_ 17)],(some (10,false)),0⟩,O_ 19 (.pick (t_ 10) (b_ true) (t_ 18)) 0,O_ 4 (.mv (t_ 19)) 0] (some [[],[0],[],[2],[2,3,0,1],[1,0,3,2,4],[4,2,3,0,1,5],[5,1,0,3,2,4,6],[4,2,3,0,1,5],[5,1,0,3,2,4,8],[4,2,3,0,1,5],[5,1,0,3,2,4,10],[10,11,8,4,2,3,0,1,5,9],[9,8,11,10,12,6,4,2,3,0,1,5,7],[7,6,12,10,11,8,9,13,4,2,3,0,1,5],[5,1,0,3,2,4,13,9,8,11,10,12,6,7,14]]) 0 []) .ret))
theorem gc119_ok:compF Tryz.prog Tryz.f119=some (gc119.er,20,[.tmp 4]):=by unfold gc119;kernel_rfl
theorem p_ref26_Sees_v {u1 u2:Bool} (a0:SnapEyes) (a1:BookRow):CallsO Tryz.prog 119 [.agg [.sl (List.map V.s a0.Users) u1,.sl (List.map V.s a0.Keys) u2],.agg [.s a1.User,.s a1.Res,.b a1.P.On,.i a1.P.Show,.i a1.P.Prio,.i a1.P.Seq]] V.b (p_ref26_Sees a0 a1):=by
 refine callsO_comp mix Tryz.func119 gc119_ok fun r H=>?_
 rw [p_ref26_Sees] at H
 conv=>whnf
 refine ask_c (p_ref26_has_v _ _) H rfl rfl (fun v1 H=>?_);conv=>whnf
 refine tst_c H (fun b2 H=>?_) (fun b2 H=>?_)
 ·conv=>whnf
  iterate 8 (refine Tst.T ?_;conv=>whnf)
  refine FootQ.mk ⟨rfl,?_⟩;conv=>whnf
  exact fb_ H
 conv=>whnf
 iterate 6 (refine Tst.F ?_;conv=>whnf)
 refine ask_c (p_ref23_Key_v _ _) H rfl rfl (fun v3 H=>?_);conv=>whnf
 refine Tst.F ?_;conv=>whnf
 refine ask_c (p_ref26_has_v _ _) H rfl rfl (fun v4 H=>?_);conv=>whnf
 refine Tst.F ?_;conv=>whnf
 refine FootQ.mk ⟨rfl,?_⟩;conv=>whnf
 exact fb_ H
def gc89:BCode:=(.seq (R_ 2 [O_ 2 (.bx (t_ 0)) 0,O_ 3 (.bx (t_ 1)) 1,O_ 4 (.mv (.const (.slice none 0 0))) 2]) (.seq (R_ 0 [O_ 5 (.mv (.const (.slice none 0 0))) 0]) (.seq (.seq (R_ 0 [O_ 6 (.mv (i_ 0)) 0]) (.block 0 (.loop (.seq (.seq (R_ 0 [O_ 7 (.mv (t_ 6)) 0,O_ 8 (.fa 1 (t_ 3)) 0,O_ 9 (.ld 1 false (t_ 8)) 0,O_ 10 (.lens (t_ 9)) 0,O_ 11 (.bin .lss (t_ 7) (t_ 10)) 0,O_ 12 (.mv (t_ 11)) 0,⟨(some 13),.ld 2 true (t_ 3),(some (12,true)),0⟩,⟨(some 14),.cl 87 [(t_ 13)],(some (12,true)),0⟩,⟨(some 15),.bin .eql (t_ 14) (i_ 0),(some (12,true)),0⟩,O_ 16 (.pick (t_ 12) (t_ 15) (b_ false)) 0]) (.cond (t_ 16) .skip (.exit 0))) (.seq (.block 1 (.seq (.reg 0 [O_ 19 (.ld 2 true (t_ 2)) 0,O_ 20 (.fa 1 (t_ 3)) 0,O_ 21 (.ld 1 false (t_ 20)) 0,O_ 22 (.mv (t_ 6)) 0,O_ 23 (.ixs 6 (t_ 21) (t_ 22)) 0,O_ 24 (.ld 6 true (t_ 23)) 0,O_ 25 (.cl 119 [(t_ 19),(t_ 24)]) 0] (some [[],[],[1],[],[3,1,2],[2,1,3,4],[4,3,1,2,5,0]]) 0 []) (.cond (t_ 25) (R_ 2 [O_ 26 (.mv (t_ 5)) 0,O_ 27 (.fa 1 (t_ 3)) 0,O_ 28 (.ld 1 false (t_ 27)) 0,O_ 29 (.mv (t_ 6)) 0,O_ 30 (.ixs 6 (t_ 28) (t_ 29)) 0,O_ 31 (.ld 6 true (t_ 30)) 0,O_ 32 (.bs 6 1 [(.lit (.string ⟨#[]⟩)),(.lit (.string ⟨#[]⟩)),(.lit (.bool false)),(.lit (.int .i64 0)),(.lit (.int .i64 0)),(.lit (.int .i64 0))] [(0,(t_ 31))]) 0,O_ 33 (.ap 6 64 (t_ 26) (t_ 32)) 1,O_ 5 (.mv (t_ 33)) 2]) .skip))) (R_ 0 [O_ 17 (.mv (t_ 6)) 0,O_ 18 (.bin .add (t_ 17) (i_ 1)) 0,O_ 6 (.mv (t_ 18)) 0])))))) (.seq (R_ 0 [O_ 34 (.mv (t_ 5)) 0,O_ 4 (.mv (t_ 34)) 0]) .ret))))
theorem gc89_ok:compF Tryz.prog Tryz.f89=some (gc89.er,35,[.tmp 4]):=by unfold gc89;kernel_rfl
theorem p_ref26_View_v {u1 u2 u3:Bool} (a0:SnapEyes) (a1:BookState):CallsO Tryz.prog 89 [.agg [.sl (List.map V.s a0.Users) u1,.sl (List.map V.s a0.Keys) u2],.agg [.i a1.Seq,.sl (List.map BookRow.v a1.Rows) u3]] (fun l:List BookRow=>V.sl (l.map BookRow.v) false) (p_ref26_View a0 a1):=by
 refine callsO_comp mix Tryz.func89 gc89_ok fun r H=>?_
 rw [p_ref26_View] at H
 conv=>whnf
 obtain ⟨o2,HL3,HQ4⟩:=bind_c H
 refine loop_c [5,6] [7,8,9,10,11,12,13,14,15,16,17,18,19,20,21,22,23,24,25,26,27,28,29,30,31,32,33] [7,8,9,10,11,12,13,14,15,16,17,18,19,20,21,22,23,24,25,26,27,28,29,30,31,32,33] (fun n vals st=>(∃ y6,p_ref26_View_l1  a0 a1 n [] y6=some o2∧vals=[.sl (List.map BookRow.v []) true,.i y6]∧st=[.live [.sl (List.map V.s a0.Users) u1,.sl (List.map V.s a0.Keys) u2] 0,.live [.i a1.Seq,.sl (List.map BookRow.v a1.Rows) u3] 0])∨(∃ y15 y16,p_ref26_View_l1  a0 a1 n y15 y16=some o2∧vals=[.osl 2 0 (List.length y15) 6 false,.i y16]∧st=[.live [.sl (List.map V.s a0.Users) u1,.sl (List.map V.s a0.Keys) u2] 0,.live [.i a1.Seq,.sl (List.map BookRow.v a1.Rows) u3] 0,.live (cellsM BookRow.v y15) (cellsM BookRow.v y15).length])) fuel 2 [] (.inl (⟨_,HL3,rfl,rfl⟩)) (Nat.zero_le _) rfl (by kernel_rfl) (by kernel_rfl) rfl ⟨⟨rfl,rfl,rfl⟩,⟨⟨rfl,rfl,rfl⟩,trivial⟩⟩ ?_
 rintro (_ | n5) _ _ (⟨y6,H,rfl,rfl⟩ | ⟨y15,y16,H,rfl,rfl⟩)
 ·rw [p_ref26_View_l1] at H;cases H
 ·rw [p_ref26_View_l1] at H;cases H
 ·rw [p_ref26_View_l1] at H
  conv=>whnf
  refine LenQ.M ?_;conv=>whnf
  refine tst_d H (fun b7 H=>?_) (fun b7 H=>?_)
  ·conv=>whnf
   iterate 4 (refine Tst.F ?_;conv=>whnf)
   obtain rfl:=Option.some.inj H
   have H:=HQ4
   try dsimp only at H
   refine finR_c (enc:=(fun l:List BookRow=>V.sl (l.map BookRow.v) false)) H ?_;conv=>whnf
   exact ⟨_,.v (.c (.slw))⟩
  conv=>whnf
  refine Tst.T ?_;conv=>whnf
  refine ask_c (p_ref24_Check_v _) H rfl rfl (fun v8 H=>?_);conv=>whnf
  iterate 2 (refine Tst.T ?_;conv=>whnf)
  refine tst_d H (fun b9 H=>?_) (fun b9 H=>?_)
  ·conv=>whnf
   obtain rfl:=Option.some.inj H
   have H:=HQ4
   try dsimp only at H
   refine finR_c (enc:=(fun l:List BookRow=>V.sl (l.map BookRow.v) false)) H ?_;conv=>whnf
   exact ⟨_,.v (.c (.slw))⟩
  conv=>whnf
  refine ixs_c (f:=BookRow.v) H (fun _=>rfl) (fun x10 H=>?_);conv=>whnf
  refine ask_c (p_ref26_Sees_v _ _) H rfl rfl (fun v11 H=>?_);conv=>whnf
  refine FootQ.mk ⟨rfl,?_⟩;conv=>whnf
  refine tst_d H (fun b12 H=>?_) (fun b12 H=>?_)
  ·conv=>whnf
   refine Ari.w ?_;conv=>whnf
   exact again_c [7,8,9,10,11,12,13,14,15,16,17,18,19,20,21,22,23,24,25,26,27,28,29,30,31,32,33] n5 2 [] (.inl (⟨_,H,rfl,rfl⟩)) (Nat.lt_succ_self _) (Nat.zero_le _) rfl (by kernel_rfl) (by kernel_rfl) rfl ⟨⟨rfl,rfl,rfl⟩,⟨⟨rfl,rfl,rfl⟩,trivial⟩⟩
  conv=>whnf
  refine ixs_c (f:=BookRow.v) H (fun _=>rfl) (fun x13 H=>?_);conv=>whnf
  refine appN_c (f:=BookRow.v) H (fun _=>rfl) (srcM (f:=BookRow.v) (fun _=>rfl) [] true) rfl (.v (srcOwn (f:=BookRow.v) (l:=[x13]) (fun _=>rfl) rfl rfl rfl)) (by decide) rfl (by simp) (fun l14 H=>?_);conv=>whnf
  refine Ari.w ?_;conv=>whnf
  exact again_c [7,8,9,10,11,12,13,14,15,16,17,18,19,20,21,22,23,24,25,26,27,28,29,30,31,32,33] n5 3 [0,1,3] (.inr (⟨_,_,H,rfl,rfl⟩)) (Nat.lt_succ_self _) (Nat.zero_le _) rfl (by kernel_rfl) (by kernel_rfl) rfl ⟨⟨rfl,rfl,rfl⟩,⟨⟨rfl,rfl,rfl⟩,wkB_live0 rfl (cellsM_idlt (f:=BookRow.v) (fun _=>rfl) _) rfl trivial⟩⟩
 rw [p_ref26_View_l1] at H
 conv=>whnf
 refine LenQ.M ?_;conv=>whnf
 refine tst_d H (fun b17 H=>?_) (fun b17 H=>?_)
 ·conv=>whnf
  iterate 4 (refine Tst.F ?_;conv=>whnf)
  obtain rfl:=Option.some.inj H
  have H:=HQ4
  try dsimp only at H
  refine finR_c (enc:=(fun l:List BookRow=>V.sl (l.map BookRow.v) false)) H ?_;conv=>whnf
  exact ⟨_,.v (.c (fzown (f:=BookRow.v) (l:=y15) rfl rfl (fun _=>rfl) (fun _=>rfl)))⟩
 conv=>whnf
 refine Tst.T ?_;conv=>whnf
 refine ask_c (p_ref24_Check_v _) H rfl rfl (fun v18 H=>?_);conv=>whnf
 iterate 2 (refine Tst.T ?_;conv=>whnf)
 refine tst_d H (fun b19 H=>?_) (fun b19 H=>?_)
 ·conv=>whnf
  obtain rfl:=Option.some.inj H
  have H:=HQ4
  try dsimp only at H
  refine finR_c (enc:=(fun l:List BookRow=>V.sl (l.map BookRow.v) false)) H ?_;conv=>whnf
  exact ⟨_,.v (.c (fzown (f:=BookRow.v) (l:=y15) rfl rfl (fun _=>rfl) (fun _=>rfl)))⟩
 conv=>whnf
 refine ixs_c (f:=BookRow.v) H (fun _=>rfl) (fun x20 H=>?_);conv=>whnf
 refine ask_c (p_ref26_Sees_v _ _) H rfl rfl (fun v21 H=>?_);conv=>whnf
 refine FootQ.mk ⟨rfl,?_⟩;conv=>whnf
 refine tst_d H (fun b22 H=>?_) (fun b22 H=>?_)
 ·conv=>whnf
  refine Ari.w ?_;conv=>whnf
  exact again_c [7,8,9,10,11,12,13,14,15,16,17,18,19,20,21,22,23,24,25,26,27,28,29,30,31,32,33] n5 3 [] (.inr (⟨_,_,H,rfl,rfl⟩)) (Nat.lt_succ_self _) (Nat.zero_le _) rfl (by kernel_rfl) (by kernel_rfl) rfl ⟨⟨rfl,rfl,rfl⟩,⟨⟨rfl,rfl,rfl⟩,wkB_live0 rfl (cellsM_idlt (f:=BookRow.v) (fun _=>rfl) _) rfl trivial⟩⟩
 conv=>whnf
 refine ixs_c (f:=BookRow.v) H (fun _=>rfl) (fun x23 H=>?_);conv=>whnf
 refine appO_c (f:=BookRow.v) H (fun _=>rfl) rfl (Nat.le_refl _) (.v (srcOwn (f:=BookRow.v) (l:=[x23]) (fun _=>rfl) rfl rfl rfl)) (by decide) rfl (by simp) (fun l24 H=>?_);conv=>whnf
 refine Ari.w ?_;conv=>whnf
 exact again_c [7,8,9,10,11,12,13,14,15,16,17,18,19,20,21,22,23,24,25,26,27,28,29,30,31,32,33] n5 3 [0,1,4] (.inr (⟨_,_,H,rfl,rfl⟩)) (Nat.lt_succ_self _) (Nat.zero_le _) rfl (by kernel_rfl) (by kernel_rfl) rfl ⟨⟨rfl,rfl,rfl⟩,⟨⟨rfl,rfl,rfl⟩,wkB_live0 rfl (cellsM_idlt (f:=BookRow.v) (fun _=>rfl) _) rfl trivial⟩⟩
end Go.Proofs.YtdoakplhalonfaaGreat

namespace Go.Proofs.YtdoakplhalonfaaGreat
open Go.RowKit
set_option maxRecDepth 1000000
set_option maxHeartbeats 4000000
def gc59:BCode:=(.seq (R_ 2 [O_ 5 (.bx (t_ 2)) 0,O_ 6 (.al (.agg [(.lit (.int .u8 0)),(.lit (.string ⟨#[]⟩)),(.lit (.string ⟨#[]⟩)),(.lit (.string ⟨#[]⟩)),(.lit (.int .i64 0)),(.lit (.int .i64 0)),(.lit (.int .i64 0)),(.lit (.int .i64 0))])) 1]) (.seq (.block 0 (.seq (R_ 0 [O_ 8 (.ld 4 true (t_ 5)) 0,O_ 9 (.cl 79 [(t_ 8)]) 0,O_ 10 (.bin .neq (t_ 9) (i_ 0)) 0,O_ 11 (.mv (t_ 10)) 0,⟨(some 12),.mv (t_ 0),(some (11,false)),0⟩,⟨(some 13),.mv (t_ 1),(some (11,false)),0⟩,⟨(some 14),.cl 93 [(t_ 12),(t_ 13)],(some (11,false)),0⟩,⟨(some 15),.un .not (t_ 14),(some (11,false)),0⟩,O_ 16 (.pick (t_ 11) (b_ true) (t_ 15)) 0,O_ 7 (.mv (t_ 16)) 0]) (.cond (t_ 7) (.seq (R_ 0 [O_ 17 (.bd [(.lit (.int .u8 0)),(.lit (.string ⟨#[]⟩)),(.lit (.string ⟨#[]⟩)),(.lit (.string ⟨#[]⟩)),(.lit (.int .i64 0)),(.lit (.int .i64 0)),(.lit (.int .i64 0)),(.lit (.int .i64 0))] []) 0,U_ (.st 8 (t_ 6) (t_ 17)) 0]) .ret) (.seq (R_ 0 [O_ 19 (.fa 0 (t_ 5)) 0,O_ 20 (.ld 1 false (t_ 19)) 0,O_ 18 (.mv (t_ 20)) 0]) (.cond (t_ 18) (.seq (R_ 0 [O_ 21 (.mv (t_ 0)) 0,O_ 22 (.mv (t_ 1)) 0,O_ 23 (.fa 1 (t_ 5)) 0,O_ 24 (.ld 1 false (t_ 23)) 0,O_ 25 (.fa 2 (t_ 5)) 0,O_ 26 (.ld 1 false (t_ 25)) 0,O_ 27 (.fa 3 (t_ 5)) 0,O_ 28 (.ld 1 false (t_ 27)) 0,O_ 29 (.bd [(.lit (.int .u8 0)),(.lit (.string ⟨#[]⟩)),(.lit (.string ⟨#[]⟩)),(.lit (.string ⟨#[]⟩)),(.lit (.int .i64 0)),(.lit (.int .i64 0)),(.lit (.int .i64 0)),(.lit (.int .i64 0))] [(0,1,(.const (.int .u8 34))),(1,1,(t_ 21)),(2,1,(t_ 22)),(4,1,(t_ 24)),(5,1,(t_ 26)),(7,1,(t_ 28))]) 0,U_ (.st 8 (t_ 6) (t_ 29)) 0]) .ret) .skip))))) (.seq (R_ 0 [O_ 30 (.mv (t_ 0)) 0,O_ 31 (.mv (t_ 1)) 0,O_ 32 (.fa 3 (t_ 5)) 0,O_ 33 (.ld 1 false (t_ 32)) 0,O_ 34 (.bd [(.lit (.int .u8 0)),(.lit (.string ⟨#[]⟩)),(.lit (.string ⟨#[]⟩)),(.lit (.string ⟨#[]⟩)),(.lit (.int .i64 0)),(.lit (.int .i64 0)),(.lit (.int .i64 0)),(.lit (.int .i64 0))] [(0,1,(.const (.int .u8 35))),(1,1,(t_ 30)),(2,1,(t_ 31)),(7,1,(t_ 33))]) 0,U_ (.st 8 (t_ 6) (t_ 34)) 0]) .ret)))
theorem gc59_ok:compF Tryz.prog Tryz.f59=some (gc59.er,35,[.cell 6 8 true]):=by unfold gc59;kernel_rfl
theorem p_ref23_Say_v (a0:ByteArray) (a1:ByteArray) (a2:PresPres):CallsO Tryz.prog 59 [.s a0,.s a1,.agg [.b a2.On,.i a2.Show,.i a2.Prio,.i a2.Seq]] StanzaStanza.v (p_ref23_Say a0 a1 a2):=by
 refine callsO_comp mix Tryz.func59 gc59_ok fun r H=>?_
 rw [p_ref23_Say] at H
 conv=>whnf
 refine ask_c (p_ref23_Check_v _) H rfl rfl (fun v1 H=>?_);conv=>whnf
 refine tst_c H (fun b2 H=>?_) (fun b2 H=>?_)
 ·conv=>whnf
  iterate 5 (refine Tst.T ?_;conv=>whnf)
  refine lq_ ?_;conv=>whnf
  exact fin0_c (enc:=StanzaStanza.v) H (.inr rfl) (.cons (.cell rfl rfl (Nat.le_of_ble_eq_true rfl)) (.nil)) rfl rfl
 conv=>whnf
 iterate 2 (refine Tst.F ?_;conv=>whnf)
 refine ask_c (p_ref23_named_v _ _) H rfl rfl (fun v3 H=>?_);conv=>whnf
 iterate 2 (refine Tst.F ?_;conv=>whnf)
 refine Tst.not ?_
 refine tst_d H (fun b4 H=>?_) (fun b4 H=>?_)
 ·conv=>whnf
  refine lq_ ?_;conv=>whnf
  exact fin0_c (enc:=StanzaStanza.v) H (.inr rfl) (.cons (.cell rfl rfl (Nat.le_of_ble_eq_true rfl)) (.nil)) rfl rfl
 conv=>whnf
 refine tst_c H (fun b5 H=>?_) (fun b5 H=>?_)
 ·conv=>whnf
  refine lq_ ?_;conv=>whnf
  exact fin0_c (enc:=StanzaStanza.v) H (.inr rfl) (.cons (.cell rfl rfl (Nat.le_of_ble_eq_true rfl)) (.nil)) rfl rfl
 conv=>whnf
 refine lq_ ?_;conv=>whnf
 exact fin0_c (enc:=StanzaStanza.v) H (.inr rfl) (.cons (.cell rfl rfl (Nat.le_of_ble_eq_true rfl)) (.nil)) rfl rfl
def gc88:BCode:=(.seq (R_ 2 [O_ 2 (.bx (t_ 0)) 0,O_ 3 (.bx (t_ 1)) 1,O_ 4 (.mv (i_ 0)) 2]) (.seq (R_ 0 [O_ 5 (.ld 2 true (t_ 2)) 0,O_ 6 (.ld 2 true (t_ 3)) 0,O_ 7 (.cl 89 [(t_ 5),(t_ 6)]) 0,O_ 8 (.lens (t_ 7)) 0,O_ 4 (.mv (t_ 8)) 0]) .ret))
theorem gc88_ok:compF Tryz.prog Tryz.f88=some (gc88.er,9,[.tmp 4]):=by unfold gc88;kernel_rfl
theorem p_ref26_Count_v {u1 u2 u3:Bool} (a0:SnapEyes) (a1:BookState):CallsO Tryz.prog 88 [.agg [.sl (List.map V.s a0.Users) u1,.sl (List.map V.s a0.Keys) u2],.agg [.i a1.Seq,.sl (List.map BookRow.v a1.Rows) u3]] V.i (p_ref26_Count a0 a1):=by
 refine callsO_comp mix Tryz.func88 gc88_ok fun r H=>?_
 rw [p_ref26_Count] at H
 conv=>whnf
 refine ask_c (p_ref26_View_v _ _) H rfl rfl (fun v1 H=>?_);conv=>whnf
 refine LenQ.M ?_;conv=>whnf
 exact fi_ H
def gc56:BCode:=(.seq (R_ 5 [O_ 3 (.bx (t_ 0)) 0,O_ 4 (.bx (t_ 1)) 1,O_ 5 (.bx (t_ 2)) 2,O_ 6 (.al (.agg [(.lit (.bool false)),(.lit (.bool false)),(.lit (.string ⟨#[]⟩)),(.lit (.int .i64 0))])) 3,O_ 7 (.al (.agg [(.lit (.int .u8 0)),(.lit (.string ⟨#[]⟩)),(.lit (.string ⟨#[]⟩)),(.lit (.string ⟨#[]⟩)),(.lit (.int .i64 0)),(.lit (.int .i64 0)),(.lit (.int .i64 0)),(.lit (.int .i64 0))])) 4,O_ 8 (.mv (b_ false)) 5]) (.seq (.seq (R_ 0 [O_ 12 (.fa 0 (t_ 3)) 0,O_ 13 (.ld 1 false (t_ 12)) 0,O_ 14 (.un .not (t_ 13)) 0,O_ 15 (.mv (t_ 14)) 0,⟨(some 16),.ld 4 true (t_ 3),(some (15,false)),0⟩,⟨(some 17),.cl 55 [(t_ 16)],(some (15,false)),0⟩,⟨(some 18),.bin .neq (t_ 17) (i_ 0),(some (15,false)),0⟩,O_ 19 (.pick (t_ 15) (b_ true) (t_ 18)) 0,O_ 20 (.mv (t_ 19)) 0,⟨(some 21),.ld 2 true (t_ 5),(some (20,false)),0⟩,⟨(some 22),.cl 87 [(t_ 21)],(some (20,false)),0⟩,⟨(some 23),.bin .neq (t_ 22) (i_ 0),(some (20,false)),0⟩,O_ 24 (.pick (t_ 20) (b_ true) (t_ 23)) 0]) (.cond (t_ 24) (.seq (R_ 0 [O_ 25 (.ld 4 true (t_ 3)) 0,O_ 26 (.bd [(.lit (.int .u8 0)),(.lit (.string ⟨#[]⟩)),(.lit (.string ⟨#[]⟩)),(.lit (.string ⟨#[]⟩)),(.lit (.int .i64 0)),(.lit (.int .i64 0)),(.lit (.int .i64 0)),(.lit (.int .i64 0))] []) 0,U_ (.st 4 (t_ 6) (t_ 25)) 0,U_ (.st 8 (t_ 7) (t_ 26)) 0,O_ 8 (.mv (b_ false)) 0]) .ret) .skip)) (.seq (.seq (R_ 0 [O_ 27 (.fa 1 (t_ 3)) 0,O_ 28 (.ld 1 false (t_ 27)) 0,O_ 29 (.un .not (t_ 28)) 0]) (.cond (t_ 29) (.seq (R_ 0 [O_ 30 (.bd [(.lit (.bool false)),(.lit (.bool false)),(.lit (.string ⟨#[]⟩)),(.lit (.int .i64 0))] [(0,1,(b_ true)),(1,1,(b_ true))]) 0,O_ 31 (.ld 2 true (t_ 4)) 0,O_ 32 (.ld 2 true (t_ 5)) 0,O_ 33 (.cl 88 [(t_ 31),(t_ 32)]) 0,O_ 34 (.bd [(.lit (.int .u8 0)),(.lit (.string ⟨#[]⟩)),(.lit (.string ⟨#[]⟩)),(.lit (.string ⟨#[]⟩)),(.lit (.int .i64 0)),(.lit (.int .i64 0)),(.lit (.int .i64 0)),(.lit (.int .i64 0))] [(0,1,(.const (.int .u8 36))),(7,1,(t_ 33))]) 0,U_ (.st 4 (t_ 6) (t_ 30)) 0,U_ (.st 8 (t_ 7) (t_ 34)) 0,O_ 8 (.mv (b_ true)) 0]) .ret) .skip)) (.seq (R_ 0 [O_ 35 (.ld 2 true (t_ 4)) 0,O_ 36 (.ld 2 true (t_ 5)) 0,O_ 37 (.cl 89 [(t_ 35),(t_ 36)]) 0,O_ 9 (.mv (t_ 37)) 0]) (.seq (.seq (R_ 0 [O_ 10 (.mv (i_ 0)) 0]) (.block 0 (.loop (.seq (.seq (R_ 0 [O_ 38 (.mv (t_ 10)) 0,O_ 39 (.mv (t_ 9)) 0,O_ 40 (.lens (t_ 39)) 0,O_ 41 (.bin .lss (t_ 38) (t_ 40)) 0]) (.cond (t_ 41) .skip (.exit 0))) (.seq (.block 1 (.seq (.reg 0 [O_ 44 (.mv (t_ 9)) 0,O_ 45 (.mv (t_ 10)) 0,O_ 46 (.ixs 6 (t_ 44) (t_ 45)) 0,O_ 47 (.fa 0 (t_ 46)) 0,O_ 48 (.ld 1 false (t_ 47)) 0,O_ 49 (.mv (t_ 9)) 0,O_ 50 (.mv (t_ 10)) 0,O_ 51 (.ixs 6 (t_ 49) (t_ 50)) 0,O_ 52 (.fa 1 (t_ 51)) 0,O_ 53 (.ld 1 false (t_ 52)) 0,O_ 54 (.cl 90 [(t_ 48),(t_ 53)]) 0,O_ 11 (.mv (t_ 54)) 0] (some [[],[],[1,0],[0,1,2],[2,1,0,3],[],[],[6,5],[5,6,7],[7,6,5,8],[8,5,6,7,9,3,0,1,2,4],[4,2,1,0,3,9,7,6,5,8,10]]) 0 []) (.seq (R_ 0 [O_ 55 (.mv (t_ 11)) 0,O_ 56 (.fa 2 (t_ 3)) 0,O_ 57 (.ld 1 false (t_ 56)) 0,O_ 58 (.bin .gtr (t_ 55) (t_ 57)) 0]) (.cond (t_ 58) (.seq (.reg 0 [O_ 59 (.mv (t_ 11)) 0,O_ 60 (.fa 3 (t_ 3)) 0,O_ 61 (.ld 1 false (t_ 60)) 0,O_ 62 (.bin .add (t_ 61) (i_ 1)) 0,O_ 63 (.mn false (i_ 1099511627776) (t_ 62)) 0,O_ 64 (.bd [(.lit (.bool false)),(.lit (.bool false)),(.lit (.string ⟨#[]⟩)),(.lit (.int .i64 0))] [(0,1,(b_ true)),(1,1,(b_ true)),(2,1,(t_ 59)),(3,1,(t_ 63))]) 0,O_ 65 (.mv (t_ 9)) 0,O_ 66 (.mv (t_ 10)) 0,O_ 67 (.ixs 6 (t_ 65) (t_ 66)) 0,O_ 68 (.fa 0 (t_ 67)) 0,O_ 69 (.ld 1 false (t_ 68)) 0,O_ 70 (.mv (t_ 9)) 0,O_ 71 (.mv (t_ 10)) 0,O_ 72 (.ixs 6 (t_ 70) (t_ 71)) 0,O_ 73 (.fa 1 (t_ 72)) 0,O_ 74 (.ld 1 false (t_ 73)) 0,O_ 75 (.mv (t_ 9)) 0,O_ 76 (.mv (t_ 10)) 0,O_ 77 (.ixs 6 (t_ 75) (t_ 76)) 0,O_ 78 (.fa 2 (t_ 77)) 0,O_ 79 (.ld 4 true (t_ 78)) 0,O_ 80 (.cl 59 [(t_ 69),(t_ 74),(t_ 79)]) 0,U_ (.st 4 (t_ 6) (t_ 64)) 0,U_ (.st 8 (t_ 7) (t_ 80)) 0,O_ 8 (.mv (b_ true)) 0] (some [[],[],[1],[1,2],[2,1,3],[3,1,2,4,0],[],[],[7,6],[6,7,8],[8,7,6,9],[],[],[12,11],[11,12,13],[13,12,11,14],[],[],[17,16],[16,17,18],[18,17,16,19],[19,16,17,18,20,14,11,12,13,15,9,6,7,8,10],[10,8,7,6,9,15,13,12,11,14,20,18,17,16,19,21,0,4,2,1,3,5],[5,3,1,2,4,0,22,10,8,7,6,9,15,13,12,11,14,20,18,17,16,19,21],[21,19,16,17,18,20,14,11,12,13,15,9,6,7,8,10,22,0,4,2,1,3,5,23]]) 0 []) .ret) .skip)))) (R_ 0 [O_ 42 (.mv (t_ 10)) 0,O_ 43 (.bin .add (t_ 42) (i_ 1)) 0,O_ 10 (.mv (t_ 43)) 0])))))) (.seq (R_ 0 [O_ 81 (.bd [(.lit (.bool false)),(.lit (.bool false)),(.lit (.string ⟨#[]⟩)),(.lit (.int .i64 0))] []) 0,O_ 82 (.bd [(.lit (.int .u8 0)),(.lit (.string ⟨#[]⟩)),(.lit (.string ⟨#[]⟩)),(.lit (.string ⟨#[]⟩)),(.lit (.int .i64 0)),(.lit (.int .i64 0)),(.lit (.int .i64 0)),(.lit (.int .i64 0))] [(0,1,(.const (.int .u8 37)))]) 0,U_ (.st 4 (t_ 6) (t_ 81)) 0,U_ (.st 8 (t_ 7) (t_ 82)) 0,O_ 8 (.mv (b_ true)) 0]) .ret))))))
theorem gc56_ok:compF Tryz.prog Tryz.f56=some (gc56.er,83,[.cell 6 4 true,.cell 7 8 true,.tmp 8]):=by unfold gc56;kernel_rfl
theorem p_ref26_Next_v {u1 u2 u3:Bool} (a0:SnapState) (a1:SnapEyes) (a2:BookState):CallsO Tryz.prog 56 [.agg [.b a0.On,.b a0.Begun,.s a0.After,.i a0.Told],.agg [.sl (List.map V.s a1.Users) u1,.sl (List.map V.s a1.Keys) u2],.agg [.i a2.Seq,.sl (List.map BookRow.v a2.Rows) u3]] (fun r:SnapState × StanzaStanza × Bool=>.tup [SnapState.v r.1,StanzaStanza.v r.2.1,V.b r.2.2]) (p_ref26_Next a0 a1 a2):=by
 refine callsO_comp mix Tryz.func56 gc56_ok fun r H=>?_
 rw [p_ref26_Next] at H
 conv=>whnf
 refine Tst.not ?_
 refine tst_d H (fun b1 H=>?_) (fun b1 H=>?_)
 ·conv=>whnf
  iterate 8 (refine Tst.T ?_;conv=>whnf)
  refine lq_ ?_;conv=>whnf
  refine lq_ ?_;conv=>whnf
  exact fin0_c (enc:=(fun r:SnapState × StanzaStanza × Bool=>.tup [SnapState.v r.1,StanzaStanza.v r.2.1,V.b r.2.2])) H (.inr rfl) (.cons (.cell rfl rfl (Nat.le_of_ble_eq_true rfl)) (.cons (.cell rfl rfl (Nat.le_of_ble_eq_true rfl)) (.cons (.tmp rfl) (.nil)))) rfl rfl
 conv=>whnf
 refine Tst.F ?_;conv=>whnf
 refine ask_c (p_ref26_Check_v _) H rfl rfl (fun v2 H=>?_);conv=>whnf
 iterate 2 (refine Tst.F ?_;conv=>whnf)
 refine tst_c H (fun b3 H=>?_) (fun b3 H=>?_)
 ·conv=>whnf
  iterate 4 (refine Tst.T ?_;conv=>whnf)
  refine lq_ ?_;conv=>whnf
  refine lq_ ?_;conv=>whnf
  exact fin0_c (enc:=(fun r:SnapState × StanzaStanza × Bool=>.tup [SnapState.v r.1,StanzaStanza.v r.2.1,V.b r.2.2])) H (.inr rfl) (.cons (.cell rfl rfl (Nat.le_of_ble_eq_true rfl)) (.cons (.cell rfl rfl (Nat.le_of_ble_eq_true rfl)) (.cons (.tmp rfl) (.nil)))) rfl rfl
 conv=>whnf
 refine Tst.F ?_;conv=>whnf
 refine ask_c (p_ref24_Check_v _) H rfl rfl (fun v4 H=>?_);conv=>whnf
 iterate 2 (refine Tst.F ?_;conv=>whnf)
 refine tst_c H (fun b5 H=>?_) (fun b5 H=>?_)
 ·conv=>whnf
  refine lq_ ?_;conv=>whnf
  refine lq_ ?_;conv=>whnf
  exact fin0_c (enc:=(fun r:SnapState × StanzaStanza × Bool=>.tup [SnapState.v r.1,StanzaStanza.v r.2.1,V.b r.2.2])) H (.inr rfl) (.cons (.cell rfl rfl (Nat.le_of_ble_eq_true rfl)) (.cons (.cell rfl rfl (Nat.le_of_ble_eq_true rfl)) (.cons (.tmp rfl) (.nil)))) rfl rfl
 conv=>whnf
 refine Tst.not ?_
 refine tst_d H (fun b6 H=>?_) (fun b6 H=>?_)
 ·conv=>whnf
  refine ask_c (p_ref26_Count_v _ _) H rfl rfl (fun v23 H=>?_);conv=>whnf
  refine lq_ ?_;conv=>whnf
  refine lq_ ?_;conv=>whnf
  exact fin0_c (enc:=(fun r:SnapState × StanzaStanza × Bool=>.tup [SnapState.v r.1,StanzaStanza.v r.2.1,V.b r.2.2])) H (.inr rfl) (.cons (.cell rfl rfl (Nat.le_of_ble_eq_true rfl)) (.cons (.cell rfl rfl (Nat.le_of_ble_eq_true rfl)) (.cons (.tmp rfl) (.nil)))) rfl rfl
 conv=>whnf
 refine ask_c (p_ref26_View_v _ _) H rfl rfl (fun v7 H=>?_);conv=>whnf
 obtain ⟨o9,HL10,HQ11⟩:=bind_c H
 refine loop_c [8,10,6,7] [11,38,39,40,41,42,43,44,45,46,47,48,49,50,51,52,53,54,55,56,57,58,59,60,61,62,63,64,65,66,67,68,69,70,71,72,73,74,75,76,77,78,79,80,4,5,12,27] [11,38,39,40,41,42,43,44,45,46,47,48,49,50,51,52,53,54,55,56,57,58,59,60,61,62,63,64,65,66,67,68,69,70,71,72,73,74,75,76,77,78,79,80,4,5,12,27] (fun n vals st=>(∃ y13,p_ref26_Next_l1  v7 a0 n y13=some o9∧vals=[.b false,.i y13,.ptr 1 0,.ptr 2 0]∧st=[.live [.b a0.On,.b a0.Begun,.s a0.After,.i a0.Told] 0,.live [.b false,.b false,.s (⟨#[]⟩ : ByteArray),.i (0:Int)] 0,.live [.y8 (0:Int),.s (⟨#[]⟩ : ByteArray),.s (⟨#[]⟩ : ByteArray),.s (⟨#[]⟩ : ByteArray),.i (0:Int),.i (0:Int),.i (0:Int),.i (0:Int)] 0])) fuel 3 [0,3,4] (⟨_,HL10,rfl,rfl⟩) (Nat.zero_le _) rfl (by kernel_rfl) (by kernel_rfl) rfl ⟨⟨rfl,rfl,rfl⟩,⟨⟨rfl,rfl,rfl⟩,⟨⟨rfl,rfl,rfl⟩,trivial⟩⟩⟩ ?_
 rintro (_ | n12) _ _ (⟨y13,H,rfl,rfl⟩)
 ·rw [p_ref26_Next_l1] at H;cases H
 rw [p_ref26_Next_l1] at H
 conv=>whnf
 refine LenQ.M ?_;conv=>whnf
 refine tst_d H (fun b14 H=>?_) (fun b14 H=>?_)
 ·conv=>whnf
  obtain rfl:=Option.some.inj H
  have H:=HQ11
  try dsimp only at H
  refine lq_ ?_;conv=>whnf
  refine lq_ ?_;conv=>whnf
  exact fin0_c (enc:=(fun r:SnapState × StanzaStanza × Bool=>.tup [SnapState.v r.1,StanzaStanza.v r.2.1,V.b r.2.2])) H (.inr rfl) (.cons (.cell rfl rfl (Nat.le_of_ble_eq_true rfl)) (.cons (.cell rfl rfl (Nat.le_of_ble_eq_true rfl)) (.cons (.tmp rfl) (.nil)))) rfl rfl
 conv=>whnf
 refine ixs_c (f:=BookRow.v) H (fun _=>rfl) (fun x15 H=>?_);conv=>whnf
 refine lq_ ?_;conv=>whnf
 refine ixs_c (f:=BookRow.v) H (fun _=>rfl) (fun x16 H=>?_);conv=>whnf
 refine lq_ ?_;conv=>whnf
 refine ask_c (p_ref23_Key_v _ _) H rfl rfl (fun v17 H=>?_);conv=>whnf
 refine FootQ.mk ⟨rfl,?_⟩;conv=>whnf
 refine Tst.not ?_
 refine tst_c H (fun b18 H=>?_) (fun b18 H=>?_)
 ·conv=>whnf
  refine Ari.w ?_;conv=>whnf
  exact again_c [11,38,39,40,41,42,43,44,45,46,47,48,49,50,51,52,53,54,55,56,57,58,59,60,61,62,63,64,65,66,67,68,69,70,71,72,73,74,75,76,77,78,79,80,4,5,12,27] n12 3 [] (⟨_,H,rfl,rfl⟩) (Nat.lt_succ_self _) (Nat.zero_le _) rfl (by kernel_rfl) (by kernel_rfl) rfl ⟨⟨rfl,rfl,rfl⟩,⟨⟨rfl,rfl,rfl⟩,⟨⟨rfl,rfl,rfl⟩,trivial⟩⟩⟩
 conv=>whnf
 refine Ari.w ?_;conv=>whnf
 refine ixs_c (f:=BookRow.v) H (fun _=>rfl) (fun x19 H=>?_);conv=>whnf
 refine lq_ ?_;conv=>whnf
 refine ixs_c (f:=BookRow.v) H (fun _=>rfl) (fun x20 H=>?_);conv=>whnf
 refine lq_ ?_;conv=>whnf
 refine ixs_c (f:=BookRow.v) H (fun _=>rfl) (fun x21 H=>?_);conv=>whnf
 refine lq_ ?_;conv=>whnf
 refine ask_c (p_ref23_Say_v _ _ _) H rfl rfl (fun v22 H=>?_);conv=>whnf
 refine lq_ ?_;conv=>whnf
 refine lq_ ?_;conv=>whnf
 refine FootQ.mk ⟨rfl,?_⟩;conv=>whnf
 obtain rfl:=Option.some.inj H
 have H:=HQ11
 try dsimp only at H
 exact fin0_c (enc:=(fun r:SnapState × StanzaStanza × Bool=>.tup [SnapState.v r.1,StanzaStanza.v r.2.1,V.b r.2.2])) H (.inr rfl) (.cons (.cell rfl rfl (Nat.le_of_ble_eq_true rfl)) (.cons (.cell rfl rfl (Nat.le_of_ble_eq_true rfl)) (.cons (.tmp rfl) (.nil)))) rfl rfl
def gc57:BCode:=(.seq (R_ 1 [O_ 2 (.mv (.const (.slice none 0 0))) 0,O_ 3 (.al (.agg [(.lit (.string ⟨#[]⟩)),(.lit (.bool false)),(.lit (.int .i64 0)),(.lit (.int .i64 0)),(.lit (.int .i64 0))])) 0,O_ 4 (.mv (b_ false)) 1]) (.seq (.seq (R_ 0 [O_ 5 (.mv (t_ 0)) 0,O_ 6 (.cl 54 [(t_ 5)]) 0,O_ 7 (.bin .neq (t_ 6) (i_ 0)) 0,O_ 8 (.mv (t_ 7)) 0,⟨(some 9),.mv (t_ 0),(some (8,false)),0⟩,⟨(some 10),.lens (t_ 9),(some (8,false)),0⟩,⟨(some 11),.bin .eql (t_ 10) (i_ 0),(some (8,false)),0⟩,O_ 12 (.pick (t_ 8) (b_ true) (t_ 11)) 0]) (.cond (t_ 12) (.seq (R_ 0 [O_ 13 (.mv (t_ 0)) 0,O_ 14 (.bd [(.lit (.string ⟨#[]⟩)),(.lit (.bool false)),(.lit (.int .i64 0)),(.lit (.int .i64 0)),(.lit (.int .i64 0))] []) 0,O_ 2 (.mv (t_ 13)) 0,U_ (.st 5 (t_ 3) (t_ 14)) 0,O_ 4 (.mv (b_ false)) 0]) .ret) .skip)) (.seq (.reg 0 [O_ 15 (.mv (t_ 0)) 0,O_ 16 (.sls 5 (t_ 15) (some (i_ 1)) none none) 0,O_ 17 (.mv (t_ 0)) 0,O_ 18 (.ixs 5 (t_ 17) (i_ 0)) 0,O_ 19 (.ld 5 true (t_ 18)) 0,O_ 2 (.mv (t_ 16)) 0,U_ (.st 5 (t_ 3) (t_ 19)) 0,O_ 4 (.mv (b_ true)) 0] (some [[],[0],[],[2],[2,3],[0,1],[1,0,5,3,2,4],[4,2,3,5,0,1,6]]) 0 []) .ret)))
theorem gc57_ok:compF Tryz.prog Tryz.f57=some (gc57.er,20,[.tmp 2,.cell 3 5 true,.tmp 4]):=by unfold gc57;kernel_rfl
theorem p_ref25_Take_v {u1:Bool} (a0:List MailEntry):CallsO Tryz.prog 57 [.sl (List.map MailEntry.v a0) u1] (fun r:(List MailEntry) × MailEntry × Bool=>.tup [(fun l:List MailEntry=>V.sl (l.map MailEntry.v) false) r.1,MailEntry.v r.2.1,V.b r.2.2]) (p_ref25_Take a0):=by
 refine callsO_comp mix Tryz.func57 gc57_ok fun r H=>?_
 rw [p_ref25_Take] at H
 conv=>whnf
 refine ask_c (p_ref25_Check_v _) H rfl rfl (fun v1 H=>?_);conv=>whnf
 refine tst_c H (fun b2 H=>?_) (fun b2 H=>?_)
 ·conv=>whnf
  iterate 4 (refine Tst.T ?_;conv=>whnf)
  refine lq_ ?_;conv=>whnf
  refine finR_c (enc:=(fun r:(List MailEntry) × MailEntry × Bool=>.tup [(fun l:List MailEntry=>V.sl (l.map MailEntry.v) false) r.1,MailEntry.v r.2.1,V.b r.2.2])) H ?_;conv=>whnf
  exact ⟨_,.tup (.cons (.c (.slw)) (.cons (fzagg (.cons (.id rfl) (.cons (.id rfl) (.cons (.id rfl) (.cons (.id rfl) (.cons (.id rfl) (.nil)))))) rfl) (.cons (.c (.id rfl)) (.nil))))⟩
 conv=>whnf
 refine Tst.F ?_;conv=>whnf
 refine LenQ.M ?_;conv=>whnf
 iterate 2 (refine Tst.F ?_;conv=>whnf)
 refine tst_c H (fun b3 H=>?_) (fun b3 H=>?_)
 ·conv=>whnf
  refine lq_ ?_;conv=>whnf
  refine finR_c (enc:=(fun r:(List MailEntry) × MailEntry × Bool=>.tup [(fun l:List MailEntry=>V.sl (l.map MailEntry.v) false) r.1,MailEntry.v r.2.1,V.b r.2.2])) H ?_;conv=>whnf
  exact ⟨_,.tup (.cons (.c (.slw)) (.cons (fzagg (.cons (.id rfl) (.cons (.id rfl) (.cons (.id rfl) (.cons (.id rfl) (.cons (.id rfl) (.nil)))))) rfl) (.cons (.c (.id rfl)) (.nil))))⟩
 conv=>whnf
 refine slsE_c (f:=MailEntry.v) H (fun _=>rfl) (fun x4 H=>?_);conv=>whnf
 refine ixs_c (f:=MailEntry.v) H (fun _=>rfl) (fun x5 H=>?_);conv=>whnf
 refine lq_ ?_;conv=>whnf
 refine FootQ.mk ⟨rfl,?_⟩;conv=>whnf
 refine finR_c (enc:=(fun r:(List MailEntry) × MailEntry × Bool=>.tup [(fun l:List MailEntry=>V.sl (l.map MailEntry.v) false) r.1,MailEntry.v r.2.1,V.b r.2.2])) H ?_;conv=>whnf
 exact ⟨_,.tup (.cons (.c (.slw)) (.cons (fzagg (.cons (.id rfl) (.cons (.id rfl) (.cons (.id rfl) (.cons (.id rfl) (.cons (.id rfl) (.nil)))))) rfl) (.cons (.c (.id rfl)) (.nil))))⟩
end Go.Proofs.YtdoakplhalonfaaGreat

