/- A part of the proof: 2 texts joined. -/
import Derived.Test.YtdoakplhalonfaaGreatObA9
import Derived.Test.YtdoakplhalonfaaGreatObA15
import Derived.Test.YtdoakplhalonfaaGreatObA1
import Derived.KernelRfl
import Derived.Test.YtdoakplhalonfaaGreatObA5
set_option linter.all false
namespace Go.Proofs.YtdoakplhalonfaaGreat
open Go.RowKit
set_option maxRecDepth 100000
set_option maxHeartbeats 4000000
def gc79:BCode:=(.seq (R_ 1 [O_ 1 (.bx (t_ 0)) 0,O_ 2 (.mv (i_ 0)) 1]) (.seq (.seq (R_ 0 [O_ 3 (.fa 1 (t_ 1)) 0,O_ 4 (.ld 1 false (t_ 3)) 0,O_ 5 (.bin .lss (t_ 4) (i_ 0)) 0,O_ 6 (.mv (t_ 5)) 0,⟨(some 7),.fa 1 (t_ 1),(some (6,false)),0⟩,⟨(some 8),.ld 1 false (t_ 7),(some (6,false)),0⟩,⟨(some 9),.bin .gtr (t_ 8) (i_ 4),(some (6,false)),0⟩,O_ 10 (.pick (t_ 6) (b_ true) (t_ 9)) 0,O_ 11 (.mv (t_ 10)) 0,⟨(some 12),.fa 2 (t_ 1),(some (11,false)),0⟩,⟨(some 13),.ld 1 false (t_ 12),(some (11,false)),0⟩,⟨(some 14),.bin .lss (t_ 13) (.const (.int .i64 (-128))),(some (11,false)),0⟩,O_ 15 (.pick (t_ 11) (b_ true) (t_ 14)) 0,O_ 16 (.mv (t_ 15)) 0,⟨(some 17),.fa 2 (t_ 1),(some (16,false)),0⟩,⟨(some 18),.ld 1 false (t_ 17),(some (16,false)),0⟩,⟨(some 19),.bin .gtr (t_ 18) (i_ 127),(some (16,false)),0⟩,O_ 20 (.pick (t_ 16) (b_ true) (t_ 19)) 0,O_ 21 (.mv (t_ 20)) 0,⟨(some 22),.fa 3 (t_ 1),(some (21,false)),0⟩,⟨(some 23),.ld 1 false (t_ 22),(some (21,false)),0⟩,⟨(some 24),.bin .lss (t_ 23) (i_ 0),(some (21,false)),0⟩,O_ 25 (.pick (t_ 21) (b_ true) (t_ 24)) 0,O_ 26 (.mv (t_ 25)) 0,⟨(some 27),.fa 3 (t_ 1),(some (26,false)),0⟩,⟨(some 28),.ld 1 false (t_ 27),(some (26,false)),0⟩,⟨(some 29),.bin .gtr (t_ 28) (i_ 1099511627776),(some (26,false)),0⟩,O_ 30 (.pick (t_ 26) (b_ true) (t_ 29)) 0]) (.cond (t_ 30) (.seq (R_ 0 [O_ 2 (.mv (i_ 8)) 0]) .ret) .skip)) (.seq (.seq (R_ 0 [O_ 31 (.fa 0 (t_ 1)) 0,O_ 32 (.ld 1 false (t_ 31)) 0,O_ 33 (.un .not (t_ 32)) 0,O_ 34 (.mv (t_ 33)) 0,⟨(some 35),.fa 1 (t_ 1),(some (34,true)),0⟩,⟨(some 36),.ld 1 false (t_ 35),(some (34,true)),0⟩,⟨(some 37),.bin .neq (t_ 36) (i_ 0),(some (34,true)),0⟩,⟨(some 38),.mv (t_ 37),(some (34,true)),0⟩,⟨(some 39),.fa 2 (t_ 1),(some (38,false)),0⟩,⟨(some 40),.ld 1 false (t_ 39),(some (38,false)),0⟩,⟨(some 41),.bin .neq (t_ 40) (i_ 0),(some (38,false)),0⟩,⟨(some 42),.pick (t_ 38) (b_ true) (t_ 41),(some (34,true)),0⟩,O_ 43 (.pick (t_ 34) (t_ 42) (b_ false)) 0]) (.cond (t_ 43) (.seq (R_ 0 [O_ 2 (.mv (i_ 4)) 0]) .ret) .skip)) (.seq (R_ 0 [O_ 2 (.mv (i_ 0)) 0]) .ret))))
theorem gc79_ok:compF Tryz.prog Tryz.f79=some (gc79.er,44,[.tmp 2]):=by unfold gc79;kernel_rfl
theorem p_ref23_Check_v (a0:PresPres):CallsO Tryz.prog 79 [.agg [.b a0.On,.i a0.Show,.i a0.Prio,.i a0.Seq]] V.i (p_ref23_Check a0):=by
 refine callsO_comp mix Tryz.func79 gc79_ok fun r H=>?_
 rw [p_ref23_Check] at H
 conv=>whnf
 refine tst_c H (fun b1 H=>?_) (fun b1 H=>?_)
 ·conv=>whnf
  iterate 20 (refine Tst.T ?_;conv=>whnf)
  exact fi_ H
 conv=>whnf
 iterate 3 (refine Tst.F ?_;conv=>whnf)
 refine tst_c H (fun b2 H=>?_) (fun b2 H=>?_)
 ·conv=>whnf
  iterate 16 (refine Tst.T ?_;conv=>whnf)
  exact fi_ H
 conv=>whnf
 iterate 3 (refine Tst.F ?_;conv=>whnf)
 refine tst_c H (fun b3 H=>?_) (fun b3 H=>?_)
 ·conv=>whnf
  iterate 12 (refine Tst.T ?_;conv=>whnf)
  exact fi_ H
 conv=>whnf
 iterate 3 (refine Tst.F ?_;conv=>whnf)
 refine tst_c H (fun b4 H=>?_) (fun b4 H=>?_)
 ·conv=>whnf
  iterate 8 (refine Tst.T ?_;conv=>whnf)
  exact fi_ H
 conv=>whnf
 iterate 3 (refine Tst.F ?_;conv=>whnf)
 refine tst_c H (fun b5 H=>?_) (fun b5 H=>?_)
 ·conv=>whnf
  iterate 4 (refine Tst.T ?_;conv=>whnf)
  exact fi_ H
 conv=>whnf
 iterate 3 (refine Tst.F ?_;conv=>whnf)
 refine tst_c H (fun b6 H=>?_) (fun b6 H=>?_)
 ·conv=>whnf
  exact fi_ H
 conv=>whnf
 refine Tst.not ?_
 refine tst_c H (fun b7 H=>?_) (fun b7 H=>?_)
 ·conv=>whnf
  iterate 6 (refine Tst.F ?_;conv=>whnf)
  exact fi_ H
 conv=>whnf
 iterate 3 (refine Tst.T ?_;conv=>whnf)
 refine tst_c H (fun b8 H=>?_) (fun b8 H=>?_)
 ·conv=>whnf
  iterate 6 (refine Tst.T ?_;conv=>whnf)
  exact fi_ H
 conv=>whnf
 iterate 2 (refine Tst.F ?_;conv=>whnf)
 refine Tst.T ?_;conv=>whnf
 refine Tst.F ?_;conv=>whnf
 refine Tst.T ?_;conv=>whnf
 refine tst_c H (fun b9 H=>?_) (fun b9 H=>?_)
 ·conv=>whnf
  exact fi_ H
 conv=>whnf
 exact fi_ H
def gc80:BCode:=(.seq (R_ 0 [O_ 4 (.mv (i_ 0)) 0]) (.seq (.seq (R_ 0 [O_ 5 (.mv (i_ 0)) 0]) (.block 0 (.loop (.seq (.seq (R_ 0 [O_ 6 (.mv (t_ 5)) 0,O_ 7 (.mv (t_ 0)) 0,O_ 8 (.lens (t_ 7)) 0,O_ 9 (.bin .lss (t_ 6) (t_ 8)) 0]) (.cond (t_ 9) .skip (.exit 0))) (.seq (.block 1 (.seq (R_ 0 [O_ 12 (.mv (t_ 0)) 0,O_ 13 (.mv (t_ 5)) 0,O_ 14 (.ixs 5 (t_ 12) (t_ 13)) 0,O_ 15 (.fa 0 (t_ 14)) 0,O_ 16 (.ld 1 false (t_ 15)) 0,O_ 17 (.mv (t_ 1)) 0,O_ 18 (.bin .eql (t_ 16) (t_ 17)) 0]) (.cond (t_ 18) (.seq (R_ 0 [O_ 19 (.mv (t_ 5)) 0,O_ 4 (.mv (t_ 19)) 0]) .ret) .skip))) (R_ 0 [O_ 10 (.mv (t_ 5)) 0,O_ 11 (.bin .add (t_ 10) (i_ 1)) 0,O_ 5 (.mv (t_ 11)) 0])))))) (.seq (R_ 0 [O_ 4 (.mv (.const (.int .i64 (-1)))) 0]) .ret)))
theorem gc80_ok:compF Tryz.prog Tryz.f80=some (gc80.er,20,[.tmp 4]):=by unfold gc80;kernel_rfl
theorem p_ref25_Find_v {u1:Bool} (a0:List MailEntry) (a1:ByteArray):CallsO Tryz.prog 80 [.sl (List.map MailEntry.v a0) u1,.s a1] V.i (p_ref25_Find a0 a1):=by
 refine callsO_comp mix Tryz.func80 gc80_ok fun r H=>?_
 rw [p_ref25_Find] at H
 conv=>whnf
 obtain ⟨o2,HL3,HQ4⟩:=bind_c H
 refine loop_c [4,5] [6,7,8,9,10,11,12,13,14,15,16,17,18,19] [6,7,8,9,10,11,12,13,14,15,16,17,18,19] (fun n vals st=>(∃ y6,p_ref25_Find_l1  a0 a1 n y6=some o2∧vals=[.i (0:Int),.i y6]∧st=[])) fuel 0 [] (⟨_,HL3,rfl,rfl⟩) (Nat.zero_le _) rfl (by kernel_rfl) (by kernel_rfl) rfl trivial ?_
 rintro (_ | n5) _ _ (⟨y6,H,rfl,rfl⟩)
 ·rw [p_ref25_Find_l1] at H;cases H
 rw [p_ref25_Find_l1] at H
 conv=>whnf
 refine LenQ.M ?_;conv=>whnf
 refine tst_d H (fun b7 H=>?_) (fun b7 H=>?_)
 ·conv=>whnf
  obtain rfl:=Option.some.inj H
  have H:=HQ4
  try dsimp only at H
  exact fi_ H
 conv=>whnf
 refine ixs_c (f:=MailEntry.v) H (fun _=>rfl) (fun x8 H=>?_);conv=>whnf
 refine lq_ ?_;conv=>whnf
 refine tst_c H (fun b9 H=>?_) (fun b9 H=>?_)
 ·conv=>whnf
  obtain rfl:=Option.some.inj H
  have H:=HQ4
  try dsimp only at H
  exact fi_ H
 conv=>whnf
 refine Ari.w ?_;conv=>whnf
 exact again_c [6,7,8,9,10,11,12,13,14,15,16,17,18,19] n5 0 [] (⟨_,H,rfl,rfl⟩) (Nat.lt_succ_self _) (Nat.zero_le _) rfl (by kernel_rfl) (by kernel_rfl) rfl trivial
def gc54:BCode:=(.seq (R_ 0 [O_ 2 (.mv (i_ 0)) 0]) (.seq (.seq (R_ 0 [O_ 6 (.mv (t_ 0)) 0,O_ 7 (.lens (t_ 6)) 0,O_ 8 (.bin .gtr (t_ 7) (i_ 16)) 0]) (.cond (t_ 8) (.seq (R_ 0 [O_ 2 (.mv (i_ 5)) 0]) .ret) .skip)) (.seq (.seq (R_ 0 [O_ 3 (.mv (i_ 0)) 0]) (.block 0 (.loop (.seq (.seq (R_ 0 [O_ 9 (.mv (t_ 3)) 0,O_ 10 (.mv (t_ 0)) 0,O_ 11 (.lens (t_ 10)) 0,O_ 12 (.bin .lss (t_ 9) (t_ 11)) 0]) (.cond (t_ 12) .skip (.exit 0))) (.seq (.block 1 (.seq (R_ 0 [O_ 15 (.mv (t_ 0)) 0,O_ 16 (.mv (t_ 3)) 0,O_ 17 (.ixs 5 (t_ 15) (t_ 16)) 0,O_ 18 (.fa 0 (t_ 17)) 0,O_ 19 (.ld 1 false (t_ 18)) 0,O_ 20 (.cl 78 [(t_ 19)]) 0,O_ 21 (.un .not (t_ 20)) 0]) (.cond (t_ 21) (.seq (R_ 0 [O_ 2 (.mv (i_ 11)) 0]) .ret) .skip))) (R_ 0 [O_ 13 (.mv (t_ 3)) 0,O_ 14 (.bin .add (t_ 13) (i_ 1)) 0,O_ 3 (.mv (t_ 14)) 0])))))) (.seq (.seq (R_ 0 [O_ 4 (.mv (i_ 0)) 0]) (.block 2 (.loop (.seq (.seq (R_ 0 [O_ 22 (.mv (t_ 4)) 0,O_ 23 (.mv (t_ 0)) 0,O_ 24 (.lens (t_ 23)) 0,O_ 25 (.bin .lss (t_ 22) (t_ 24)) 0]) (.cond (t_ 25) .skip (.exit 2))) (.seq (.block 3 (.seq (R_ 0 [O_ 28 (.mv (t_ 0)) 0,O_ 29 (.mv (t_ 4)) 0,O_ 30 (.ixs 5 (t_ 28) (t_ 29)) 0,O_ 31 (.fa 1 (t_ 30)) 0,O_ 32 (.ld 4 true (t_ 31)) 0,O_ 33 (.cl 79 [(t_ 32)]) 0,O_ 34 (.bin .neq (t_ 33) (i_ 0)) 0]) (.cond (t_ 34) (.seq (R_ 0 [O_ 35 (.mv (t_ 0)) 0,O_ 36 (.mv (t_ 4)) 0,O_ 37 (.ixs 5 (t_ 35) (t_ 36)) 0,O_ 38 (.fa 1 (t_ 37)) 0,O_ 39 (.ld 4 true (t_ 38)) 0,O_ 40 (.cl 79 [(t_ 39)]) 0,O_ 2 (.mv (t_ 40)) 0]) .ret) .skip))) (R_ 0 [O_ 26 (.mv (t_ 4)) 0,O_ 27 (.bin .add (t_ 26) (i_ 1)) 0,O_ 4 (.mv (t_ 27)) 0])))))) (.seq (.seq (R_ 0 [O_ 5 (.mv (i_ 0)) 0]) (.block 4 (.loop (.seq (.seq (R_ 0 [O_ 41 (.mv (t_ 5)) 0,O_ 42 (.mv (t_ 0)) 0,O_ 43 (.lens (t_ 42)) 0,O_ 44 (.bin .lss (t_ 41) (t_ 43)) 0]) (.cond (t_ 44) .skip (.exit 4))) (.seq (.block 5 (.seq (R_ 0 [O_ 47 (.mv (t_ 5)) 0,O_ 48 (.bin .gtr (t_ 47) (i_ 0)) 0,O_ 49 (.mv (t_ 48)) 0,⟨(some 50),.mv (t_ 0),(some (49,true)),0⟩,⟨(some 51),.mv (t_ 5),(some (49,true)),0⟩,⟨(some 52),.bin .sub (t_ 51) (i_ 1),(some (49,true)),0⟩,⟨(some 53),.ixs 5 (t_ 50) (t_ 52),(some (49,true)),0⟩,⟨(some 54),.fa 1 (t_ 53),(some (49,true)),0⟩,⟨(some 55),.fa 0 (t_ 54),(some (49,true)),0⟩,⟨(some 56),.ld 1 false (t_ 55),(some (49,true)),0⟩,O_ 57 (.pick (t_ 49) (t_ 56) (b_ false)) 0,O_ 58 (.mv (t_ 57)) 0,⟨(some 59),.mv (t_ 0),(some (58,true)),0⟩,⟨(some 60),.mv (t_ 5),(some (58,true)),0⟩,⟨(some 61),.ixs 5 (t_ 59) (t_ 60),(some (58,true)),0⟩,⟨(some 62),.fa 1 (t_ 61),(some (58,true)),0⟩,⟨(some 63),.fa 0 (t_ 62),(some (58,true)),0⟩,⟨(some 64),.ld 1 false (t_ 63),(some (58,true)),0⟩,⟨(some 65),.un .not (t_ 64),(some (58,true)),0⟩,O_ 66 (.pick (t_ 58) (t_ 65) (b_ false)) 0,O_ 67 (.mv (t_ 66)) 0,⟨(some 68),.mv (t_ 0),(some (67,false)),0⟩,⟨(some 69),.mv (t_ 0),(some (67,false)),0⟩,⟨(some 70),.mv (t_ 5),(some (67,false)),0⟩,⟨(some 71),.ixs 5 (t_ 69) (t_ 70),(some (67,false)),0⟩,⟨(some 72),.fa 0 (t_ 71),(some (67,false)),0⟩,⟨(some 73),.ld 1 false (t_ 72),(some (67,false)),0⟩,⟨(some 74),.cl 80 [(t_ 68),(t_ 73)],(some (67,false)),0⟩,⟨(some 75),.mv (t_ 5),(some (67,false)),0⟩,⟨(some 76),.bin .neq (t_ 74) (t_ 75),(some (67,false)),0⟩,O_ 77 (.pick (t_ 67) (b_ true) (t_ 76)) 0]) (.cond (t_ 77) (.seq (R_ 0 [O_ 2 (.mv (i_ 10)) 0]) .ret) .skip))) (R_ 0 [O_ 45 (.mv (t_ 5)) 0,O_ 46 (.bin .add (t_ 45) (i_ 1)) 0,O_ 5 (.mv (t_ 46)) 0])))))) (.seq (R_ 0 [O_ 2 (.mv (i_ 0)) 0]) .ret))))))
theorem gc54_ok:compF Tryz.prog Tryz.f54=some (gc54.er,78,[.tmp 2]):=by unfold gc54;kernel_rfl
theorem p_ref25_Check_v {u1:Bool} (a0:List MailEntry):CallsO Tryz.prog 54 [.sl (List.map MailEntry.v a0) u1] V.i (p_ref25_Check a0):=by
 refine callsO_comp mix Tryz.func54 gc54_ok fun r H=>?_
 rw [p_ref25_Check] at H
 conv=>whnf
 refine LenQ.M ?_;conv=>whnf
 refine tst_c H (fun b1 H=>?_) (fun b1 H=>?_)
 ·conv=>whnf
  exact fi_ H
 conv=>whnf
 obtain ⟨o3,HL4,HQ5⟩:=bind_c H
 refine loop_c [2,3] [9,10,11,12,13,14,15,16,17,18,19,20,21] [9,10,11,12,13,14,15,16,17,18,19,20,21] (fun n vals st=>(∃ y7,p_ref25_Check_l1  a0 n y7=some o3∧vals=[.i (0:Int),.i y7]∧st=[])) fuel 0 [] (⟨_,HL4,rfl,rfl⟩) (Nat.zero_le _) rfl (by kernel_rfl) (by kernel_rfl) rfl trivial ?_
 rintro (_ | n6) _ _ (⟨y7,H,rfl,rfl⟩)
 ·rw [p_ref25_Check_l1] at H;cases H
 rw [p_ref25_Check_l1] at H
 conv=>whnf
 refine LenQ.M ?_;conv=>whnf
 refine tst_c H (fun b8 H=>?_) (fun b8 H=>?_)
 ·conv=>whnf
  refine ixs_c (f:=MailEntry.v) H (fun _=>rfl) (fun x9 H=>?_);conv=>whnf
  refine lq_ ?_;conv=>whnf
  refine ask_c (p_ref25_key_v _) H rfl rfl (fun v10 H=>?_);conv=>whnf
  refine Tst.not ?_
  refine tst_d H (fun b11 H=>?_) (fun b11 H=>?_)
  ·conv=>whnf
   obtain rfl:=Option.some.inj H
   have H:=HQ5
   try dsimp only at H
   exact fi_ H
  conv=>whnf
  refine Ari.w ?_;conv=>whnf
  exact again_c [9,10,11,12,13,14,15,16,17,18,19,20,21] n6 0 [] (⟨_,H,rfl,rfl⟩) (Nat.lt_succ_self _) (Nat.zero_le _) rfl (by kernel_rfl) (by kernel_rfl) rfl trivial
 conv=>whnf
 obtain rfl:=Option.some.inj H
 have H:=HQ5
 try dsimp only at H
 obtain ⟨o13,HL14,HQ15⟩:=bind_c H
 refine loop_c [2,4] [22,23,24,25,26,27,28,29,30,31,32,33,34,35,36,37,38,39,40] [22,23,24,25,26,27,28,29,30,31,32,33,34,35,36,37,38,39,40] (fun n vals st=>(∃ y17,p_ref25_Check_l2  a0 n y17=some o13∧vals=[.i (0:Int),.i y17]∧st=[])) fuel 0 [] (⟨_,HL14,rfl,rfl⟩) (Nat.zero_le _) rfl (by kernel_rfl) (by kernel_rfl) rfl trivial ?_
 rintro (_ | n16) _ _ (⟨y17,H,rfl,rfl⟩)
 ·rw [p_ref25_Check_l2] at H;cases H
 rw [p_ref25_Check_l2] at H
 conv=>whnf
 refine LenQ.M ?_;conv=>whnf
 refine tst_c H (fun b18 H=>?_) (fun b18 H=>?_)
 ·conv=>whnf
  refine ixs_c (f:=MailEntry.v) H (fun _=>rfl) (fun x19 H=>?_);conv=>whnf
  refine lq_ ?_;conv=>whnf
  refine ask_c (p_ref23_Check_v _) H rfl rfl (fun v20 H=>?_);conv=>whnf
  refine tst_d H (fun b21 H=>?_) (fun b21 H=>?_)
  ·conv=>whnf
   refine Ari.w ?_;conv=>whnf
   exact again_c [22,23,24,25,26,27,28,29,30,31,32,33,34,35,36,37,38,39,40] n16 0 [] (⟨_,H,rfl,rfl⟩) (Nat.lt_succ_self _) (Nat.zero_le _) rfl (by kernel_rfl) (by kernel_rfl) rfl trivial
  conv=>whnf
  refine ixs_c (f:=MailEntry.v) H (fun _=>rfl) (fun x22 H=>?_);conv=>whnf
  refine lq_ ?_;conv=>whnf
  refine ask_c (p_ref23_Check_v _) H rfl rfl (fun v23 H=>?_);conv=>whnf
  obtain rfl:=Option.some.inj H
  have H:=HQ15
  try dsimp only at H
  exact fi_ H
 conv=>whnf
 obtain rfl:=Option.some.inj H
 have H:=HQ15
 try dsimp only at H
 obtain ⟨o25,HL26,HQ27⟩:=bind_c H
 refine loop_c [2,5] [41,42,43,44,45,46,47,48,49,50,51,52,53,54,55,56,57,58,59,60,61,62,63,64,65,66,67,68,69,70,71,72,73,74,75,76,77] [41,42,43,44,45,46,47,48,49,50,51,52,53,54,55,56,57,58,59,60,61,62,63,64,65,66,67,68,69,70,71,72,73,74,75,76,77] (fun n vals st=>(∃ y29,p_ref25_Check_l3  a0 n y29=some o25∧vals=[.i (0:Int),.i y29]∧st=[])) fuel 0 [] (⟨_,HL26,rfl,rfl⟩) (Nat.zero_le _) rfl (by kernel_rfl) (by kernel_rfl) rfl trivial ?_
 rintro (_ | n28) _ _ (⟨y29,H,rfl,rfl⟩)
 ·rw [p_ref25_Check_l3] at H;cases H
 rw [p_ref25_Check_l3] at H
 conv=>whnf
 refine LenQ.M ?_;conv=>whnf
 refine tst_d H (fun b30 H=>?_) (fun b30 H=>?_)
 ·conv=>whnf
  obtain rfl:=Option.some.inj H
  have H:=HQ27
  try dsimp only at H
  exact fi_ H
 conv=>whnf
 refine tst_d H (fun b31 H=>?_) (fun b31 H=>?_)
 ·conv=>whnf
  iterate 19 (refine Tst.F ?_;conv=>whnf)
  refine ixs_c (f:=MailEntry.v) H (fun _=>rfl) (fun x42 H=>?_);conv=>whnf
  refine Tst.F ?_;conv=>whnf
  refine lq_ ?_;conv=>whnf
  iterate 2 (refine Tst.F ?_;conv=>whnf)
  refine ask_c (p_ref25_Find_v _ _) H rfl rfl (fun v43 H=>?_);conv=>whnf
  iterate 3 (refine Tst.F ?_;conv=>whnf)
  refine tst_c H (fun b44 H=>?_) (fun b44 H=>?_)
  ·conv=>whnf
   obtain rfl:=Option.some.inj H
   have H:=HQ27
   try dsimp only at H
   exact fi_ H
  conv=>whnf
  refine Ari.w ?_;conv=>whnf
  exact again_c [41,42,43,44,45,46,47,48,49,50,51,52,53,54,55,56,57,58,59,60,61,62,63,64,65,66,67,68,69,70,71,72,73,74,75,76,77] n28 0 [] (⟨_,H,rfl,rfl⟩) (Nat.lt_succ_self _) (Nat.zero_le _) rfl (by kernel_rfl) (by kernel_rfl) rfl trivial
 conv=>whnf
 iterate 2 (refine Tst.T ?_;conv=>whnf)
 refine Ari.w ?_;conv=>whnf
 refine Tst.T ?_;conv=>whnf
 refine ixs_c (f:=MailEntry.v) H (fun _=>rfl) (fun x32 H=>?_);conv=>whnf
 refine Tst.T ?_;conv=>whnf
 refine lq_ ?_;conv=>whnf
 refine Tst.T ?_;conv=>whnf
 refine lq_ ?_;conv=>whnf
 iterate 2 (refine Tst.T ?_;conv=>whnf)
 refine tst_d H (fun b33 H=>?_) (fun b33 H=>?_)
 ·conv=>whnf
  iterate 11 (refine Tst.F ?_;conv=>whnf)
  refine ixs_c (f:=MailEntry.v) H (fun _=>rfl) (fun x39 H=>?_);conv=>whnf
  refine Tst.F ?_;conv=>whnf
  refine lq_ ?_;conv=>whnf
  iterate 2 (refine Tst.F ?_;conv=>whnf)
  refine ask_c (p_ref25_Find_v _ _) H rfl rfl (fun v40 H=>?_);conv=>whnf
  iterate 3 (refine Tst.F ?_;conv=>whnf)
  refine tst_c H (fun b41 H=>?_) (fun b41 H=>?_)
  ·conv=>whnf
   obtain rfl:=Option.some.inj H
   have H:=HQ27
   try dsimp only at H
   exact fi_ H
  conv=>whnf
  refine Ari.w ?_;conv=>whnf
  exact again_c [41,42,43,44,45,46,47,48,49,50,51,52,53,54,55,56,57,58,59,60,61,62,63,64,65,66,67,68,69,70,71,72,73,74,75,76,77] n28 0 [] (⟨_,H,rfl,rfl⟩) (Nat.lt_succ_self _) (Nat.zero_le _) rfl (by kernel_rfl) (by kernel_rfl) rfl trivial
 conv=>whnf
 iterate 2 (refine Tst.T ?_;conv=>whnf)
 refine ixs_c (f:=MailEntry.v) H (fun _=>rfl) (fun x34 H=>?_);conv=>whnf
 refine Tst.T ?_;conv=>whnf
 refine lq_ ?_;conv=>whnf
 refine Tst.T ?_;conv=>whnf
 refine lq_ ?_;conv=>whnf
 iterate 3 (refine Tst.T ?_;conv=>whnf)
 refine Tst.not ?_
 refine tst_d H (fun b35 H=>?_) (fun b35 H=>?_)
 ·conv=>whnf
  iterate 10 (refine Tst.T ?_;conv=>whnf)
  obtain rfl:=Option.some.inj H
  have H:=HQ27
  try dsimp only at H
  exact fi_ H
 conv=>whnf
 iterate 3 (refine Tst.F ?_;conv=>whnf)
 refine ixs_c (f:=MailEntry.v) H (fun _=>rfl) (fun x36 H=>?_);conv=>whnf
 refine Tst.F ?_;conv=>whnf
 refine lq_ ?_;conv=>whnf
 iterate 2 (refine Tst.F ?_;conv=>whnf)
 refine ask_c (p_ref25_Find_v _ _) H rfl rfl (fun v37 H=>?_);conv=>whnf
 iterate 3 (refine Tst.F ?_;conv=>whnf)
 refine tst_c H (fun b38 H=>?_) (fun b38 H=>?_)
 ·conv=>whnf
  obtain rfl:=Option.some.inj H
  have H:=HQ27
  try dsimp only at H
  exact fi_ H
 conv=>whnf
 refine Ari.w ?_;conv=>whnf
 exact again_c [41,42,43,44,45,46,47,48,49,50,51,52,53,54,55,56,57,58,59,60,61,62,63,64,65,66,67,68,69,70,71,72,73,74,75,76,77] n28 0 [] (⟨_,H,rfl,rfl⟩) (Nat.lt_succ_self _) (Nat.zero_le _) rfl (by kernel_rfl) (by kernel_rfl) rfl trivial
def gc55:BCode:=(.seq (R_ 1 [O_ 1 (.bx (t_ 0)) 0,O_ 2 (.mv (i_ 0)) 1]) (.seq (.block 0 (.seq (R_ 0 [O_ 4 (.fa 0 (t_ 1)) 0,O_ 5 (.ld 1 false (t_ 4)) 0,O_ 6 (.un .not (t_ 5)) 0,O_ 7 (.mv (t_ 6)) 0,⟨(some 8),.ld 4 true (t_ 1),(some (7,true)),0⟩,⟨(some 9),.bd [(.lit (.bool false)),(.lit (.bool false)),(.lit (.string ⟨#[]⟩)),(.lit (.int .i64 0))] [],(some (7,true)),0⟩,⟨(some 10),.eqa true [0,0,2,1] (t_ 8) (t_ 9),(some (7,true)),0⟩,O_ 11 (.pick (t_ 7) (t_ 10) (b_ false)) 0,O_ 3 (.mv (t_ 11)) 0]) (.cond (t_ 3) (.seq (R_ 0 [O_ 2 (.mv (i_ 4)) 0]) .ret) (.seq (R_ 0 [O_ 13 (.fa 1 (t_ 1)) 0,O_ 14 (.ld 1 false (t_ 13)) 0,O_ 15 (.un .not (t_ 14)) 0,O_ 16 (.mv (t_ 15)) 0,⟨(some 17),.fa 2 (t_ 1),(some (16,true)),0⟩,⟨(some 18),.ld 1 false (t_ 17),(some (16,true)),0⟩,⟨(some 19),.bin .neq (t_ 18) (.const (.string ⟨#[]⟩)),(some (16,true)),0⟩,⟨(some 20),.mv (t_ 19),(some (16,true)),0⟩,⟨(some 21),.fa 3 (t_ 1),(some (20,false)),0⟩,⟨(some 22),.ld 1 false (t_ 21),(some (20,false)),0⟩,⟨(some 23),.bin .neq (t_ 22) (i_ 0),(some (20,false)),0⟩,⟨(some 24),.pick (t_ 20) (b_ true) (t_ 23),(some (16,true)),0⟩,O_ 25 (.pick (t_ 16) (t_ 24) (b_ false)) 0,O_ 12 (.mv (t_ 25)) 0]) (.cond (t_ 12) (.seq (R_ 0 [O_ 2 (.mv (i_ 4)) 0]) .ret) (.seq (R_ 0 [O_ 27 (.fa 3 (t_ 1)) 0,O_ 28 (.ld 1 false (t_ 27)) 0,O_ 29 (.bin .lss (t_ 28) (i_ 0)) 0,O_ 30 (.mv (t_ 29)) 0,⟨(some 31),.fa 3 (t_ 1),(some (30,false)),0⟩,⟨(some 32),.ld 1 false (t_ 31),(some (30,false)),0⟩,⟨(some 33),.bin .gtr (t_ 32) (i_ 1099511627776),(some (30,false)),0⟩,O_ 34 (.pick (t_ 30) (b_ true) (t_ 33)) 0,O_ 26 (.mv (t_ 34)) 0]) (.cond (t_ 26) (.seq (R_ 0 [O_ 2 (.mv (i_ 8)) 0]) .ret) .skip))))))) (.seq (R_ 0 [O_ 2 (.mv (i_ 0)) 0]) .ret)))
theorem gc55_ok:compF Tryz.prog Tryz.f55=some (gc55.er,35,[.tmp 2]):=by unfold gc55;kernel_rfl
theorem p_ref26_Check_v (a0:SnapState):CallsO Tryz.prog 55 [.agg [.b a0.On,.b a0.Begun,.s a0.After,.i a0.Told]] V.i (p_ref26_Check a0):=by
 refine callsO_comp mix Tryz.func55 gc55_ok fun r H=>?_
 rw [p_ref26_Check] at H
 conv=>whnf
 refine Tst.not ?_
 refine tst_c H (fun b1 H=>?_) (fun b1 H=>?_)
 ·conv=>whnf
  iterate 4 (refine Tst.F ?_;conv=>whnf)
  refine Tst.not ?_
  refine tst_c H (fun b2 H=>?_) (fun b2 H=>?_)
  ·conv=>whnf
   iterate 6 (refine Tst.F ?_;conv=>whnf)
   refine tst_c H (fun b3 H=>?_) (fun b3 H=>?_)
   ·conv=>whnf
    iterate 4 (refine Tst.T ?_;conv=>whnf)
    exact fi_ H
   conv=>whnf
   iterate 3 (refine Tst.F ?_;conv=>whnf)
   refine tst_c H (fun b4 H=>?_) (fun b4 H=>?_)
   ·conv=>whnf
    exact fi_ H
   conv=>whnf
   exact fi_ H
  conv=>whnf
  iterate 3 (refine Tst.T ?_;conv=>whnf)
  refine Tst.not ?_
  refine tst_d H (fun b5 H=>?_) (fun b5 H=>?_)
  ·conv=>whnf
   iterate 6 (refine Tst.T ?_;conv=>whnf)
   exact fi_ H
  conv=>whnf
  iterate 2 (refine Tst.F ?_;conv=>whnf)
  refine Tst.T ?_;conv=>whnf
  refine Tst.F ?_;conv=>whnf
  refine Tst.T ?_;conv=>whnf
  refine tst_c H (fun b6 H=>?_) (fun b6 H=>?_)
  ·conv=>whnf
   exact fi_ H
  conv=>whnf
  refine tst_c H (fun b7 H=>?_) (fun b7 H=>?_)
  ·conv=>whnf
   iterate 4 (refine Tst.T ?_;conv=>whnf)
   exact fi_ H
  conv=>whnf
  iterate 3 (refine Tst.F ?_;conv=>whnf)
  refine tst_c H (fun b8 H=>?_) (fun b8 H=>?_)
  ·conv=>whnf
   exact fi_ H
  conv=>whnf
  exact fi_ H
 conv=>whnf
 iterate 3 (refine Tst.T ?_;conv=>whnf)
 refine Tst.not ?_
 refine tst_d H (fun b9 H=>?_) (fun b9 H=>?_)
 ·conv=>whnf
  exact fi_ H
 conv=>whnf
 refine Tst.not ?_
 refine tst_c H (fun b10 H=>?_) (fun b10 H=>?_)
 ·conv=>whnf
  iterate 6 (refine Tst.F ?_;conv=>whnf)
  refine tst_c H (fun b11 H=>?_) (fun b11 H=>?_)
  ·conv=>whnf
   iterate 4 (refine Tst.T ?_;conv=>whnf)
   exact fi_ H
  conv=>whnf
  iterate 3 (refine Tst.F ?_;conv=>whnf)
  refine tst_c H (fun b12 H=>?_) (fun b12 H=>?_)
  ·conv=>whnf
   exact fi_ H
  conv=>whnf
  exact fi_ H
 conv=>whnf
 iterate 3 (refine Tst.T ?_;conv=>whnf)
 refine Tst.not ?_
 refine tst_d H (fun b13 H=>?_) (fun b13 H=>?_)
 ·conv=>whnf
  iterate 6 (refine Tst.T ?_;conv=>whnf)
  exact fi_ H
 conv=>whnf
 iterate 2 (refine Tst.F ?_;conv=>whnf)
 refine Tst.T ?_;conv=>whnf
 refine Tst.F ?_;conv=>whnf
 refine Tst.T ?_;conv=>whnf
 refine tst_c H (fun b14 H=>?_) (fun b14 H=>?_)
 ·conv=>whnf
  exact fi_ H
 conv=>whnf
 refine tst_c H (fun b15 H=>?_) (fun b15 H=>?_)
 ·conv=>whnf
  iterate 4 (refine Tst.T ?_;conv=>whnf)
  exact fi_ H
 conv=>whnf
 iterate 3 (refine Tst.F ?_;conv=>whnf)
 refine tst_c H (fun b16 H=>?_) (fun b16 H=>?_)
 ·conv=>whnf
  exact fi_ H
 conv=>whnf
 exact fi_ H
end Go.Proofs.YtdoakplhalonfaaGreat

namespace Go.Proofs.YtdoakplhalonfaaGreat
open Go.RowKit
set_option maxRecDepth 100000
set_option maxHeartbeats 4000000
def gc19:BCode:=(.seq (R_ 1 [O_ 1 (.bx (t_ 0)) 0,O_ 2 (.mv (i_ 0)) 1]) (.seq (.block 0 (.seq (R_ 0 [O_ 4 (.fa 0 (t_ 1)) 0,O_ 5 (.ld 1 false (t_ 4)) 0,O_ 6 (.cl 54 [(t_ 5)]) 0,O_ 7 (.bin .neq (t_ 6) (i_ 0)) 0,O_ 3 (.mv (t_ 7)) 0]) (.cond (t_ 3) (.seq (R_ 0 [O_ 8 (.fa 0 (t_ 1)) 0,O_ 9 (.ld 1 false (t_ 8)) 0,O_ 10 (.cl 54 [(t_ 9)]) 0,O_ 2 (.mv (t_ 10)) 0]) .ret) (.seq (R_ 0 [O_ 12 (.fa 1 (t_ 1)) 0,O_ 13 (.ld 4 true (t_ 12)) 0,O_ 14 (.cl 55 [(t_ 13)]) 0,O_ 15 (.bin .neq (t_ 14) (i_ 0)) 0,O_ 11 (.mv (t_ 15)) 0]) (.cond (t_ 11) (.seq (R_ 0 [O_ 16 (.fa 1 (t_ 1)) 0,O_ 17 (.ld 4 true (t_ 16)) 0,O_ 18 (.cl 55 [(t_ 17)]) 0,O_ 2 (.mv (t_ 18)) 0]) .ret) (.seq (R_ 0 [O_ 20 (.fa 5 (t_ 1)) 0,O_ 21 (.ld 1 false (t_ 20)) 0,O_ 22 (.bin .lss (t_ 21) (i_ 0)) 0,O_ 23 (.mv (t_ 22)) 0,⟨(some 24),.fa 5 (t_ 1),(some (23,false)),0⟩,⟨(some 25),.ld 1 false (t_ 24),(some (23,false)),0⟩,⟨(some 26),.bin .gtr (t_ 25) (i_ 1099511627776),(some (23,false)),0⟩,O_ 27 (.pick (t_ 23) (b_ true) (t_ 26)) 0,O_ 28 (.mv (t_ 27)) 0,⟨(some 29),.fa 6 (t_ 1),(some (28,false)),0⟩,⟨(some 30),.ld 1 false (t_ 29),(some (28,false)),0⟩,⟨(some 31),.bin .lss (t_ 30) (i_ 0),(some (28,false)),0⟩,O_ 32 (.pick (t_ 28) (b_ true) (t_ 31)) 0,O_ 33 (.mv (t_ 32)) 0,⟨(some 34),.fa 6 (t_ 1),(some (33,false)),0⟩,⟨(some 35),.ld 1 false (t_ 34),(some (33,false)),0⟩,⟨(some 36),.bin .gtr (t_ 35) (i_ 1099511627776),(some (33,false)),0⟩,O_ 37 (.pick (t_ 33) (b_ true) (t_ 36)) 0,O_ 19 (.mv (t_ 37)) 0]) (.cond (t_ 19) (.seq (R_ 0 [O_ 2 (.mv (i_ 8)) 0]) .ret) .skip))))))) (.seq (R_ 0 [O_ 2 (.mv (i_ 0)) 0]) .ret)))
theorem gc19_ok:compF Tryz.prog Tryz.f19=some (gc19.er,38,[.tmp 2]):=by unfold gc19;kernel_rfl
theorem p_ref27_Check_v {u1:Bool} (a0:Ref27State):CallsO Tryz.prog 19 [.agg [.sl (List.map MailEntry.v a0.Mail) u1,.b a0.Snap.On,.b a0.Snap.Begun,.s a0.Snap.After,.i a0.Snap.Told,.i a0.Sent,.i a0.Lost]] V.i (p_ref27_Check a0):=by
 refine callsO_comp mix Tryz.func19 gc19_ok fun r H=>?_
 rw [p_ref27_Check] at H
 conv=>whnf
 refine ask_c (p_ref25_Check_v _) H rfl rfl (fun v1 H=>?_);conv=>whnf
 refine tst_c H (fun b2 H=>?_) (fun b2 H=>?_)
 ·conv=>whnf
  refine ask_c (p_ref25_Check_v _) H rfl rfl (fun v3 H=>?_);conv=>whnf
  exact fi_ H
 conv=>whnf
 refine ask_c (p_ref26_Check_v _) H rfl rfl (fun v4 H=>?_);conv=>whnf
 refine tst_c H (fun b5 H=>?_) (fun b5 H=>?_)
 ·conv=>whnf
  refine ask_c (p_ref26_Check_v _) H rfl rfl (fun v6 H=>?_);conv=>whnf
  exact fi_ H
 conv=>whnf
 refine tst_c H (fun b7 H=>?_) (fun b7 H=>?_)
 ·conv=>whnf
  iterate 12 (refine Tst.T ?_;conv=>whnf)
  exact fi_ H
 conv=>whnf
 iterate 3 (refine Tst.F ?_;conv=>whnf)
 refine tst_c H (fun b8 H=>?_) (fun b8 H=>?_)
 ·conv=>whnf
  iterate 8 (refine Tst.T ?_;conv=>whnf)
  exact fi_ H
 conv=>whnf
 iterate 3 (refine Tst.F ?_;conv=>whnf)
 refine tst_c H (fun b9 H=>?_) (fun b9 H=>?_)
 ·conv=>whnf
  iterate 4 (refine Tst.T ?_;conv=>whnf)
  exact fi_ H
 conv=>whnf
 iterate 3 (refine Tst.F ?_;conv=>whnf)
 refine tst_c H (fun b10 H=>?_) (fun b10 H=>?_)
 ·conv=>whnf
  exact fi_ H
 conv=>whnf
 exact fi_ H
def gc21:BCode:=(.seq (R_ 1 [O_ 1 (.bx (t_ 0)) 0,O_ 2 (.mv (b_ false)) 1]) (.seq (R_ 0 [O_ 3 (.fa 1 (t_ 1)) 0,O_ 4 (.fa 0 (t_ 3)) 0,O_ 5 (.ld 1 false (t_ 4)) 0,O_ 6 (.mv (t_ 5)) 0,⟨(some 7),.fa 0 (t_ 1),(some (6,false)),0⟩,⟨(some 8),.ld 1 false (t_ 7),(some (6,false)),0⟩,⟨(some 9),.lens (t_ 8),(some (6,false)),0⟩,⟨(some 10),.bin .gtr (t_ 9) (i_ 0),(some (6,false)),0⟩,O_ 11 (.pick (t_ 6) (b_ true) (t_ 10)) 0,O_ 2 (.mv (t_ 11)) 0]) .ret))
theorem gc21_ok:compF Tryz.prog Tryz.f21=some (gc21.er,12,[.tmp 2]):=by unfold gc21;kernel_rfl
theorem p_ref27_Wants_v {u1:Bool} (a0:Ref27State):CallsO Tryz.prog 21 [.agg [.sl (List.map MailEntry.v a0.Mail) u1,.b a0.Snap.On,.b a0.Snap.Begun,.s a0.Snap.After,.i a0.Snap.Told,.i a0.Sent,.i a0.Lost]] V.b (p_ref27_Wants a0):=by
 refine callsO_comp mix Tryz.func21 gc21_ok fun r H=>?_
 rw [p_ref27_Wants] at H
 conv=>whnf
 refine tst_c H (fun b1 H=>?_) (fun b1 H=>?_)
 ·conv=>whnf
  iterate 4 (refine Tst.T ?_;conv=>whnf)
  exact fb_ H
 conv=>whnf
 iterate 2 (refine Tst.F ?_;conv=>whnf)
 refine LenQ.M ?_;conv=>whnf
 iterate 2 (refine Tst.F ?_;conv=>whnf)
 exact fb_ H
def gc93:BCode:=(.seq (R_ 0 [O_ 4 (.mv (b_ false)) 0]) (.seq (R_ 0 [O_ 5 (.mv (t_ 0)) 0,O_ 6 (.cl 91 [(t_ 5)]) 0,O_ 7 (.mv (t_ 6)) 0,⟨(some 8),.mv (t_ 1),(some (7,true)),0⟩,⟨(some 9),.cl 92 [(t_ 8)],(some (7,true)),0⟩,⟨(some 10),.bin .eql (t_ 9) (i_ 0),(some (7,true)),0⟩,O_ 11 (.pick (t_ 7) (t_ 10) (b_ false)) 0,O_ 4 (.mv (t_ 11)) 0]) .ret))
theorem gc93_ok:compF Tryz.prog Tryz.f93=some (gc93.er,12,[.tmp 4]):=by unfold gc93;kernel_rfl
theorem p_ref23_named_v (a0:ByteArray) (a1:ByteArray):CallsO Tryz.prog 93 [.s a0,.s a1] V.b (p_ref23_named a0 a1):=by
 refine callsO_comp mix Tryz.func93 gc93_ok fun r H=>?_
 rw [p_ref23_named] at H
 conv=>whnf
 refine ask_c (p_ref09_IsBare_v _) H rfl rfl (fun v1 H=>?_);conv=>whnf
 refine tst_d H (fun b2 H=>?_) (fun b2 H=>?_)
 ·conv=>whnf
  iterate 3 (refine Tst.F ?_;conv=>whnf)
  exact fb_ H
 conv=>whnf
 refine Tst.T ?_;conv=>whnf
 refine ask_c (p_ref09_Resource_v _) H rfl rfl (fun v3 H=>?_);conv=>whnf
 iterate 2 (refine Tst.T ?_;conv=>whnf)
 exact fb_ H
def gc90:BCode:=(.seq (R_ 0 [O_ 4 (.mv (.const (.string ⟨#[]⟩))) 0]) (.seq (.seq (R_ 0 [O_ 5 (.mv (t_ 0)) 0,O_ 6 (.mv (t_ 1)) 0,O_ 7 (.cl 93 [(t_ 5),(t_ 6)]) 0,O_ 8 (.un .not (t_ 7)) 0]) (.cond (t_ 8) (.seq (R_ 0 [O_ 4 (.mv (.const (.string ⟨#[]⟩))) 0]) .ret) .skip)) (.seq (R_ 0 [O_ 9 (.mv (t_ 0)) 0,O_ 10 (.bin .add (t_ 9) (.const (.string ⟨#[32]⟩))) 0,O_ 11 (.mv (t_ 1)) 0,O_ 12 (.bin .add (t_ 10) (t_ 11)) 0,O_ 4 (.mv (t_ 12)) 0]) .ret)))
theorem gc90_ok:compF Tryz.prog Tryz.f90=some (gc90.er,13,[.tmp 4]):=by unfold gc90;kernel_rfl
theorem p_ref23_Key_v (a0:ByteArray) (a1:ByteArray):CallsO Tryz.prog 90 [.s a0,.s a1] V.s (p_ref23_Key a0 a1):=by
 refine callsO_comp mix Tryz.func90 gc90_ok fun r H=>?_
 rw [p_ref23_Key] at H
 conv=>whnf
 refine ask_c (p_ref23_named_v _ _) H rfl rfl (fun v1 H=>?_);conv=>whnf
 refine Tst.not ?_
 refine tst_d H (fun b2 H=>?_) (fun b2 H=>?_)
 ·conv=>whnf
  exact fin0_c (enc:=V.s) H (.inr rfl) (.cons (.tmp rfl) (.nil)) rfl rfl
 conv=>whnf
 refine cat_c H (fun s3 H=>?_);conv=>whnf
 refine cat_c H (fun s4 H=>?_);conv=>whnf
 exact fin0_c (enc:=V.s) H (.inr rfl) (.cons (.tmp rfl) (.nil)) rfl rfl
def gc116:BCode:=(.seq (R_ 1 [O_ 1 (.bx (t_ 0)) 0,O_ 2 (.mv (.const (.string ⟨#[]⟩))) 1]) (.seq (R_ 0 [O_ 3 (.fa 0 (t_ 1)) 0,O_ 4 (.ld 1 false (t_ 3)) 0,O_ 5 (.fa 1 (t_ 1)) 0,O_ 6 (.ld 1 false (t_ 5)) 0,O_ 7 (.cl 90 [(t_ 4),(t_ 6)]) 0,O_ 2 (.mv (t_ 7)) 0]) .ret))
theorem gc116_ok:compF Tryz.prog Tryz.f116=some (gc116.er,8,[.tmp 2]):=by unfold gc116;kernel_rfl
theorem p_ref24_key_v (a0:BookRow):CallsO Tryz.prog 116 [.agg [.s a0.User,.s a0.Res,.b a0.P.On,.i a0.P.Show,.i a0.P.Prio,.i a0.P.Seq]] V.s (p_ref24_key a0):=by
 refine callsO_comp mix Tryz.func116 gc116_ok fun r H=>?_
 rw [p_ref24_key] at H
 conv=>whnf
 refine ask_c (p_ref23_Key_v _ _) H rfl rfl (fun v1 H=>?_);conv=>whnf
 exact fin0_c (enc:=V.s) H (.inr rfl) (.cons (.tmp rfl) (.nil)) rfl rfl
def gc117:BCode:=(.seq (R_ 1 [O_ 1 (.bx (t_ 0)) 0,O_ 2 (.mv (b_ false)) 1]) (.seq (.seq (R_ 0 [O_ 3 (.mv (i_ 0)) 0]) (.block 0 (.loop (.seq (.seq (R_ 0 [O_ 6 (.mv (t_ 3)) 0,O_ 7 (.fa 1 (t_ 1)) 0,O_ 8 (.ld 1 false (t_ 7)) 0,O_ 9 (.lens (t_ 8)) 0,O_ 10 (.bin .lss (t_ 6) (t_ 9)) 0]) (.cond (t_ 10) .skip (.exit 0))) (.seq (.block 1 (.seq (R_ 1 [O_ 13 (.fa 1 (t_ 1)) 0,O_ 14 (.ld 1 false (t_ 13)) 0,O_ 15 (.mv (t_ 3)) 0,O_ 16 (.ixs 6 (t_ 14) (t_ 15)) 0,O_ 17 (.ld 6 true (t_ 16)) 0,O_ 4 (.al (.agg [(.lit (.string ⟨#[]⟩)),(.lit (.string ⟨#[]⟩)),(.lit (.bool false)),(.lit (.int .i64 0)),(.lit (.int .i64 0)),(.lit (.int .i64 0))])) 0,U_ (.st 6 (t_ 4) (t_ 17)) 1]) (.seq (.seq (.reg 0 [O_ 18 (.fa 2 (t_ 4)) 0,O_ 19 (.fa 3 (t_ 18)) 0,O_ 20 (.ld 1 false (t_ 19)) 0,O_ 21 (.bin .lss (t_ 20) (i_ 1)) 0,O_ 22 (.mv (t_ 21)) 0,⟨(some 23),.fa 2 (t_ 4),(some (22,false)),0⟩,⟨(some 24),.fa 3 (t_ 23),(some (22,false)),0⟩,⟨(some 25),.ld 1 false (t_ 24),(some (22,false)),0⟩,⟨(some 26),.fa 0 (t_ 1),(some (22,false)),0⟩,⟨(some 27),.ld 1 false (t_ 26),(some (22,false)),0⟩,⟨(some 28),.bin .gtr (t_ 25) (t_ 27),(some (22,false)),0⟩,O_ 29 (.pick (t_ 22) (b_ true) (t_ 28)) 0,O_ 30 (.mv (t_ 29)) 0,⟨(some 31),.mv (t_ 3),(some (30,false)),0⟩,⟨(some 32),.bin .gtr (t_ 31) (i_ 0),(some (30,false)),0⟩,⟨(some 33),.mv (t_ 32),(some (30,false)),0⟩,⟨(some 34),.fa 1 (t_ 1),(some (33,true)),0⟩,⟨(some 35),.ld 1 false (t_ 34),(some (33,true)),0⟩,⟨(some 36),.mv (t_ 3),(some (33,true)),0⟩,⟨(some 37),.bin .sub (t_ 36) (i_ 1),(some (33,true)),0⟩,⟨(some 38),.ixs 6 (t_ 35) (t_ 37),(some (33,true)),0⟩,⟨(some 39),.ld 6 true (t_ 38),(some (33,true)),0⟩,⟨(some 40),.cl 116 [(t_ 39)],(some (33,true)),0⟩,⟨(some 41),.ld 6 true (t_ 4),(some (33,true)),0⟩,⟨(some 42),.cl 116 [(t_ 41)],(some (33,true)),0⟩,⟨(some 43),.bin .geq (t_ 40) (t_ 42),(some (33,true)),0⟩,⟨(some 44),.pick (t_ 33) (t_ 43) (b_ false),(some (30,false)),0⟩,O_ 45 (.pick (t_ 30) (b_ true) (t_ 44)) 0] (some [[],[0],[0,1],[1,0,2],[2,0,1,3],[3,1,0,2,4],[4,2,0,1,3,5],[5,3,1,0,2,4,6],[3,1,0,2,4],[4,2,0,1,3,8],[8,9,6,4,2,0,1,3,5,7],[7,5,6,9,8,10,3,1,0,2,4],[4,2,0,1,3,10,8,9,6,5,7,11],[11,7,5,6,9,8,10,3,1,0,2,4,12],[12,4,2,0,1,3,10,8,9,6,5,7,11,13],[13,11,7,5,6,9,8,10,3,1,0,2,4,12,14],[14,12,4,2,0,1,3,10,8,9,6,5,7,11,13,15],[15,13,11,7,5,6,9,8,10,3,1,0,2,4,12,14,16],[14,12,4,2,0,1,3,10,8,9,6,5,7,11,13,15],[15,13,11,7,5,6,9,8,10,3,1,0,2,4,12,14,18],[18,19,16,14,12,4,2,0,1,3,10,8,9,6,5,7,11,13,15,17],[17,15,13,11,7,5,6,9,8,10,3,1,0,2,4,12,14,16,19,18,20],[20,18,19,16,14,12,4,2,0,1,3,10,8,9,6,5,7,11,13,15,17,21],[14,12,4,2,0,1,3,10,8,9,6,5,7,11,13,15],[21,17,16,19,18,20,22,15,13,11,7,5,6,9,8,10,3,1,0,2,4,12,14,23],[23,24,21,17,15,13,11,7,5,6,9,8,10,3,1,0,2,4,12,14,16,19,18,20,22],[22,20,18,19,16,17,21,24,23,25,14,12,4,2,0,1,3,10,8,9,6,5,7,11,13,15],[15,13,14,25,23,24,21,17,16,19,18,20,22,26,11,7,5,6,9,8,10,3,1,0,2,4,12]]) 0 []) (.cond (t_ 45) (.seq (R_ 0 [O_ 2 (.mv (b_ false)) 0]) .ret) .skip)) (.seq (R_ 0 [O_ 5 (.mv (i_ 0)) 0]) (.block 2 (.loop (.seq (.seq (R_ 0 [O_ 46 (.mv (t_ 5)) 0,O_ 47 (.mv (t_ 3)) 0,O_ 48 (.bin .lss (t_ 46) (t_ 47)) 0]) (.cond (t_ 48) .skip (.exit 2))) (.seq (.block 3 (.seq (.reg 0 [O_ 51 (.fa 1 (t_ 1)) 0,O_ 52 (.ld 1 false (t_ 51)) 0,O_ 53 (.mv (t_ 5)) 0,O_ 54 (.ixs 6 (t_ 52) (t_ 53)) 0,O_ 55 (.fa 2 (t_ 54)) 0,O_ 56 (.fa 3 (t_ 55)) 0,O_ 57 (.ld 1 false (t_ 56)) 0,O_ 58 (.fa 2 (t_ 4)) 0,O_ 59 (.fa 3 (t_ 58)) 0,O_ 60 (.ld 1 false (t_ 59)) 0,O_ 61 (.bin .eql (t_ 57) (t_ 60)) 0] (some [[],[0],[],[2,0,1],[1,0,2,3],[3,2,0,1,4],[4,1,0,2,3,5],[],[7],[7,8],[8,7,9,5,3,2,0,1,4,6]]) 0 []) (.cond (t_ 61) (.seq (R_ 0 [O_ 2 (.mv (b_ false)) 0]) .ret) .skip))) (R_ 0 [O_ 49 (.mv (t_ 5)) 0,O_ 50 (.bin .add (t_ 49) (i_ 1)) 0,O_ 5 (.mv (t_ 50)) 0]))))))))) (R_ 0 [O_ 11 (.mv (t_ 3)) 0,O_ 12 (.bin .add (t_ 11) (i_ 1)) 0,O_ 3 (.mv (t_ 12)) 0])))))) (.seq (R_ 0 [O_ 2 (.mv (b_ true)) 0]) .ret)))
theorem gc117_ok:compF Tryz.prog Tryz.f117=some (gc117.er,62,[.tmp 2]):=by unfold gc117;kernel_rfl
theorem p_ref24_ordered_v {u1:Bool} (a0:BookState):CallsO Tryz.prog 117 [.agg [.i a0.Seq,.sl (List.map BookRow.v a0.Rows) u1]] V.b (p_ref24_ordered a0):=by
 refine callsO_comp mix Tryz.func117 gc117_ok fun r H=>?_
 rw [p_ref24_ordered] at H
 conv=>whnf
 obtain ⟨o2,HL3,HQ4⟩:=bind_c H
 refine loop_c [2,3] [4,5,6,7,8,9,10,11,12,13,14,15,16,17,18,19,20,21,22,23,24,25,26,27,28,29,30,31,32,33,34,35,36,37,38,39,40,41,42,43,44,45,46,47,48,49,50,51,52,53,54,55,56,57,58,59,60,61] [4,5,6,7,8,9,10,11,12,13,14,15,16,17,18,19,20,21,22,23,24,25,26,27,28,29,30,31,32,33,34,35,36,37,38,39,40,41,42,43,44,45,46,47,48,49,50,51,52,53,54,55,56,57,58,59,60,61] (fun n vals st=>(∃ y6,p_ref24_ordered_l1  a0 n y6=some o2∧vals=[.b false,.i y6]∧st=[.live [.i a0.Seq,.sl (List.map BookRow.v a0.Rows) u1] 0])) fuel 1 [] (⟨_,HL3,rfl,rfl⟩) (Nat.zero_le _) rfl (by kernel_rfl) (by kernel_rfl) rfl ⟨⟨rfl,rfl,rfl⟩,trivial⟩ ?_
 rintro (_ | n5) _ _ (⟨y6,H,rfl,rfl⟩)
 ·rw [p_ref24_ordered_l1] at H;cases H
 rw [p_ref24_ordered_l1] at H
 conv=>whnf
 refine LenQ.M ?_;conv=>whnf
 refine tst_d H (fun b7 H=>?_) (fun b7 H=>?_)
 ·conv=>whnf
  obtain rfl:=Option.some.inj H
  have H:=HQ4
  try dsimp only at H
  exact fb_ H
 conv=>whnf
 refine ixs_c (f:=BookRow.v) H (fun _=>rfl) (fun x8 H=>?_);conv=>whnf
 refine lq_ ?_;conv=>whnf
 refine tst_c H (fun b9 H=>?_) (fun b9 H=>?_)
 ·conv=>whnf
  iterate 11 (refine Tst.T ?_;conv=>whnf)
  refine FootQ.mk ⟨rfl,?_⟩;conv=>whnf
  refine Tst.T ?_;conv=>whnf
  obtain rfl:=Option.some.inj H
  have H:=HQ4
  try dsimp only at H
  exact fb_ H
 conv=>whnf
 iterate 6 (refine Tst.F ?_;conv=>whnf)
 refine tst_c H (fun b10 H=>?_) (fun b10 H=>?_)
 ·conv=>whnf
  iterate 4 (refine Tst.T ?_;conv=>whnf)
  refine FootQ.mk ⟨rfl,?_⟩;conv=>whnf
  refine Tst.T ?_;conv=>whnf
  obtain rfl:=Option.some.inj H
  have H:=HQ4
  try dsimp only at H
  exact fb_ H
 conv=>whnf
 iterate 2 (refine Tst.F ?_;conv=>whnf)
 refine tst_d H (fun b11 H=>?_) (fun b11 H=>?_)
 ·conv=>whnf
  iterate 12 (refine Tst.F ?_;conv=>whnf)
  refine FootQ.mk ⟨rfl,?_⟩;conv=>whnf
  refine Tst.F ?_;conv=>whnf
  obtain ⟨o26,HL27,HQ28⟩:=bind_c H
  refine loop_c [2,5] [46,47,48,49,50,51,52,53,54,55,56,57,58,59,60,61,7,13,18,19,23,24,26] [46,47,48,49,50,51,52,53,54,55,56,57,58,59,60,61,7,13,18,19,23,24,26] (fun n vals st=>(∃ y30,p_ref24_ordered_l2  y6 a0 x8 n y30=some o26∧vals=[.b false,.i y30]∧st=[.live [.i a0.Seq,.sl (List.map BookRow.v a0.Rows) u1] 0,.live [.s x8.User,.s x8.Res,.b x8.P.On,.i x8.P.Show,.i x8.P.Prio,.i x8.P.Seq] 0])) fuel 2 [] (⟨_,HL27,rfl,rfl⟩) (Nat.zero_le _) rfl (by kernel_rfl) (by kernel_rfl) rfl ⟨⟨rfl,rfl,rfl⟩,⟨⟨rfl,rfl,rfl⟩,trivial⟩⟩ ?_
  rintro (_ | n29) _ _ (⟨y30,H,rfl,rfl⟩)
  ·rw [p_ref24_ordered_l2] at H;cases H
  rw [p_ref24_ordered_l2] at H
  conv=>whnf
  refine tst_d H (fun b31 H=>?_) (fun b31 H=>?_)
  ·conv=>whnf
   obtain rfl:=Option.some.inj H
   have H:=HQ28
   try dsimp only at H
   refine Ari.w ?_;conv=>whnf
   exact again_c [4,5,6,7,8,9,10,11,12,13,14,15,16,17,18,19,20,21,22,23,24,25,26,27,28,29,30,31,32,33,34,35,36,37,38,39,40,41,42,43,44,45,46,47,48,49,50,51,52,53,54,55,56,57,58,59,60,61] n5 1 [] (⟨_,H,rfl,rfl⟩) (Nat.lt_succ_self _) (Nat.zero_le _) rfl (by kernel_rfl) (by kernel_rfl) rfl ⟨⟨rfl,rfl,rfl⟩,trivial⟩
  conv=>whnf
  refine ixs_c (f:=BookRow.v) H (fun _=>rfl) (fun x32 H=>?_);conv=>whnf
  refine lq_ ?_;conv=>whnf
  refine lq_ ?_;conv=>whnf
  refine FootQ.mk ⟨rfl,?_⟩;conv=>whnf
  refine tst_c H (fun b33 H=>?_) (fun b33 H=>?_)
  ·conv=>whnf
   obtain rfl:=Option.some.inj H
   have H:=HQ28
   try dsimp only at H
   obtain rfl:=Option.some.inj H
   have H:=HQ4
   try dsimp only at H
   exact fb_ H
  conv=>whnf
  refine Ari.w ?_;conv=>whnf
  exact again_c [46,47,48,49,50,51,52,53,54,55,56,57,58,59,60,61,7,13,18,19,23,24,26] n29 2 [] (⟨_,H,rfl,rfl⟩) (Nat.lt_succ_self _) (Nat.zero_le _) rfl (by kernel_rfl) (by kernel_rfl) rfl ⟨⟨rfl,rfl,rfl⟩,⟨⟨rfl,rfl,rfl⟩,trivial⟩⟩
 conv=>whnf
 iterate 3 (refine Tst.T ?_;conv=>whnf)
 refine Ari.w ?_;conv=>whnf
 refine Tst.T ?_;conv=>whnf
 refine ixs_c (f:=BookRow.v) H (fun _=>rfl) (fun x12 H=>?_);conv=>whnf
 iterate 2 (refine Tst.T ?_;conv=>whnf)
 refine ask_c (p_ref24_key_v _) H rfl rfl (fun v13 H=>?_);conv=>whnf
 iterate 2 (refine Tst.T ?_;conv=>whnf)
 refine ask_c (p_ref24_key_v _) H rfl rfl (fun v14 H=>?_);conv=>whnf
 refine Tst.T ?_;conv=>whnf
 refine Tst.F ?_;conv=>whnf
 refine Tst.T ?_;conv=>whnf
 refine Tst.F ?_;conv=>whnf
 refine FootQ.mk ⟨rfl,?_⟩;conv=>whnf
 refine Tst.not ?_
 refine tst_d H (fun b15 H=>?_) (fun b15 H=>?_)
 ·conv=>whnf
  obtain rfl:=Option.some.inj H
  have H:=HQ4
  try dsimp only at H
  exact fb_ H
 conv=>whnf
 obtain ⟨o17,HL18,HQ19⟩:=bind_c H
 refine loop_c [2,5] [46,47,48,49,50,51,52,53,54,55,56,57,58,59,60,61,7,13,18,19,23,24,26,34] [46,47,48,49,50,51,52,53,54,55,56,57,58,59,60,61,7,13,18,19,23,24,26,34] (fun n vals st=>(∃ y21,p_ref24_ordered_l2  y6 a0 x8 n y21=some o17∧vals=[.b false,.i y21]∧st=[.live [.i a0.Seq,.sl (List.map BookRow.v a0.Rows) u1] 0,.live [.s x8.User,.s x8.Res,.b x8.P.On,.i x8.P.Show,.i x8.P.Prio,.i x8.P.Seq] 0])) fuel 2 [] (⟨_,HL18,rfl,rfl⟩) (Nat.zero_le _) rfl (by kernel_rfl) (by kernel_rfl) rfl ⟨⟨rfl,rfl,rfl⟩,⟨⟨rfl,rfl,rfl⟩,trivial⟩⟩ ?_
 rintro (_ | n20) _ _ (⟨y21,H,rfl,rfl⟩)
 ·rw [p_ref24_ordered_l2] at H;cases H
 rw [p_ref24_ordered_l2] at H
 conv=>whnf
 refine tst_d H (fun b22 H=>?_) (fun b22 H=>?_)
 ·conv=>whnf
  obtain rfl:=Option.some.inj H
  have H:=HQ19
  try dsimp only at H
  refine Ari.w ?_;conv=>whnf
  exact again_c [4,5,6,7,8,9,10,11,12,13,14,15,16,17,18,19,20,21,22,23,24,25,26,27,28,29,30,31,32,33,34,35,36,37,38,39,40,41,42,43,44,45,46,47,48,49,50,51,52,53,54,55,56,57,58,59,60,61] n5 1 [] (⟨_,H,rfl,rfl⟩) (Nat.lt_succ_self _) (Nat.zero_le _) rfl (by kernel_rfl) (by kernel_rfl) rfl ⟨⟨rfl,rfl,rfl⟩,trivial⟩
 conv=>whnf
 refine ixs_c (f:=BookRow.v) H (fun _=>rfl) (fun x23 H=>?_);conv=>whnf
 refine lq_ ?_;conv=>whnf
 refine lq_ ?_;conv=>whnf
 refine FootQ.mk ⟨rfl,?_⟩;conv=>whnf
 refine tst_c H (fun b24 H=>?_) (fun b24 H=>?_)
 ·conv=>whnf
  obtain rfl:=Option.some.inj H
  have H:=HQ19
  try dsimp only at H
  obtain rfl:=Option.some.inj H
  have H:=HQ4
  try dsimp only at H
  exact fb_ H
 conv=>whnf
 refine Ari.w ?_;conv=>whnf
 exact again_c [46,47,48,49,50,51,52,53,54,55,56,57,58,59,60,61,7,13,18,19,23,24,26,34] n20 2 [] (⟨_,H,rfl,rfl⟩) (Nat.lt_succ_self _) (Nat.zero_le _) rfl (by kernel_rfl) (by kernel_rfl) rfl ⟨⟨rfl,rfl,rfl⟩,⟨⟨rfl,rfl,rfl⟩,trivial⟩⟩
def gc118:BCode:=(.seq (R_ 1 [O_ 2 (.bx (t_ 0)) 0,O_ 4 (.mv (i_ 0)) 1]) (.seq (R_ 0 [O_ 5 (.mv (i_ 0)) 0]) (.seq (.seq (R_ 0 [O_ 6 (.mv (i_ 0)) 0]) (.block 0 (.loop (.seq (.seq (R_ 0 [O_ 7 (.mv (t_ 6)) 0,O_ 8 (.fa 1 (t_ 2)) 0,O_ 9 (.ld 1 false (t_ 8)) 0,O_ 10 (.lens (t_ 9)) 0,O_ 11 (.bin .lss (t_ 7) (t_ 10)) 0]) (.cond (t_ 11) .skip (.exit 0))) (.seq (.block 1 (.seq (R_ 0 [O_ 14 (.fa 1 (t_ 2)) 0,O_ 15 (.ld 1 false (t_ 14)) 0,O_ 16 (.mv (t_ 6)) 0,O_ 17 (.ixs 6 (t_ 15) (t_ 16)) 0,O_ 18 (.fa 0 (t_ 17)) 0,O_ 19 (.ld 1 false (t_ 18)) 0,O_ 20 (.mv (t_ 1)) 0,O_ 21 (.bin .eql (t_ 19) (t_ 20)) 0]) (.cond (t_ 21) (R_ 0 [O_ 22 (.mv (t_ 5)) 0,O_ 23 (.bin .add (t_ 22) (i_ 1)) 0,O_ 5 (.mv (t_ 23)) 0]) .skip))) (R_ 0 [O_ 12 (.mv (t_ 6)) 0,O_ 13 (.bin .add (t_ 12) (i_ 1)) 0,O_ 6 (.mv (t_ 13)) 0])))))) (.seq (R_ 0 [O_ 24 (.mv (t_ 5)) 0,O_ 4 (.mv (t_ 24)) 0]) .ret))))
theorem gc118_ok:compF Tryz.prog Tryz.f118=some (gc118.er,25,[.tmp 4]):=by unfold gc118;kernel_rfl
theorem p_ref24_many_v {u1:Bool} (a0:BookState) (a1:ByteArray):CallsO Tryz.prog 118 [.agg [.i a0.Seq,.sl (List.map BookRow.v a0.Rows) u1],.s a1] V.i (p_ref24_many a0 a1):=by
 refine callsO_comp mix Tryz.func118 gc118_ok fun r H=>?_
 rw [p_ref24_many] at H
 conv=>whnf
 obtain ⟨o2,HL3,HQ4⟩:=bind_c H
 refine loop_c [5,6] [7,8,9,10,11,12,13,14,15,16,17,18,19,20,21,22,23] [7,8,9,10,11,12,13,14,15,16,17,18,19,20,21,22,23] (fun n vals st=>(∃ y6 y7,p_ref24_many_l1  a1 a0 n y6 y7=some o2∧vals=[.i y6,.i y7]∧st=[.live [.i a0.Seq,.sl (List.map BookRow.v a0.Rows) u1] 0])) fuel 1 [] (⟨_,_,HL3,rfl,rfl⟩) (Nat.zero_le _) rfl (by kernel_rfl) (by kernel_rfl) rfl ⟨⟨rfl,rfl,rfl⟩,trivial⟩ ?_
 rintro (_ | n5) _ _ (⟨y6,y7,H,rfl,rfl⟩)
 ·rw [p_ref24_many_l1] at H;cases H
 rw [p_ref24_many_l1] at H
 conv=>whnf
 refine LenQ.M ?_;conv=>whnf
 refine tst_d H (fun b8 H=>?_) (fun b8 H=>?_)
 ·conv=>whnf
  obtain rfl:=Option.some.inj H
  have H:=HQ4
  try dsimp only at H
  exact fi_ H
 conv=>whnf
 refine ixs_c (f:=BookRow.v) H (fun _=>rfl) (fun x9 H=>?_);conv=>whnf
 refine lq_ ?_;conv=>whnf
 refine tst_d H (fun b10 H=>?_) (fun b10 H=>?_)
 ·conv=>whnf
  refine Ari.w ?_;conv=>whnf
  exact again_c [7,8,9,10,11,12,13,14,15,16,17,18,19,20,21,22,23] n5 1 [] (⟨_,_,H,rfl,rfl⟩) (Nat.lt_succ_self _) (Nat.zero_le _) rfl (by kernel_rfl) (by kernel_rfl) rfl ⟨⟨rfl,rfl,rfl⟩,trivial⟩
 conv=>whnf
 iterate 2 (refine Ari.w ?_;conv=>whnf)
 exact again_c [7,8,9,10,11,12,13,14,15,16,17,18,19,20,21,22,23] n5 1 [] (⟨_,_,H,rfl,rfl⟩) (Nat.lt_succ_self _) (Nat.zero_le _) rfl (by kernel_rfl) (by kernel_rfl) rfl ⟨⟨rfl,rfl,rfl⟩,trivial⟩
end Go.Proofs.YtdoakplhalonfaaGreat

