/- A part of the proof: 6 texts joined. -/
import Derived.Test.YtpkodpcfafipdaaGreatDoorSuA18
import Derived.Test.YtpkodpcfafipdaaGreatDoorSuA17
import Derived.Test.YtpkodpcfafipdaaGreatDoorSuA12
import Derived.KernelRfl
import Derived.Test.YtpkodpcfafipdaaGreatDoorSuA19
set_option linter.all false
namespace Go.Proofs.YtpkodpcfafipdaaGreatDoor
open Go.RowKit
set_option maxRecDepth 100000
set_option maxHeartbeats 4000000
def gc39:BCode:=(.seq (R_ 1 [O_ 2 (.al (.agg [(.lit (.string ⟨#[]⟩)),(.lit (.int .i64 0)),(.lit (.int .i64 0))])) 0]) (.seq (R_ 0 [O_ 3 (.mv (t_ 0)) 0,O_ 4 (.bd [(.lit (.string ⟨#[]⟩)),(.lit (.int .i64 0)),(.lit (.int .i64 0))] [(0,1,(t_ 3))]) 0,U_ (.st 3 (t_ 2) (t_ 4)) 0]) .ret))
theorem gc39_ok:compF Tryz.prog Tryz.f39=some (gc39.er,5,[.cell 2 3 true]):=by unfold gc39;kernel_rfl
theorem p_octet_Open_v (a0:ByteArray):CallsO Tryz.prog 39 [.s a0] OctetRead.v (p_octet_Open a0):=by
 refine callsO_comp mix Tryz.func39 gc39_ok fun r H=>?_
 rw [p_octet_Open] at H
 conv=>whnf
 refine lq_ ?_;conv=>whnf
 exact fin0_c (enc:=OctetRead.v) H (.inr rfl) (.cons (.cell rfl rfl (Nat.le_of_ble_eq_true rfl)) (.nil)) rfl rfl
def gc52:BCode:=(.seq (R_ 1 [O_ 1 (.bx (t_ 0)) 0,O_ 2 (.mv (i_ 0)) 1]) (.seq (.seq (R_ 0 [O_ 3 (.fa 2 (t_ 1)) 0,O_ 4 (.ld 1 false (t_ 3)) 0,O_ 5 (.bin .eql (t_ 4) (i_ 0)) 0,O_ 6 (.mv (t_ 5)) 0,⟨(some 7),.fa 1 (t_ 1),(some (6,true)),0⟩,⟨(some 8),.ld 1 false (t_ 7),(some (6,true)),0⟩,⟨(some 9),.bin .lss (t_ 8) (i_ 0),(some (6,true)),0⟩,⟨(some 10),.mv (t_ 9),(some (6,true)),0⟩,⟨(some 11),.fa 1 (t_ 1),(some (10,false)),0⟩,⟨(some 12),.ld 1 false (t_ 11),(some (10,false)),0⟩,⟨(some 13),.fa 0 (t_ 1),(some (10,false)),0⟩,⟨(some 14),.ld 1 false (t_ 13),(some (10,false)),0⟩,⟨(some 15),.lent (t_ 14),(some (10,false)),0⟩,⟨(some 16),.bin .gtr (t_ 12) (t_ 15),(some (10,false)),0⟩,⟨(some 17),.pick (t_ 10) (b_ true) (t_ 16),(some (6,true)),0⟩,O_ 18 (.pick (t_ 6) (t_ 17) (b_ false)) 0]) (.cond (t_ 18) (.seq (R_ 0 [O_ 2 (.mv (i_ 2)) 0]) .ret) .skip)) (.seq (R_ 0 [O_ 19 (.fa 2 (t_ 1)) 0,O_ 20 (.ld 1 false (t_ 19)) 0,O_ 2 (.mv (t_ 20)) 0]) .ret)))
theorem gc52_ok:compF Tryz.prog Tryz.f52=some (gc52.er,21,[.tmp 2]):=by unfold gc52;kernel_rfl
theorem p_octet_Read_fault_v (a0:OctetRead):CallsO Tryz.prog 52 [.agg [.s a0.S,.i a0.At,.i a0.Bad]] V.i (p_octet_Read_fault a0):=by
 refine callsO_comp mix Tryz.func52 gc52_ok fun r H=>?_
 rw [p_octet_Read_fault] at H
 conv=>whnf
 refine tst_d H (fun b1 H=>?_) (fun b1 H=>?_)
 ·conv=>whnf
  iterate 6 (refine Tst.F ?_;conv=>whnf)
  exact fi_ H
 conv=>whnf
 iterate 3 (refine Tst.T ?_;conv=>whnf)
 refine tst_c H (fun b2 H=>?_) (fun b2 H=>?_)
 ·conv=>whnf
  iterate 9 (refine Tst.T ?_;conv=>whnf)
  exact fi_ H
 conv=>whnf
 iterate 5 (refine Tst.F ?_;conv=>whnf)
 refine Tst.T ?_;conv=>whnf
 refine Tst.F ?_;conv=>whnf
 refine Tst.T ?_;conv=>whnf
 refine tst_c H (fun b3 H=>?_) (fun b3 H=>?_)
 ·conv=>whnf
  exact fi_ H
 conv=>whnf
 exact fi_ H
def gc53:BCode:=(.seq (R_ 2 [O_ 2 (.bx (t_ 0)) 0,O_ 4 (.al (.agg [(.lit (.string ⟨#[]⟩)),(.lit (.int .i64 0)),(.lit (.int .i64 0))])) 1]) (.seq (R_ 0 [O_ 5 (.mv (t_ 1)) 0,O_ 6 (.fa 2 (t_ 2)) 0,U_ (.st 1 (t_ 6) (t_ 5)) 0]) (.seq (R_ 0 [O_ 7 (.ld 3 true (t_ 2)) 0,U_ (.st 3 (t_ 4) (t_ 7)) 0]) .ret)))
theorem gc53_ok:compF Tryz.prog Tryz.f53=some (gc53.er,8,[.cell 4 3 true]):=by unfold gc53;kernel_rfl
theorem p_octet_Read_fail_v (a0:OctetRead) (a1:Int):CallsO Tryz.prog 53 [.agg [.s a0.S,.i a0.At,.i a0.Bad],.i a1] OctetRead.v (p_octet_Read_fail a0 a1):=by
 refine callsO_comp mix Tryz.func53 gc53_ok fun r H=>?_
 rw [p_octet_Read_fail] at H
 conv=>whnf
 refine lq_ ?_;conv=>whnf
 refine lq_ ?_;conv=>whnf
 exact fin0_c (enc:=OctetRead.v) H (.inr rfl) (.cons (.cell rfl rfl (Nat.le_of_ble_eq_true rfl)) (.nil)) rfl rfl
def gc54:BCode:=(.seq (R_ 1 [O_ 1 (.bx (t_ 0)) 0,O_ 2 (.mv (i_ 0)) 1]) (.seq (.seq (R_ 0 [O_ 3 (.ld 3 true (t_ 1)) 0,O_ 4 (.cl 52 [(t_ 3)]) 0,O_ 5 (.bin .neq (t_ 4) (i_ 0)) 0]) (.cond (t_ 5) (.seq (R_ 0 [O_ 2 (.mv (i_ 0)) 0]) .ret) .skip)) (.seq (R_ 0 [O_ 6 (.fa 0 (t_ 1)) 0,O_ 7 (.ld 1 false (t_ 6)) 0,O_ 8 (.lent (t_ 7)) 0,O_ 9 (.fa 1 (t_ 1)) 0,O_ 10 (.ld 1 false (t_ 9)) 0,O_ 11 (.bin .sub (t_ 8) (t_ 10)) 0,O_ 2 (.mv (t_ 11)) 0]) .ret)))
theorem gc54_ok:compF Tryz.prog Tryz.f54=some (gc54.er,12,[.tmp 2]):=by unfold gc54;kernel_rfl
theorem p_octet_Left_v (a0:OctetRead):CallsO Tryz.prog 54 [.agg [.s a0.S,.i a0.At,.i a0.Bad]] V.i (p_octet_Left a0):=by
 refine callsO_comp mix Tryz.func54 gc54_ok fun r H=>?_
 rw [p_octet_Left] at H
 conv=>whnf
 refine ask_c (p_octet_Read_fault_v _) H rfl rfl (fun v1 H=>?_);conv=>whnf
 refine tst_c H (fun b2 H=>?_) (fun b2 H=>?_)
 ·conv=>whnf
  exact fi_ H
 conv=>whnf
 refine Ari.w ?_;conv=>whnf
 exact fi_ H
def gc40:BCode:=(.seq (R_ 2 [O_ 2 (.bx (t_ 0)) 0,O_ 4 (.al (.agg [(.lit (.string ⟨#[]⟩)),(.lit (.int .i64 0)),(.lit (.int .i64 0))])) 1,O_ 5 (.mv (i_ 0)) 2]) (.seq (.seq (R_ 0 [O_ 10 (.ld 3 true (t_ 2)) 0,O_ 11 (.cl 52 [(t_ 10)]) 0,O_ 6 (.mv (t_ 11)) 0]) (.seq (R_ 0 [O_ 12 (.mv (t_ 6)) 0,O_ 13 (.bin .neq (t_ 12) (i_ 0)) 0]) (.cond (t_ 13) (.seq (R_ 0 [O_ 14 (.ld 3 true (t_ 2)) 0,O_ 15 (.mv (t_ 6)) 0,O_ 16 (.cl 53 [(t_ 14),(t_ 15)]) 0,U_ (.st 3 (t_ 4) (t_ 16)) 0,O_ 5 (.mv (i_ 0)) 0]) .ret) .skip))) (.seq (.seq (R_ 0 [O_ 17 (.mv (t_ 1)) 0,O_ 18 (.cl 42 [(t_ 17)]) 0,O_ 19 (.un .not (t_ 18)) 0]) (.cond (t_ 19) (.seq (R_ 0 [O_ 20 (.ld 3 true (t_ 2)) 0,O_ 21 (.cl 53 [(t_ 20),(i_ 2)]) 0,U_ (.st 3 (t_ 4) (t_ 21)) 0,O_ 5 (.mv (i_ 0)) 0]) .ret) .skip)) (.seq (.seq (R_ 0 [O_ 22 (.ld 3 true (t_ 2)) 0,O_ 23 (.cl 54 [(t_ 22)]) 0,O_ 24 (.mv (t_ 1)) 0,O_ 25 (.bin .lss (t_ 23) (t_ 24)) 0]) (.cond (t_ 25) (.seq (R_ 0 [O_ 26 (.ld 3 true (t_ 2)) 0,O_ 27 (.cl 53 [(t_ 26),(i_ 3)]) 0,U_ (.st 3 (t_ 4) (t_ 27)) 0,O_ 5 (.mv (i_ 0)) 0]) .ret) .skip)) (.seq (R_ 0 [O_ 7 (.mv (i_ 0)) 0]) (.seq (.seq (R_ 1 [O_ 28 (.fa 0 (t_ 2)) 0,O_ 29 (.ld 1 false (t_ 28)) 0,O_ 30 (.fa 1 (t_ 2)) 0,O_ 31 (.ld 1 false (t_ 30)) 0,O_ 32 (.fa 1 (t_ 2)) 0,O_ 33 (.ld 1 false (t_ 32)) 0,O_ 34 (.mv (t_ 1)) 0,O_ 35 (.bin .add (t_ 33) (t_ 34)) 0,O_ 36 (.slt (t_ 29) (some (t_ 31)) (some (t_ 35))) 0,O_ 37 (.s2b (t_ 36)) 0,O_ 38 (.lens (t_ 37)) 1,O_ 39 (.mv (i_ 0)) 1]) (.block 0 (.loop (.seq (R_ 0 [O_ 40 (.bin .lss (t_ 39) (t_ 38)) 0]) (.seq (.cond (t_ 40) .skip (.exit 0)) (.seq (.block 1 (.seq (R_ 0 [O_ 41 (.ixs 1 (t_ 37) (t_ 39)) 0,O_ 42 (.ld 1 false (t_ 41)) 0,O_ 9 (.mv (t_ 42)) 0]) (R_ 0 [O_ 43 (.mv (t_ 7)) 0,O_ 44 (.bin .shl (t_ 43) (.const (.int .u64 8))) 0,O_ 45 (.mv (t_ 9)) 0,O_ 46 (.cvi .i64 (t_ 45)) 0,O_ 47 (.bin .or (t_ 44) (t_ 46)) 0,O_ 7 (.mv (t_ 47)) 0]))) (R_ 0 [O_ 48 (.bin .add (t_ 39) (i_ 1)) 0,O_ 39 (.mv (t_ 48)) 0]))))))) (.seq (R_ 0 [O_ 49 (.fa 1 (t_ 2)) 0,O_ 50 (.ld 1 false (t_ 49)) 0,O_ 51 (.mv (t_ 1)) 0,O_ 52 (.bin .add (t_ 50) (t_ 51)) 0,O_ 53 (.fa 1 (t_ 2)) 0,U_ (.st 1 (t_ 53) (t_ 52)) 0]) (.seq (R_ 0 [O_ 54 (.ld 3 true (t_ 2)) 0,O_ 55 (.mv (t_ 7)) 0,U_ (.st 3 (t_ 4) (t_ 54)) 0,O_ 5 (.mv (t_ 55)) 0]) .ret))))))))
theorem gc40_ok:compF Tryz.prog Tryz.f40=some (gc40.er,56,[.cell 4 3 true,.tmp 5]):=by unfold gc40;kernel_rfl
theorem p_octet_Num_v (a0:OctetRead) (a1:Int):CallsO Tryz.prog 40 [.agg [.s a0.S,.i a0.At,.i a0.Bad],.i a1] (fun r:OctetRead × Int=>.tup [OctetRead.v r.1,V.i r.2]) (p_octet_Num a0 a1):=by
 refine callsO_comp mix Tryz.func40 gc40_ok fun r H=>?_
 rw [p_octet_Num] at H
 conv=>whnf
 refine ask_c (p_octet_Read_fault_v _) H rfl rfl (fun v1 H=>?_);conv=>whnf
 refine tst_c H (fun b2 H=>?_) (fun b2 H=>?_)
 ·conv=>whnf
  refine ask_c (p_octet_Read_fail_v _ _) H rfl rfl (fun v3 H=>?_);conv=>whnf
  refine lq_ ?_;conv=>whnf
  exact fin0_c (enc:=(fun r:OctetRead × Int=>.tup [OctetRead.v r.1,V.i r.2])) H (.inr rfl) (.cons (.cell rfl rfl (Nat.le_of_ble_eq_true rfl)) (.cons (.tmp rfl) (.nil))) rfl rfl
 conv=>whnf
 refine ask_c (p_octet_wide_v _) H rfl rfl (fun v4 H=>?_);conv=>whnf
 refine Tst.not ?_
 refine tst_d H (fun b5 H=>?_) (fun b5 H=>?_)
 ·conv=>whnf
  refine ask_c (p_octet_Read_fail_v _ _) H rfl rfl (fun v19 H=>?_);conv=>whnf
  refine lq_ ?_;conv=>whnf
  exact fin0_c (enc:=(fun r:OctetRead × Int=>.tup [OctetRead.v r.1,V.i r.2])) H (.inr rfl) (.cons (.cell rfl rfl (Nat.le_of_ble_eq_true rfl)) (.cons (.tmp rfl) (.nil))) rfl rfl
 conv=>whnf
 refine ask_c (p_octet_Left_v _) H rfl rfl (fun v6 H=>?_);conv=>whnf
 refine tst_c H (fun b7 H=>?_) (fun b7 H=>?_)
 ·conv=>whnf
  refine ask_c (p_octet_Read_fail_v _ _) H rfl rfl (fun v8 H=>?_);conv=>whnf
  refine lq_ ?_;conv=>whnf
  exact fin0_c (enc:=(fun r:OctetRead × Int=>.tup [OctetRead.v r.1,V.i r.2])) H (.inr rfl) (.cons (.cell rfl rfl (Nat.le_of_ble_eq_true rfl)) (.cons (.tmp rfl) (.nil))) rfl rfl
 conv=>whnf
 refine Ari.w ?_;conv=>whnf
 refine slt_c H (fun s9 H=>?_);conv=>whnf
 rw [bytesI_V]
 refine LenQ.M ?_;conv=>whnf
 obtain ⟨o11,HL12,HQ13⟩:=bind_c H
 refine loop_c [7,39] [9,40,41,42,43,44,45,46,47,48,28,30,32] [9,40,41,42,43,44,45,46,47,48,28,30,32] (fun n vals st=>(∃ y15 y16,p_octet_Num_l1  (bytesI s9) ((bytesI s9).length:Int) n y15 y16=some o11∧vals=[.i y15,.i y16]∧st=[.live [.s a0.S,.i a0.At,.i a0.Bad] 0,.live [.s (⟨#[]⟩ : ByteArray),.i (0:Int),.i (0:Int)] 0])) fuel 2 [] (⟨_,_,HL12,rfl,rfl⟩) (Nat.zero_le _) rfl (by kernel_rfl) (by kernel_rfl) rfl ⟨⟨rfl,rfl,rfl⟩,⟨⟨rfl,rfl,rfl⟩,trivial⟩⟩ ?_
 rintro (_ | n14) _ _ (⟨y15,y16,H,rfl,rfl⟩)
 ·rw [p_octet_Num_l1] at H;cases H
 rw [p_octet_Num_l1] at H
 conv=>whnf
 refine tst_d H (fun b17 H=>?_) (fun b17 H=>?_)
 ·conv=>whnf
  obtain rfl:=Option.some.inj H
  have H:=HQ13
  try dsimp only at H
  refine Ari.w ?_;conv=>whnf
  refine lq_ ?_;conv=>whnf
  refine lq_ ?_;conv=>whnf
  exact fin0_c (enc:=(fun r:OctetRead × Int=>.tup [OctetRead.v r.1,V.i r.2])) H (.inr rfl) (.cons (.cell rfl rfl (Nat.le_of_ble_eq_true rfl)) (.cons (.tmp rfl) (.nil))) rfl rfl
 conv=>whnf
 refine ixs_c (f:=V.y8) H (fun _=>rfl) (fun x18 H=>?_);conv=>whnf
 refine Shl.ok (by decide) ?_;conv=>whnf
 iterate 2 (refine Ari.w ?_;conv=>whnf)
 exact again_c [9,40,41,42,43,44,45,46,47,48,28,30,32] n14 2 [] (⟨_,_,H,rfl,rfl⟩) (Nat.lt_succ_self _) (Nat.zero_le _) rfl (by kernel_rfl) (by kernel_rfl) rfl ⟨⟨rfl,rfl,rfl⟩,⟨⟨rfl,rfl,rfl⟩,trivial⟩⟩
def gc41:BCode:=(.seq (R_ 2 [O_ 2 (.bx (t_ 0)) 0,O_ 4 (.al (.agg [(.lit (.string ⟨#[]⟩)),(.lit (.int .i64 0)),(.lit (.int .i64 0))])) 1,O_ 5 (.mv (.const (.string ⟨#[]⟩))) 2]) (.seq (R_ 1 [O_ 10 (.ld 3 true (t_ 2)) 0,O_ 11 (.cl 40 [(t_ 10),(i_ 1)]) 0,O_ 9 (.mv (t_ 11)) 0,O_ 12 (.ex (t_ 9) 0) 0,O_ 13 (.ex (t_ 9) 1) 0,O_ 6 (.al (.agg [(.lit (.string ⟨#[]⟩)),(.lit (.int .i64 0)),(.lit (.int .i64 0))])) 0,U_ (.st 3 (t_ 6) (t_ 12)) 1,O_ 7 (.mv (t_ 13)) 1]) (.seq (.block 0 (.seq (R_ 0 [O_ 15 (.fa 2 (t_ 6)) 0,O_ 16 (.ld 1 false (t_ 15)) 0,O_ 17 (.bin .neq (t_ 16) (i_ 0)) 0,O_ 14 (.mv (t_ 17)) 0]) (.cond (t_ 14) (.seq (R_ 0 [O_ 18 (.ld 3 true (t_ 6)) 0,U_ (.st 3 (t_ 4) (t_ 18)) 0,O_ 5 (.mv (.const (.string ⟨#[]⟩))) 0]) .ret) (.seq (R_ 0 [O_ 20 (.mv (t_ 7)) 0,O_ 21 (.mv (t_ 1)) 0,O_ 22 (.bin .gtr (t_ 20) (t_ 21)) 0,O_ 19 (.mv (t_ 22)) 0]) (.cond (t_ 19) (.seq (R_ 0 [O_ 23 (.ld 3 true (t_ 2)) 0,O_ 24 (.cl 53 [(t_ 23),(i_ 5)]) 0,U_ (.st 3 (t_ 4) (t_ 24)) 0,O_ 5 (.mv (.const (.string ⟨#[]⟩))) 0]) .ret) (.seq (R_ 0 [O_ 26 (.mv (t_ 7)) 0,O_ 27 (.ld 3 true (t_ 6)) 0,O_ 28 (.cl 54 [(t_ 27)]) 0,O_ 29 (.bin .gtr (t_ 26) (t_ 28)) 0,O_ 25 (.mv (t_ 29)) 0]) (.cond (t_ 25) (.seq (R_ 0 [O_ 30 (.ld 3 true (t_ 2)) 0,O_ 31 (.cl 53 [(t_ 30),(i_ 3)]) 0,U_ (.st 3 (t_ 4) (t_ 31)) 0,O_ 5 (.mv (.const (.string ⟨#[]⟩))) 0]) .ret) .skip))))))) (.seq (R_ 0 [O_ 32 (.fa 1 (t_ 6)) 0,O_ 33 (.ld 1 false (t_ 32)) 0,O_ 8 (.mv (t_ 33)) 0]) (.seq (R_ 0 [O_ 34 (.fa 1 (t_ 6)) 0,O_ 35 (.ld 1 false (t_ 34)) 0,O_ 36 (.mv (t_ 7)) 0,O_ 37 (.bin .add (t_ 35) (t_ 36)) 0,O_ 38 (.fa 1 (t_ 6)) 0,U_ (.st 1 (t_ 38) (t_ 37)) 0]) (.seq (.reg 0 [O_ 39 (.ld 3 true (t_ 6)) 0,O_ 40 (.fa 0 (t_ 2)) 0,O_ 41 (.ld 1 false (t_ 40)) 0,O_ 42 (.mv (t_ 8)) 0,O_ 43 (.fa 1 (t_ 6)) 0,O_ 44 (.ld 1 false (t_ 43)) 0,O_ 45 (.slt (t_ 41) (some (t_ 42)) (some (t_ 44))) 0,U_ (.st 3 (t_ 4) (t_ 39)) 0,O_ 5 (.mv (t_ 45)) 0] (some [[],[],[1],[],[],[4],[4,5,3,1,2],[0],[0,7,2,1,3,5,4,6]]) 0 []) .ret))))))
theorem gc41_ok:compF Tryz.prog Tryz.f41=some (gc41.er,46,[.cell 4 3 true,.tmp 5]):=by unfold gc41;kernel_rfl
theorem p_octet_Text_v (a0:OctetRead) (a1:Int):CallsO Tryz.prog 41 [.agg [.s a0.S,.i a0.At,.i a0.Bad],.i a1] (fun r:OctetRead × ByteArray=>.tup [OctetRead.v r.1,V.s r.2]) (p_octet_Text a0 a1):=by
 refine callsO_comp mix Tryz.func41 gc41_ok fun r H=>?_
 rw [p_octet_Text] at H
 conv=>whnf
 refine ask_c (p_octet_Num_v _ _) H rfl rfl (fun v1 H=>?_);conv=>whnf
 refine lq_ ?_;conv=>whnf
 refine tst_c H (fun b2 H=>?_) (fun b2 H=>?_)
 ·conv=>whnf
  refine lq_ ?_;conv=>whnf
  exact fin0_c (enc:=(fun r:OctetRead × ByteArray=>.tup [OctetRead.v r.1,V.s r.2])) H (.inr rfl) (.cons (.cell rfl rfl (Nat.le_of_ble_eq_true rfl)) (.cons (.tmp rfl) (.nil))) rfl rfl
 conv=>whnf
 refine tst_c H (fun b3 H=>?_) (fun b3 H=>?_)
 ·conv=>whnf
  refine ask_c (p_octet_Read_fail_v _ _) H rfl rfl (fun v4 H=>?_);conv=>whnf
  refine lq_ ?_;conv=>whnf
  exact fin0_c (enc:=(fun r:OctetRead × ByteArray=>.tup [OctetRead.v r.1,V.s r.2])) H (.inr rfl) (.cons (.cell rfl rfl (Nat.le_of_ble_eq_true rfl)) (.cons (.tmp rfl) (.nil))) rfl rfl
 conv=>whnf
 refine ask_c (p_octet_Left_v _) H rfl rfl (fun v5 H=>?_);conv=>whnf
 refine tst_c H (fun b6 H=>?_) (fun b6 H=>?_)
 ·conv=>whnf
  refine ask_c (p_octet_Read_fail_v _ _) H rfl rfl (fun v7 H=>?_);conv=>whnf
  refine lq_ ?_;conv=>whnf
  exact fin0_c (enc:=(fun r:OctetRead × ByteArray=>.tup [OctetRead.v r.1,V.s r.2])) H (.inr rfl) (.cons (.cell rfl rfl (Nat.le_of_ble_eq_true rfl)) (.cons (.tmp rfl) (.nil))) rfl rfl
 conv=>whnf
 refine Ari.w ?_;conv=>whnf
 refine lq_ ?_;conv=>whnf
 refine slt_c H (fun s8 H=>?_);conv=>whnf
 refine lq_ ?_;conv=>whnf
 refine FootQ.mk ⟨rfl,?_⟩;conv=>whnf
 exact fin0_c (enc:=(fun r:OctetRead × ByteArray=>.tup [OctetRead.v r.1,V.s r.2])) H (.inr rfl) (.cons (.cell rfl rfl (Nat.le_of_ble_eq_true rfl)) (.cons (.tmp rfl) (.nil))) rfl rfl
end Go.Proofs.YtpkodpcfafipdaaGreatDoor

namespace Go.Proofs.YtpkodpcfafipdaaGreatDoor
open Go.RowKit
set_option maxRecDepth 100000
set_option maxHeartbeats 4000000
def gc19:BCode:=(.seq (R_ 1 [O_ 2 (.al (.agg [(.lit (.int .u8 0)),(.lit (.int .i64 0)),(.lit (.int .i64 0)),(.lit (.string ⟨#[]⟩))])) 0,O_ 3 (.mv (i_ 0)) 1,O_ 4 (.mv (i_ 0)) 1]) (.seq (.seq (R_ 0 [O_ 9 (.mv (t_ 0)) 0,O_ 10 (.bin .eql (t_ 9) (.const (.string ⟨#[]⟩))) 0]) (.cond (t_ 10) (.seq (R_ 0 [O_ 11 (.bd [(.lit (.int .u8 0)),(.lit (.int .i64 0)),(.lit (.int .i64 0)),(.lit (.string ⟨#[]⟩))] []) 0,U_ (.st 4 (t_ 2) (t_ 11)) 0,O_ 3 (.mv (i_ 0)) 0,O_ 4 (.mv (i_ 3)) 0]) .ret) .skip)) (.seq (R_ 1 [O_ 13 (.mv (t_ 0)) 0,O_ 14 (.ixt (t_ 13) (i_ 0)) 0,O_ 15 (.cl 23 [(t_ 14)]) 0,O_ 12 (.mv (t_ 15)) 0,O_ 16 (.ex (t_ 12) 0) 0,O_ 17 (.ex (t_ 12) 1) 0,O_ 5 (.al (.agg [(.lit (.string ⟨#[]⟩)),(.lit (.bool false)),(.lit (.int .i64 0)),(.lit (.bool false))])) 0,U_ (.st 4 (t_ 5) (t_ 16)) 1,O_ 6 (.mv (t_ 17)) 1]) (.seq (.seq (R_ 0 [O_ 18 (.mv (t_ 6)) 0,O_ 19 (.un .not (t_ 18)) 0]) (.cond (t_ 19) (.seq (R_ 0 [O_ 20 (.bd [(.lit (.int .u8 0)),(.lit (.int .i64 0)),(.lit (.int .i64 0)),(.lit (.string ⟨#[]⟩))] []) 0,U_ (.st 4 (t_ 2) (t_ 20)) 0,O_ 3 (.mv (i_ 0)) 0,O_ 4 (.mv (i_ 12)) 0]) .ret) .skip)) (.seq (R_ 1 [O_ 21 (.mv (t_ 0)) 0,O_ 22 (.ixt (t_ 21) (i_ 0)) 0,O_ 23 (.bd [(.lit (.int .u8 0)),(.lit (.int .i64 0)),(.lit (.int .i64 0)),(.lit (.string ⟨#[]⟩))] [(0,1,(t_ 22))]) 0,O_ 7 (.al (.agg [(.lit (.int .u8 0)),(.lit (.int .i64 0)),(.lit (.int .i64 0)),(.lit (.string ⟨#[]⟩))])) 0,U_ (.st 4 (t_ 7) (t_ 23)) 1]) (.seq (R_ 1 [O_ 24 (.mv (t_ 0)) 0,O_ 25 (.slt (t_ 24) (some (i_ 1)) none) 0,O_ 26 (.cl 39 [(t_ 25)]) 0,O_ 8 (.al (.agg [(.lit (.string ⟨#[]⟩)),(.lit (.int .i64 0)),(.lit (.int .i64 0))])) 0,U_ (.st 3 (t_ 8) (t_ 26)) 1]) (.seq (.seq (R_ 0 [O_ 27 (.fa 1 (t_ 5)) 0,O_ 28 (.ld 1 false (t_ 27)) 0]) (.cond (t_ 28) (R_ 0 [O_ 30 (.ld 3 true (t_ 8)) 0,O_ 31 (.cl 40 [(t_ 30),(i_ 1)]) 0,O_ 29 (.mv (t_ 31)) 0,O_ 32 (.ex (t_ 29) 0) 0,O_ 33 (.ex (t_ 29) 1) 0,U_ (.st 3 (t_ 8) (t_ 32)) 0,O_ 34 (.fa 1 (t_ 7)) 0,U_ (.st 1 (t_ 34) (t_ 33)) 0]) .skip)) (.seq (.seq (R_ 0 [O_ 35 (.fa 2 (t_ 5)) 0,O_ 36 (.ld 1 false (t_ 35)) 0,O_ 37 (.bin .gtr (t_ 36) (i_ 0)) 0]) (.cond (t_ 37) (R_ 0 [O_ 39 (.ld 3 true (t_ 8)) 0,O_ 40 (.fa 2 (t_ 5)) 0,O_ 41 (.ld 1 false (t_ 40)) 0,O_ 42 (.cl 40 [(t_ 39),(t_ 41)]) 0,O_ 38 (.mv (t_ 42)) 0,O_ 43 (.ex (t_ 38) 0) 0,O_ 44 (.ex (t_ 38) 1) 0,U_ (.st 3 (t_ 8) (t_ 43)) 0,O_ 45 (.fa 2 (t_ 7)) 0,U_ (.st 1 (t_ 45) (t_ 44)) 0]) .skip)) (.seq (.seq (R_ 0 [O_ 46 (.fa 3 (t_ 5)) 0,O_ 47 (.ld 1 false (t_ 46)) 0]) (.cond (t_ 47) (R_ 0 [O_ 49 (.ld 3 true (t_ 8)) 0,O_ 50 (.cl 41 [(t_ 49),(i_ 255)]) 0,O_ 48 (.mv (t_ 50)) 0,O_ 51 (.ex (t_ 48) 0) 0,O_ 52 (.ex (t_ 48) 1) 0,U_ (.st 3 (t_ 8) (t_ 51)) 0,O_ 53 (.fa 3 (t_ 7)) 0,U_ (.st 1 (t_ 53) (t_ 52)) 0]) .skip)) (.seq (.seq (R_ 0 [O_ 54 (.fa 2 (t_ 8)) 0,O_ 55 (.ld 1 false (t_ 54)) 0,O_ 56 (.bin .neq (t_ 55) (i_ 0)) 0]) (.cond (t_ 56) (.seq (.reg 0 [O_ 57 (.bd [(.lit (.int .u8 0)),(.lit (.int .i64 0)),(.lit (.int .i64 0)),(.lit (.string ⟨#[]⟩))] []) 0,O_ 58 (.fa 2 (t_ 8)) 0,O_ 59 (.ld 1 false (t_ 58)) 0,U_ (.st 4 (t_ 2) (t_ 57)) 0,O_ 3 (.mv (i_ 0)) 0,O_ 4 (.mv (t_ 59)) 0] (some [[],[],[1],[0],[0,3],[3,0,4,1,2]]) 0 []) .ret) .skip)) (.seq (.reg 0 [O_ 60 (.ld 4 true (t_ 7)) 0,O_ 61 (.fa 1 (t_ 8)) 0,O_ 62 (.ld 1 false (t_ 61)) 0,O_ 63 (.bin .add (i_ 1) (t_ 62)) 0,U_ (.st 4 (t_ 2) (t_ 60)) 0,O_ 3 (.mv (t_ 63)) 0,O_ 4 (.mv (i_ 0)) 0] (some [[],[],[1],[1,2],[0],[0,4,2,1,3],[3,1,2,4,0,5]]) 0 []) .ret)))))))))))
theorem gc19_ok:compF Tryz.prog Tryz.f19=some (gc19.er,64,[.cell 2 4 true,.tmp 3,.tmp 4]):=by unfold gc19;kernel_rfl
theorem p_script_Get_v (a0:ByteArray):CallsO Tryz.prog 19 [.s a0] (fun r:BrokerStep × Int × Int=>.tup [BrokerStep.v r.1,V.i r.2.1,V.i r.2.2]) (p_script_Get a0):=by
 refine callsO_comp mix Tryz.func19 gc19_ok fun r H=>?_
 rw [p_script_Get] at H
 conv=>whnf
 refine tst_c H (fun b1 H=>?_) (fun b1 H=>?_)
 ·conv=>whnf
  refine lq_ ?_;conv=>whnf
  exact fin0_c (enc:=(fun r:BrokerStep × Int × Int=>.tup [BrokerStep.v r.1,V.i r.2.1,V.i r.2.2])) H (.inr rfl) (.cons (.cell rfl rfl (Nat.le_of_ble_eq_true rfl)) (.cons (.tmp rfl) (.cons (.tmp rfl) (.nil)))) rfl rfl
 conv=>whnf
 refine ixt_c H (fun c2 H=>?_);conv=>whnf
 refine ask_c (p_script_shapes_v _) H rfl rfl (fun v3 H=>?_);conv=>whnf
 refine lq_ ?_;conv=>whnf
 refine Tst.not ?_
 refine tst_d H (fun b4 H=>?_) (fun b4 H=>?_)
 ·conv=>whnf
  refine lq_ ?_;conv=>whnf
  exact fin0_c (enc:=(fun r:BrokerStep × Int × Int=>.tup [BrokerStep.v r.1,V.i r.2.1,V.i r.2.2])) H (.inr rfl) (.cons (.cell rfl rfl (Nat.le_of_ble_eq_true rfl)) (.cons (.tmp rfl) (.cons (.tmp rfl) (.nil)))) rfl rfl
 conv=>whnf
 refine ixt_c H (fun c5 H=>?_);conv=>whnf
 refine lq_ ?_;conv=>whnf
 refine slt_c H (fun s6 H=>?_);conv=>whnf
 refine ask_c (p_octet_Open_v _) H rfl rfl (fun v7 H=>?_);conv=>whnf
 refine lq_ ?_;conv=>whnf
 refine tst_d H (fun b8 H=>?_) (fun b8 H=>?_)
 ·conv=>whnf
  refine tst_d H (fun b20 H=>?_) (fun b20 H=>?_)
  ·conv=>whnf
   refine tst_d H (fun b26 H=>?_) (fun b26 H=>?_)
   ·conv=>whnf
    refine tst_c H (fun b29 H=>?_) (fun b29 H=>?_)
    ·conv=>whnf
     refine lq_ ?_;conv=>whnf
     refine FootQ.mk ⟨rfl,?_⟩;conv=>whnf
     exact fin0_c (enc:=(fun r:BrokerStep × Int × Int=>.tup [BrokerStep.v r.1,V.i r.2.1,V.i r.2.2])) H (.inr rfl) (.cons (.cell rfl rfl (Nat.le_of_ble_eq_true rfl)) (.cons (.tmp rfl) (.cons (.tmp rfl) (.nil)))) rfl rfl
    conv=>whnf
    refine Ari.w ?_;conv=>whnf
    refine lq_ ?_;conv=>whnf
    refine FootQ.mk ⟨rfl,?_⟩;conv=>whnf
    exact fin0_c (enc:=(fun r:BrokerStep × Int × Int=>.tup [BrokerStep.v r.1,V.i r.2.1,V.i r.2.2])) H (.inr rfl) (.cons (.cell rfl rfl (Nat.le_of_ble_eq_true rfl)) (.cons (.tmp rfl) (.cons (.tmp rfl) (.nil)))) rfl rfl
   conv=>whnf
   refine ask_c (p_octet_Text_v _ _) H rfl rfl (fun v27 H=>?_);conv=>whnf
   refine lq_ ?_;conv=>whnf
   refine lq_ ?_;conv=>whnf
   refine tst_c H (fun b28 H=>?_) (fun b28 H=>?_)
   ·conv=>whnf
    refine lq_ ?_;conv=>whnf
    refine FootQ.mk ⟨rfl,?_⟩;conv=>whnf
    exact fin0_c (enc:=(fun r:BrokerStep × Int × Int=>.tup [BrokerStep.v r.1,V.i r.2.1,V.i r.2.2])) H (.inr rfl) (.cons (.cell rfl rfl (Nat.le_of_ble_eq_true rfl)) (.cons (.tmp rfl) (.cons (.tmp rfl) (.nil)))) rfl rfl
   conv=>whnf
   refine Ari.w ?_;conv=>whnf
   refine lq_ ?_;conv=>whnf
   refine FootQ.mk ⟨rfl,?_⟩;conv=>whnf
   exact fin0_c (enc:=(fun r:BrokerStep × Int × Int=>.tup [BrokerStep.v r.1,V.i r.2.1,V.i r.2.2])) H (.inr rfl) (.cons (.cell rfl rfl (Nat.le_of_ble_eq_true rfl)) (.cons (.tmp rfl) (.cons (.tmp rfl) (.nil)))) rfl rfl
  conv=>whnf
  refine ask_c (p_octet_Num_v _ _) H rfl rfl (fun v21 H=>?_);conv=>whnf
  refine lq_ ?_;conv=>whnf
  refine lq_ ?_;conv=>whnf
  refine tst_d H (fun b22 H=>?_) (fun b22 H=>?_)
  ·conv=>whnf
   refine tst_c H (fun b25 H=>?_) (fun b25 H=>?_)
   ·conv=>whnf
    refine lq_ ?_;conv=>whnf
    refine FootQ.mk ⟨rfl,?_⟩;conv=>whnf
    exact fin0_c (enc:=(fun r:BrokerStep × Int × Int=>.tup [BrokerStep.v r.1,V.i r.2.1,V.i r.2.2])) H (.inr rfl) (.cons (.cell rfl rfl (Nat.le_of_ble_eq_true rfl)) (.cons (.tmp rfl) (.cons (.tmp rfl) (.nil)))) rfl rfl
   conv=>whnf
   refine Ari.w ?_;conv=>whnf
   refine lq_ ?_;conv=>whnf
   refine FootQ.mk ⟨rfl,?_⟩;conv=>whnf
   exact fin0_c (enc:=(fun r:BrokerStep × Int × Int=>.tup [BrokerStep.v r.1,V.i r.2.1,V.i r.2.2])) H (.inr rfl) (.cons (.cell rfl rfl (Nat.le_of_ble_eq_true rfl)) (.cons (.tmp rfl) (.cons (.tmp rfl) (.nil)))) rfl rfl
  conv=>whnf
  refine ask_c (p_octet_Text_v _ _) H rfl rfl (fun v23 H=>?_);conv=>whnf
  refine lq_ ?_;conv=>whnf
  refine lq_ ?_;conv=>whnf
  refine tst_c H (fun b24 H=>?_) (fun b24 H=>?_)
  ·conv=>whnf
   refine lq_ ?_;conv=>whnf
   refine FootQ.mk ⟨rfl,?_⟩;conv=>whnf
   exact fin0_c (enc:=(fun r:BrokerStep × Int × Int=>.tup [BrokerStep.v r.1,V.i r.2.1,V.i r.2.2])) H (.inr rfl) (.cons (.cell rfl rfl (Nat.le_of_ble_eq_true rfl)) (.cons (.tmp rfl) (.cons (.tmp rfl) (.nil)))) rfl rfl
  conv=>whnf
  refine Ari.w ?_;conv=>whnf
  refine lq_ ?_;conv=>whnf
  refine FootQ.mk ⟨rfl,?_⟩;conv=>whnf
  exact fin0_c (enc:=(fun r:BrokerStep × Int × Int=>.tup [BrokerStep.v r.1,V.i r.2.1,V.i r.2.2])) H (.inr rfl) (.cons (.cell rfl rfl (Nat.le_of_ble_eq_true rfl)) (.cons (.tmp rfl) (.cons (.tmp rfl) (.nil)))) rfl rfl
 conv=>whnf
 refine ask_c (p_octet_Num_v _ _) H rfl rfl (fun v9 H=>?_);conv=>whnf
 refine lq_ ?_;conv=>whnf
 refine lq_ ?_;conv=>whnf
 refine tst_d H (fun b10 H=>?_) (fun b10 H=>?_)
 ·conv=>whnf
  refine tst_d H (fun b16 H=>?_) (fun b16 H=>?_)
  ·conv=>whnf
   refine tst_c H (fun b19 H=>?_) (fun b19 H=>?_)
   ·conv=>whnf
    refine lq_ ?_;conv=>whnf
    refine FootQ.mk ⟨rfl,?_⟩;conv=>whnf
    exact fin0_c (enc:=(fun r:BrokerStep × Int × Int=>.tup [BrokerStep.v r.1,V.i r.2.1,V.i r.2.2])) H (.inr rfl) (.cons (.cell rfl rfl (Nat.le_of_ble_eq_true rfl)) (.cons (.tmp rfl) (.cons (.tmp rfl) (.nil)))) rfl rfl
   conv=>whnf
   refine Ari.w ?_;conv=>whnf
   refine lq_ ?_;conv=>whnf
   refine FootQ.mk ⟨rfl,?_⟩;conv=>whnf
   exact fin0_c (enc:=(fun r:BrokerStep × Int × Int=>.tup [BrokerStep.v r.1,V.i r.2.1,V.i r.2.2])) H (.inr rfl) (.cons (.cell rfl rfl (Nat.le_of_ble_eq_true rfl)) (.cons (.tmp rfl) (.cons (.tmp rfl) (.nil)))) rfl rfl
  conv=>whnf
  refine ask_c (p_octet_Text_v _ _) H rfl rfl (fun v17 H=>?_);conv=>whnf
  refine lq_ ?_;conv=>whnf
  refine lq_ ?_;conv=>whnf
  refine tst_c H (fun b18 H=>?_) (fun b18 H=>?_)
  ·conv=>whnf
   refine lq_ ?_;conv=>whnf
   refine FootQ.mk ⟨rfl,?_⟩;conv=>whnf
   exact fin0_c (enc:=(fun r:BrokerStep × Int × Int=>.tup [BrokerStep.v r.1,V.i r.2.1,V.i r.2.2])) H (.inr rfl) (.cons (.cell rfl rfl (Nat.le_of_ble_eq_true rfl)) (.cons (.tmp rfl) (.cons (.tmp rfl) (.nil)))) rfl rfl
  conv=>whnf
  refine Ari.w ?_;conv=>whnf
  refine lq_ ?_;conv=>whnf
  refine FootQ.mk ⟨rfl,?_⟩;conv=>whnf
  exact fin0_c (enc:=(fun r:BrokerStep × Int × Int=>.tup [BrokerStep.v r.1,V.i r.2.1,V.i r.2.2])) H (.inr rfl) (.cons (.cell rfl rfl (Nat.le_of_ble_eq_true rfl)) (.cons (.tmp rfl) (.cons (.tmp rfl) (.nil)))) rfl rfl
 conv=>whnf
 refine ask_c (p_octet_Num_v _ _) H rfl rfl (fun v11 H=>?_);conv=>whnf
 refine lq_ ?_;conv=>whnf
 refine lq_ ?_;conv=>whnf
 refine tst_d H (fun b12 H=>?_) (fun b12 H=>?_)
 ·conv=>whnf
  refine tst_c H (fun b15 H=>?_) (fun b15 H=>?_)
  ·conv=>whnf
   refine lq_ ?_;conv=>whnf
   refine FootQ.mk ⟨rfl,?_⟩;conv=>whnf
   exact fin0_c (enc:=(fun r:BrokerStep × Int × Int=>.tup [BrokerStep.v r.1,V.i r.2.1,V.i r.2.2])) H (.inr rfl) (.cons (.cell rfl rfl (Nat.le_of_ble_eq_true rfl)) (.cons (.tmp rfl) (.cons (.tmp rfl) (.nil)))) rfl rfl
  conv=>whnf
  refine Ari.w ?_;conv=>whnf
  refine lq_ ?_;conv=>whnf
  refine FootQ.mk ⟨rfl,?_⟩;conv=>whnf
  exact fin0_c (enc:=(fun r:BrokerStep × Int × Int=>.tup [BrokerStep.v r.1,V.i r.2.1,V.i r.2.2])) H (.inr rfl) (.cons (.cell rfl rfl (Nat.le_of_ble_eq_true rfl)) (.cons (.tmp rfl) (.cons (.tmp rfl) (.nil)))) rfl rfl
 conv=>whnf
 refine ask_c (p_octet_Text_v _ _) H rfl rfl (fun v13 H=>?_);conv=>whnf
 refine lq_ ?_;conv=>whnf
 refine lq_ ?_;conv=>whnf
 refine tst_c H (fun b14 H=>?_) (fun b14 H=>?_)
 ·conv=>whnf
  refine lq_ ?_;conv=>whnf
  refine FootQ.mk ⟨rfl,?_⟩;conv=>whnf
  exact fin0_c (enc:=(fun r:BrokerStep × Int × Int=>.tup [BrokerStep.v r.1,V.i r.2.1,V.i r.2.2])) H (.inr rfl) (.cons (.cell rfl rfl (Nat.le_of_ble_eq_true rfl)) (.cons (.tmp rfl) (.cons (.tmp rfl) (.nil)))) rfl rfl
 conv=>whnf
 refine Ari.w ?_;conv=>whnf
 refine lq_ ?_;conv=>whnf
 refine FootQ.mk ⟨rfl,?_⟩;conv=>whnf
 exact fin0_c (enc:=(fun r:BrokerStep × Int × Int=>.tup [BrokerStep.v r.1,V.i r.2.1,V.i r.2.2])) H (.inr rfl) (.cons (.cell rfl rfl (Nat.le_of_ble_eq_true rfl)) (.cons (.tmp rfl) (.cons (.tmp rfl) (.nil)))) rfl rfl
def gc20:BCode:=(.seq (R_ 0 [O_ 2 (.mv (.const (.slice none 0 0))) 0,O_ 3 (.mv (i_ 0)) 0]) (.seq (R_ 0 [O_ 4 (.mv (.const (.slice none 0 0))) 0]) (.seq (.block 0 (.loop (.seq (.seq (R_ 0 [O_ 8 (.mv (t_ 0)) 0,O_ 9 (.bin .neq (t_ 8) (.const (.string ⟨#[]⟩))) 0]) (.cond (t_ 9) .skip (.exit 0))) (.block 1 (.seq (R_ 1 [O_ 11 (.mv (t_ 0)) 0,O_ 12 (.cl 19 [(t_ 11)]) 0,O_ 10 (.mv (t_ 12)) 0,O_ 13 (.ex (t_ 10) 0) 0,O_ 14 (.ex (t_ 10) 1) 0,O_ 15 (.ex (t_ 10) 2) 0,O_ 5 (.al (.agg [(.lit (.int .u8 0)),(.lit (.int .i64 0)),(.lit (.int .i64 0)),(.lit (.string ⟨#[]⟩))])) 0,U_ (.st 4 (t_ 5) (t_ 13)) 1,O_ 6 (.mv (t_ 14)) 1,O_ 7 (.mv (t_ 15)) 1]) (.seq (.seq (R_ 0 [O_ 16 (.mv (t_ 7)) 0,O_ 17 (.bin .neq (t_ 16) (i_ 0)) 0]) (.cond (t_ 17) (.seq (R_ 0 [O_ 18 (.mv (t_ 7)) 0,O_ 2 (.mv (.const (.slice none 0 0))) 0,O_ 3 (.mv (t_ 18)) 0]) .ret) .skip)) (.seq (R_ 2 [O_ 19 (.mv (t_ 4)) 0,O_ 20 (.ld 4 true (t_ 5)) 0,O_ 21 (.bs 4 1 [(.lit (.int .u8 0)),(.lit (.int .i64 0)),(.lit (.int .i64 0)),(.lit (.string ⟨#[]⟩))] [(0,(t_ 20))]) 0,O_ 22 (.ap 4 40 (t_ 19) (t_ 21)) 1,O_ 4 (.mv (t_ 22)) 2]) (R_ 0 [O_ 23 (.mv (t_ 0)) 0,O_ 24 (.mv (t_ 6)) 0,O_ 25 (.slt (t_ 23) (some (t_ 24)) none) 0,O_ 0 (.mv (t_ 25)) 0])))))))) (.seq (R_ 0 [O_ 26 (.mv (t_ 4)) 0,O_ 2 (.mv (t_ 26)) 0,O_ 3 (.mv (i_ 0)) 0]) .ret))))
theorem gc20_ok:compF Tryz.prog Tryz.f20=some (gc20.er,27,[.tmp 2,.tmp 3]):=by unfold gc20;kernel_rfl
theorem p_script_All_v (a0:ByteArray):CallsO Tryz.prog 20 [.s a0] (fun r:(List BrokerStep) × Int=>.tup [(fun l:List BrokerStep=>V.sl (l.map BrokerStep.v) false) r.1,V.i r.2]) (p_script_All a0):=by
 refine callsO_comp mix Tryz.func20 gc20_ok fun r H=>?_
 rw [p_script_All] at H
 conv=>whnf
 obtain ⟨o2,HL3,HQ4⟩:=bind_c H
 refine loop_c [0,2,3,4] [5,6,7,8,9,10,11,12,13,14,15,16,17,18,19,20,21,22,23,24,25] [5,6,7,8,9,10,11,12,13,14,15,16,17,18,19,20,21,22,23,24,25] (fun n vals st=>(∃ y6,p_script_All_l1  n y6 []=some o2∧vals=[.s y6,.sl (List.map BrokerStep.v []) true,.i (0:Int),.sl (List.map BrokerStep.v []) true]∧st=[])∨(∃ y12 y13,p_script_All_l1  n y12 y13=some o2∧vals=[.s y12,.sl (List.map BrokerStep.v []) true,.i (0:Int),.osl 0 0 (List.length y13) 4 false]∧st=[.live (cellsM BrokerStep.v y13) (cellsM BrokerStep.v y13).length])) fuel 0 [] (.inl (⟨_,HL3,rfl,rfl⟩)) (Nat.zero_le _) rfl (by kernel_rfl) (by kernel_rfl) rfl trivial ?_
 rintro (_ | n5) _ _ (⟨y6,H,rfl,rfl⟩ | ⟨y12,y13,H,rfl,rfl⟩)
 ·rw [p_script_All_l1] at H;cases H
 ·rw [p_script_All_l1] at H;cases H
 ·rw [p_script_All_l1] at H
  conv=>whnf
  refine Tst.not ?_
  refine tst_c H (fun b7 H=>?_) (fun b7 H=>?_)
  ·conv=>whnf
   obtain rfl:=Option.some.inj H
   have H:=HQ4
   try dsimp only at H
   refine finR_c (enc:=(fun r:(List BrokerStep) × Int=>.tup [(fun l:List BrokerStep=>V.sl (l.map BrokerStep.v) false) r.1,V.i r.2])) H ?_;conv=>whnf
   exact ⟨_,.tup (.cons (.c (.slw)) (.cons (.c (.id rfl)) (.nil)))⟩
  conv=>whnf
  refine ask_c (p_script_Get_v _) H rfl rfl (fun v8 H=>?_);conv=>whnf
  refine lq_ ?_;conv=>whnf
  refine tst_c H (fun b9 H=>?_) (fun b9 H=>?_)
  ·conv=>whnf
   obtain rfl:=Option.some.inj H
   have H:=HQ4
   try dsimp only at H
   refine finR_c (enc:=(fun r:(List BrokerStep) × Int=>.tup [(fun l:List BrokerStep=>V.sl (l.map BrokerStep.v) false) r.1,V.i r.2])) H ?_;conv=>whnf
   exact ⟨_,.tup (.cons (.c (.slw)) (.cons (.c (.id rfl)) (.nil)))⟩
  conv=>whnf
  refine appN_c (f:=BrokerStep.v) H (fun _=>rfl) (srcM (f:=BrokerStep.v) (fun _=>rfl) [] true) rfl (.v (srcOwn (f:=BrokerStep.v) (l:=[v8.1]) (fun _=>rfl) rfl rfl rfl)) (by decide) rfl (by simp) (fun l10 H=>?_);conv=>whnf
  refine slt_c H (fun s11 H=>?_);conv=>whnf
  exact again_c [5,6,7,8,9,10,11,12,13,14,15,16,17,18,19,20,21,22,23,24,25] n5 1 [2] (.inr (⟨_,_,H,rfl,rfl⟩)) (Nat.lt_succ_self _) (Nat.zero_le _) rfl (by kernel_rfl) (by kernel_rfl) rfl (wkB_live0 rfl (cellsM_idlt (f:=BrokerStep.v) (fun _=>rfl) _) rfl trivial)
 rw [p_script_All_l1] at H
 conv=>whnf
 refine Tst.not ?_
 refine tst_c H (fun b14 H=>?_) (fun b14 H=>?_)
 ·conv=>whnf
  obtain rfl:=Option.some.inj H
  have H:=HQ4
  try dsimp only at H
  refine finR_c (enc:=(fun r:(List BrokerStep) × Int=>.tup [(fun l:List BrokerStep=>V.sl (l.map BrokerStep.v) false) r.1,V.i r.2])) H ?_;conv=>whnf
  exact ⟨_,.tup (.cons (.c (fzown (f:=BrokerStep.v) (l:=y13) rfl rfl (fun _=>rfl) (fun _=>rfl))) (.cons (.c (.id rfl)) (.nil)))⟩
 conv=>whnf
 refine ask_c (p_script_Get_v _) H rfl rfl (fun v15 H=>?_);conv=>whnf
 refine lq_ ?_;conv=>whnf
 refine tst_c H (fun b16 H=>?_) (fun b16 H=>?_)
 ·conv=>whnf
  obtain rfl:=Option.some.inj H
  have H:=HQ4
  try dsimp only at H
  refine finR_c (enc:=(fun r:(List BrokerStep) × Int=>.tup [(fun l:List BrokerStep=>V.sl (l.map BrokerStep.v) false) r.1,V.i r.2])) H ?_;conv=>whnf
  exact ⟨_,.tup (.cons (.c (.slw)) (.cons (.c (.id rfl)) (.nil)))⟩
 conv=>whnf
 refine appO_c (f:=BrokerStep.v) H (fun _=>rfl) rfl (Nat.le_refl _) (.v (srcOwn (f:=BrokerStep.v) (l:=[v15.1]) (fun _=>rfl) rfl rfl rfl)) (by decide) rfl (by simp) (fun l17 H=>?_);conv=>whnf
 refine slt_c H (fun s18 H=>?_);conv=>whnf
 exact again_c [5,6,7,8,9,10,11,12,13,14,15,16,17,18,19,20,21,22,23,24,25] n5 1 [3] (.inr (⟨_,_,H,rfl,rfl⟩)) (Nat.lt_succ_self _) (Nat.zero_le _) rfl (by kernel_rfl) (by kernel_rfl) rfl (wkB_live0 rfl (cellsM_idlt (f:=BrokerStep.v) (fun _=>rfl) _) rfl trivial)
def gc37:BCode:=(.seq (R_ 0 [O_ 2 (.mv (.const (.string ⟨#[]⟩))) 0,O_ 3 (.mv (i_ 0)) 0]) (.seq (R_ 0 [O_ 4 (.mv (.const (.slice none 0 0))) 0]) (.seq (.seq (R_ 0 [O_ 9 (.mv (t_ 0)) 0,O_ 10 (.lens (t_ 9)) 0,O_ 11 (.mv (i_ 0)) 0]) (.block 0 (.loop (.seq (R_ 0 [O_ 12 (.bin .lss (t_ 11) (t_ 10)) 0]) (.seq (.cond (t_ 12) .skip (.exit 0)) (.seq (.block 1 (.seq (R_ 1 [O_ 13 (.ixs 8 (t_ 9) (t_ 11)) 0,O_ 14 (.ld 8 true (t_ 13)) 0,O_ 6 (.al (.agg [(.lit (.int .u8 0)),(.lit (.string ⟨#[]⟩)),(.lit (.string ⟨#[]⟩)),(.lit (.string ⟨#[]⟩)),(.lit (.int .i64 0)),(.lit (.int .i64 0)),(.lit (.int .i64 0)),(.lit (.int .i64 0))])) 0,U_ (.st 8 (t_ 6) (t_ 14)) 1]) (.seq (R_ 0 [O_ 16 (.ld 8 true (t_ 6)) 0,O_ 17 (.cl 48 [(t_ 16)]) 0,O_ 15 (.mv (t_ 17)) 0,O_ 18 (.ex (t_ 15) 0) 0,O_ 19 (.ex (t_ 15) 1) 0,O_ 7 (.mv (t_ 18)) 0,O_ 8 (.mv (t_ 19)) 0]) (.seq (.seq (R_ 0 [O_ 20 (.mv (t_ 8)) 0,O_ 21 (.bin .neq (t_ 20) (i_ 0)) 0]) (.cond (t_ 21) (.seq (R_ 0 [O_ 22 (.mv (t_ 8)) 0,O_ 2 (.mv (.const (.string ⟨#[]⟩))) 0,O_ 3 (.mv (t_ 22)) 0]) .ret) .skip)) (R_ 2 [O_ 23 (.mv (t_ 4)) 0,O_ 24 (.mv (t_ 7)) 0,O_ 25 (.bs 1 1 [(.lit (.string ⟨#[]⟩))] [(0,(t_ 24))]) 0,O_ 26 (.ap 1 16 (t_ 23) (t_ 25)) 1,O_ 4 (.mv (t_ 26)) 2]))))) (R_ 0 [O_ 27 (.bin .add (t_ 11) (i_ 1)) 0,O_ 11 (.mv (t_ 27)) 0]))))))) (.seq (R_ 0 [O_ 28 (.mv (t_ 4)) 0,O_ 29 (.cl 49 [(t_ 28)]) 0,O_ 30 (.ex (t_ 29) 0) 0,O_ 31 (.ex (t_ 29) 1) 0,O_ 2 (.mv (t_ 30)) 0,O_ 3 (.mv (t_ 31)) 0]) .ret))))
theorem gc37_ok:compF Tryz.prog Tryz.f37=some (gc37.er,32,[.tmp 2,.tmp 3]):=by unfold gc37;kernel_rfl
theorem p_deframe_Encode_v {u1:Bool} (a0:List StanzaStanza):CallsO Tryz.prog 37 [.sl (List.map StanzaStanza.v a0) u1] (fun r:ByteArray × Int=>.tup [V.s r.1,V.i r.2]) (p_deframe_Encode a0):=by
 refine callsO_comp mix Tryz.func37 gc37_ok fun r H=>?_
 rw [p_deframe_Encode] at H
 conv=>whnf
 refine LenQ.M ?_;conv=>whnf
 obtain ⟨o2,HL3,HQ4⟩:=bind_c H
 refine loop_c [2,3,4,11] [6,7,8,12,13,14,15,16,17,18,19,20,21,22,23,24,25,26,27] [6,7,8,12,13,14,15,16,17,18,19,20,21,22,23,24,25,26,27] (fun n vals st=>(∃ y6,p_deframe_Encode_l1  a0 (a0.length:Int) n [] y6=some o2∧vals=[.s (⟨#[]⟩ : ByteArray),.i (0:Int),.sl (List.map V.s []) true,.i y6]∧st=[])∨(∃ y12 y13,p_deframe_Encode_l1  a0 (a0.length:Int) n y12 y13=some o2∧vals=[.s (⟨#[]⟩ : ByteArray),.i (0:Int),.osl 0 0 (List.length y12) 1 false,.i y13]∧st=[.live (cellsM V.s y12) (cellsM V.s y12).length])) fuel 0 [] (.inl (⟨_,HL3,rfl,rfl⟩)) (Nat.zero_le _) rfl (by kernel_rfl) (by kernel_rfl) rfl trivial ?_
 rintro (_ | n5) _ _ (⟨y6,H,rfl,rfl⟩ | ⟨y12,y13,H,rfl,rfl⟩)
 ·rw [p_deframe_Encode_l1] at H;cases H
 ·rw [p_deframe_Encode_l1] at H;cases H
 ·rw [p_deframe_Encode_l1] at H
  conv=>whnf
  refine tst_d H (fun b7 H=>?_) (fun b7 H=>?_)
  ·conv=>whnf
   obtain rfl:=Option.some.inj H
   have H:=HQ4
   try dsimp only at H
   refine ask_c (p_frame_Join_v _) H rfl rfl (fun v14 H=>?_);conv=>whnf
   exact fin0_c (enc:=(fun r:ByteArray × Int=>.tup [V.s r.1,V.i r.2])) H (.inr rfl) (.cons (.tmp rfl) (.cons (.tmp rfl) (.nil))) rfl rfl
  conv=>whnf
  refine ixs_c (f:=StanzaStanza.v) H (fun _=>rfl) (fun x8 H=>?_);conv=>whnf
  refine lq_ ?_;conv=>whnf
  refine ask_c (p_stanza_Put_v _) H rfl rfl (fun v9 H=>?_);conv=>whnf
  refine tst_c H (fun b10 H=>?_) (fun b10 H=>?_)
  ·conv=>whnf
   obtain rfl:=Option.some.inj H
   have H:=HQ4
   try dsimp only at H
   exact fin0_c (enc:=(fun r:ByteArray × Int=>.tup [V.s r.1,V.i r.2])) H (.inr rfl) (.cons (.tmp rfl) (.cons (.tmp rfl) (.nil))) rfl rfl
  conv=>whnf
  refine appN_c (f:=V.s) H (fun _=>rfl) (srcM (f:=V.s) (fun _=>rfl) [] true) rfl (.v (srcOwn (f:=V.s) (l:=[v9.1]) (fun _=>rfl) rfl rfl rfl)) (by decide) rfl (by simp) (fun l11 H=>?_);conv=>whnf
  refine Ari.w ?_;conv=>whnf
  exact again_c [6,7,8,12,13,14,15,16,17,18,19,20,21,22,23,24,25,26,27] n5 1 [2] (.inr (⟨_,_,H,rfl,rfl⟩)) (Nat.lt_succ_self _) (Nat.zero_le _) rfl (by kernel_rfl) (by kernel_rfl) rfl (wkB_live0 rfl (cellsM_idlt (f:=V.s) (fun _=>rfl) _) rfl trivial)
 rw [p_deframe_Encode_l1] at H
 conv=>whnf
 refine tst_d H (fun b15 H=>?_) (fun b15 H=>?_)
 ·conv=>whnf
  obtain rfl:=Option.some.inj H
  have H:=HQ4
  try dsimp only at H
  refine askF_c (p_frame_Join_v _) H (.cons (.c (fzown (f:=V.s) (l:=y12) rfl rfl (fun _=>rfl) (fun _=>rfl))) (.nil)) (fun v20 H=>?_);conv=>whnf
  exact fin0_c (enc:=(fun r:ByteArray × Int=>.tup [V.s r.1,V.i r.2])) H (.inr rfl) (.cons (.tmp rfl) (.cons (.tmp rfl) (.nil))) rfl rfl
 conv=>whnf
 refine ixs_c (f:=StanzaStanza.v) H (fun _=>rfl) (fun x16 H=>?_);conv=>whnf
 refine lq_ ?_;conv=>whnf
 refine ask_c (p_stanza_Put_v _) H rfl rfl (fun v17 H=>?_);conv=>whnf
 refine tst_c H (fun b18 H=>?_) (fun b18 H=>?_)
 ·conv=>whnf
  obtain rfl:=Option.some.inj H
  have H:=HQ4
  try dsimp only at H
  exact fin0_c (enc:=(fun r:ByteArray × Int=>.tup [V.s r.1,V.i r.2])) H (.inr rfl) (.cons (.tmp rfl) (.cons (.tmp rfl) (.nil))) rfl rfl
 conv=>whnf
 refine appO_c (f:=V.s) H (fun _=>rfl) rfl (Nat.le_refl _) (.v (srcOwn (f:=V.s) (l:=[v17.1]) (fun _=>rfl) rfl rfl rfl)) (by decide) rfl (by simp) (fun l19 H=>?_);conv=>whnf
 refine Ari.w ?_;conv=>whnf
 exact again_c [6,7,8,12,13,14,15,16,17,18,19,20,21,22,23,24,25,26,27] n5 1 [3] (.inr (⟨_,_,H,rfl,rfl⟩)) (Nat.lt_succ_self _) (Nat.zero_le _) rfl (by kernel_rfl) (by kernel_rfl) rfl (wkB_live0 rfl (cellsM_idlt (f:=V.s) (fun _=>rfl) _) rfl trivial)
end Go.Proofs.YtpkodpcfafipdaaGreatDoor

namespace Go.Proofs.YtpkodpcfafipdaaGreatDoor
open Go.RowKit
set_option maxRecDepth 100000
set_option maxHeartbeats 4000000
def gc13:BCode:=(.seq (R_ 1 [O_ 4 (.al (.agg [(.lit (.int .u8 0)),(.lit (.int .i64 0)),(.lit (.int .i64 0)),(.lit (.string ⟨#[]⟩))])) 0,O_ 5 (.mv (i_ 0)) 1]) (.seq (R_ 0 [O_ 9 (.mv (t_ 1)) 0,O_ 10 (.cl 37 [(t_ 9)]) 0,O_ 8 (.mv (t_ 10)) 0,O_ 11 (.ex (t_ 8) 0) 0,O_ 12 (.ex (t_ 8) 1) 0,O_ 6 (.mv (t_ 11)) 0,O_ 7 (.mv (t_ 12)) 0]) (.seq (.seq (R_ 0 [O_ 13 (.mv (t_ 7)) 0,O_ 14 (.bin .neq (t_ 13) (i_ 0)) 0]) (.cond (t_ 14) (.seq (R_ 0 [O_ 15 (.bd [(.lit (.int .u8 0)),(.lit (.int .i64 0)),(.lit (.int .i64 0)),(.lit (.string ⟨#[]⟩))] []) 0,O_ 16 (.mv (t_ 7)) 0,U_ (.st 4 (t_ 4) (t_ 15)) 0,O_ 5 (.mv (t_ 16)) 0]) .ret) .skip)) (.seq (.seq (R_ 0 [O_ 17 (.mv (t_ 6)) 0,O_ 18 (.lent (t_ 17)) 0,O_ 19 (.bin .gtr (t_ 18) (i_ 255)) 0]) (.cond (t_ 19) (.seq (R_ 0 [O_ 20 (.bd [(.lit (.int .u8 0)),(.lit (.int .i64 0)),(.lit (.int .i64 0)),(.lit (.string ⟨#[]⟩))] []) 0,U_ (.st 4 (t_ 4) (t_ 20)) 0,O_ 5 (.mv (i_ 5)) 0]) .ret) .skip)) (.seq (R_ 0 [O_ 21 (.mv (t_ 0)) 0,O_ 22 (.mv (t_ 6)) 0,O_ 23 (.bd [(.lit (.int .u8 0)),(.lit (.int .i64 0)),(.lit (.int .i64 0)),(.lit (.string ⟨#[]⟩))] [(0,1,(.const (.int .u8 1))),(1,1,(t_ 21)),(3,1,(t_ 22))]) 0,U_ (.st 4 (t_ 4) (t_ 23)) 0,O_ 5 (.mv (i_ 0)) 0]) .ret)))))
theorem gc13_ok:compF Tryz.prog Tryz.f13=some (gc13.er,24,[.cell 4 4 true,.tmp 5]):=by unfold gc13;kernel_rfl
theorem p_script_Ask_v {u1:Bool} (a0:Int) (a1:List StanzaStanza):CallsO Tryz.prog 13 [.i a0,.sl (List.map StanzaStanza.v a1) u1] (fun r:BrokerStep × Int=>.tup [BrokerStep.v r.1,V.i r.2]) (p_script_Ask a0 a1):=by
 refine callsO_comp mix Tryz.func13 gc13_ok fun r H=>?_
 rw [p_script_Ask] at H
 conv=>whnf
 refine ask_c (p_deframe_Encode_v _) H rfl rfl (fun v1 H=>?_);conv=>whnf
 refine tst_c H (fun b2 H=>?_) (fun b2 H=>?_)
 ·conv=>whnf
  refine lq_ ?_;conv=>whnf
  exact fin0_c (enc:=(fun r:BrokerStep × Int=>.tup [BrokerStep.v r.1,V.i r.2])) H (.inr rfl) (.cons (.cell rfl rfl (Nat.le_of_ble_eq_true rfl)) (.cons (.tmp rfl) (.nil))) rfl rfl
 conv=>whnf
 refine tst_c H (fun b3 H=>?_) (fun b3 H=>?_)
 ·conv=>whnf
  refine lq_ ?_;conv=>whnf
  exact fin0_c (enc:=(fun r:BrokerStep × Int=>.tup [BrokerStep.v r.1,V.i r.2])) H (.inr rfl) (.cons (.cell rfl rfl (Nat.le_of_ble_eq_true rfl)) (.cons (.tmp rfl) (.nil))) rfl rfl
 conv=>whnf
 refine lq_ ?_;conv=>whnf
 exact fin0_c (enc:=(fun r:BrokerStep × Int=>.tup [BrokerStep.v r.1,V.i r.2])) H (.inr rfl) (.cons (.cell rfl rfl (Nat.le_of_ble_eq_true rfl)) (.cons (.tmp rfl) (.nil))) rfl rfl
def gc22:BCode:=(.seq (R_ 0 [O_ 2 (.mv (.const (.slice none 0 0))) 0]) (.seq (R_ 0 [O_ 3 (.mv (.const (.slice none 0 0))) 0]) (.seq (.seq (R_ 0 [O_ 4 (.mv (i_ 0)) 0]) (.block 0 (.loop (.seq (.seq (R_ 0 [O_ 5 (.mv (t_ 4)) 0,O_ 6 (.mv (t_ 0)) 0,O_ 7 (.lens (t_ 6)) 0,O_ 8 (.bin .lss (t_ 5) (t_ 7)) 0]) (.cond (t_ 8) .skip (.exit 0))) (.seq (.block 1 (R_ 2 [O_ 11 (.mv (t_ 3)) 0,O_ 12 (.mv (t_ 0)) 0,O_ 13 (.mv (t_ 4)) 0,O_ 14 (.ixs 4 (t_ 12) (t_ 13)) 0,O_ 15 (.ld 4 true (t_ 14)) 0,O_ 16 (.bs 4 1 [(.lit (.int .u8 0)),(.lit (.int .i64 0)),(.lit (.int .i64 0)),(.lit (.string ⟨#[]⟩))] [(0,(t_ 15))]) 0,O_ 17 (.ap 4 40 (t_ 11) (t_ 16)) 1,O_ 3 (.mv (t_ 17)) 2])) (R_ 0 [O_ 9 (.mv (t_ 4)) 0,O_ 10 (.bin .add (t_ 9) (i_ 1)) 0,O_ 4 (.mv (t_ 10)) 0])))))) (.seq (R_ 0 [O_ 18 (.mv (t_ 3)) 0,O_ 2 (.mv (t_ 18)) 0]) .ret))))
theorem gc22_ok:compF Tryz.prog Tryz.f22=some (gc22.er,19,[.tmp 2]):=by unfold gc22;kernel_rfl
theorem p_law34_back_v {u1:Bool} (a0:List BrokerStep):CallsO Tryz.prog 22 [.sl (List.map BrokerStep.v a0) u1] (fun l:List BrokerStep=>V.sl (l.map BrokerStep.v) false) (p_law34_back a0):=by
 refine callsO_comp mix Tryz.func22 gc22_ok fun r H=>?_
 rw [p_law34_back] at H
 conv=>whnf
 obtain ⟨o2,HL3,HQ4⟩:=bind_c H
 refine loop_c [3,4] [5,6,7,8,9,10,11,12,13,14,15,16,17] [5,6,7,8,9,10,11,12,13,14,15,16,17] (fun n vals st=>(∃ y6,p_law34_back_l1  a0 n [] y6=some o2∧vals=[.sl (List.map BrokerStep.v []) true,.i y6]∧st=[])∨(∃ y10 y11,p_law34_back_l1  a0 n y10 y11=some o2∧vals=[.osl 0 0 (List.length y10) 4 false,.i y11]∧st=[.live (cellsM BrokerStep.v y10) (cellsM BrokerStep.v y10).length])) fuel 0 [] (.inl (⟨_,HL3,rfl,rfl⟩)) (Nat.zero_le _) rfl (by kernel_rfl) (by kernel_rfl) rfl trivial ?_
 rintro (_ | n5) _ _ (⟨y6,H,rfl,rfl⟩ | ⟨y10,y11,H,rfl,rfl⟩)
 ·rw [p_law34_back_l1] at H;cases H
 ·rw [p_law34_back_l1] at H;cases H
 ·rw [p_law34_back_l1] at H
  conv=>whnf
  refine LenQ.M ?_;conv=>whnf
  refine tst_d H (fun b7 H=>?_) (fun b7 H=>?_)
  ·conv=>whnf
   obtain rfl:=Option.some.inj H
   have H:=HQ4
   try dsimp only at H
   refine finR_c (enc:=(fun l:List BrokerStep=>V.sl (l.map BrokerStep.v) false)) H ?_;conv=>whnf
   exact ⟨_,.v (.c (.slw))⟩
  conv=>whnf
  refine ixs_c (f:=BrokerStep.v) H (fun _=>rfl) (fun x8 H=>?_);conv=>whnf
  refine appN_c (f:=BrokerStep.v) H (fun _=>rfl) (srcM (f:=BrokerStep.v) (fun _=>rfl) [] true) rfl (.v (srcOwn (f:=BrokerStep.v) (l:=[x8]) (fun _=>rfl) rfl rfl rfl)) (by decide) rfl (by simp) (fun l9 H=>?_);conv=>whnf
  refine Ari.w ?_;conv=>whnf
  exact again_c [5,6,7,8,9,10,11,12,13,14,15,16,17] n5 1 [1] (.inr (⟨_,_,H,rfl,rfl⟩)) (Nat.lt_succ_self _) (Nat.zero_le _) rfl (by kernel_rfl) (by kernel_rfl) rfl (wkB_live0 rfl (cellsM_idlt (f:=BrokerStep.v) (fun _=>rfl) _) rfl trivial)
 rw [p_law34_back_l1] at H
 conv=>whnf
 refine LenQ.M ?_;conv=>whnf
 refine tst_d H (fun b12 H=>?_) (fun b12 H=>?_)
 ·conv=>whnf
  obtain rfl:=Option.some.inj H
  have H:=HQ4
  try dsimp only at H
  refine finR_c (enc:=(fun l:List BrokerStep=>V.sl (l.map BrokerStep.v) false)) H ?_;conv=>whnf
  exact ⟨_,.v (.c (fzown (f:=BrokerStep.v) (l:=y10) rfl rfl (fun _=>rfl) (fun _=>rfl)))⟩
 conv=>whnf
 refine ixs_c (f:=BrokerStep.v) H (fun _=>rfl) (fun x13 H=>?_);conv=>whnf
 refine appO_c (f:=BrokerStep.v) H (fun _=>rfl) rfl (Nat.le_refl _) (.v (srcOwn (f:=BrokerStep.v) (l:=[x13]) (fun _=>rfl) rfl rfl rfl)) (by decide) rfl (by simp) (fun l14 H=>?_);conv=>whnf
 refine Ari.w ?_;conv=>whnf
 exact again_c [5,6,7,8,9,10,11,12,13,14,15,16,17] n5 1 [2] (.inr (⟨_,_,H,rfl,rfl⟩)) (Nat.lt_succ_self _) (Nat.zero_le _) rfl (by kernel_rfl) (by kernel_rfl) rfl (wkB_live0 rfl (cellsM_idlt (f:=BrokerStep.v) (fun _=>rfl) _) rfl trivial)
def gc21:BCode:=(.seq (R_ 0 [O_ 4 (.mv (b_ false)) 0]) (.seq (.seq (R_ 0 [O_ 6 (.mv (t_ 0)) 0,O_ 7 (.lens (t_ 6)) 0,O_ 8 (.mv (t_ 1)) 0,O_ 9 (.lens (t_ 8)) 0,O_ 10 (.bin .neq (t_ 7) (t_ 9)) 0]) (.cond (t_ 10) (.seq (R_ 0 [O_ 4 (.mv (b_ false)) 0]) .ret) .skip)) (.seq (.seq (R_ 0 [O_ 5 (.mv (i_ 0)) 0]) (.block 0 (.loop (.seq (.seq (R_ 0 [O_ 11 (.mv (t_ 5)) 0,O_ 12 (.mv (t_ 0)) 0,O_ 13 (.lens (t_ 12)) 0,O_ 14 (.bin .lss (t_ 11) (t_ 13)) 0]) (.cond (t_ 14) .skip (.exit 0))) (.seq (.block 1 (.seq (.reg 0 [O_ 17 (.mv (t_ 0)) 0,O_ 18 (.mv (t_ 5)) 0,O_ 19 (.ixs 4 (t_ 17) (t_ 18)) 0,O_ 20 (.ld 4 true (t_ 19)) 0,O_ 21 (.mv (t_ 1)) 0,O_ 22 (.mv (t_ 5)) 0,O_ 23 (.ixs 4 (t_ 21) (t_ 22)) 0,O_ 24 (.ld 4 true (t_ 23)) 0,O_ 25 (.eqa true [1,1,1,2] (t_ 20) (t_ 24)) 0] (some [[],[],[1,0],[0,1,2],[],[],[5,4],[4,5,6],[6,5,4,7,2,1,0,3]]) 0 []) (.cond (t_ 25) (.seq (R_ 0 [O_ 4 (.mv (b_ false)) 0]) .ret) .skip))) (R_ 0 [O_ 15 (.mv (t_ 5)) 0,O_ 16 (.bin .add (t_ 15) (i_ 1)) 0,O_ 5 (.mv (t_ 16)) 0])))))) (.seq (R_ 0 [O_ 4 (.mv (b_ true)) 0]) .ret))))
theorem gc21_ok:compF Tryz.prog Tryz.f21=some (gc21.er,26,[.tmp 4]):=by unfold gc21;kernel_rfl
theorem p_ref34_SameSteps_v {u1 u2:Bool} (a0:List BrokerStep) (a1:List BrokerStep):CallsO Tryz.prog 21 [.sl (List.map BrokerStep.v a0) u1,.sl (List.map BrokerStep.v a1) u2] V.b (p_ref34_SameSteps a0 a1):=by
 refine callsO_comp mix Tryz.func21 gc21_ok fun r H=>?_
 rw [p_ref34_SameSteps] at H
 conv=>whnf
 iterate 2 (refine LenQ.M ?_;conv=>whnf)
 refine tst_c H (fun b1 H=>?_) (fun b1 H=>?_)
 ·conv=>whnf
  exact fb_ H
 conv=>whnf
 obtain ⟨o3,HL4,HQ5⟩:=bind_c H
 refine loop_c [4,5] [11,12,13,14,15,16,17,18,19,20,21,22,23,24,25] [11,12,13,14,15,16,17,18,19,20,21,22,23,24,25] (fun n vals st=>(∃ y7,p_ref34_SameSteps_l1  a0 a1 n y7=some o3∧vals=[.b false,.i y7]∧st=[])) fuel 0 [] (⟨_,HL4,rfl,rfl⟩) (Nat.zero_le _) rfl (by kernel_rfl) (by kernel_rfl) rfl trivial ?_
 rintro (_ | n6) _ _ (⟨y7,H,rfl,rfl⟩)
 ·rw [p_ref34_SameSteps_l1] at H;cases H
 rw [p_ref34_SameSteps_l1] at H
 conv=>whnf
 refine LenQ.M ?_;conv=>whnf
 refine tst_d H (fun b8 H=>?_) (fun b8 H=>?_)
 ·conv=>whnf
  obtain rfl:=Option.some.inj H
  have H:=HQ5
  try dsimp only at H
  exact fb_ H
 conv=>whnf
 refine ixs_c (f:=BrokerStep.v) H (fun _=>rfl) (fun x9 H=>?_);conv=>whnf
 refine ixs_c (f:=BrokerStep.v) H (fun _=>rfl) (fun x10 H=>?_);conv=>whnf
 refine FootQ.mk ⟨rfl,?_⟩;conv=>whnf
 refine Tst.not ?_
 refine tst_d H (fun b11 H=>?_) (fun b11 H=>?_)
 ·conv=>whnf
  obtain rfl:=Option.some.inj H
  have H:=HQ5
  try dsimp only at H
  exact fb_ H
 conv=>whnf
 refine Ari.w ?_;conv=>whnf
 exact again_c [11,12,13,14,15,16,17,18,19,20,21,22,23,24,25] n6 0 [] (⟨_,H,rfl,rfl⟩) (Nat.lt_succ_self _) (Nat.zero_le _) rfl (by kernel_rfl) (by kernel_rfl) rfl trivial
def gc15:BCode:=(.seq (R_ 0 [O_ 2 (.mv (.const (.string ⟨#[]⟩))) 0]) (.seq (R_ 1 [O_ 6 (.mv (t_ 0)) 0,O_ 7 (.cl 23 [(t_ 6)]) 0,O_ 5 (.mv (t_ 7)) 0,O_ 8 (.ex (t_ 5) 0) 0,O_ 9 (.ex (t_ 5) 1) 0,O_ 3 (.al (.agg [(.lit (.string ⟨#[]⟩)),(.lit (.bool false)),(.lit (.int .i64 0)),(.lit (.bool false))])) 0,U_ (.st 4 (t_ 3) (t_ 8)) 1,O_ 4 (.mv (t_ 9)) 1]) (.seq (R_ 0 [O_ 10 (.fa 0 (t_ 3)) 0,O_ 11 (.ld 1 false (t_ 10)) 0,O_ 2 (.mv (t_ 11)) 0]) .ret)))
theorem gc15_ok:compF Tryz.prog Tryz.f15=some (gc15.er,12,[.tmp 2]):=by unfold gc15;kernel_rfl
theorem p_script_Name_v (a0:Int):CallsO Tryz.prog 15 [.y8 a0] V.s (p_script_Name a0):=by
 refine callsO_comp mix Tryz.func15 gc15_ok fun r H=>?_
 rw [p_script_Name] at H
 conv=>whnf
 refine ask_c (p_script_shapes_v _) H rfl rfl (fun v1 H=>?_);conv=>whnf
 refine lq_ ?_;conv=>whnf
 exact fin0_c (enc:=V.s) H (.inr rfl) (.cons (.tmp rfl) (.nil)) rfl rfl
def gc8:BCode:=(.seq (R_ 1 [O_ 1 (.bx (t_ 0)) 0,O_ 2 (.mv (.const (.string ⟨#[]⟩))) 1]) (.seq (R_ 1 [O_ 6 (.fa 0 (t_ 1)) 0,O_ 7 (.ld 1 false (t_ 6)) 0,O_ 8 (.cl 23 [(t_ 7)]) 0,O_ 5 (.mv (t_ 8)) 0,O_ 9 (.ex (t_ 5) 0) 0,O_ 10 (.ex (t_ 5) 1) 0,O_ 3 (.al (.agg [(.lit (.string ⟨#[]⟩)),(.lit (.bool false)),(.lit (.int .i64 0)),(.lit (.bool false))])) 0,U_ (.st 4 (t_ 3) (t_ 9)) 1,O_ 4 (.mv (t_ 10)) 1]) (.seq (.seq (R_ 0 [O_ 11 (.mv (t_ 4)) 0,O_ 12 (.un .not (t_ 11)) 0]) (.cond (t_ 12) (.seq (R_ 0 [O_ 2 (.mv (.const (.string ⟨#[]⟩))) 0]) .ret) .skip)) (.seq (.reg 1 [O_ 13 (.fa 0 (t_ 3)) 0,O_ 14 (.ld 1 false (t_ 13)) 0,O_ 15 (.fa 1 (t_ 1)) 0,O_ 16 (.ld 1 false (t_ 15)) 0,O_ 17 (.cl 33 [(t_ 16)]) 0,O_ 18 (.fa 2 (t_ 1)) 0,O_ 19 (.ld 1 false (t_ 18)) 0,O_ 20 (.cl 33 [(t_ 19)]) 0,O_ 21 (.fa 3 (t_ 1)) 0,O_ 22 (.ld 1 false (t_ 21)) 0,O_ 23 (.lent (t_ 22)) 0,O_ 24 (.cl 33 [(t_ 23)]) 0,O_ 25 (.bs 1 4 [(.lit (.string ⟨#[]⟩)),(.lit (.string ⟨#[]⟩)),(.lit (.string ⟨#[]⟩)),(.lit (.string ⟨#[]⟩))] [(0,(t_ 14)),(1,(t_ 17)),(2,(t_ 20)),(3,(t_ 24))]) 0,O_ 26 (.cl 32 [(t_ 25),(.const (.string ⟨#[32]⟩))]) 1,O_ 2 (.mv (t_ 26)) 1] (some [[],[0],[],[2],[2,3],[],[5],[3,2,4,5,6],[],[8],[8,9],[6,5,4,2,3,7,9,8,10],[10,8,9,11,6,5,7,3,2,4,0,1],[1,0,4,2,3,7,5,6,11,9,8,10,12],[12,10,8,9,11,6,5,7,3,2,4,0,1,13]]) 0 []) .ret))))
theorem gc8_ok:compF Tryz.prog Tryz.f8=some (gc8.er,27,[.tmp 2]):=by unfold gc8;kernel_rfl
theorem p_script_Say_v (a0:BrokerStep):CallsO Tryz.prog 8 [.agg [.y8 a0.Kind,.i a0.Conn,.i a0.N,.s a0.Text]] V.s (p_script_Say a0):=by
 refine callsO_comp mix Tryz.func8 gc8_ok fun r H=>?_
 rw [p_script_Say] at H
 conv=>whnf
 refine ask_c (p_script_shapes_v _) H rfl rfl (fun v1 H=>?_);conv=>whnf
 refine lq_ ?_;conv=>whnf
 refine Tst.not ?_
 refine tst_d H (fun b2 H=>?_) (fun b2 H=>?_)
 ·conv=>whnf
  exact fin0_c (enc:=V.s) H (.inr rfl) (.cons (.tmp rfl) (.nil)) rfl rfl
 conv=>whnf
 refine ask_c (p_strconv_Itoa_v _) H rfl rfl (fun v3 H=>?_);conv=>whnf
 refine ask_c (p_strconv_Itoa_v _) H rfl rfl (fun v4 H=>?_);conv=>whnf
 refine ask_c (p_strconv_Itoa_v _) H rfl rfl (fun v5 H=>?_);conv=>whnf
 refine askF_c (p_strings_Join_v _ _) H (.cons (.c (fzown (f:=V.s) (l:=[v1.1.name,v3,v4,v5]) rfl rfl (fun _=>rfl) (fun _=>rfl))) (.cons (.c (.id rfl)) (.nil))) (fun v6 H=>?_);conv=>whnf
 refine FootQ.mk ⟨rfl,?_⟩;conv=>whnf
 exact fin0_c (enc:=V.s) H (.inr rfl) (.cons (.tmp rfl) (.nil)) rfl rfl
def gc17:BCode:=(.seq (R_ 0 [O_ 4 (.mv (i_ 0)) 0]) (.seq (R_ 0 [O_ 5 (.mv (i_ 0)) 0]) (.seq (.seq (R_ 0 [O_ 8 (.mv (t_ 0)) 0,O_ 9 (.lens (t_ 8)) 0,O_ 10 (.mv (i_ 0)) 0]) (.block 0 (.loop (.seq (R_ 0 [O_ 11 (.bin .lss (t_ 10) (t_ 9)) 0]) (.seq (.cond (t_ 11) .skip (.exit 0)) (.seq (.block 1 (.seq (R_ 1 [O_ 12 (.ixs 4 (t_ 8) (t_ 10)) 0,O_ 13 (.ld 4 true (t_ 12)) 0,O_ 7 (.al (.agg [(.lit (.int .u8 0)),(.lit (.int .i64 0)),(.lit (.int .i64 0)),(.lit (.string ⟨#[]⟩))])) 0,U_ (.st 4 (t_ 7) (t_ 13)) 1]) (.seq (R_ 0 [O_ 14 (.fa 0 (t_ 7)) 0,O_ 15 (.ld 1 false (t_ 14)) 0,O_ 16 (.mv (t_ 1)) 0,O_ 17 (.bin .eql (t_ 15) (t_ 16)) 0]) (.cond (t_ 17) (R_ 0 [O_ 18 (.mv (t_ 5)) 0,O_ 19 (.bin .add (t_ 18) (i_ 1)) 0,O_ 5 (.mv (t_ 19)) 0]) .skip)))) (R_ 0 [O_ 20 (.bin .add (t_ 10) (i_ 1)) 0,O_ 10 (.mv (t_ 20)) 0]))))))) (.seq (R_ 0 [O_ 21 (.mv (t_ 5)) 0,O_ 4 (.mv (t_ 21)) 0]) .ret))))
theorem gc17_ok:compF Tryz.prog Tryz.f17=some (gc17.er,22,[.tmp 4]):=by unfold gc17;kernel_rfl
theorem p_script_Count_v {u1:Bool} (a0:List BrokerStep) (a1:Int):CallsO Tryz.prog 17 [.sl (List.map BrokerStep.v a0) u1,.y8 a1] V.i (p_script_Count a0 a1):=by
 refine callsO_comp mix Tryz.func17 gc17_ok fun r H=>?_
 rw [p_script_Count] at H
 conv=>whnf
 refine LenQ.M ?_;conv=>whnf
 obtain ⟨o2,HL3,HQ4⟩:=bind_c H
 refine loop_c [5,10] [7,11,12,13,14,15,16,17,18,19,20] [7,11,12,13,14,15,16,17,18,19,20] (fun n vals st=>(∃ y6 y7,p_script_Count_l1  a1 a0 (a0.length:Int) n y6 y7=some o2∧vals=[.i y6,.i y7]∧st=[])) fuel 0 [] (⟨_,_,HL3,rfl,rfl⟩) (Nat.zero_le _) rfl (by kernel_rfl) (by kernel_rfl) rfl trivial ?_
 rintro (_ | n5) _ _ (⟨y6,y7,H,rfl,rfl⟩)
 ·rw [p_script_Count_l1] at H;cases H
 rw [p_script_Count_l1] at H
 conv=>whnf
 refine tst_d H (fun b8 H=>?_) (fun b8 H=>?_)
 ·conv=>whnf
  obtain rfl:=Option.some.inj H
  have H:=HQ4
  try dsimp only at H
  exact fi_ H
 conv=>whnf
 refine ixs_c (f:=BrokerStep.v) H (fun _=>rfl) (fun x9 H=>?_);conv=>whnf
 refine lq_ ?_;conv=>whnf
 refine tst_d H (fun b10 H=>?_) (fun b10 H=>?_)
 ·conv=>whnf
  refine Ari.w ?_;conv=>whnf
  exact again_c [7,11,12,13,14,15,16,17,18,19,20] n5 0 [] (⟨_,_,H,rfl,rfl⟩) (Nat.lt_succ_self _) (Nat.zero_le _) rfl (by kernel_rfl) (by kernel_rfl) rfl trivial
 conv=>whnf
 iterate 2 (refine Ari.w ?_;conv=>whnf)
 exact again_c [7,11,12,13,14,15,16,17,18,19,20] n5 0 [] (⟨_,_,H,rfl,rfl⟩) (Nat.lt_succ_self _) (Nat.zero_le _) rfl (by kernel_rfl) (by kernel_rfl) rfl trivial
end Go.Proofs.YtpkodpcfafipdaaGreatDoor

namespace Go.Proofs.YtpkodpcfafipdaaGreatDoor
open Go.RowKit
set_option maxRecDepth 1000000
set_option maxHeartbeats 4000000
def gc4:BCode:=(.seq (R_ 0 [O_ 0 (.mv (b_ false)) 0]) (.seq (R_ 0 [O_ 20 (.bd [(.lit (.int .u8 0)),(.lit (.int .i64 0)),(.lit (.int .i64 0)),(.lit (.string ⟨#[]⟩))] [(0,1,(.const (.int .u8 0))),(1,1,(i_ 3)),(2,1,(i_ 258))]) 0,O_ 21 (.cl 6 [(t_ 20)]) 0,O_ 19 (.mv (t_ 21)) 0,O_ 22 (.ex (t_ 19) 0) 0,O_ 23 (.ex (t_ 19) 1) 0,O_ 1 (.mv (t_ 22)) 0,O_ 2 (.mv (t_ 23)) 0]) (.seq (R_ 1 [O_ 25 (.cl 19 [(.const (.string ⟨#[1,2,2,104,105,33]⟩))]) 0,O_ 24 (.mv (t_ 25)) 0,O_ 26 (.ex (t_ 24) 0) 0,O_ 27 (.ex (t_ 24) 1) 0,O_ 28 (.ex (t_ 24) 2) 0,O_ 3 (.al (.agg [(.lit (.int .u8 0)),(.lit (.int .i64 0)),(.lit (.int .i64 0)),(.lit (.string ⟨#[]⟩))])) 0,U_ (.st 4 (t_ 3) (t_ 26)) 1,O_ 4 (.mv (t_ 27)) 1,O_ 5 (.mv (t_ 28)) 1]) (.seq (R_ 1 [O_ 30 (.cl 19 [(.const (.string ⟨#[6]⟩))]) 0,O_ 29 (.mv (t_ 30)) 0,O_ 31 (.ex (t_ 29) 0) 0,O_ 32 (.ex (t_ 29) 1) 0,O_ 33 (.ex (t_ 29) 2) 0,O_ 6 (.al (.agg [(.lit (.int .u8 0)),(.lit (.int .i64 0)),(.lit (.int .i64 0)),(.lit (.string ⟨#[]⟩))])) 0,U_ (.st 4 (t_ 6) (t_ 31)) 1,O_ 7 (.mv (t_ 32)) 1,O_ 8 (.mv (t_ 33)) 1]) (.seq (R_ 0 [O_ 35 (.bd [(.lit (.int .u8 0)),(.lit (.int .i64 0)),(.lit (.int .i64 0)),(.lit (.string ⟨#[]⟩))] [(0,1,(.const (.int .u8 3))),(2,1,(i_ 1))]) 0,O_ 36 (.cl 6 [(t_ 35)]) 0,O_ 34 (.mv (t_ 36)) 0,O_ 37 (.ex (t_ 34) 0) 0,O_ 38 (.ex (t_ 34) 1) 0,O_ 9 (.mv (t_ 37)) 0,O_ 10 (.mv (t_ 38)) 0]) (.seq (R_ 0 [O_ 40 (.cl 20 [(.const (.string ⟨#[3,2,7]⟩))]) 0,O_ 39 (.mv (t_ 40)) 0,O_ 41 (.ex (t_ 39) 0) 0,O_ 42 (.ex (t_ 39) 1) 0,O_ 11 (.mv (t_ 41)) 0,O_ 12 (.mv (t_ 42)) 0]) (.seq (R_ 1 [O_ 44 (.bd [(.lit (.int .u8 0)),(.lit (.int .i64 0)),(.lit (.int .i64 0)),(.lit (.string ⟨#[]⟩))] [(0,1,(.const (.int .u8 3)))]) 0,O_ 45 (.bd [(.lit (.int .u8 0)),(.lit (.int .i64 0)),(.lit (.int .i64 0)),(.lit (.string ⟨#[]⟩))] [(0,1,(.const (.int .u8 2))),(1,1,(i_ 7))]) 0,O_ 46 (.bs 4 2 [(.lit (.int .u8 0)),(.lit (.int .i64 0)),(.lit (.int .i64 0)),(.lit (.string ⟨#[]⟩)),(.lit (.int .u8 0)),(.lit (.int .i64 0)),(.lit (.int .i64 0)),(.lit (.string ⟨#[]⟩))] [(0,(t_ 44)),(1,(t_ 45))]) 0,O_ 47 (.cl 10 [(t_ 46)]) 1,O_ 43 (.mv (t_ 47)) 1,O_ 48 (.ex (t_ 43) 0) 1,O_ 49 (.ex (t_ 43) 1) 1,O_ 13 (.mv (t_ 48)) 1,O_ 14 (.mv (t_ 49)) 1]) (.seq (R_ 2 [O_ 51 (.bd [(.lit (.int .u8 0)),(.lit (.string ⟨#[]⟩)),(.lit (.string ⟨#[]⟩)),(.lit (.string ⟨#[]⟩)),(.lit (.int .i64 0)),(.lit (.int .i64 0)),(.lit (.int .i64 0)),(.lit (.int .i64 0))] [(0,1,(.const (.int .u8 2)))]) 0,O_ 52 (.bs 8 1 [(.lit (.int .u8 0)),(.lit (.string ⟨#[]⟩)),(.lit (.string ⟨#[]⟩)),(.lit (.string ⟨#[]⟩)),(.lit (.int .i64 0)),(.lit (.int .i64 0)),(.lit (.int .i64 0)),(.lit (.int .i64 0))] [(0,(t_ 51))]) 0,O_ 53 (.cl 13 [(i_ 4),(t_ 52)]) 1,O_ 50 (.mv (t_ 53)) 1,O_ 54 (.ex (t_ 50) 0) 1,O_ 55 (.ex (t_ 50) 1) 1,O_ 15 (.al (.agg [(.lit (.int .u8 0)),(.lit (.int .i64 0)),(.lit (.int .i64 0)),(.lit (.string ⟨#[]⟩))])) 1,U_ (.st 4 (t_ 15) (t_ 54)) 2,O_ 16 (.mv (t_ 55)) 2]) (.seq (R_ 0 [O_ 57 (.bd [(.lit (.int .u8 0)),(.lit (.int .i64 0)),(.lit (.int .i64 0)),(.lit (.string ⟨#[]⟩))] [(0,1,(.const (.int .u8 2))),(1,1,(i_ 256))]) 0,O_ 58 (.cl 6 [(t_ 57)]) 0,O_ 56 (.mv (t_ 58)) 0,O_ 59 (.ex (t_ 56) 0) 0,O_ 60 (.ex (t_ 56) 1) 0,O_ 17 (.mv (t_ 59)) 0,O_ 18 (.mv (t_ 60)) 0]) (.seq (R_ 1 [O_ 61 (.mv (t_ 1)) 0,O_ 62 (.bin .eql (t_ 61) (.const (.string ⟨#[0,3,1,2]⟩))) 0,O_ 63 (.mv (t_ 62)) 0,⟨(some 64),.mv (t_ 2),(some (63,true)),0⟩,⟨(some 65),.bin .eql (t_ 64) (i_ 0),(some (63,true)),0⟩,O_ 66 (.pick (t_ 63) (t_ 65) (b_ false)) 0,O_ 67 (.mv (t_ 66)) 0,⟨(some 68),.ld 4 true (t_ 3),(some (67,true)),0⟩,⟨(some 69),.bd [(.lit (.int .u8 0)),(.lit (.int .i64 0)),(.lit (.int .i64 0)),(.lit (.string ⟨#[]⟩))] [(0,1,(.const (.int .u8 1))),(1,1,(i_ 2)),(3,1,(.const (.string ⟨#[104,105]⟩)))],(some (67,true)),0⟩,⟨(some 70),.eqa false [1,1,1,2] (t_ 68) (t_ 69),(some (67,true)),0⟩,O_ 71 (.pick (t_ 67) (t_ 70) (b_ false)) 0,O_ 72 (.mv (t_ 71)) 0,⟨(some 73),.mv (t_ 4),(some (72,true)),0⟩,⟨(some 74),.bin .eql (t_ 73) (i_ 5),(some (72,true)),0⟩,O_ 75 (.pick (t_ 72) (t_ 74) (b_ false)) 0,O_ 76 (.mv (t_ 75)) 0,⟨(some 77),.mv (t_ 5),(some (76,true)),0⟩,⟨(some 78),.bin .eql (t_ 77) (i_ 0),(some (76,true)),0⟩,O_ 79 (.pick (t_ 76) (t_ 78) (b_ false)) 0,O_ 80 (.mv (t_ 79)) 0,⟨(some 81),.mv (t_ 8),(some (80,true)),0⟩,⟨(some 82),.bin .eql (t_ 81) (i_ 12),(some (80,true)),0⟩,O_ 83 (.pick (t_ 80) (t_ 82) (b_ false)) 0,O_ 84 (.mv (t_ 83)) 0,⟨(some 85),.mv (t_ 10),(some (84,true)),0⟩,⟨(some 86),.bin .eql (t_ 85) (i_ 4),(some (84,true)),0⟩,O_ 87 (.pick (t_ 84) (t_ 86) (b_ false)) 0,O_ 88 (.mv (t_ 87)) 0,⟨(some 89),.mv (t_ 11),(some (88,true)),0⟩,⟨(some 90),.cl 22 [(t_ 89)],(some (88,true)),0⟩,⟨(some 91),.bd [(.lit (.int .u8 0)),(.lit (.int .i64 0)),(.lit (.int .i64 0)),(.lit (.string ⟨#[]⟩))] [(0,1,(.const (.int .u8 3)))],(some (88,true)),0⟩,⟨(some 92),.bd [(.lit (.int .u8 0)),(.lit (.int .i64 0)),(.lit (.int .i64 0)),(.lit (.string ⟨#[]⟩))] [(0,1,(.const (.int .u8 2))),(1,1,(i_ 7))],(some (88,true)),0⟩,⟨(some 93),.bs 4 2 [(.lit (.int .u8 0)),(.lit (.int .i64 0)),(.lit (.int .i64 0)),(.lit (.string ⟨#[]⟩)),(.lit (.int .u8 0)),(.lit (.int .i64 0)),(.lit (.int .i64 0)),(.lit (.string ⟨#[]⟩))] [(0,(t_ 91)),(1,(t_ 92))],(some (88,true)),0⟩,⟨(some 94),.cl 21 [(t_ 90),(t_ 93)],(some (88,true)),1⟩,O_ 95 (.pick (t_ 88) (t_ 94) (b_ false)) 1,O_ 96 (.mv (t_ 95)) 1,⟨(some 97),.mv (t_ 12),(some (96,true)),1⟩,⟨(some 98),.bin .eql (t_ 97) (i_ 0),(some (96,true)),1⟩,O_ 99 (.pick (t_ 96) (t_ 98) (b_ false)) 1,O_ 100 (.mv (t_ 99)) 1,⟨(some 101),.mv (t_ 13),(some (100,true)),1⟩,⟨(some 102),.bin .eql (t_ 101) (.const (.string ⟨#[3,2,7]⟩)),(some (100,true)),1⟩,O_ 103 (.pick (t_ 100) (t_ 102) (b_ false)) 1,O_ 104 (.mv (t_ 103)) 1,⟨(some 105),.mv (t_ 14),(some (104,true)),1⟩,⟨(some 106),.bin .eql (t_ 105) (i_ 0),(some (104,true)),1⟩,O_ 107 (.pick (t_ 104) (t_ 106) (b_ false)) 1,O_ 108 (.mv (t_ 107)) 1,⟨(some 109),.ld 4 true (t_ 15),(some (108,true)),1⟩,⟨(some 110),.bd [(.lit (.int .u8 0)),(.lit (.int .i64 0)),(.lit (.int .i64 0)),(.lit (.string ⟨#[]⟩))] [(0,1,(.const (.int .u8 1))),(1,1,(i_ 4)),(3,1,(.const (.string ⟨#[0,1,2]⟩)))],(some (108,true)),1⟩,⟨(some 111),.eqa false [1,1,1,2] (t_ 109) (t_ 110),(some (108,true)),1⟩,O_ 112 (.pick (t_ 108) (t_ 111) (b_ false)) 1,O_ 113 (.mv (t_ 112)) 1,⟨(some 114),.mv (t_ 16),(some (113,true)),1⟩,⟨(some 115),.bin .eql (t_ 114) (i_ 0),(some (113,true)),1⟩,O_ 116 (.pick (t_ 113) (t_ 115) (b_ false)) 1,O_ 117 (.mv (t_ 116)) 1,⟨(some 118),.mv (t_ 18),(some (117,true)),1⟩,⟨(some 119),.bin .eql (t_ 118) (i_ 8),(some (117,true)),1⟩,O_ 120 (.pick (t_ 117) (t_ 119) (b_ false)) 1,O_ 121 (.mv (t_ 120)) 1,⟨(some 122),.cl 15 [(.const (.int .u8 5))],(some (121,true)),1⟩,⟨(some 123),.bin .eql (t_ 122) (.const (.string ⟨#[100,114,97,119]⟩)),(some (121,true)),1⟩,O_ 124 (.pick (t_ 121) (t_ 123) (b_ false)) 1,O_ 125 (.mv (t_ 124)) 1,⟨(some 126),.ld 4 true (t_ 15),(some (125,true)),1⟩,⟨(some 127),.cl 8 [(t_ 126)],(some (125,true)),1⟩,⟨(some 128),.bin .eql (t_ 127) (.const (.string ⟨#[98,121,116,101,115,32,52,32,48,32,51]⟩)),(some (125,true)),1⟩,O_ 129 (.pick (t_ 125) (t_ 128) (b_ false)) 1,O_ 130 (.mv (t_ 129)) 1,⟨(some 131),.mv (t_ 11),(some (130,true)),1⟩,⟨(some 132),.cl 17 [(t_ 131),(.const (.int .u8 3))],(some (130,true)),1⟩,⟨(some 133),.bin .eql (t_ 132) (i_ 1),(some (130,true)),1⟩,O_ 134 (.pick (t_ 130) (t_ 133) (b_ false)) 1,O_ 135 (.mv (t_ 134)) 1,O_ 136 (.pick (t_ 135) (b_ true) (b_ false)) 1,O_ 137 (.mv (t_ 136)) 1,O_ 138 (.pick (t_ 137) (b_ true) (b_ false)) 1,O_ 0 (.mv (t_ 138)) 1]) .ret))))))))))
theorem gc4_ok:compF Tryz.prog Tryz.f4=some (gc4.er,139,[.tmp 0]):=by unfold gc4;kernel_rfl
theorem p_law34_awake_t:CallsO Tryz.prog 4 [] V.b (tru? (p_law34_awake)):=by
 refine callsO_comp mix Tryz.func4 gc4_ok fun r H=>?_
 have H1:=tru_of H
 clear H
 obtain ⟨rfl,H⟩:=H1
 rw [p_law34_awake] at H
 conv=>whnf
 refine ask_c (p_script_Put_v _) H rfl rfl (fun v1 H=>?_);conv=>whnf
 refine ask_c (p_script_Get_v _) H rfl rfl (fun v2 H=>?_);conv=>whnf
 refine lq_ ?_;conv=>whnf
 refine ask_c (p_script_Get_v _) H rfl rfl (fun v3 H=>?_);conv=>whnf
 refine lq_ ?_;conv=>whnf
 refine ask_c (p_script_Put_v _) H rfl rfl (fun v4 H=>?_);conv=>whnf
 refine ask_c (p_script_All_v _) H rfl rfl (fun v5 H=>?_);conv=>whnf
 refine askF_c (p_script_Join_v _) H (.cons (.c (fzown (f:=BrokerStep.v) (l:=[(BrokerStep.mk (3:Int) (0:Int) (0:Int) (⟨#[]⟩ : ByteArray)),(BrokerStep.mk (2:Int) (7:Int) (0:Int) (⟨#[]⟩ : ByteArray))]) rfl rfl (fun _=>rfl) (fun _=>rfl))) (.nil)) (fun v6 H=>?_);conv=>whnf
 refine askF_c (p_script_Ask_v _ _) H (.cons (.c (.id rfl)) (.cons (.c (fzown (f:=StanzaStanza.v) (l:=[(StanzaStanza.mk (2:Int) (⟨#[]⟩ : ByteArray) (⟨#[]⟩ : ByteArray) (⟨#[]⟩ : ByteArray) (0:Int) (0:Int) (0:Int) (0:Int))]) rfl rfl (fun _=>rfl) (fun _=>rfl))) (.nil))) (fun v7 H=>?_);conv=>whnf
 refine lq_ ?_;conv=>whnf
 refine ask_c (p_script_Put_v _) H rfl rfl (fun v8 H=>?_);conv=>whnf
 refine tstT_c H (fun b9 H=>?_);conv=>whnf
 iterate 2 (refine Tst.T ?_;conv=>whnf)
 refine tstT_c H (fun b10 H=>?_);conv=>whnf
 iterate 3 (refine Tst.T ?_;conv=>whnf)
 refine tstT_c H (fun b11 H=>?_);conv=>whnf
 iterate 2 (refine Tst.T ?_;conv=>whnf)
 refine tstT_c H (fun b12 H=>?_);conv=>whnf
 iterate 2 (refine Tst.T ?_;conv=>whnf)
 refine tstT_c H (fun b13 H=>?_);conv=>whnf
 iterate 2 (refine Tst.T ?_;conv=>whnf)
 refine tstT_c H (fun b14 H=>?_);conv=>whnf
 iterate 2 (refine Tst.T ?_;conv=>whnf)
 refine tstT_c H (fun b15 H=>?_);conv=>whnf
 refine Tst.T ?_;conv=>whnf
 refine ask_c (p_law34_back_v _) H rfl rfl (fun v16 H=>?_);conv=>whnf
 iterate 4 (refine Tst.T ?_;conv=>whnf)
 refine askF_c (p_ref34_SameSteps_v _ _) H (.cons (.c (.id rfl)) (.cons (.c (fzown (f:=BrokerStep.v) (l:=[(BrokerStep.mk (3:Int) (0:Int) (0:Int) (⟨#[]⟩ : ByteArray)),(BrokerStep.mk (2:Int) (7:Int) (0:Int) (⟨#[]⟩ : ByteArray))]) rfl rfl (fun _=>rfl) (fun _=>rfl))) (.nil))) (fun v17 H=>?_);conv=>whnf
 refine Tst.T ?_;conv=>whnf
 refine tstT_c H (fun b18 H=>?_);conv=>whnf
 iterate 2 (refine Tst.T ?_;conv=>whnf)
 refine tstT_c H (fun b19 H=>?_);conv=>whnf
 iterate 2 (refine Tst.T ?_;conv=>whnf)
 refine tstT_c H (fun b20 H=>?_);conv=>whnf
 iterate 2 (refine Tst.T ?_;conv=>whnf)
 refine tstT_c H (fun b21 H=>?_);conv=>whnf
 iterate 3 (refine Tst.T ?_;conv=>whnf)
 refine tstT_c H (fun b22 H=>?_);conv=>whnf
 iterate 2 (refine Tst.T ?_;conv=>whnf)
 refine tstT_c H (fun b23 H=>?_);conv=>whnf
 iterate 2 (refine Tst.T ?_;conv=>whnf)
 refine tstT_c H (fun b24 H=>?_);conv=>whnf
 refine ask_c (p_script_Name_v _) H rfl rfl (fun v25 H=>?_);conv=>whnf
 iterate 2 (refine Tst.T ?_;conv=>whnf)
 refine tstT_c H (fun b26 H=>?_);conv=>whnf
 refine Tst.T ?_;conv=>whnf
 refine ask_c (p_script_Say_v _) H rfl rfl (fun v27 H=>?_);conv=>whnf
 iterate 2 (refine Tst.T ?_;conv=>whnf)
 refine tstT_c H (fun b28 H=>?_);conv=>whnf
 refine Tst.T ?_;conv=>whnf
 refine ask_c (p_script_Count_v _ _) H rfl rfl (fun v29 H=>?_);conv=>whnf
 iterate 2 (refine Tst.T ?_;conv=>whnf)
 refine tstT_c H (fun b30 H=>?_);conv=>whnf
 refine Tst.T ?_;conv=>whnf
 exact fb_ H
theorem p_law34_awake_true:p_law34_awake=some true:=by kernel_rfl
theorem p_law34_awake_v:CallsO Tryz.prog 4 [] V.b p_law34_awake:=tru_closed p_law34_awake_t p_law34_awake_true
def gc5:BCode:=(.seq (R_ 1 [O_ 1 (.bx (t_ 0)) 0,O_ 2 (.mv (b_ false)) 1]) (.seq (R_ 0 [O_ 3 (.fa 1 (t_ 1)) 0,O_ 4 (.ld 1 false (t_ 3)) 0,O_ 5 (.lent (t_ 4)) 0,O_ 6 (.bin .leq (t_ 5) (i_ 100)) 0,O_ 7 (.mv (t_ 6)) 0,⟨(some 8),.fa 2 (t_ 1),(some (7,true)),0⟩,⟨(some 9),.ld 1 false (t_ 8),(some (7,true)),0⟩,⟨(some 10),.lent (t_ 9),(some (7,true)),0⟩,⟨(some 11),.bin .leq (t_ 10) (i_ 100),(some (7,true)),0⟩,O_ 12 (.pick (t_ 7) (t_ 11) (b_ false)) 0,O_ 13 (.mv (t_ 12)) 0,⟨(some 14),.fa 3 (t_ 1),(some (13,true)),0⟩,⟨(some 15),.ld 1 false (t_ 14),(some (13,true)),0⟩,⟨(some 16),.lent (t_ 15),(some (13,true)),0⟩,⟨(some 17),.bin .leq (t_ 16) (i_ 100),(some (13,true)),0⟩,O_ 18 (.pick (t_ 13) (t_ 17) (b_ false)) 0,O_ 2 (.mv (t_ 18)) 0]) .ret))
theorem gc5_ok:compF Tryz.prog Tryz.f5=some (gc5.er,19,[.tmp 2]):=by unfold gc5;kernel_rfl
theorem p_ref10_Light_v (a0:StanzaStanza):CallsO Tryz.prog 5 [.agg [.y8 a0.Kind,.s a0.User,.s a0.Res,.s a0.Name,.i a0.Show,.i a0.Prio,.i a0.Code,.i a0.N]] V.b (p_ref10_Light a0):=by
 refine callsO_comp mix Tryz.func5 gc5_ok fun r H=>?_
 rw [p_ref10_Light] at H
 conv=>whnf
 refine tst_d H (fun b1 H=>?_) (fun b1 H=>?_)
 ·conv=>whnf
  iterate 9 (refine Tst.F ?_;conv=>whnf)
  exact fb_ H
 conv=>whnf
 iterate 4 (refine Tst.T ?_;conv=>whnf)
 refine tst_c H (fun b2 H=>?_) (fun b2 H=>?_)
 ·conv=>whnf
  iterate 4 (refine Tst.T ?_;conv=>whnf)
  exact fb_ H
 conv=>whnf
 iterate 4 (refine Tst.F ?_;conv=>whnf)
 exact fb_ H
def gc28:BCode:=(.seq (R_ 1 [O_ 1 (.bx (t_ 0)) 0,O_ 2 (.mv (b_ false)) 1]) (.seq (R_ 0 [O_ 4 (.fa 0 (t_ 1)) 0,O_ 5 (.ld 1 false (t_ 4)) 0,O_ 3 (.mv (t_ 5)) 0]) (.seq (.seq (R_ 0 [O_ 6 (.fa 1 (t_ 1)) 0,O_ 7 (.ld 1 false (t_ 6)) 0,O_ 8 (.bin .neq (t_ 7) (i_ 0)) 0,O_ 9 (.mv (t_ 8)) 0,⟨(some 10),.mv (t_ 3),(some (9,true)),0⟩,⟨(some 11),.bin .eql (t_ 10) (.const (.int .u8 3)),(some (9,true)),0⟩,⟨(some 12),.mv (t_ 11),(some (9,true)),0⟩,⟨(some 13),.mv (t_ 3),(some (12,false)),0⟩,⟨(some 14),.bin .eql (t_ 13) (.const (.int .u8 5)),(some (12,false)),0⟩,⟨(some 15),.pick (t_ 12) (b_ true) (t_ 14),(some (9,true)),0⟩,O_ 16 (.pick (t_ 9) (t_ 15) (b_ false)) 0,O_ 17 (.mv (t_ 16)) 0,⟨(some 18),.fa 3 (t_ 1),(some (17,false)),0⟩,⟨(some 19),.ld 1 false (t_ 18),(some (17,false)),0⟩,⟨(some 20),.bin .neq (t_ 19) (.const (.string ⟨#[]⟩)),(some (17,false)),0⟩,⟨(some 21),.mv (t_ 20),(some (17,false)),0⟩,⟨(some 22),.mv (t_ 3),(some (21,true)),0⟩,⟨(some 23),.bin .neq (t_ 22) (.const (.int .u8 1)),(some (21,true)),0⟩,⟨(some 24),.pick (t_ 21) (t_ 23) (b_ false),(some (17,false)),0⟩,O_ 25 (.pick (t_ 17) (b_ true) (t_ 24)) 0]) (.cond (t_ 25) (.seq (R_ 0 [O_ 2 (.mv (b_ false)) 0]) .ret) .skip)) (.seq (R_ 0 [O_ 26 (.fa 2 (t_ 1)) 0,O_ 27 (.ld 1 false (t_ 26)) 0,O_ 28 (.bin .eql (t_ 27) (i_ 0)) 0,O_ 29 (.mv (t_ 28)) 0,⟨(some 30),.mv (t_ 3),(some (29,false)),0⟩,⟨(some 31),.bin .eql (t_ 30) (.const (.int .u8 0)),(some (29,false)),0⟩,O_ 32 (.pick (t_ 29) (b_ true) (t_ 31)) 0,O_ 33 (.mv (t_ 32)) 0,⟨(some 34),.mv (t_ 3),(some (33,false)),0⟩,⟨(some 35),.bin .eql (t_ 34) (.const (.int .u8 4)),(some (33,false)),0⟩,O_ 36 (.pick (t_ 33) (b_ true) (t_ 35)) 0,O_ 37 (.mv (t_ 36)) 0,⟨(some 38),.mv (t_ 3),(some (37,false)),0⟩,⟨(some 39),.bin .eql (t_ 38) (.const (.int .u8 5)),(some (37,false)),0⟩,O_ 40 (.pick (t_ 37) (b_ true) (t_ 39)) 0,O_ 2 (.mv (t_ 40)) 0]) .ret))))
theorem gc28_ok:compF Tryz.prog Tryz.f28=some (gc28.er,41,[.tmp 2]):=by unfold gc28;kernel_rfl
theorem p_ref34_zero_v (a0:BrokerStep):CallsO Tryz.prog 28 [.agg [.y8 a0.Kind,.i a0.Conn,.i a0.N,.s a0.Text]] V.b (p_ref34_zero a0):=by
 refine callsO_comp mix Tryz.func28 gc28_ok fun r H=>?_
 rw [p_ref34_zero] at H
 conv=>whnf
 refine tst_d H (fun b1 H=>?_) (fun b1 H=>?_)
 ·conv=>whnf
  iterate 8 (refine Tst.F ?_;conv=>whnf)
  refine Tst.not ?_
  refine tst_c H (fun b12 H=>?_) (fun b12 H=>?_)
  ·conv=>whnf
   iterate 5 (refine Tst.F ?_;conv=>whnf)
   refine tst_c H (fun b13 H=>?_) (fun b13 H=>?_)
   ·conv=>whnf
    iterate 8 (refine Tst.T ?_;conv=>whnf)
    exact fb_ H
   conv=>whnf
   iterate 2 (refine Tst.F ?_;conv=>whnf)
   refine tst_c H (fun b14 H=>?_) (fun b14 H=>?_)
   ·conv=>whnf
    iterate 5 (refine Tst.T ?_;conv=>whnf)
    exact fb_ H
   conv=>whnf
   iterate 2 (refine Tst.F ?_;conv=>whnf)
   refine tst_c H (fun b15 H=>?_) (fun b15 H=>?_)
   ·conv=>whnf
    iterate 2 (refine Tst.T ?_;conv=>whnf)
    exact fb_ H
   conv=>whnf
   iterate 2 (refine Tst.F ?_;conv=>whnf)
   exact fb_ H
  conv=>whnf
  refine Tst.T ?_;conv=>whnf
  refine Tst.F ?_;conv=>whnf
  refine Tst.T ?_;conv=>whnf
  refine Tst.F ?_;conv=>whnf
  refine tst_c H (fun b16 H=>?_) (fun b16 H=>?_)
  ·conv=>whnf
   exact fb_ H
  conv=>whnf
  refine tst_c H (fun b17 H=>?_) (fun b17 H=>?_)
  ·conv=>whnf
   iterate 8 (refine Tst.T ?_;conv=>whnf)
   exact fb_ H
  conv=>whnf
  iterate 2 (refine Tst.F ?_;conv=>whnf)
  refine tst_c H (fun b18 H=>?_) (fun b18 H=>?_)
  ·conv=>whnf
   iterate 5 (refine Tst.T ?_;conv=>whnf)
   exact fb_ H
  conv=>whnf
  iterate 2 (refine Tst.F ?_;conv=>whnf)
  refine tst_c H (fun b19 H=>?_) (fun b19 H=>?_)
  ·conv=>whnf
   iterate 2 (refine Tst.T ?_;conv=>whnf)
   exact fb_ H
  conv=>whnf
  iterate 2 (refine Tst.F ?_;conv=>whnf)
  exact fb_ H
 conv=>whnf
 iterate 2 (refine Tst.T ?_;conv=>whnf)
 refine tst_c H (fun b2 H=>?_) (fun b2 H=>?_)
 ·conv=>whnf
  iterate 11 (refine Tst.T ?_;conv=>whnf)
  exact fb_ H
 conv=>whnf
 refine Tst.F ?_;conv=>whnf
 refine Tst.T ?_;conv=>whnf
 refine Tst.F ?_;conv=>whnf
 refine Tst.T ?_;conv=>whnf
 refine tst_c H (fun b3 H=>?_) (fun b3 H=>?_)
 ·conv=>whnf
  iterate 6 (refine Tst.T ?_;conv=>whnf)
  exact fb_ H
 conv=>whnf
 iterate 3 (refine Tst.F ?_;conv=>whnf)
 refine Tst.not ?_
 refine tst_c H (fun b4 H=>?_) (fun b4 H=>?_)
 ·conv=>whnf
  iterate 5 (refine Tst.F ?_;conv=>whnf)
  refine tst_c H (fun b5 H=>?_) (fun b5 H=>?_)
  ·conv=>whnf
   iterate 8 (refine Tst.T ?_;conv=>whnf)
   exact fb_ H
  conv=>whnf
  iterate 2 (refine Tst.F ?_;conv=>whnf)
  refine tst_c H (fun b6 H=>?_) (fun b6 H=>?_)
  ·conv=>whnf
   iterate 5 (refine Tst.T ?_;conv=>whnf)
   exact fb_ H
  conv=>whnf
  iterate 2 (refine Tst.F ?_;conv=>whnf)
  refine tst_c H (fun b7 H=>?_) (fun b7 H=>?_)
  ·conv=>whnf
   iterate 2 (refine Tst.T ?_;conv=>whnf)
   exact fb_ H
  conv=>whnf
  iterate 2 (refine Tst.F ?_;conv=>whnf)
  exact fb_ H
 conv=>whnf
 refine Tst.T ?_;conv=>whnf
 refine Tst.F ?_;conv=>whnf
 refine Tst.T ?_;conv=>whnf
 refine Tst.F ?_;conv=>whnf
 refine tst_c H (fun b8 H=>?_) (fun b8 H=>?_)
 ·conv=>whnf
  exact fb_ H
 conv=>whnf
 refine tst_c H (fun b9 H=>?_) (fun b9 H=>?_)
 ·conv=>whnf
  iterate 8 (refine Tst.T ?_;conv=>whnf)
  exact fb_ H
 conv=>whnf
 iterate 2 (refine Tst.F ?_;conv=>whnf)
 refine tst_c H (fun b10 H=>?_) (fun b10 H=>?_)
 ·conv=>whnf
  iterate 5 (refine Tst.T ?_;conv=>whnf)
  exact fb_ H
 conv=>whnf
 iterate 2 (refine Tst.F ?_;conv=>whnf)
 refine tst_c H (fun b11 H=>?_) (fun b11 H=>?_)
 ·conv=>whnf
  iterate 2 (refine Tst.T ?_;conv=>whnf)
  exact fb_ H
 conv=>whnf
 iterate 2 (refine Tst.F ?_;conv=>whnf)
 exact fb_ H
def gc29:BCode:=(.seq (R_ 0 [O_ 2 (.mv (.const (.string ⟨#[]⟩))) 0]) (.seq (.seq (R_ 0 [O_ 3 (.mv (t_ 0)) 0]) (.block 0 (.seq (R_ 0 [O_ 5 (.bin .eql (t_ 3) (.const (.int .u8 0))) 0,O_ 4 (.mv (t_ 5)) 0]) (.cond (t_ 4) (.seq (R_ 0 [O_ 2 (.mv (.const (.string ⟨#[99,50]⟩))) 0]) .ret) (.seq (R_ 0 [O_ 7 (.bin .eql (t_ 3) (.const (.int .u8 1))) 0,O_ 6 (.mv (t_ 7)) 0]) (.cond (t_ 6) (.seq (R_ 0 [O_ 2 (.mv (.const (.string ⟨#[99,116]⟩))) 0]) .ret) (.seq (R_ 0 [O_ 9 (.bin .eql (t_ 3) (.const (.int .u8 2))) 0,O_ 8 (.mv (t_ 9)) 0]) (.cond (t_ 8) (.seq (R_ 0 [O_ 2 (.mv (.const (.string ⟨#[99]⟩))) 0]) .ret) (.seq (R_ 0 [O_ 11 (.bin .eql (t_ 3) (.const (.int .u8 4))) 0,O_ 10 (.mv (t_ 11)) 0]) (.cond (t_ 10) (.seq (R_ 0 [O_ 2 (.mv (.const (.string ⟨#[99,52]⟩))) 0]) .ret) (.seq (R_ 0 [O_ 13 (.bin .eql (t_ 3) (.const (.int .u8 5))) 0,O_ 12 (.mv (t_ 13)) 0]) (.cond (t_ 12) (.seq (R_ 0 [O_ 2 (.mv (.const (.string ⟨#[54]⟩))) 0]) .ret) .skip)))))))))))) (.seq (R_ 0 [O_ 2 (.mv (.const (.string ⟨#[]⟩))) 0]) .ret)))
theorem gc29_ok:compF Tryz.prog Tryz.f29=some (gc29.er,14,[.tmp 2]):=by unfold gc29;kernel_rfl
theorem p_ref34_has_v (a0:Int):CallsO Tryz.prog 29 [.y8 a0] V.s (p_ref34_has a0):=by
 refine callsO_comp mix Tryz.func29 gc29_ok fun r H=>?_
 rw [p_ref34_has] at H
 conv=>whnf
 refine tst_c H (fun b1 H=>?_) (fun b1 H=>?_)
 ·conv=>whnf
  exact fin0_c (enc:=V.s) H (.inr rfl) (.cons (.tmp rfl) (.nil)) rfl rfl
 conv=>whnf
 refine tst_c H (fun b2 H=>?_) (fun b2 H=>?_)
 ·conv=>whnf
  exact fin0_c (enc:=V.s) H (.inr rfl) (.cons (.tmp rfl) (.nil)) rfl rfl
 conv=>whnf
 refine tst_c H (fun b3 H=>?_) (fun b3 H=>?_)
 ·conv=>whnf
  exact fin0_c (enc:=V.s) H (.inr rfl) (.cons (.tmp rfl) (.nil)) rfl rfl
 conv=>whnf
 refine tst_c H (fun b4 H=>?_) (fun b4 H=>?_)
 ·conv=>whnf
  exact fin0_c (enc:=V.s) H (.inr rfl) (.cons (.tmp rfl) (.nil)) rfl rfl
 conv=>whnf
 refine tst_c H (fun b5 H=>?_) (fun b5 H=>?_)
 ·conv=>whnf
  exact fin0_c (enc:=V.s) H (.inr rfl) (.cons (.tmp rfl) (.nil)) rfl rfl
 conv=>whnf
 exact fin0_c (enc:=V.s) H (.inr rfl) (.cons (.tmp rfl) (.nil)) rfl rfl
def gc43:BCode:=(.seq (R_ 0 [O_ 2 (.mv (b_ false)) 0]) (.seq (R_ 0 [O_ 3 (.mv (t_ 0)) 0,O_ 4 (.bin .eql (t_ 3) (i_ 1)) 0,O_ 5 (.mv (t_ 4)) 0,⟨(some 6),.mv (t_ 0),(some (5,false)),0⟩,⟨(some 7),.bin .eql (t_ 6) (i_ 2),(some (5,false)),0⟩,O_ 8 (.pick (t_ 5) (b_ true) (t_ 7)) 0,O_ 9 (.mv (t_ 8)) 0,⟨(some 10),.mv (t_ 0),(some (9,false)),0⟩,⟨(some 11),.bin .eql (t_ 10) (i_ 4),(some (9,false)),0⟩,O_ 12 (.pick (t_ 9) (b_ true) (t_ 11)) 0,O_ 13 (.mv (t_ 12)) 0,⟨(some 14),.mv (t_ 0),(some (13,false)),0⟩,⟨(some 15),.bin .eql (t_ 14) (i_ 6),(some (13,false)),0⟩,O_ 16 (.pick (t_ 13) (b_ true) (t_ 15)) 0,O_ 2 (.mv (t_ 16)) 0]) .ret))
theorem gc43_ok:compF Tryz.prog Tryz.f43=some (gc43.er,17,[.tmp 2]):=by unfold gc43;kernel_rfl
theorem p_ref01_wide_v (a0:Int):CallsO Tryz.prog 43 [.i a0] V.b (p_ref01_wide a0):=by
 refine callsO_comp mix Tryz.func43 gc43_ok fun r H=>?_
 rw [p_ref01_wide] at H
 conv=>whnf
 refine tst_c H (fun b1 H=>?_) (fun b1 H=>?_)
 ·conv=>whnf
  iterate 8 (refine Tst.T ?_;conv=>whnf)
  exact fb_ H
 conv=>whnf
 iterate 2 (refine Tst.F ?_;conv=>whnf)
 refine tst_c H (fun b2 H=>?_) (fun b2 H=>?_)
 ·conv=>whnf
  iterate 5 (refine Tst.T ?_;conv=>whnf)
  exact fb_ H
 conv=>whnf
 iterate 2 (refine Tst.F ?_;conv=>whnf)
 refine tst_c H (fun b3 H=>?_) (fun b3 H=>?_)
 ·conv=>whnf
  iterate 2 (refine Tst.T ?_;conv=>whnf)
  exact fb_ H
 conv=>whnf
 iterate 2 (refine Tst.F ?_;conv=>whnf)
 exact fb_ H
end Go.Proofs.YtpkodpcfafipdaaGreatDoor

namespace Go.Proofs.YtpkodpcfafipdaaGreatDoor
open Go.RowKit
theorem bounds_i64 {n:Int} (h:(Lit.int .i64 n).wf=true):-9223372036854775808≤n∧n≤9223372036854775807:=by
 simp [Lit.wf,IntKind.min,IntKind.max,IntKind.signed,IntKind.bits] at h
 omega
theorem scriptPuts_wf (l:List BrokerStep) (asks:List StanzaStanza) (k:Int) (hl:∀ x ∈ l,BrokerStep.Wf x) (ha:∀ x ∈ asks,StanzaStanza.Wf x) (hk:(Lit.int .u8 k).wf=true):p_law34_ScriptPuts l asks k=some true :=
 scriptPuts_pure p_law34_awake_true l asks k (fun s hs=>⟨bounds_u8 (hl s hs).Kind,bounds_i64 (hl s hs).Conn,bounds_i64 (hl s hs).N⟩) (fun x hx=>bounds_u8 (ha x hx).Kind) (bounds_u8 hk)
end Go.Proofs.YtpkodpcfafipdaaGreatDoor

namespace Go.Proofs.YtpkodpcfafipdaaGreatDoor
open Go.RowKit
set_option maxRecDepth 100000
set_option maxHeartbeats 4000000
def gc30:BCode:=(.seq (R_ 0 [O_ 4 (.mv (.const (.slice none 0 0))) 0,O_ 5 (.mv (i_ 0)) 0]) (.seq (.seq (R_ 0 [O_ 8 (.mv (t_ 1)) 0,O_ 9 (.cl 43 [(t_ 8)]) 0,O_ 10 (.un .not (t_ 9)) 0]) (.cond (t_ 10) (.seq (R_ 0 [O_ 4 (.mv (.const (.slice none 0 0))) 0,O_ 5 (.mv (i_ 2)) 0]) .ret) .skip)) (.seq (.seq (R_ 0 [O_ 11 (.mv (t_ 0)) 0,O_ 12 (.bin .lss (t_ 11) (i_ 0)) 0]) (.cond (t_ 12) (.seq (R_ 0 [O_ 4 (.mv (.const (.slice none 0 0))) 0,O_ 5 (.mv (i_ 8)) 0]) .ret) .skip)) (.seq (R_ 0 [O_ 6 (.mv (.const (.slice none 0 0))) 0]) (.seq (.seq (R_ 0 [O_ 7 (.mv (i_ 0)) 0]) (.block 0 (.loop (.seq (.seq (R_ 0 [O_ 13 (.mv (t_ 7)) 0,O_ 14 (.mv (t_ 1)) 0,O_ 15 (.bin .lss (t_ 13) (t_ 14)) 0]) (.cond (t_ 15) .skip (.exit 0))) (.seq (.block 1 (.seq (R_ 2 [O_ 18 (.mv (t_ 0)) 0,O_ 19 (.bin .rem (t_ 18) (i_ 256)) 0,O_ 20 (.cvi .u8 (t_ 19)) 0,O_ 21 (.bs 1 1 [(.lit (.int .u8 0))] [(0,(t_ 20))]) 0,O_ 22 (.mv (t_ 6)) 1,O_ 23 (.ap 1 1 (t_ 21) (t_ 22)) 1,O_ 6 (.mv (t_ 23)) 2]) (R_ 0 [O_ 24 (.mv (t_ 0)) 0,O_ 25 (.bin .quo (t_ 24) (i_ 256)) 0,O_ 0 (.mv (t_ 25)) 0]))) (R_ 0 [O_ 16 (.mv (t_ 7)) 0,O_ 17 (.bin .add (t_ 16) (i_ 1)) 0,O_ 7 (.mv (t_ 17)) 0])))))) (.seq (.seq (R_ 0 [O_ 26 (.mv (t_ 0)) 0,O_ 27 (.bin .gtr (t_ 26) (i_ 0)) 0]) (.cond (t_ 27) (.seq (R_ 0 [O_ 4 (.mv (.const (.slice none 0 0))) 0,O_ 5 (.mv (i_ 8)) 0]) .ret) .skip)) (.seq (R_ 0 [O_ 28 (.mv (t_ 6)) 0,O_ 4 (.mv (t_ 28)) 0,O_ 5 (.mv (i_ 0)) 0]) .ret)))))))
theorem gc30_ok:compF Tryz.prog Tryz.f30=some (gc30.er,29,[.tmp 4,.tmp 5]):=by unfold gc30;kernel_rfl
theorem p_ref01_Lay_v (a0:Int) (a1:Int):CallsO Tryz.prog 30 [.i a0,.i a1] (fun r:(List Int) × Int=>.tup [(fun l:List Int=>V.sl (l.map V.y8) false) r.1,V.i r.2]) (p_ref01_Lay a0 a1):=by
 refine callsO_comp mix Tryz.func30 gc30_ok fun r H=>?_
 rw [p_ref01_Lay] at H
 conv=>whnf
 refine ask_c (p_ref01_wide_v _) H rfl rfl (fun v1 H=>?_);conv=>whnf
 refine Tst.not ?_
 refine tst_d H (fun b2 H=>?_) (fun b2 H=>?_)
 ·conv=>whnf
  refine finR_c (enc:=(fun r:(List Int) × Int=>.tup [(fun l:List Int=>V.sl (l.map V.y8) false) r.1,V.i r.2])) H ?_;conv=>whnf
  exact ⟨_,.tup (.cons (.c (.slw)) (.cons (.c (.id rfl)) (.nil)))⟩
 conv=>whnf
 refine tst_c H (fun b3 H=>?_) (fun b3 H=>?_)
 ·conv=>whnf
  refine finR_c (enc:=(fun r:(List Int) × Int=>.tup [(fun l:List Int=>V.sl (l.map V.y8) false) r.1,V.i r.2])) H ?_;conv=>whnf
  exact ⟨_,.tup (.cons (.c (.slw)) (.cons (.c (.id rfl)) (.nil)))⟩
 conv=>whnf
 obtain ⟨o5,HL6,HQ7⟩:=bind_c H
 refine loop_c [0,6,7] [13,14,15,16,17,18,19,20,21,22,23,24,25] [13,14,15,16,17,18,19,20,21,22,23,24,25] (fun n vals st=>(∃ y9 y10,p_ref01_Lay_l1  a1 n y9 [] y10=some o5∧vals=[.i y9,.sl (List.map V.y8 []) true,.i y10]∧st=[])∨(∃ y13 y14 y15,p_ref01_Lay_l1  a1 n y13 y14 y15=some o5∧vals=[.i y13,.osl 0 0 (List.length y14) 1 false,.i y15]∧st=[.live (cellsM V.y8 y14) (cellsM V.y8 y14).length])∨(∃ y16 y17 y18,p_ref01_Lay_l1  a1 n y16 y17 y18=some o5∧vals=[.i y16,.osl 0 0 (List.length y17) 1 true,.i y18]∧st=[.live (cellsM V.y8 y17) (cellsM V.y8 y17).length])) fuel 0 [] (.inl (⟨_,_,HL6,rfl,rfl⟩)) (Nat.zero_le _) rfl (by kernel_rfl) (by kernel_rfl) rfl trivial ?_
 rintro (_ | n8) _ _ (⟨y9,y10,H,rfl,rfl⟩ | ⟨y13,y14,y15,H,rfl,rfl⟩ | ⟨y16,y17,y18,H,rfl,rfl⟩)
 ·rw [p_ref01_Lay_l1] at H;cases H
 ·rw [p_ref01_Lay_l1] at H;cases H
 ·rw [p_ref01_Lay_l1] at H;cases H
 ·rw [p_ref01_Lay_l1] at H
  conv=>whnf
  refine tst_d H (fun b11 H=>?_) (fun b11 H=>?_)
  ·conv=>whnf
   obtain rfl:=Option.some.inj H
   have H:=HQ7
   try dsimp only at H
   refine tst_c H (fun b19 H=>?_) (fun b19 H=>?_)
   ·conv=>whnf
    refine finR_c (enc:=(fun r:(List Int) × Int=>.tup [(fun l:List Int=>V.sl (l.map V.y8) false) r.1,V.i r.2])) H ?_;conv=>whnf
    exact ⟨_,.tup (.cons (.c (.slw)) (.cons (.c (.id rfl)) (.nil)))⟩
   conv=>whnf
   refine finR_c (enc:=(fun r:(List Int) × Int=>.tup [(fun l:List Int=>V.sl (l.map V.y8) false) r.1,V.i r.2])) H ?_;conv=>whnf
   exact ⟨_,.tup (.cons (.c (.slw)) (.cons (.c (.id rfl)) (.nil)))⟩
  conv=>whnf
  refine ⟨by decide,?_⟩;conv=>whnf
  refine Ari.w ?_;conv=>whnf
  refine appD_c (f:=V.y8) H (fun _=>rfl) rfl rfl rfl rfl (.v (srcM (f:=V.y8) (fun _=>rfl) [] true)) (by decide) rfl (fun l12 H=>?_) (fun l12 H=>?_)
  ·conv=>whnf
   refine ⟨by decide,Ari.w ?_⟩;conv=>whnf
   refine Ari.w ?_;conv=>whnf
   exact again_c [13,14,15,16,17,18,19,20,21,22,23,24,25] n8 1 [] (.inr (.inr (⟨_,_,_,H,rfl,rfl⟩))) (Nat.lt_succ_self _) (Nat.zero_le _) rfl (by kernel_rfl) (by kernel_rfl) rfl (wkB_live0 rfl (cellsM_idlt (f:=V.y8) (fun _=>rfl) _) rfl trivial)
  conv=>whnf
  refine ⟨by decide,Ari.w ?_⟩;conv=>whnf
  refine Ari.w ?_;conv=>whnf
  exact again_c [13,14,15,16,17,18,19,20,21,22,23,24,25] n8 1 [1] (.inr (.inl (⟨_,_,_,H,rfl,rfl⟩))) (Nat.lt_succ_self _) (Nat.zero_le _) rfl (by kernel_rfl) (by kernel_rfl) rfl (wkB_live0 rfl (cellsM_idlt (f:=V.y8) (fun _=>rfl) _) rfl trivial)
 ·rw [p_ref01_Lay_l1] at H
  conv=>whnf
  refine tst_d H (fun b20 H=>?_) (fun b20 H=>?_)
  ·conv=>whnf
   obtain rfl:=Option.some.inj H
   have H:=HQ7
   try dsimp only at H
   refine tst_c H (fun b22 H=>?_) (fun b22 H=>?_)
   ·conv=>whnf
    refine finR_c (enc:=(fun r:(List Int) × Int=>.tup [(fun l:List Int=>V.sl (l.map V.y8) false) r.1,V.i r.2])) H ?_;conv=>whnf
    exact ⟨_,.tup (.cons (.c (.slw)) (.cons (.c (.id rfl)) (.nil)))⟩
   conv=>whnf
   refine finR_c (enc:=(fun r:(List Int) × Int=>.tup [(fun l:List Int=>V.sl (l.map V.y8) false) r.1,V.i r.2])) H ?_;conv=>whnf
   exact ⟨_,.tup (.cons (.c (fzown (f:=V.y8) (l:=y14) rfl rfl (fun _=>rfl) (fun _=>rfl))) (.cons (.c (.id rfl)) (.nil)))⟩
  conv=>whnf
  refine ⟨by decide,?_⟩;conv=>whnf
  refine Ari.w ?_;conv=>whnf
  refine appD_c (f:=V.y8) H (fun _=>rfl) rfl rfl rfl rfl (.v (srcOwn (f:=V.y8) (l:=y14) (fun _=>rfl) rfl rfl rfl)) (by decide) rfl (fun l21 H=>?_) (fun l21 H=>?_)
  ·conv=>whnf
   refine ⟨by decide,Ari.w ?_⟩;conv=>whnf
   refine Ari.w ?_;conv=>whnf
   exact again_c [13,14,15,16,17,18,19,20,21,22,23,24,25] n8 1 [1] (.inr (.inr (⟨_,_,_,H,rfl,rfl⟩))) (Nat.lt_succ_self _) (Nat.zero_le _) rfl (by kernel_rfl) (by kernel_rfl) rfl (wkB_live0 rfl (cellsM_idlt (f:=V.y8) (fun _=>rfl) _) rfl trivial)
  conv=>whnf
  refine ⟨by decide,Ari.w ?_⟩;conv=>whnf
  refine Ari.w ?_;conv=>whnf
  exact again_c [13,14,15,16,17,18,19,20,21,22,23,24,25] n8 1 [2] (.inr (.inl (⟨_,_,_,H,rfl,rfl⟩))) (Nat.lt_succ_self _) (Nat.zero_le _) rfl (by kernel_rfl) (by kernel_rfl) rfl (wkB_live0 rfl (cellsM_idlt (f:=V.y8) (fun _=>rfl) _) rfl trivial)
 rw [p_ref01_Lay_l1] at H
 conv=>whnf
 refine tst_d H (fun b23 H=>?_) (fun b23 H=>?_)
 ·conv=>whnf
  obtain rfl:=Option.some.inj H
  have H:=HQ7
  try dsimp only at H
  refine tst_c H (fun b25 H=>?_) (fun b25 H=>?_)
  ·conv=>whnf
   refine finR_c (enc:=(fun r:(List Int) × Int=>.tup [(fun l:List Int=>V.sl (l.map V.y8) false) r.1,V.i r.2])) H ?_;conv=>whnf
   exact ⟨_,.tup (.cons (.c (.slw)) (.cons (.c (.id rfl)) (.nil)))⟩
  conv=>whnf
  refine finR_c (enc:=(fun r:(List Int) × Int=>.tup [(fun l:List Int=>V.sl (l.map V.y8) false) r.1,V.i r.2])) H ?_;conv=>whnf
  exact ⟨_,.tup (.cons (.c (fzown (f:=V.y8) (l:=y17) rfl rfl (fun _=>rfl) (fun _=>rfl))) (.cons (.c (.id rfl)) (.nil)))⟩
 conv=>whnf
 refine ⟨by decide,?_⟩;conv=>whnf
 refine Ari.w ?_;conv=>whnf
 refine appD_c (f:=V.y8) H (fun _=>rfl) rfl rfl rfl rfl (.v (srcOwn (f:=V.y8) (l:=y17) (fun _=>rfl) rfl rfl rfl)) (by decide) rfl (fun l24 H=>?_) (fun l24 H=>?_)
 ·conv=>whnf
  refine ⟨by decide,Ari.w ?_⟩;conv=>whnf
  refine Ari.w ?_;conv=>whnf
  exact again_c [13,14,15,16,17,18,19,20,21,22,23,24,25] n8 1 [1] (.inr (.inr (⟨_,_,_,H,rfl,rfl⟩))) (Nat.lt_succ_self _) (Nat.zero_le _) rfl (by kernel_rfl) (by kernel_rfl) rfl (wkB_live0 rfl (cellsM_idlt (f:=V.y8) (fun _=>rfl) _) rfl trivial)
 conv=>whnf
 refine ⟨by decide,Ari.w ?_⟩;conv=>whnf
 refine Ari.w ?_;conv=>whnf
 exact again_c [13,14,15,16,17,18,19,20,21,22,23,24,25] n8 1 [2] (.inr (.inl (⟨_,_,_,H,rfl,rfl⟩))) (Nat.lt_succ_self _) (Nat.zero_le _) rfl (by kernel_rfl) (by kernel_rfl) rfl (wkB_live0 rfl (cellsM_idlt (f:=V.y8) (fun _=>rfl) _) rfl trivial)
def gc31:BCode:=(.seq (R_ 0 [O_ 4 (.mv (.const (.slice none 0 0))) 0,O_ 5 (.mv (i_ 0)) 0]) (.seq (.seq (R_ 0 [O_ 6 (.mv (t_ 0)) 0,O_ 7 (.lent (t_ 6)) 0,O_ 8 (.mv (t_ 1)) 0,O_ 9 (.bin .gtr (t_ 7) (t_ 8)) 0,O_ 10 (.mv (t_ 9)) 0,⟨(some 11),.mv (t_ 0),(some (10,false)),0⟩,⟨(some 12),.lent (t_ 11),(some (10,false)),0⟩,⟨(some 13),.bin .gtr (t_ 12) (i_ 255),(some (10,false)),0⟩,O_ 14 (.pick (t_ 10) (b_ true) (t_ 13)) 0]) (.cond (t_ 14) (.seq (R_ 0 [O_ 4 (.mv (.const (.slice none 0 0))) 0,O_ 5 (.mv (i_ 5)) 0]) .ret) .skip)) (.seq (R_ 2 [O_ 15 (.mv (t_ 0)) 0,O_ 16 (.lent (t_ 15)) 0,O_ 17 (.cvi .u8 (t_ 16)) 0,O_ 18 (.bs 1 1 [(.lit (.int .u8 0))] [(0,(t_ 17))]) 0,O_ 19 (.mv (t_ 0)) 1,O_ 20 (.ap 1 1 (t_ 18) (t_ 19)) 1,O_ 4 (.mv (t_ 20)) 2,O_ 5 (.mv (i_ 0)) 2]) .ret)))
theorem gc31_ok:compF Tryz.prog Tryz.f31=some (gc31.er,21,[.tmp 4,.tmp 5]):=by unfold gc31;kernel_rfl
theorem p_ref01_Say_v (a0:ByteArray) (a1:Int):CallsO Tryz.prog 31 [.s a0,.i a1] (fun r:(List Int) × Int=>.tup [(fun l:List Int=>V.sl (l.map V.y8) false) r.1,V.i r.2]) (p_ref01_Say a0 a1):=by
 refine callsO_comp mix Tryz.func31 gc31_ok fun r H=>?_
 rw [p_ref01_Say] at H
 conv=>whnf
 refine tst_c H (fun b1 H=>?_) (fun b1 H=>?_)
 ·conv=>whnf
  iterate 4 (refine Tst.T ?_;conv=>whnf)
  refine finR_c (enc:=(fun r:(List Int) × Int=>.tup [(fun l:List Int=>V.sl (l.map V.y8) false) r.1,V.i r.2])) H ?_;conv=>whnf
  exact ⟨_,.tup (.cons (.c (.slw)) (.cons (.c (.id rfl)) (.nil)))⟩
 conv=>whnf
 iterate 3 (refine Tst.F ?_;conv=>whnf)
 refine tst_c H (fun b2 H=>?_) (fun b2 H=>?_)
 ·conv=>whnf
  refine finR_c (enc:=(fun r:(List Int) × Int=>.tup [(fun l:List Int=>V.sl (l.map V.y8) false) r.1,V.i r.2])) H ?_;conv=>whnf
  exact ⟨_,.tup (.cons (.c (.slw)) (.cons (.c (.id rfl)) (.nil)))⟩
 conv=>whnf
 refine Ari.w ?_;conv=>whnf
 refine appD_c (f:=V.y8) H (fun _=>rfl) rfl rfl rfl rfl (srcText _) (by decide) rfl (fun l3 H=>?_) (fun l3 H=>?_)
 ·conv=>whnf
  refine finR_c (enc:=(fun r:(List Int) × Int=>.tup [(fun l:List Int=>V.sl (l.map V.y8) false) r.1,V.i r.2])) H ?_;conv=>whnf
  exact ⟨_,.tup (.cons (.c (fzown (f:=V.y8) (l:=l3) rfl rfl (fun _=>rfl) (fun _=>rfl))) (.cons (.c (.id rfl)) (.nil)))⟩
 conv=>whnf
 refine finR_c (enc:=(fun r:(List Int) × Int=>.tup [(fun l:List Int=>V.sl (l.map V.y8) false) r.1,V.i r.2])) H ?_;conv=>whnf
 exact ⟨_,.tup (.cons (.c (fzown (f:=V.y8) (l:=l3) rfl rfl (fun _=>rfl) (fun _=>rfl))) (.cons (.c (.id rfl)) (.nil)))⟩
end Go.Proofs.YtpkodpcfafipdaaGreatDoor

