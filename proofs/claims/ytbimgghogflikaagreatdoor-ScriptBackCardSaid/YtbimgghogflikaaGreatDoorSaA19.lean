/- A part of the proof: 1 texts joined. -/
import Derived.Test.YtbimgghogflikaaGreatDoorSaA17
import Derived.Test.YtbimgghogflikaaGreatDoorSaA11
import Derived.KernelRfl
set_option linter.all false
namespace Go.Proofs.YtbimgghogflikaaGreatDoor
open Go.RowKit
set_option maxRecDepth 100000
set_option maxHeartbeats 4000000
def gc28:BCode:=(.seq (R_ 1 [O_ 2 (.al (.agg [(.lit (.string ⟨#[]⟩)),(.lit (.int .i64 0)),(.lit (.int .i64 0))])) 0]) (.seq (R_ 0 [O_ 3 (.mv (t_ 0)) 0,O_ 4 (.bd [(.lit (.string ⟨#[]⟩)),(.lit (.int .i64 0)),(.lit (.int .i64 0))] [(0,1,(t_ 3))]) 0,U_ (.st 3 (t_ 2) (t_ 4)) 0]) .ret))
theorem gc28_ok:compF Tryz.prog Tryz.f28=some (gc28.er,5,[.cell 2 3 true]):=by unfold gc28;kernel_rfl
theorem p_octet_Open_v (a0:ByteArray):CallsO Tryz.prog 28 [.s a0] OctetRead.v (p_octet_Open a0):=by
 refine callsO_comp mix Tryz.func28 gc28_ok fun r H=>?_
 rw [p_octet_Open] at H
 conv=>whnf
 refine lq_ ?_;conv=>whnf
 exact fin0_c (enc:=OctetRead.v) H (.inr rfl) (.cons (.cell rfl rfl (Nat.le_of_ble_eq_true rfl)) (.nil)) rfl rfl
def gc49:BCode:=(.seq (R_ 1 [O_ 1 (.bx (t_ 0)) 0,O_ 2 (.mv (i_ 0)) 1]) (.seq (.seq (R_ 0 [O_ 3 (.fa 2 (t_ 1)) 0,O_ 4 (.ld 1 false (t_ 3)) 0,O_ 5 (.bin .eql (t_ 4) (i_ 0)) 0,O_ 6 (.mv (t_ 5)) 0,⟨(some 7),.fa 1 (t_ 1),(some (6,true)),0⟩,⟨(some 8),.ld 1 false (t_ 7),(some (6,true)),0⟩,⟨(some 9),.bin .lss (t_ 8) (i_ 0),(some (6,true)),0⟩,⟨(some 10),.mv (t_ 9),(some (6,true)),0⟩,⟨(some 11),.fa 1 (t_ 1),(some (10,false)),0⟩,⟨(some 12),.ld 1 false (t_ 11),(some (10,false)),0⟩,⟨(some 13),.fa 0 (t_ 1),(some (10,false)),0⟩,⟨(some 14),.ld 1 false (t_ 13),(some (10,false)),0⟩,⟨(some 15),.lent (t_ 14),(some (10,false)),0⟩,⟨(some 16),.bin .gtr (t_ 12) (t_ 15),(some (10,false)),0⟩,⟨(some 17),.pick (t_ 10) (b_ true) (t_ 16),(some (6,true)),0⟩,O_ 18 (.pick (t_ 6) (t_ 17) (b_ false)) 0]) (.cond (t_ 18) (.seq (R_ 0 [O_ 2 (.mv (i_ 2)) 0]) .ret) .skip)) (.seq (R_ 0 [O_ 19 (.fa 2 (t_ 1)) 0,O_ 20 (.ld 1 false (t_ 19)) 0,O_ 2 (.mv (t_ 20)) 0]) .ret)))
theorem gc49_ok:compF Tryz.prog Tryz.f49=some (gc49.er,21,[.tmp 2]):=by unfold gc49;kernel_rfl
theorem p_octet_Read_fault_v (a0:OctetRead):CallsO Tryz.prog 49 [.agg [.s a0.S,.i a0.At,.i a0.Bad]] V.i (p_octet_Read_fault a0):=by
 refine callsO_comp mix Tryz.func49 gc49_ok fun r H=>?_
 rw [p_octet_Read_fault] at H
 conv=>whnf
 refine tst_d H (fun b1 H=>?_) (fun b1 H=>?_)
 ·conv=>whnf
  iterate 6 (refine Tst.F ?_;conv=>whnf)
  exact fi_ H
 conv=>whnf
 iterate 3 (refine Tst.T ?_;conv=>whnf)
 refine tst_c H (fun b2 H=>?_) (fun b2 H=>?_)
 ·conv=>whnf
  iterate 9 (refine Tst.T ?_;conv=>whnf)
  exact fi_ H
 conv=>whnf
 iterate 5 (refine Tst.F ?_;conv=>whnf)
 refine Tst.T ?_;conv=>whnf
 refine Tst.F ?_;conv=>whnf
 refine Tst.T ?_;conv=>whnf
 refine tst_c H (fun b3 H=>?_) (fun b3 H=>?_)
 ·conv=>whnf
  exact fi_ H
 conv=>whnf
 exact fi_ H
def gc50:BCode:=(.seq (R_ 2 [O_ 2 (.bx (t_ 0)) 0,O_ 4 (.al (.agg [(.lit (.string ⟨#[]⟩)),(.lit (.int .i64 0)),(.lit (.int .i64 0))])) 1]) (.seq (R_ 0 [O_ 5 (.mv (t_ 1)) 0,O_ 6 (.fa 2 (t_ 2)) 0,U_ (.st 1 (t_ 6) (t_ 5)) 0]) (.seq (R_ 0 [O_ 7 (.ld 3 true (t_ 2)) 0,U_ (.st 3 (t_ 4) (t_ 7)) 0]) .ret)))
theorem gc50_ok:compF Tryz.prog Tryz.f50=some (gc50.er,8,[.cell 4 3 true]):=by unfold gc50;kernel_rfl
theorem p_octet_Read_fail_v (a0:OctetRead) (a1:Int):CallsO Tryz.prog 50 [.agg [.s a0.S,.i a0.At,.i a0.Bad],.i a1] OctetRead.v (p_octet_Read_fail a0 a1):=by
 refine callsO_comp mix Tryz.func50 gc50_ok fun r H=>?_
 rw [p_octet_Read_fail] at H
 conv=>whnf
 refine lq_ ?_;conv=>whnf
 refine lq_ ?_;conv=>whnf
 exact fin0_c (enc:=OctetRead.v) H (.inr rfl) (.cons (.cell rfl rfl (Nat.le_of_ble_eq_true rfl)) (.nil)) rfl rfl
def gc52:BCode:=(.seq (R_ 1 [O_ 1 (.bx (t_ 0)) 0,O_ 2 (.mv (i_ 0)) 1]) (.seq (.seq (R_ 0 [O_ 3 (.ld 3 true (t_ 1)) 0,O_ 4 (.cl 49 [(t_ 3)]) 0,O_ 5 (.bin .neq (t_ 4) (i_ 0)) 0]) (.cond (t_ 5) (.seq (R_ 0 [O_ 2 (.mv (i_ 0)) 0]) .ret) .skip)) (.seq (R_ 0 [O_ 6 (.fa 0 (t_ 1)) 0,O_ 7 (.ld 1 false (t_ 6)) 0,O_ 8 (.lent (t_ 7)) 0,O_ 9 (.fa 1 (t_ 1)) 0,O_ 10 (.ld 1 false (t_ 9)) 0,O_ 11 (.bin .sub (t_ 8) (t_ 10)) 0,O_ 2 (.mv (t_ 11)) 0]) .ret)))
theorem gc52_ok:compF Tryz.prog Tryz.f52=some (gc52.er,12,[.tmp 2]):=by unfold gc52;kernel_rfl
theorem p_octet_Left_v (a0:OctetRead):CallsO Tryz.prog 52 [.agg [.s a0.S,.i a0.At,.i a0.Bad]] V.i (p_octet_Left a0):=by
 refine callsO_comp mix Tryz.func52 gc52_ok fun r H=>?_
 rw [p_octet_Left] at H
 conv=>whnf
 refine ask_c (p_octet_Read_fault_v _) H rfl rfl (fun v1 H=>?_);conv=>whnf
 refine tst_c H (fun b2 H=>?_) (fun b2 H=>?_)
 ·conv=>whnf
  exact fi_ H
 conv=>whnf
 refine Ari.w ?_;conv=>whnf
 exact fi_ H
def gc29:BCode:=(.seq (R_ 2 [O_ 2 (.bx (t_ 0)) 0,O_ 4 (.al (.agg [(.lit (.string ⟨#[]⟩)),(.lit (.int .i64 0)),(.lit (.int .i64 0))])) 1,O_ 5 (.mv (i_ 0)) 2]) (.seq (.seq (R_ 0 [O_ 10 (.ld 3 true (t_ 2)) 0,O_ 11 (.cl 49 [(t_ 10)]) 0,O_ 6 (.mv (t_ 11)) 0]) (.seq (R_ 0 [O_ 12 (.mv (t_ 6)) 0,O_ 13 (.bin .neq (t_ 12) (i_ 0)) 0]) (.cond (t_ 13) (.seq (R_ 0 [O_ 14 (.ld 3 true (t_ 2)) 0,O_ 15 (.mv (t_ 6)) 0,O_ 16 (.cl 50 [(t_ 14),(t_ 15)]) 0,U_ (.st 3 (t_ 4) (t_ 16)) 0,O_ 5 (.mv (i_ 0)) 0]) .ret) .skip))) (.seq (.seq (R_ 0 [O_ 17 (.mv (t_ 1)) 0,O_ 18 (.cl 51 [(t_ 17)]) 0,O_ 19 (.un .not (t_ 18)) 0]) (.cond (t_ 19) (.seq (R_ 0 [O_ 20 (.ld 3 true (t_ 2)) 0,O_ 21 (.cl 50 [(t_ 20),(i_ 2)]) 0,U_ (.st 3 (t_ 4) (t_ 21)) 0,O_ 5 (.mv (i_ 0)) 0]) .ret) .skip)) (.seq (.seq (R_ 0 [O_ 22 (.ld 3 true (t_ 2)) 0,O_ 23 (.cl 52 [(t_ 22)]) 0,O_ 24 (.mv (t_ 1)) 0,O_ 25 (.bin .lss (t_ 23) (t_ 24)) 0]) (.cond (t_ 25) (.seq (R_ 0 [O_ 26 (.ld 3 true (t_ 2)) 0,O_ 27 (.cl 50 [(t_ 26),(i_ 3)]) 0,U_ (.st 3 (t_ 4) (t_ 27)) 0,O_ 5 (.mv (i_ 0)) 0]) .ret) .skip)) (.seq (R_ 0 [O_ 7 (.mv (i_ 0)) 0]) (.seq (.seq (R_ 1 [O_ 28 (.fa 0 (t_ 2)) 0,O_ 29 (.ld 1 false (t_ 28)) 0,O_ 30 (.fa 1 (t_ 2)) 0,O_ 31 (.ld 1 false (t_ 30)) 0,O_ 32 (.fa 1 (t_ 2)) 0,O_ 33 (.ld 1 false (t_ 32)) 0,O_ 34 (.mv (t_ 1)) 0,O_ 35 (.bin .add (t_ 33) (t_ 34)) 0,O_ 36 (.slt (t_ 29) (some (t_ 31)) (some (t_ 35))) 0,O_ 37 (.s2b (t_ 36)) 0,O_ 38 (.lens (t_ 37)) 1,O_ 39 (.mv (i_ 0)) 1]) (.block 0 (.loop (.seq (R_ 0 [O_ 40 (.bin .lss (t_ 39) (t_ 38)) 0]) (.seq (.cond (t_ 40) .skip (.exit 0)) (.seq (.block 1 (.seq (R_ 0 [O_ 41 (.ixs 1 (t_ 37) (t_ 39)) 0,O_ 42 (.ld 1 false (t_ 41)) 0,O_ 9 (.mv (t_ 42)) 0]) (R_ 0 [O_ 43 (.mv (t_ 7)) 0,O_ 44 (.bin .shl (t_ 43) (.const (.int .u64 8))) 0,O_ 45 (.mv (t_ 9)) 0,O_ 46 (.cvi .i64 (t_ 45)) 0,O_ 47 (.bin .or (t_ 44) (t_ 46)) 0,O_ 7 (.mv (t_ 47)) 0]))) (R_ 0 [O_ 48 (.bin .add (t_ 39) (i_ 1)) 0,O_ 39 (.mv (t_ 48)) 0]))))))) (.seq (R_ 0 [O_ 49 (.fa 1 (t_ 2)) 0,O_ 50 (.ld 1 false (t_ 49)) 0,O_ 51 (.mv (t_ 1)) 0,O_ 52 (.bin .add (t_ 50) (t_ 51)) 0,O_ 53 (.fa 1 (t_ 2)) 0,U_ (.st 1 (t_ 53) (t_ 52)) 0]) (.seq (R_ 0 [O_ 54 (.ld 3 true (t_ 2)) 0,O_ 55 (.mv (t_ 7)) 0,U_ (.st 3 (t_ 4) (t_ 54)) 0,O_ 5 (.mv (t_ 55)) 0]) .ret))))))))
theorem gc29_ok:compF Tryz.prog Tryz.f29=some (gc29.er,56,[.cell 4 3 true,.tmp 5]):=by unfold gc29;kernel_rfl
theorem p_octet_Num_v (a0:OctetRead) (a1:Int):CallsO Tryz.prog 29 [.agg [.s a0.S,.i a0.At,.i a0.Bad],.i a1] (fun r:OctetRead × Int=>.tup [OctetRead.v r.1,V.i r.2]) (p_octet_Num a0 a1):=by
 refine callsO_comp mix Tryz.func29 gc29_ok fun r H=>?_
 rw [p_octet_Num] at H
 conv=>whnf
 refine ask_c (p_octet_Read_fault_v _) H rfl rfl (fun v1 H=>?_);conv=>whnf
 refine tst_c H (fun b2 H=>?_) (fun b2 H=>?_)
 ·conv=>whnf
  refine ask_c (p_octet_Read_fail_v _ _) H rfl rfl (fun v3 H=>?_);conv=>whnf
  refine lq_ ?_;conv=>whnf
  exact fin0_c (enc:=(fun r:OctetRead × Int=>.tup [OctetRead.v r.1,V.i r.2])) H (.inr rfl) (.cons (.cell rfl rfl (Nat.le_of_ble_eq_true rfl)) (.cons (.tmp rfl) (.nil))) rfl rfl
 conv=>whnf
 refine ask_c (p_octet_wide_v _) H rfl rfl (fun v4 H=>?_);conv=>whnf
 refine Tst.not ?_
 refine tst_d H (fun b5 H=>?_) (fun b5 H=>?_)
 ·conv=>whnf
  refine ask_c (p_octet_Read_fail_v _ _) H rfl rfl (fun v19 H=>?_);conv=>whnf
  refine lq_ ?_;conv=>whnf
  exact fin0_c (enc:=(fun r:OctetRead × Int=>.tup [OctetRead.v r.1,V.i r.2])) H (.inr rfl) (.cons (.cell rfl rfl (Nat.le_of_ble_eq_true rfl)) (.cons (.tmp rfl) (.nil))) rfl rfl
 conv=>whnf
 refine ask_c (p_octet_Left_v _) H rfl rfl (fun v6 H=>?_);conv=>whnf
 refine tst_c H (fun b7 H=>?_) (fun b7 H=>?_)
 ·conv=>whnf
  refine ask_c (p_octet_Read_fail_v _ _) H rfl rfl (fun v8 H=>?_);conv=>whnf
  refine lq_ ?_;conv=>whnf
  exact fin0_c (enc:=(fun r:OctetRead × Int=>.tup [OctetRead.v r.1,V.i r.2])) H (.inr rfl) (.cons (.cell rfl rfl (Nat.le_of_ble_eq_true rfl)) (.cons (.tmp rfl) (.nil))) rfl rfl
 conv=>whnf
 refine Ari.w ?_;conv=>whnf
 refine slt_c H (fun s9 H=>?_);conv=>whnf
 rw [bytesI_V]
 refine LenQ.M ?_;conv=>whnf
 obtain ⟨o11,HL12,HQ13⟩:=bind_c H
 refine loop_c [7,39] [9,40,41,42,43,44,45,46,47,48,28,30,32] [9,40,41,42,43,44,45,46,47,48,28,30,32] (fun n vals st=>(∃ y15 y16,p_octet_Num_l1  (bytesI s9) ((bytesI s9).length:Int) n y15 y16=some o11∧vals=[.i y15,.i y16]∧st=[.live [.s a0.S,.i a0.At,.i a0.Bad] 0,.live [.s (⟨#[]⟩ : ByteArray),.i (0:Int),.i (0:Int)] 0])) fuel 2 [] (⟨_,_,HL12,rfl,rfl⟩) (Nat.zero_le _) rfl (by kernel_rfl) (by kernel_rfl) rfl ⟨⟨rfl,rfl,rfl⟩,⟨⟨rfl,rfl,rfl⟩,trivial⟩⟩ ?_
 rintro (_ | n14) _ _ (⟨y15,y16,H,rfl,rfl⟩)
 ·rw [p_octet_Num_l1] at H;cases H
 rw [p_octet_Num_l1] at H
 conv=>whnf
 refine tst_d H (fun b17 H=>?_) (fun b17 H=>?_)
 ·conv=>whnf
  obtain rfl:=Option.some.inj H
  have H:=HQ13
  try dsimp only at H
  refine Ari.w ?_;conv=>whnf
  refine lq_ ?_;conv=>whnf
  refine lq_ ?_;conv=>whnf
  exact fin0_c (enc:=(fun r:OctetRead × Int=>.tup [OctetRead.v r.1,V.i r.2])) H (.inr rfl) (.cons (.cell rfl rfl (Nat.le_of_ble_eq_true rfl)) (.cons (.tmp rfl) (.nil))) rfl rfl
 conv=>whnf
 refine ixs_c (f:=V.y8) H (fun _=>rfl) (fun x18 H=>?_);conv=>whnf
 refine Shl.ok (by decide) ?_;conv=>whnf
 iterate 2 (refine Ari.w ?_;conv=>whnf)
 exact again_c [9,40,41,42,43,44,45,46,47,48,28,30,32] n14 2 [] (⟨_,_,H,rfl,rfl⟩) (Nat.lt_succ_self _) (Nat.zero_le _) rfl (by kernel_rfl) (by kernel_rfl) rfl ⟨⟨rfl,rfl,rfl⟩,⟨⟨rfl,rfl,rfl⟩,trivial⟩⟩
def gc30:BCode:=(.seq (R_ 2 [O_ 2 (.bx (t_ 0)) 0,O_ 4 (.al (.agg [(.lit (.string ⟨#[]⟩)),(.lit (.int .i64 0)),(.lit (.int .i64 0))])) 1,O_ 5 (.mv (.const (.string ⟨#[]⟩))) 2]) (.seq (R_ 1 [O_ 10 (.ld 3 true (t_ 2)) 0,O_ 11 (.cl 29 [(t_ 10),(i_ 1)]) 0,O_ 9 (.mv (t_ 11)) 0,O_ 12 (.ex (t_ 9) 0) 0,O_ 13 (.ex (t_ 9) 1) 0,O_ 6 (.al (.agg [(.lit (.string ⟨#[]⟩)),(.lit (.int .i64 0)),(.lit (.int .i64 0))])) 0,U_ (.st 3 (t_ 6) (t_ 12)) 1,O_ 7 (.mv (t_ 13)) 1]) (.seq (.block 0 (.seq (R_ 0 [O_ 15 (.fa 2 (t_ 6)) 0,O_ 16 (.ld 1 false (t_ 15)) 0,O_ 17 (.bin .neq (t_ 16) (i_ 0)) 0,O_ 14 (.mv (t_ 17)) 0]) (.cond (t_ 14) (.seq (R_ 0 [O_ 18 (.ld 3 true (t_ 6)) 0,U_ (.st 3 (t_ 4) (t_ 18)) 0,O_ 5 (.mv (.const (.string ⟨#[]⟩))) 0]) .ret) (.seq (R_ 0 [O_ 20 (.mv (t_ 7)) 0,O_ 21 (.mv (t_ 1)) 0,O_ 22 (.bin .gtr (t_ 20) (t_ 21)) 0,O_ 19 (.mv (t_ 22)) 0]) (.cond (t_ 19) (.seq (R_ 0 [O_ 23 (.ld 3 true (t_ 2)) 0,O_ 24 (.cl 50 [(t_ 23),(i_ 5)]) 0,U_ (.st 3 (t_ 4) (t_ 24)) 0,O_ 5 (.mv (.const (.string ⟨#[]⟩))) 0]) .ret) (.seq (R_ 0 [O_ 26 (.mv (t_ 7)) 0,O_ 27 (.ld 3 true (t_ 6)) 0,O_ 28 (.cl 52 [(t_ 27)]) 0,O_ 29 (.bin .gtr (t_ 26) (t_ 28)) 0,O_ 25 (.mv (t_ 29)) 0]) (.cond (t_ 25) (.seq (R_ 0 [O_ 30 (.ld 3 true (t_ 2)) 0,O_ 31 (.cl 50 [(t_ 30),(i_ 3)]) 0,U_ (.st 3 (t_ 4) (t_ 31)) 0,O_ 5 (.mv (.const (.string ⟨#[]⟩))) 0]) .ret) .skip))))))) (.seq (R_ 0 [O_ 32 (.fa 1 (t_ 6)) 0,O_ 33 (.ld 1 false (t_ 32)) 0,O_ 8 (.mv (t_ 33)) 0]) (.seq (R_ 0 [O_ 34 (.fa 1 (t_ 6)) 0,O_ 35 (.ld 1 false (t_ 34)) 0,O_ 36 (.mv (t_ 7)) 0,O_ 37 (.bin .add (t_ 35) (t_ 36)) 0,O_ 38 (.fa 1 (t_ 6)) 0,U_ (.st 1 (t_ 38) (t_ 37)) 0]) (.seq (.reg 0 [O_ 39 (.ld 3 true (t_ 6)) 0,O_ 40 (.fa 0 (t_ 2)) 0,O_ 41 (.ld 1 false (t_ 40)) 0,O_ 42 (.mv (t_ 8)) 0,O_ 43 (.fa 1 (t_ 6)) 0,O_ 44 (.ld 1 false (t_ 43)) 0,O_ 45 (.slt (t_ 41) (some (t_ 42)) (some (t_ 44))) 0,U_ (.st 3 (t_ 4) (t_ 39)) 0,O_ 5 (.mv (t_ 45)) 0] (some [[],[],[1],[],[],[4],[4,5,3,1,2],[0],[0,7,2,1,3,5,4,6]]) 0 []) .ret))))))
theorem gc30_ok:compF Tryz.prog Tryz.f30=some (gc30.er,46,[.cell 4 3 true,.tmp 5]):=by unfold gc30;kernel_rfl
theorem p_octet_Text_v (a0:OctetRead) (a1:Int):CallsO Tryz.prog 30 [.agg [.s a0.S,.i a0.At,.i a0.Bad],.i a1] (fun r:OctetRead × ByteArray=>.tup [OctetRead.v r.1,V.s r.2]) (p_octet_Text a0 a1):=by
 refine callsO_comp mix Tryz.func30 gc30_ok fun r H=>?_
 rw [p_octet_Text] at H
 conv=>whnf
 refine ask_c (p_octet_Num_v _ _) H rfl rfl (fun v1 H=>?_);conv=>whnf
 refine lq_ ?_;conv=>whnf
 refine tst_c H (fun b2 H=>?_) (fun b2 H=>?_)
 ·conv=>whnf
  refine lq_ ?_;conv=>whnf
  exact fin0_c (enc:=(fun r:OctetRead × ByteArray=>.tup [OctetRead.v r.1,V.s r.2])) H (.inr rfl) (.cons (.cell rfl rfl (Nat.le_of_ble_eq_true rfl)) (.cons (.tmp rfl) (.nil))) rfl rfl
 conv=>whnf
 refine tst_c H (fun b3 H=>?_) (fun b3 H=>?_)
 ·conv=>whnf
  refine ask_c (p_octet_Read_fail_v _ _) H rfl rfl (fun v4 H=>?_);conv=>whnf
  refine lq_ ?_;conv=>whnf
  exact fin0_c (enc:=(fun r:OctetRead × ByteArray=>.tup [OctetRead.v r.1,V.s r.2])) H (.inr rfl) (.cons (.cell rfl rfl (Nat.le_of_ble_eq_true rfl)) (.cons (.tmp rfl) (.nil))) rfl rfl
 conv=>whnf
 refine ask_c (p_octet_Left_v _) H rfl rfl (fun v5 H=>?_);conv=>whnf
 refine tst_c H (fun b6 H=>?_) (fun b6 H=>?_)
 ·conv=>whnf
  refine ask_c (p_octet_Read_fail_v _ _) H rfl rfl (fun v7 H=>?_);conv=>whnf
  refine lq_ ?_;conv=>whnf
  exact fin0_c (enc:=(fun r:OctetRead × ByteArray=>.tup [OctetRead.v r.1,V.s r.2])) H (.inr rfl) (.cons (.cell rfl rfl (Nat.le_of_ble_eq_true rfl)) (.cons (.tmp rfl) (.nil))) rfl rfl
 conv=>whnf
 refine Ari.w ?_;conv=>whnf
 refine lq_ ?_;conv=>whnf
 refine slt_c H (fun s8 H=>?_);conv=>whnf
 refine lq_ ?_;conv=>whnf
 refine FootQ.mk ⟨rfl,?_⟩;conv=>whnf
 exact fin0_c (enc:=(fun r:OctetRead × ByteArray=>.tup [OctetRead.v r.1,V.s r.2])) H (.inr rfl) (.cons (.cell rfl rfl (Nat.le_of_ble_eq_true rfl)) (.cons (.tmp rfl) (.nil))) rfl rfl
end Go.Proofs.YtbimgghogflikaaGreatDoor

