/- A part of the proof: 5 texts joined. -/
import Derived.Test.YtdbigmjlhkgeoaaGreatZhA1
import Derived.Test.YtdbigmjlhkgeoaaGreatZeA11
import Derived.KernelRfl
import Derived.Test.YtdbigmjlhkgeoaaGreatZhA4
import Derived.Test.YtdbigmjlhkgeoaaGreatZhA6
import Derived.Test.YtdbigmjlhkgeoaaGreatZhA5
import Derived.Lib.SliceRun
set_option linter.all false
namespace Go.Proofs.YtdbigmjlhkgeoaaGreat
open Go.RowKit
set_option maxRecDepth 100000
set_option maxHeartbeats 4000000
def gc89:BCode:=(.seq (R_ 1 [O_ 2 (.al (.agg [(.lit (.string ⟨#[]⟩)),(.lit (.int .i64 0)),(.lit (.int .i64 0))])) 0]) (.seq (R_ 0 [O_ 3 (.mv (t_ 0)) 0,O_ 4 (.bd [(.lit (.string ⟨#[]⟩)),(.lit (.int .i64 0)),(.lit (.int .i64 0))] [(0,1,(t_ 3))]) 0,U_ (.st 3 (t_ 2) (t_ 4)) 0]) .ret))
theorem gc89_ok:compF Tryz.prog Tryz.f89=some (gc89.er,5,[.cell 2 3 true]):=by unfold gc89;kernel_rfl
theorem p_octet_Open_v (a0:ByteArray):CallsO Tryz.prog 89 [.s a0] OctetRead.v (p_octet_Open a0):=by
 refine callsO_comp mix Tryz.func89 gc89_ok fun r H=>?_
 rw [p_octet_Open] at H
 conv=>whnf
 refine lq_ ?_;conv=>whnf
 exact fin0_c (enc:=OctetRead.v) H (.inr rfl) (.cons (.cell rfl rfl (Nat.le_of_ble_eq_true rfl)) (.nil)) rfl rfl
def gc110:BCode:=(.seq (R_ 1 [O_ 1 (.bx (t_ 0)) 0,O_ 2 (.mv (i_ 0)) 1]) (.seq (.seq (R_ 0 [O_ 3 (.fa 2 (t_ 1)) 0,O_ 4 (.ld 1 false (t_ 3)) 0,O_ 5 (.bin .eql (t_ 4) (i_ 0)) 0,O_ 6 (.mv (t_ 5)) 0,⟨(some 7),.fa 1 (t_ 1),(some (6,true)),0⟩,⟨(some 8),.ld 1 false (t_ 7),(some (6,true)),0⟩,⟨(some 9),.bin .lss (t_ 8) (i_ 0),(some (6,true)),0⟩,⟨(some 10),.mv (t_ 9),(some (6,true)),0⟩,⟨(some 11),.fa 1 (t_ 1),(some (10,false)),0⟩,⟨(some 12),.ld 1 false (t_ 11),(some (10,false)),0⟩,⟨(some 13),.fa 0 (t_ 1),(some (10,false)),0⟩,⟨(some 14),.ld 1 false (t_ 13),(some (10,false)),0⟩,⟨(some 15),.lent (t_ 14),(some (10,false)),0⟩,⟨(some 16),.bin .gtr (t_ 12) (t_ 15),(some (10,false)),0⟩,⟨(some 17),.pick (t_ 10) (b_ true) (t_ 16),(some (6,true)),0⟩,O_ 18 (.pick (t_ 6) (t_ 17) (b_ false)) 0]) (.cond (t_ 18) (.seq (R_ 0 [O_ 2 (.mv (i_ 2)) 0]) .ret) .skip)) (.seq (R_ 0 [O_ 19 (.fa 2 (t_ 1)) 0,O_ 20 (.ld 1 false (t_ 19)) 0,O_ 2 (.mv (t_ 20)) 0]) .ret)))
theorem gc110_ok:compF Tryz.prog Tryz.f110=some (gc110.er,21,[.tmp 2]):=by unfold gc110;kernel_rfl
theorem p_octet_Read_fault_v (a0:OctetRead):CallsO Tryz.prog 110 [.agg [.s a0.S,.i a0.At,.i a0.Bad]] V.i (p_octet_Read_fault a0):=by
 refine callsO_comp mix Tryz.func110 gc110_ok fun r H=>?_
 rw [p_octet_Read_fault] at H
 conv=>whnf
 refine tst_d H (fun b1 H=>?_) (fun b1 H=>?_)
 ·conv=>whnf
  iterate 6 (refine Tst.F ?_;conv=>whnf)
  exact fi_ H
 conv=>whnf
 iterate 3 (refine Tst.T ?_;conv=>whnf)
 refine tst_c H (fun b2 H=>?_) (fun b2 H=>?_)
 ·conv=>whnf
  iterate 9 (refine Tst.T ?_;conv=>whnf)
  exact fi_ H
 conv=>whnf
 iterate 5 (refine Tst.F ?_;conv=>whnf)
 refine Tst.T ?_;conv=>whnf
 refine Tst.F ?_;conv=>whnf
 refine Tst.T ?_;conv=>whnf
 refine tst_c H (fun b3 H=>?_) (fun b3 H=>?_)
 ·conv=>whnf
  exact fi_ H
 conv=>whnf
 exact fi_ H
def gc111:BCode:=(.seq (R_ 2 [O_ 2 (.bx (t_ 0)) 0,O_ 4 (.al (.agg [(.lit (.string ⟨#[]⟩)),(.lit (.int .i64 0)),(.lit (.int .i64 0))])) 1]) (.seq (R_ 0 [O_ 5 (.mv (t_ 1)) 0,O_ 6 (.fa 2 (t_ 2)) 0,U_ (.st 1 (t_ 6) (t_ 5)) 0]) (.seq (R_ 0 [O_ 7 (.ld 3 true (t_ 2)) 0,U_ (.st 3 (t_ 4) (t_ 7)) 0]) .ret)))
theorem gc111_ok:compF Tryz.prog Tryz.f111=some (gc111.er,8,[.cell 4 3 true]):=by unfold gc111;kernel_rfl
theorem p_octet_Read_fail_v (a0:OctetRead) (a1:Int):CallsO Tryz.prog 111 [.agg [.s a0.S,.i a0.At,.i a0.Bad],.i a1] OctetRead.v (p_octet_Read_fail a0 a1):=by
 refine callsO_comp mix Tryz.func111 gc111_ok fun r H=>?_
 rw [p_octet_Read_fail] at H
 conv=>whnf
 refine lq_ ?_;conv=>whnf
 refine lq_ ?_;conv=>whnf
 exact fin0_c (enc:=OctetRead.v) H (.inr rfl) (.cons (.cell rfl rfl (Nat.le_of_ble_eq_true rfl)) (.nil)) rfl rfl
def gc112:BCode:=(.seq (R_ 0 [O_ 2 (.mv (b_ false)) 0]) (.seq (.seq (R_ 0 [O_ 3 (.mv (t_ 0)) 0]) (.block 0 (.seq (.seq (R_ 0 [O_ 5 (.bin .eql (t_ 3) (i_ 1)) 0,O_ 4 (.mv (t_ 5)) 0]) (.cond (t_ 4) .skip (.seq (R_ 0 [O_ 6 (.bin .eql (t_ 3) (i_ 2)) 0,O_ 4 (.mv (t_ 6)) 0]) (.cond (t_ 4) .skip (.seq (R_ 0 [O_ 7 (.bin .eql (t_ 3) (i_ 4)) 0,O_ 4 (.mv (t_ 7)) 0]) (.cond (t_ 4) .skip (R_ 0 [O_ 8 (.bin .eql (t_ 3) (i_ 6)) 0,O_ 4 (.mv (t_ 8)) 0]))))))) (.cond (t_ 4) (.seq (R_ 0 [O_ 2 (.mv (b_ true)) 0]) .ret) .skip)))) (.seq (R_ 0 [O_ 2 (.mv (b_ false)) 0]) .ret)))
theorem gc112_ok:compF Tryz.prog Tryz.f112=some (gc112.er,9,[.tmp 2]):=by unfold gc112;kernel_rfl
theorem p_octet_wide_v (a0:Int):CallsO Tryz.prog 112 [.i a0] V.b (p_octet_wide a0):=by
 refine callsO_comp mix Tryz.func112 gc112_ok fun r H=>?_
 rw [p_octet_wide] at H
 conv=>whnf
 refine tst_c H (fun b1 H=>?_) (fun b1 H=>?_)
 ·conv=>whnf
  refine Tst.T ?_;conv=>whnf
  exact fb_ H
 conv=>whnf
 refine tst_c H (fun b2 H=>?_) (fun b2 H=>?_)
 ·conv=>whnf
  refine Tst.T ?_;conv=>whnf
  exact fb_ H
 conv=>whnf
 refine tst_c H (fun b3 H=>?_) (fun b3 H=>?_)
 ·conv=>whnf
  refine Tst.T ?_;conv=>whnf
  exact fb_ H
 conv=>whnf
 refine tst_c H (fun b4 H=>?_) (fun b4 H=>?_)
 ·conv=>whnf
  exact fb_ H
 conv=>whnf
 exact fb_ H
def gc90:BCode:=(.seq (R_ 1 [O_ 1 (.bx (t_ 0)) 0,O_ 2 (.mv (i_ 0)) 1]) (.seq (.seq (R_ 0 [O_ 3 (.ld 3 true (t_ 1)) 0,O_ 4 (.cl 110 [(t_ 3)]) 0,O_ 5 (.bin .neq (t_ 4) (i_ 0)) 0]) (.cond (t_ 5) (.seq (R_ 0 [O_ 2 (.mv (i_ 0)) 0]) .ret) .skip)) (.seq (R_ 0 [O_ 6 (.fa 0 (t_ 1)) 0,O_ 7 (.ld 1 false (t_ 6)) 0,O_ 8 (.lent (t_ 7)) 0,O_ 9 (.fa 1 (t_ 1)) 0,O_ 10 (.ld 1 false (t_ 9)) 0,O_ 11 (.bin .sub (t_ 8) (t_ 10)) 0,O_ 2 (.mv (t_ 11)) 0]) .ret)))
theorem gc90_ok:compF Tryz.prog Tryz.f90=some (gc90.er,12,[.tmp 2]):=by unfold gc90;kernel_rfl
theorem p_octet_Left_v (a0:OctetRead):CallsO Tryz.prog 90 [.agg [.s a0.S,.i a0.At,.i a0.Bad]] V.i (p_octet_Left a0):=by
 refine callsO_comp mix Tryz.func90 gc90_ok fun r H=>?_
 rw [p_octet_Left] at H
 conv=>whnf
 refine ask_c (p_octet_Read_fault_v _) H rfl rfl (fun v1 H=>?_);conv=>whnf
 refine tst_c H (fun b2 H=>?_) (fun b2 H=>?_)
 ·conv=>whnf
  exact fi_ H
 conv=>whnf
 refine Ari.w ?_;conv=>whnf
 exact fi_ H
def gc88:BCode:=(.seq (R_ 2 [O_ 2 (.bx (t_ 0)) 0,O_ 4 (.al (.agg [(.lit (.string ⟨#[]⟩)),(.lit (.int .i64 0)),(.lit (.int .i64 0))])) 1,O_ 5 (.mv (i_ 0)) 2]) (.seq (.seq (R_ 0 [O_ 10 (.ld 3 true (t_ 2)) 0,O_ 11 (.cl 110 [(t_ 10)]) 0,O_ 6 (.mv (t_ 11)) 0]) (.seq (R_ 0 [O_ 12 (.mv (t_ 6)) 0,O_ 13 (.bin .neq (t_ 12) (i_ 0)) 0]) (.cond (t_ 13) (.seq (R_ 0 [O_ 14 (.ld 3 true (t_ 2)) 0,O_ 15 (.mv (t_ 6)) 0,O_ 16 (.cl 111 [(t_ 14),(t_ 15)]) 0,U_ (.st 3 (t_ 4) (t_ 16)) 0,O_ 5 (.mv (i_ 0)) 0]) .ret) .skip))) (.seq (.seq (R_ 0 [O_ 17 (.mv (t_ 1)) 0,O_ 18 (.cl 112 [(t_ 17)]) 0,O_ 19 (.un .not (t_ 18)) 0]) (.cond (t_ 19) (.seq (R_ 0 [O_ 20 (.ld 3 true (t_ 2)) 0,O_ 21 (.cl 111 [(t_ 20),(i_ 2)]) 0,U_ (.st 3 (t_ 4) (t_ 21)) 0,O_ 5 (.mv (i_ 0)) 0]) .ret) .skip)) (.seq (.seq (R_ 0 [O_ 22 (.ld 3 true (t_ 2)) 0,O_ 23 (.cl 90 [(t_ 22)]) 0,O_ 24 (.mv (t_ 1)) 0,O_ 25 (.bin .lss (t_ 23) (t_ 24)) 0]) (.cond (t_ 25) (.seq (R_ 0 [O_ 26 (.ld 3 true (t_ 2)) 0,O_ 27 (.cl 111 [(t_ 26),(i_ 3)]) 0,U_ (.st 3 (t_ 4) (t_ 27)) 0,O_ 5 (.mv (i_ 0)) 0]) .ret) .skip)) (.seq (R_ 0 [O_ 7 (.mv (i_ 0)) 0]) (.seq (.seq (R_ 1 [O_ 28 (.fa 0 (t_ 2)) 0,O_ 29 (.ld 1 false (t_ 28)) 0,O_ 30 (.fa 1 (t_ 2)) 0,O_ 31 (.ld 1 false (t_ 30)) 0,O_ 32 (.fa 1 (t_ 2)) 0,O_ 33 (.ld 1 false (t_ 32)) 0,O_ 34 (.mv (t_ 1)) 0,O_ 35 (.bin .add (t_ 33) (t_ 34)) 0,O_ 36 (.slt (t_ 29) (some (t_ 31)) (some (t_ 35))) 0,O_ 37 (.s2b (t_ 36)) 0,O_ 38 (.lens (t_ 37)) 1,O_ 39 (.mv (i_ 0)) 1]) (.block 0 (.loop (.seq (R_ 0 [O_ 40 (.bin .lss (t_ 39) (t_ 38)) 0]) (.seq (.cond (t_ 40) .skip (.exit 0)) (.seq (.block 1 (.seq (R_ 0 [O_ 41 (.ixs 1 (t_ 37) (t_ 39)) 0,O_ 42 (.ld 1 false (t_ 41)) 0,O_ 9 (.mv (t_ 42)) 0]) (R_ 0 [O_ 43 (.mv (t_ 7)) 0,O_ 44 (.bin .shl (t_ 43) (.const (.int .u64 8))) 0,O_ 45 (.mv (t_ 9)) 0,O_ 46 (.cvi .i64 (t_ 45)) 0,O_ 47 (.bin .or (t_ 44) (t_ 46)) 0,O_ 7 (.mv (t_ 47)) 0]))) (R_ 0 [O_ 48 (.bin .add (t_ 39) (i_ 1)) 0,O_ 39 (.mv (t_ 48)) 0]))))))) (.seq (R_ 0 [O_ 49 (.fa 1 (t_ 2)) 0,O_ 50 (.ld 1 false (t_ 49)) 0,O_ 51 (.mv (t_ 1)) 0,O_ 52 (.bin .add (t_ 50) (t_ 51)) 0,O_ 53 (.fa 1 (t_ 2)) 0,U_ (.st 1 (t_ 53) (t_ 52)) 0]) (.seq (R_ 0 [O_ 54 (.ld 3 true (t_ 2)) 0,O_ 55 (.mv (t_ 7)) 0,U_ (.st 3 (t_ 4) (t_ 54)) 0,O_ 5 (.mv (t_ 55)) 0]) .ret))))))))
theorem gc88_ok:compF Tryz.prog Tryz.f88=some (gc88.er,56,[.cell 4 3 true,.tmp 5]):=by unfold gc88;kernel_rfl
theorem p_octet_Num_v (a0:OctetRead) (a1:Int):CallsO Tryz.prog 88 [.agg [.s a0.S,.i a0.At,.i a0.Bad],.i a1] (fun r:OctetRead × Int=>.tup [OctetRead.v r.1,V.i r.2]) (p_octet_Num a0 a1):=by
 refine callsO_comp mix Tryz.func88 gc88_ok fun r H=>?_
 rw [p_octet_Num] at H
 conv=>whnf
 refine ask_c (p_octet_Read_fault_v _) H rfl rfl (fun v1 H=>?_);conv=>whnf
 refine tst_c H (fun b2 H=>?_) (fun b2 H=>?_)
 ·conv=>whnf
  refine ask_c (p_octet_Read_fail_v _ _) H rfl rfl (fun v3 H=>?_);conv=>whnf
  refine lq_ ?_;conv=>whnf
  exact fin0_c (enc:=(fun r:OctetRead × Int=>.tup [OctetRead.v r.1,V.i r.2])) H (.inr rfl) (.cons (.cell rfl rfl (Nat.le_of_ble_eq_true rfl)) (.cons (.tmp rfl) (.nil))) rfl rfl
 conv=>whnf
 refine ask_c (p_octet_wide_v _) H rfl rfl (fun v4 H=>?_);conv=>whnf
 refine Tst.not ?_
 refine tst_d H (fun b5 H=>?_) (fun b5 H=>?_)
 ·conv=>whnf
  refine ask_c (p_octet_Read_fail_v _ _) H rfl rfl (fun v19 H=>?_);conv=>whnf
  refine lq_ ?_;conv=>whnf
  exact fin0_c (enc:=(fun r:OctetRead × Int=>.tup [OctetRead.v r.1,V.i r.2])) H (.inr rfl) (.cons (.cell rfl rfl (Nat.le_of_ble_eq_true rfl)) (.cons (.tmp rfl) (.nil))) rfl rfl
 conv=>whnf
 refine ask_c (p_octet_Left_v _) H rfl rfl (fun v6 H=>?_);conv=>whnf
 refine tst_c H (fun b7 H=>?_) (fun b7 H=>?_)
 ·conv=>whnf
  refine ask_c (p_octet_Read_fail_v _ _) H rfl rfl (fun v8 H=>?_);conv=>whnf
  refine lq_ ?_;conv=>whnf
  exact fin0_c (enc:=(fun r:OctetRead × Int=>.tup [OctetRead.v r.1,V.i r.2])) H (.inr rfl) (.cons (.cell rfl rfl (Nat.le_of_ble_eq_true rfl)) (.cons (.tmp rfl) (.nil))) rfl rfl
 conv=>whnf
 refine Ari.w ?_;conv=>whnf
 refine slt_c H (fun s9 H=>?_);conv=>whnf
 rw [bytesI_V]
 refine LenQ.M ?_;conv=>whnf
 obtain ⟨o11,HL12,HQ13⟩:=bind_c H
 refine loop_c [7,39] [9,40,41,42,43,44,45,46,47,48,28,30,32] [9,40,41,42,43,44,45,46,47,48,28,30,32] (fun n vals st=>(∃ y15 y16,p_octet_Num_l1  (bytesI s9) ((bytesI s9).length:Int) n y15 y16=some o11∧vals=[.i y15,.i y16]∧st=[.live [.s a0.S,.i a0.At,.i a0.Bad] 0,.live [.s (⟨#[]⟩ : ByteArray),.i (0:Int),.i (0:Int)] 0])) fuel 2 [] (⟨_,_,HL12,rfl,rfl⟩) (Nat.zero_le _) rfl (by kernel_rfl) (by kernel_rfl) rfl ⟨⟨rfl,rfl,rfl⟩,⟨⟨rfl,rfl,rfl⟩,trivial⟩⟩ ?_
 rintro (_ | n14) _ _ (⟨y15,y16,H,rfl,rfl⟩)
 ·rw [p_octet_Num_l1] at H;cases H
 rw [p_octet_Num_l1] at H
 conv=>whnf
 refine tst_d H (fun b17 H=>?_) (fun b17 H=>?_)
 ·conv=>whnf
  obtain rfl:=Option.some.inj H
  have H:=HQ13
  try dsimp only at H
  refine Ari.w ?_;conv=>whnf
  refine lq_ ?_;conv=>whnf
  refine lq_ ?_;conv=>whnf
  exact fin0_c (enc:=(fun r:OctetRead × Int=>.tup [OctetRead.v r.1,V.i r.2])) H (.inr rfl) (.cons (.cell rfl rfl (Nat.le_of_ble_eq_true rfl)) (.cons (.tmp rfl) (.nil))) rfl rfl
 conv=>whnf
 refine ixs_c (f:=V.y8) H (fun _=>rfl) (fun x18 H=>?_);conv=>whnf
 refine Shl.ok (by decide) ?_;conv=>whnf
 iterate 2 (refine Ari.w ?_;conv=>whnf)
 exact again_c [9,40,41,42,43,44,45,46,47,48,28,30,32] n14 2 [] (⟨_,_,H,rfl,rfl⟩) (Nat.lt_succ_self _) (Nat.zero_le _) rfl (by kernel_rfl) (by kernel_rfl) rfl ⟨⟨rfl,rfl,rfl⟩,⟨⟨rfl,rfl,rfl⟩,trivial⟩⟩
def gc72:BCode:=(.seq (R_ 0 [O_ 2 (.mv (.const (.string ⟨#[]⟩))) 0,O_ 3 (.mv (i_ 0)) 0,O_ 4 (.mv (i_ 0)) 0]) (.seq (R_ 1 [O_ 8 (.mv (t_ 0)) 0,O_ 9 (.cl 89 [(t_ 8)]) 0,O_ 10 (.cl 88 [(t_ 9),(i_ 2)]) 0,O_ 7 (.mv (t_ 10)) 0,O_ 11 (.ex (t_ 7) 0) 0,O_ 12 (.ex (t_ 7) 1) 0,O_ 5 (.al (.agg [(.lit (.string ⟨#[]⟩)),(.lit (.int .i64 0)),(.lit (.int .i64 0))])) 0,U_ (.st 3 (t_ 5) (t_ 11)) 1,O_ 6 (.mv (t_ 12)) 1]) (.seq (.block 0 (.seq (R_ 0 [O_ 14 (.fa 2 (t_ 5)) 0,O_ 15 (.ld 1 false (t_ 14)) 0,O_ 16 (.bin .neq (t_ 15) (i_ 0)) 0,O_ 13 (.mv (t_ 16)) 0]) (.cond (t_ 13) (.seq (.reg 0 [O_ 17 (.fa 2 (t_ 5)) 0,O_ 18 (.ld 1 false (t_ 17)) 0,O_ 2 (.mv (.const (.string ⟨#[]⟩))) 0,O_ 3 (.mv (i_ 0)) 0,O_ 4 (.mv (t_ 18)) 0] (some [[],[0],[],[2],[2,3,0,1]]) 0 []) .ret) (.seq (R_ 0 [O_ 20 (.mv (t_ 6)) 0,O_ 21 (.bin .eql (t_ 20) (i_ 0)) 0,O_ 19 (.mv (t_ 21)) 0]) (.cond (t_ 19) (.seq (R_ 0 [O_ 2 (.mv (.const (.string ⟨#[]⟩))) 0,O_ 3 (.mv (i_ 0)) 0,O_ 4 (.mv (i_ 4)) 0]) .ret) (.seq (R_ 0 [O_ 23 (.mv (t_ 6)) 0,O_ 24 (.bin .gtr (t_ 23) (i_ 128)) 0,O_ 22 (.mv (t_ 24)) 0]) (.cond (t_ 22) (.seq (R_ 0 [O_ 2 (.mv (.const (.string ⟨#[]⟩))) 0,O_ 3 (.mv (i_ 0)) 0,O_ 4 (.mv (i_ 5)) 0]) .ret) (.seq (R_ 0 [O_ 26 (.mv (t_ 6)) 0,O_ 27 (.ld 3 true (t_ 5)) 0,O_ 28 (.cl 90 [(t_ 27)]) 0,O_ 29 (.bin .gtr (t_ 26) (t_ 28)) 0,O_ 25 (.mv (t_ 29)) 0]) (.cond (t_ 25) (.seq (R_ 0 [O_ 2 (.mv (.const (.string ⟨#[]⟩))) 0,O_ 3 (.mv (i_ 0)) 0,O_ 4 (.mv (i_ 3)) 0]) .ret) .skip))))))))) (.seq (R_ 0 [O_ 30 (.mv (t_ 0)) 0,O_ 31 (.mv (t_ 6)) 0,O_ 32 (.bin .add (i_ 2) (t_ 31)) 0,O_ 33 (.slt (t_ 30) (some (i_ 2)) (some (t_ 32))) 0,O_ 34 (.mv (t_ 6)) 0,O_ 35 (.bin .add (i_ 2) (t_ 34)) 0,O_ 2 (.mv (t_ 33)) 0,O_ 3 (.mv (t_ 35)) 0,O_ 4 (.mv (i_ 0)) 0]) .ret))))
theorem gc72_ok:compF Tryz.prog Tryz.f72=some (gc72.er,36,[.tmp 2,.tmp 3,.tmp 4]):=by unfold gc72;kernel_rfl
theorem p_frame_Get_v (a0:ByteArray):CallsO Tryz.prog 72 [.s a0] (fun r:ByteArray × Int × Int=>.tup [V.s r.1,V.i r.2.1,V.i r.2.2]) (p_frame_Get a0):=by
 refine callsO_comp mix Tryz.func72 gc72_ok fun r H=>?_
 rw [p_frame_Get] at H
 conv=>whnf
 refine ask_c (p_octet_Open_v _) H rfl rfl (fun v1 H=>?_);conv=>whnf
 refine ask_c (p_octet_Num_v _ _) H rfl rfl (fun v2 H=>?_);conv=>whnf
 refine lq_ ?_;conv=>whnf
 refine tst_c H (fun b3 H=>?_) (fun b3 H=>?_)
 ·conv=>whnf
  refine FootQ.mk ⟨rfl,?_⟩;conv=>whnf
  exact fin0_c (enc:=(fun r:ByteArray × Int × Int=>.tup [V.s r.1,V.i r.2.1,V.i r.2.2])) H (.inr rfl) (.cons (.tmp rfl) (.cons (.tmp rfl) (.cons (.tmp rfl) (.nil)))) rfl rfl
 conv=>whnf
 refine tst_c H (fun b4 H=>?_) (fun b4 H=>?_)
 ·conv=>whnf
  exact fin0_c (enc:=(fun r:ByteArray × Int × Int=>.tup [V.s r.1,V.i r.2.1,V.i r.2.2])) H (.inr rfl) (.cons (.tmp rfl) (.cons (.tmp rfl) (.cons (.tmp rfl) (.nil)))) rfl rfl
 conv=>whnf
 refine tst_c H (fun b5 H=>?_) (fun b5 H=>?_)
 ·conv=>whnf
  exact fin0_c (enc:=(fun r:ByteArray × Int × Int=>.tup [V.s r.1,V.i r.2.1,V.i r.2.2])) H (.inr rfl) (.cons (.tmp rfl) (.cons (.tmp rfl) (.cons (.tmp rfl) (.nil)))) rfl rfl
 conv=>whnf
 refine ask_c (p_octet_Left_v _) H rfl rfl (fun v6 H=>?_);conv=>whnf
 refine tst_c H (fun b7 H=>?_) (fun b7 H=>?_)
 ·conv=>whnf
  exact fin0_c (enc:=(fun r:ByteArray × Int × Int=>.tup [V.s r.1,V.i r.2.1,V.i r.2.2])) H (.inr rfl) (.cons (.tmp rfl) (.cons (.tmp rfl) (.cons (.tmp rfl) (.nil)))) rfl rfl
 conv=>whnf
 refine Ari.w ?_;conv=>whnf
 refine slt_c H (fun s8 H=>?_);conv=>whnf
 refine Ari.w ?_;conv=>whnf
 exact fin0_c (enc:=(fun r:ByteArray × Int × Int=>.tup [V.s r.1,V.i r.2.1,V.i r.2.2])) H (.inr rfl) (.cons (.tmp rfl) (.cons (.tmp rfl) (.cons (.tmp rfl) (.nil)))) rfl rfl
end Go.Proofs.YtdbigmjlhkgeoaaGreat

namespace Go.Proofs.YtdbigmjlhkgeoaaGreat
open Go.RowKit
set_option maxRecDepth 100000
set_option maxHeartbeats 4000000
def gc59:BCode:=(.seq (R_ 1 [O_ 1 (.bx (t_ 0)) 0,O_ 2 (.mv (i_ 0)) 1]) (.seq (.seq (R_ 0 [O_ 6 (.fa 1 (t_ 1)) 0,O_ 7 (.ld 1 false (t_ 6)) 0,O_ 8 (.bin .neq (t_ 7) (i_ 0)) 0,O_ 9 (.mv (t_ 8)) 0,⟨(some 10),.fa 0 (t_ 1),(some (9,true)),0⟩,⟨(some 11),.ld 1 false (t_ 10),(some (9,true)),0⟩,⟨(some 12),.bin .neq (t_ 11) (.const (.string ⟨#[]⟩)),(some (9,true)),0⟩,O_ 13 (.pick (t_ 9) (t_ 12) (b_ false)) 0]) (.cond (t_ 13) (.seq (R_ 0 [O_ 2 (.mv (i_ 4)) 0]) .ret) .skip)) (.seq (.seq (R_ 0 [O_ 15 (.fa 0 (t_ 1)) 0,O_ 16 (.ld 1 false (t_ 15)) 0,O_ 17 (.cl 72 [(t_ 16)]) 0,O_ 14 (.mv (t_ 17)) 0,O_ 18 (.ex (t_ 14) 0) 0,O_ 19 (.ex (t_ 14) 1) 0,O_ 20 (.ex (t_ 14) 2) 0,O_ 3 (.mv (t_ 18)) 0,O_ 4 (.mv (t_ 19)) 0,O_ 5 (.mv (t_ 20)) 0]) (.seq (R_ 0 [O_ 21 (.mv (t_ 5)) 0,O_ 22 (.bin .neq (t_ 21) (i_ 3)) 0]) (.cond (t_ 22) (.seq (R_ 0 [O_ 2 (.mv (i_ 5)) 0]) .ret) .skip))) (.seq (.seq (R_ 0 [O_ 23 (.fa 2 (t_ 1)) 0,O_ 24 (.ld 1 false (t_ 23)) 0,O_ 25 (.bin .lss (t_ 24) (i_ 0)) 0]) (.cond (t_ 25) (.seq (R_ 0 [O_ 2 (.mv (i_ 8)) 0]) .ret) .skip)) (.seq (R_ 0 [O_ 2 (.mv (i_ 0)) 0]) .ret)))))
theorem gc59_ok:compF Tryz.prog Tryz.f59=some (gc59.er,26,[.tmp 2]):=by unfold gc59;kernel_rfl
theorem p_deframe_Check_v (a0:DeframeState):CallsO Tryz.prog 59 [.agg [.s a0.Buf,.i a0.Bad,.i a0.Seen]] V.i (p_deframe_Check a0):=by
 refine callsO_comp mix Tryz.func59 gc59_ok fun r H=>?_
 rw [p_deframe_Check] at H
 conv=>whnf
 refine tst_d H (fun b1 H=>?_) (fun b1 H=>?_)
 ·conv=>whnf
  iterate 4 (refine Tst.F ?_;conv=>whnf)
  refine ask_c (p_frame_Get_v _) H rfl rfl (fun v6 H=>?_);conv=>whnf
  refine tst_c H (fun b7 H=>?_) (fun b7 H=>?_)
  ·conv=>whnf
   exact fi_ H
  conv=>whnf
  refine tst_c H (fun b8 H=>?_) (fun b8 H=>?_)
  ·conv=>whnf
   exact fi_ H
  conv=>whnf
  exact fi_ H
 conv=>whnf
 iterate 3 (refine Tst.T ?_;conv=>whnf)
 refine Tst.not ?_
 refine tst_d H (fun b2 H=>?_) (fun b2 H=>?_)
 ·conv=>whnf
  exact fi_ H
 conv=>whnf
 refine ask_c (p_frame_Get_v _) H rfl rfl (fun v3 H=>?_);conv=>whnf
 refine tst_c H (fun b4 H=>?_) (fun b4 H=>?_)
 ·conv=>whnf
  exact fi_ H
 conv=>whnf
 refine tst_c H (fun b5 H=>?_) (fun b5 H=>?_)
 ·conv=>whnf
  exact fi_ H
 conv=>whnf
 exact fi_ H
def gc79:BCode:=(.seq (R_ 1 [O_ 1 (.bx (t_ 0)) 0,O_ 2 (.mv (b_ false)) 1]) (.seq (R_ 0 [O_ 3 (.fa 1 (t_ 1)) 0,O_ 4 (.ld 1 false (t_ 3)) 0,O_ 5 (.bin .neq (t_ 4) (i_ 0)) 0,O_ 6 (.mv (t_ 5)) 0,⟨(some 7),.ld 3 true (t_ 1),(some (6,false)),0⟩,⟨(some 8),.cl 59 [(t_ 7)],(some (6,false)),0⟩,⟨(some 9),.bin .neq (t_ 8) (i_ 0),(some (6,false)),0⟩,O_ 10 (.pick (t_ 6) (b_ true) (t_ 9)) 0,O_ 2 (.mv (t_ 10)) 0]) .ret))
theorem gc79_ok:compF Tryz.prog Tryz.f79=some (gc79.er,11,[.tmp 2]):=by unfold gc79;kernel_rfl
theorem p_deframe_State_deaf_v (a0:DeframeState):CallsO Tryz.prog 79 [.agg [.s a0.Buf,.i a0.Bad,.i a0.Seen]] V.b (p_deframe_State_deaf a0):=by
 refine callsO_comp mix Tryz.func79 gc79_ok fun r H=>?_
 rw [p_deframe_State_deaf] at H
 conv=>whnf
 refine tst_c H (fun b1 H=>?_) (fun b1 H=>?_)
 ·conv=>whnf
  iterate 3 (refine Tst.T ?_;conv=>whnf)
  exact fb_ H
 conv=>whnf
 refine Tst.F ?_;conv=>whnf
 refine ask_c (p_deframe_Check_v _) H rfl rfl (fun v2 H=>?_);conv=>whnf
 iterate 2 (refine Tst.F ?_;conv=>whnf)
 exact fb_ H
def gc68:BCode:=(.seq (R_ 2 [O_ 2 (.bx (t_ 0)) 0,O_ 4 (.al (.agg [(.lit (.string ⟨#[]⟩)),(.lit (.int .i64 0)),(.lit (.int .i64 0))])) 1,O_ 5 (.mv (.const (.slice none 0 0))) 2]) (.seq (.seq (R_ 0 [O_ 10 (.ld 3 true (t_ 2)) 0,O_ 11 (.cl 79 [(t_ 10)]) 0]) (.cond (t_ 11) (.seq (R_ 0 [O_ 12 (.ld 3 true (t_ 2)) 0,U_ (.st 3 (t_ 4) (t_ 12)) 0,O_ 5 (.mv (.const (.slice none 0 0))) 0]) .ret) .skip)) (.seq (R_ 0 [O_ 13 (.fa 0 (t_ 2)) 0,O_ 14 (.ld 1 false (t_ 13)) 0,O_ 15 (.mv (t_ 1)) 0,O_ 16 (.bin .add (t_ 14) (t_ 15)) 0,O_ 17 (.fa 0 (t_ 2)) 0,U_ (.st 1 (t_ 17) (t_ 16)) 0]) (.seq (R_ 0 [O_ 6 (.mv (.const (.slice none 0 0))) 0]) (.block 0 (.loop (.block 1 (.seq (R_ 0 [O_ 19 (.fa 0 (t_ 2)) 0,O_ 20 (.ld 1 false (t_ 19)) 0,O_ 21 (.cl 72 [(t_ 20)]) 0,O_ 18 (.mv (t_ 21)) 0,O_ 22 (.ex (t_ 18) 0) 0,O_ 23 (.ex (t_ 18) 1) 0,O_ 24 (.ex (t_ 18) 2) 0,O_ 7 (.mv (t_ 22)) 0,O_ 8 (.mv (t_ 23)) 0,O_ 9 (.mv (t_ 24)) 0]) (.seq (.seq (R_ 0 [O_ 25 (.mv (t_ 9)) 0,O_ 26 (.bin .eql (t_ 25) (i_ 3)) 0]) (.cond (t_ 26) (.seq (R_ 0 [O_ 27 (.ld 3 true (t_ 2)) 0,O_ 28 (.mv (t_ 6)) 0,U_ (.st 3 (t_ 4) (t_ 27)) 0,O_ 5 (.mv (t_ 28)) 0]) .ret) .skip)) (.seq (.seq (R_ 0 [O_ 29 (.mv (t_ 9)) 0,O_ 30 (.bin .neq (t_ 29) (i_ 0)) 0]) (.cond (t_ 30) (.seq (R_ 0 [O_ 31 (.mv (t_ 9)) 0,O_ 32 (.fa 0 (t_ 2)) 0,U_ (.st 1 (t_ 32) (.const (.string ⟨#[]⟩))) 0,O_ 33 (.fa 1 (t_ 2)) 0,U_ (.st 1 (t_ 33) (t_ 31)) 0]) (.seq (R_ 0 [O_ 34 (.ld 3 true (t_ 2)) 0,O_ 35 (.mv (t_ 6)) 0,U_ (.st 3 (t_ 4) (t_ 34)) 0,O_ 5 (.mv (t_ 35)) 0]) .ret)) .skip)) (.seq (R_ 2 [O_ 36 (.mv (t_ 6)) 0,O_ 37 (.mv (t_ 7)) 0,O_ 38 (.bs 1 1 [(.lit (.string ⟨#[]⟩))] [(0,(t_ 37))]) 0,O_ 39 (.ap 1 16 (t_ 36) (t_ 38)) 1,O_ 6 (.mv (t_ 39)) 2]) (.seq (R_ 0 [O_ 40 (.fa 0 (t_ 2)) 0,O_ 41 (.ld 1 false (t_ 40)) 0,O_ 42 (.mv (t_ 8)) 0,O_ 43 (.slt (t_ 41) (some (t_ 42)) none) 0,O_ 44 (.fa 0 (t_ 2)) 0,U_ (.st 1 (t_ 44) (t_ 43)) 0]) (R_ 0 [O_ 45 (.fa 2 (t_ 2)) 0,O_ 46 (.ld 1 false (t_ 45)) 0,O_ 47 (.bin .add (t_ 46) (i_ 1)) 0,O_ 48 (.fa 2 (t_ 2)) 0,U_ (.st 1 (t_ 48) (t_ 47)) 0])))))))))))))
theorem gc68_ok:compF Tryz.prog Tryz.f68=some (gc68.er,49,[.cell 4 3 true,.tmp 5]):=by unfold gc68;kernel_rfl
theorem p_deframe_Texts_v (a0:DeframeState) (a1:ByteArray):CallsO Tryz.prog 68 [.agg [.s a0.Buf,.i a0.Bad,.i a0.Seen],.s a1] (fun r:DeframeState × (List ByteArray)=>.tup [DeframeState.v r.1,(fun l:List ByteArray=>V.sl (l.map V.s) false) r.2]) (p_deframe_Texts a0 a1):=by
 refine callsO_comp mix Tryz.func68 gc68_ok fun r H=>?_
 rw [p_deframe_Texts] at H
 conv=>whnf
 refine ask_c (p_deframe_State_deaf_v _) H rfl rfl (fun v1 H=>?_);conv=>whnf
 refine tst_c H (fun b2 H=>?_) (fun b2 H=>?_)
 ·conv=>whnf
  refine lq_ ?_;conv=>whnf
  refine finR_c (enc:=(fun r:DeframeState × (List ByteArray)=>.tup [DeframeState.v r.1,(fun l:List ByteArray=>V.sl (l.map V.s) false) r.2])) H ?_;conv=>whnf
  exact ⟨_,.tup (.cons (fzagg (.cons (.id rfl) (.cons (.id rfl) (.cons (.id rfl) (.nil)))) rfl) (.cons (.c (.slw)) (.nil)))⟩
 conv=>whnf
 refine cat_c H (fun s3 H=>?_);conv=>whnf
 refine lq_ ?_;conv=>whnf
 obtain ⟨o5,HL6,HQ7⟩:=bind_c H
 refine loop_c [5,6] [7,8,9,18,19,20,21,22,23,24,25,26,27,28,29,30,31,32,33,34,35,36,37,38,39,40,41,42,43,44,45,46,47,48,13,17] [7,8,9,18,19,20,21,22,23,24,25,26,27,28,29,30,31,32,33,34,35,36,37,38,39,40,41,42,43,44,45,46,47,48,13,17] (fun n vals st=>(∃ y9,p_deframe_Texts_l1  n [] y9=some o5∧vals=[.sl (List.map V.s []) true,.sl (List.map V.s []) true]∧st=[.live [.s y9.Buf,.i y9.Bad,.i y9.Seen] 0,.live [.s (⟨#[]⟩ : ByteArray),.i (0:Int),.i (0:Int)] 0])∨(∃ y15 y16,p_deframe_Texts_l1  n y15 y16=some o5∧vals=[.sl (List.map V.s []) true,.osl 2 0 (List.length y15) 1 false]∧st=[.live [.s y16.Buf,.i y16.Bad,.i y16.Seen] 0,.live [.s (⟨#[]⟩ : ByteArray),.i (0:Int),.i (0:Int)] 0,.live (cellsM V.s y15) (cellsM V.s y15).length])) fuel 2 [] (.inl (⟨_,HL6,rfl,rfl⟩)) (Nat.zero_le _) rfl (by kernel_rfl) (by kernel_rfl) rfl ⟨⟨rfl,rfl,rfl⟩,⟨⟨rfl,rfl,rfl⟩,trivial⟩⟩ ?_
 rintro (_ | n8) _ _ (⟨y9,H,rfl,rfl⟩ | ⟨y15,y16,H,rfl,rfl⟩)
 ·rw [p_deframe_Texts_l1] at H;cases H
 ·rw [p_deframe_Texts_l1] at H;cases H
 ·rw [p_deframe_Texts_l1] at H
  conv=>whnf
  refine ask_c (p_frame_Get_v _) H rfl rfl (fun v10 H=>?_);conv=>whnf
  refine tst_c H (fun b11 H=>?_) (fun b11 H=>?_)
  ·conv=>whnf
   refine lq_ ?_;conv=>whnf
   obtain rfl:=Option.some.inj H
   have H:=HQ7
   try dsimp only at H
   refine finR_c (enc:=(fun r:DeframeState × (List ByteArray)=>.tup [DeframeState.v r.1,(fun l:List ByteArray=>V.sl (l.map V.s) false) r.2])) H ?_;conv=>whnf
   exact ⟨_,.tup (.cons (fzagg (.cons (.id rfl) (.cons (.id rfl) (.cons (.id rfl) (.nil)))) rfl) (.cons (.c (.slw)) (.nil)))⟩
  conv=>whnf
  refine tst_c H (fun b12 H=>?_) (fun b12 H=>?_)
  ·conv=>whnf
   refine lq_ ?_;conv=>whnf
   refine lq_ ?_;conv=>whnf
   refine lq_ ?_;conv=>whnf
   obtain rfl:=Option.some.inj H
   have H:=HQ7
   try dsimp only at H
   refine finR_c (enc:=(fun r:DeframeState × (List ByteArray)=>.tup [DeframeState.v r.1,(fun l:List ByteArray=>V.sl (l.map V.s) false) r.2])) H ?_;conv=>whnf
   exact ⟨_,.tup (.cons (fzagg (.cons (.id rfl) (.cons (.id rfl) (.cons (.id rfl) (.nil)))) rfl) (.cons (.c (.slw)) (.nil)))⟩
  conv=>whnf
  refine appN_c (f:=V.s) H (fun _=>rfl) (srcM (f:=V.s) (fun _=>rfl) [] true) rfl (.v (srcOwn (f:=V.s) (l:=[v10.1]) (fun _=>rfl) rfl rfl rfl)) (by decide) rfl (by simp) (fun l13 H=>?_);conv=>whnf
  refine slt_c H (fun s14 H=>?_);conv=>whnf
  refine lq_ ?_;conv=>whnf
  refine Ari.w ?_;conv=>whnf
  refine lq_ ?_;conv=>whnf
  exact again_c [7,8,9,18,19,20,21,22,23,24,25,26,27,28,29,30,31,32,33,34,35,36,37,38,39,40,41,42,43,44,45,46,47,48,13,17] n8 3 [0,1,3] (.inr (⟨_,_,H,rfl,rfl⟩)) (Nat.lt_succ_self _) (Nat.zero_le _) rfl (by kernel_rfl) (by kernel_rfl) rfl ⟨⟨rfl,rfl,rfl⟩,⟨⟨rfl,rfl,rfl⟩,wkB_live0 rfl (cellsM_idlt (f:=V.s) (fun _=>rfl) _) rfl trivial⟩⟩
 rw [p_deframe_Texts_l1] at H
 conv=>whnf
 refine ask_c (p_frame_Get_v _) H rfl rfl (fun v17 H=>?_);conv=>whnf
 refine tst_c H (fun b18 H=>?_) (fun b18 H=>?_)
 ·conv=>whnf
  refine lq_ ?_;conv=>whnf
  obtain rfl:=Option.some.inj H
  have H:=HQ7
  try dsimp only at H
  refine finR_c (enc:=(fun r:DeframeState × (List ByteArray)=>.tup [DeframeState.v r.1,(fun l:List ByteArray=>V.sl (l.map V.s) false) r.2])) H ?_;conv=>whnf
  exact ⟨_,.tup (.cons (fzagg (.cons (.id rfl) (.cons (.id rfl) (.cons (.id rfl) (.nil)))) rfl) (.cons (.c (fzown (f:=V.s) (l:=y15) rfl rfl (fun _=>rfl) (fun _=>rfl))) (.nil)))⟩
 conv=>whnf
 refine tst_c H (fun b19 H=>?_) (fun b19 H=>?_)
 ·conv=>whnf
  refine lq_ ?_;conv=>whnf
  refine lq_ ?_;conv=>whnf
  refine lq_ ?_;conv=>whnf
  obtain rfl:=Option.some.inj H
  have H:=HQ7
  try dsimp only at H
  refine finR_c (enc:=(fun r:DeframeState × (List ByteArray)=>.tup [DeframeState.v r.1,(fun l:List ByteArray=>V.sl (l.map V.s) false) r.2])) H ?_;conv=>whnf
  exact ⟨_,.tup (.cons (fzagg (.cons (.id rfl) (.cons (.id rfl) (.cons (.id rfl) (.nil)))) rfl) (.cons (.c (fzown (f:=V.s) (l:=y15) rfl rfl (fun _=>rfl) (fun _=>rfl))) (.nil)))⟩
 conv=>whnf
 refine appO_c (f:=V.s) H (fun _=>rfl) rfl (Nat.le_refl _) (.v (srcOwn (f:=V.s) (l:=[v17.1]) (fun _=>rfl) rfl rfl rfl)) (by decide) rfl (by simp) (fun l20 H=>?_);conv=>whnf
 refine slt_c H (fun s21 H=>?_);conv=>whnf
 refine lq_ ?_;conv=>whnf
 refine Ari.w ?_;conv=>whnf
 refine lq_ ?_;conv=>whnf
 exact again_c [7,8,9,18,19,20,21,22,23,24,25,26,27,28,29,30,31,32,33,34,35,36,37,38,39,40,41,42,43,44,45,46,47,48,13,17] n8 3 [0,1,4] (.inr (⟨_,_,H,rfl,rfl⟩)) (Nat.lt_succ_self _) (Nat.zero_le _) rfl (by kernel_rfl) (by kernel_rfl) rfl ⟨⟨rfl,rfl,rfl⟩,⟨⟨rfl,rfl,rfl⟩,wkB_live0 rfl (cellsM_idlt (f:=V.s) (fun _=>rfl) _) rfl trivial⟩⟩
def gc69:BCode:=(.seq (R_ 0 [O_ 2 (.mv (.const (.slice none 0 0))) 0]) (.seq (R_ 0 [O_ 3 (.mv (.const (.slice none 0 0))) 0]) (.seq (.seq (R_ 0 [O_ 8 (.mv (t_ 0)) 0,O_ 9 (.lens (t_ 8)) 0,O_ 10 (.mv (i_ 0)) 0]) (.block 0 (.loop (.seq (R_ 0 [O_ 11 (.bin .lss (t_ 10) (t_ 9)) 0]) (.seq (.cond (t_ 11) .skip (.exit 0)) (.seq (.block 1 (.seq (R_ 0 [O_ 12 (.ixs 1 (t_ 8) (t_ 10)) 0,O_ 13 (.ld 1 false (t_ 12)) 0,O_ 5 (.mv (t_ 13)) 0]) (.seq (R_ 1 [O_ 15 (.mv (t_ 5)) 0,O_ 16 (.cl 80 [(t_ 15)]) 0,O_ 14 (.mv (t_ 16)) 0,O_ 17 (.ex (t_ 14) 0) 0,O_ 18 (.ex (t_ 14) 1) 0,O_ 6 (.al (.agg [(.lit (.int .u8 0)),(.lit (.string ⟨#[]⟩)),(.lit (.string ⟨#[]⟩)),(.lit (.string ⟨#[]⟩)),(.lit (.int .i64 0)),(.lit (.int .i64 0)),(.lit (.int .i64 0)),(.lit (.int .i64 0))])) 0,U_ (.st 8 (t_ 6) (t_ 17)) 1,O_ 7 (.mv (t_ 18)) 1]) (R_ 2 [O_ 19 (.mv (t_ 3)) 0,O_ 20 (.ld 8 true (t_ 6)) 0,O_ 21 (.mv (t_ 7)) 0,O_ 22 (.bd [(.lit (.int .u8 0)),(.lit (.string ⟨#[]⟩)),(.lit (.string ⟨#[]⟩)),(.lit (.string ⟨#[]⟩)),(.lit (.int .i64 0)),(.lit (.int .i64 0)),(.lit (.int .i64 0)),(.lit (.int .i64 0)),(.lit (.int .i64 0))] [(0,8,(t_ 20)),(8,1,(t_ 21))]) 0,O_ 23 (.bs 9 1 [(.lit (.int .u8 0)),(.lit (.string ⟨#[]⟩)),(.lit (.string ⟨#[]⟩)),(.lit (.string ⟨#[]⟩)),(.lit (.int .i64 0)),(.lit (.int .i64 0)),(.lit (.int .i64 0)),(.lit (.int .i64 0)),(.lit (.int .i64 0))] [(0,(t_ 22))]) 0,O_ 24 (.ap 9 96 (t_ 19) (t_ 23)) 1,O_ 3 (.mv (t_ 24)) 2])))) (R_ 0 [O_ 25 (.bin .add (t_ 10) (i_ 1)) 0,O_ 10 (.mv (t_ 25)) 0]))))))) (.seq (R_ 0 [O_ 26 (.mv (t_ 3)) 0,O_ 2 (.mv (t_ 26)) 0]) .ret))))
theorem gc69_ok:compF Tryz.prog Tryz.f69=some (gc69.er,27,[.tmp 2]):=by unfold gc69;kernel_rfl
theorem p_deframe_items_v {u1:Bool} (a0:List ByteArray):CallsO Tryz.prog 69 [.sl (List.map V.s a0) u1] (fun l:List DeframeItem=>V.sl (l.map DeframeItem.v) false) (p_deframe_items a0):=by
 refine callsO_comp mix Tryz.func69 gc69_ok fun r H=>?_
 rw [p_deframe_items] at H
 conv=>whnf
 refine LenQ.M ?_;conv=>whnf
 obtain ⟨o2,HL3,HQ4⟩:=bind_c H
 refine loop_c [3,10] [5,6,7,11,12,13,14,15,16,17,18,19,20,21,22,23,24,25] [5,6,7,11,12,13,14,15,16,17,18,19,20,21,22,23,24,25] (fun n vals st=>(∃ y6,p_deframe_items_l1  a0 (a0.length:Int) n [] y6=some o2∧vals=[.sl (List.map DeframeItem.v []) true,.i y6]∧st=[])∨(∃ y11 y12,p_deframe_items_l1  a0 (a0.length:Int) n y11 y12=some o2∧vals=[.osl 0 0 (List.length y11) 9 false,.i y12]∧st=[.live (cellsM DeframeItem.v y11) (cellsM DeframeItem.v y11).length])) fuel 0 [] (.inl (⟨_,HL3,rfl,rfl⟩)) (Nat.zero_le _) rfl (by kernel_rfl) (by kernel_rfl) rfl trivial ?_
 rintro (_ | n5) _ _ (⟨y6,H,rfl,rfl⟩ | ⟨y11,y12,H,rfl,rfl⟩)
 ·rw [p_deframe_items_l1] at H;cases H
 ·rw [p_deframe_items_l1] at H;cases H
 ·rw [p_deframe_items_l1] at H
  conv=>whnf
  refine tst_d H (fun b7 H=>?_) (fun b7 H=>?_)
  ·conv=>whnf
   obtain rfl:=Option.some.inj H
   have H:=HQ4
   try dsimp only at H
   refine finR_c (enc:=(fun l:List DeframeItem=>V.sl (l.map DeframeItem.v) false)) H ?_;conv=>whnf
   exact ⟨_,.v (.c (.slw))⟩
  conv=>whnf
  refine ixs_c (f:=V.s) H (fun _=>rfl) (fun x8 H=>?_);conv=>whnf
  refine ask_c (p_stanza_Read_v _) H rfl rfl (fun v9 H=>?_);conv=>whnf
  refine lq_ ?_;conv=>whnf
  refine appN_c (f:=DeframeItem.v) H (fun _=>rfl) (srcM (f:=DeframeItem.v) (fun _=>rfl) [] true) rfl (.v (srcOwn (f:=DeframeItem.v) (l:=[(DeframeItem.mk v9.1 v9.2)]) (fun _=>rfl) rfl rfl rfl)) (by decide) rfl (by simp) (fun l10 H=>?_);conv=>whnf
  refine Ari.w ?_;conv=>whnf
  exact again_c [5,6,7,11,12,13,14,15,16,17,18,19,20,21,22,23,24,25] n5 1 [2] (.inr (⟨_,_,H,rfl,rfl⟩)) (Nat.lt_succ_self _) (Nat.zero_le _) rfl (by kernel_rfl) (by kernel_rfl) rfl (wkB_live0 rfl (cellsM_idlt (f:=DeframeItem.v) (fun _=>rfl) _) rfl trivial)
 rw [p_deframe_items_l1] at H
 conv=>whnf
 refine tst_d H (fun b13 H=>?_) (fun b13 H=>?_)
 ·conv=>whnf
  obtain rfl:=Option.some.inj H
  have H:=HQ4
  try dsimp only at H
  refine finR_c (enc:=(fun l:List DeframeItem=>V.sl (l.map DeframeItem.v) false)) H ?_;conv=>whnf
  exact ⟨_,.v (.c (fzown (f:=DeframeItem.v) (l:=y11) rfl rfl (fun _=>rfl) (fun _=>rfl)))⟩
 conv=>whnf
 refine ixs_c (f:=V.s) H (fun _=>rfl) (fun x14 H=>?_);conv=>whnf
 refine ask_c (p_stanza_Read_v _) H rfl rfl (fun v15 H=>?_);conv=>whnf
 refine lq_ ?_;conv=>whnf
 refine appO_c (f:=DeframeItem.v) H (fun _=>rfl) rfl (Nat.le_refl _) (.v (srcOwn (f:=DeframeItem.v) (l:=[(DeframeItem.mk v15.1 v15.2)]) (fun _=>rfl) rfl rfl rfl)) (by decide) rfl (by simp) (fun l16 H=>?_);conv=>whnf
 refine Ari.w ?_;conv=>whnf
 exact again_c [5,6,7,11,12,13,14,15,16,17,18,19,20,21,22,23,24,25] n5 1 [3] (.inr (⟨_,_,H,rfl,rfl⟩)) (Nat.lt_succ_self _) (Nat.zero_le _) rfl (by kernel_rfl) (by kernel_rfl) rfl (wkB_live0 rfl (cellsM_idlt (f:=DeframeItem.v) (fun _=>rfl) _) rfl trivial)
def gc53:BCode:=(.seq (R_ 2 [O_ 2 (.bx (t_ 0)) 0,O_ 4 (.al (.agg [(.lit (.string ⟨#[]⟩)),(.lit (.int .i64 0)),(.lit (.int .i64 0))])) 1,O_ 5 (.mv (.const (.slice none 0 0))) 2]) (.seq (R_ 1 [O_ 9 (.ld 3 true (t_ 2)) 0,O_ 10 (.mv (t_ 1)) 0,O_ 11 (.cl 68 [(t_ 9),(t_ 10)]) 0,O_ 8 (.mv (t_ 11)) 0,O_ 12 (.ex (t_ 8) 0) 0,O_ 13 (.ex (t_ 8) 1) 0,O_ 6 (.al (.agg [(.lit (.string ⟨#[]⟩)),(.lit (.int .i64 0)),(.lit (.int .i64 0))])) 0,U_ (.st 3 (t_ 6) (t_ 12)) 1,O_ 7 (.mv (t_ 13)) 1]) (.seq (.reg 0 [O_ 14 (.ld 3 true (t_ 6)) 0,O_ 15 (.mv (t_ 7)) 0,O_ 16 (.cl 69 [(t_ 15)]) 0,U_ (.st 3 (t_ 4) (t_ 14)) 0,O_ 5 (.mv (t_ 16)) 0] (some [[],[],[1],[1,2,0],[0,3,1,2]]) 0 []) .ret)))
theorem gc53_ok:compF Tryz.prog Tryz.f53=some (gc53.er,17,[.cell 4 3 true,.tmp 5]):=by unfold gc53;kernel_rfl
theorem p_deframe_Feed_v (a0:DeframeState) (a1:ByteArray):CallsO Tryz.prog 53 [.agg [.s a0.Buf,.i a0.Bad,.i a0.Seen],.s a1] (fun r:DeframeState × (List DeframeItem)=>.tup [DeframeState.v r.1,(fun l:List DeframeItem=>V.sl (l.map DeframeItem.v) false) r.2]) (p_deframe_Feed a0 a1):=by
 refine callsO_comp mix Tryz.func53 gc53_ok fun r H=>?_
 rw [p_deframe_Feed] at H
 conv=>whnf
 refine ask_c (p_deframe_Texts_v _ _) H rfl rfl (fun v1 H=>?_);conv=>whnf
 refine lq_ ?_;conv=>whnf
 refine ask_c (p_deframe_items_v _) H rfl rfl (fun v2 H=>?_);conv=>whnf
 refine lq_ ?_;conv=>whnf
 refine FootQ.mk ⟨rfl,?_⟩;conv=>whnf
 exact fin0_c (enc:=(fun r:DeframeState × (List DeframeItem)=>.tup [DeframeState.v r.1,(fun l:List DeframeItem=>V.sl (l.map DeframeItem.v) false) r.2])) H (.inr rfl) (.cons (.cell rfl rfl (Nat.le_of_ble_eq_true rfl)) (.cons (.tmp rfl) (.nil))) rfl rfl
end Go.Proofs.YtdbigmjlhkgeoaaGreat

namespace Go.Proofs.YtdbigmjlhkgeoaaGreat
open Go.RowKit
set_option maxRecDepth 100000
set_option maxHeartbeats 4000000
def gc52:BCode:=(.seq (R_ 0 [O_ 6 (.mv (b_ false)) 0]) (.seq (R_ 0 [O_ 7 (.mv (t_ 1)) 0,O_ 8 (.mv (t_ 0)) 0,O_ 9 (.bin .leq (t_ 7) (t_ 8)) 0,O_ 10 (.mv (t_ 9)) 0,⟨(some 11),.mv (t_ 0),(some (10,true)),0⟩,⟨(some 12),.mv (t_ 2),(some (10,true)),0⟩,⟨(some 13),.bin .leq (t_ 11) (t_ 12),(some (10,true)),0⟩,O_ 14 (.pick (t_ 10) (t_ 13) (b_ false)) 0,O_ 6 (.mv (t_ 14)) 0]) .ret))
theorem gc52_ok:compF Tryz.prog Tryz.f52=some (gc52.er,15,[.tmp 6]):=by unfold gc52;kernel_rfl
theorem p_conns_in_v (a0:Int) (a1:Int) (a2:Int):CallsO Tryz.prog 52 [.i a0,.i a1,.i a2] V.b (p_conns_in a0 a1 a2):=by
 refine callsO_comp mix Tryz.func52 gc52_ok fun r H=>?_
 rw [p_conns_in] at H
 conv=>whnf
 refine tst_c H (fun b1 H=>?_) (fun b1 H=>?_)
 ·conv=>whnf
  iterate 3 (refine Tst.T ?_;conv=>whnf)
  exact fb_ H
 conv=>whnf
 iterate 3 (refine Tst.F ?_;conv=>whnf)
 exact fb_ H
def gc40:BCode:=(.seq (R_ 1 [O_ 1 (.bx (t_ 0)) 0,O_ 2 (.mv (b_ false)) 1]) (.seq (R_ 0 [O_ 3 (.fa 0 (t_ 1)) 0,O_ 4 (.ld 1 false (t_ 3)) 0,O_ 5 (.cl 52 [(t_ 4),(i_ 0),(i_ 255)]) 0,O_ 6 (.mv (t_ 5)) 0,⟨(some 7),.fa 1 (t_ 1),(some (6,true)),0⟩,⟨(some 8),.ld 1 false (t_ 7),(some (6,true)),0⟩,⟨(some 9),.cl 52 [(t_ 8),(i_ 0),(i_ 65535)],(some (6,true)),0⟩,O_ 10 (.pick (t_ 6) (t_ 9) (b_ false)) 0,O_ 11 (.mv (t_ 10)) 0,⟨(some 12),.fa 4 (t_ 1),(some (11,true)),0⟩,⟨(some 13),.ld 1 false (t_ 12),(some (11,true)),0⟩,⟨(some 14),.cl 52 [(t_ 13),(i_ 0),(i_ 1048576)],(some (11,true)),0⟩,O_ 15 (.pick (t_ 11) (t_ 14) (b_ false)) 0,O_ 2 (.mv (t_ 15)) 0]) .ret))
theorem gc40_ok:compF Tryz.prog Tryz.f40=some (gc40.er,16,[.tmp 2]):=by unfold gc40;kernel_rfl
theorem p_conns_Conn_numbered_v (a0:ConnsConn):CallsO Tryz.prog 40 [.agg [.i a0.ID,.i a0.Source,.s a0.User,.s a0.Res,.i a0.Credit,.s a0.In.Buf,.i a0.In.Bad,.i a0.In.Seen]] V.b (p_conns_Conn_numbered a0):=by
 refine callsO_comp mix Tryz.func40 gc40_ok fun r H=>?_
 rw [p_conns_Conn_numbered] at H
 conv=>whnf
 refine ask_c (p_conns_in_v _ _ _) H rfl rfl (fun v1 H=>?_);conv=>whnf
 refine tst_d H (fun b2 H=>?_) (fun b2 H=>?_)
 ·conv=>whnf
  iterate 7 (refine Tst.F ?_;conv=>whnf)
  exact fb_ H
 conv=>whnf
 iterate 2 (refine Tst.T ?_;conv=>whnf)
 refine ask_c (p_conns_in_v _ _ _) H rfl rfl (fun v3 H=>?_);conv=>whnf
 refine Tst.T ?_;conv=>whnf
 refine tst_d H (fun b4 H=>?_) (fun b4 H=>?_)
 ·conv=>whnf
  iterate 3 (refine Tst.F ?_;conv=>whnf)
  exact fb_ H
 conv=>whnf
 iterate 2 (refine Tst.T ?_;conv=>whnf)
 refine ask_c (p_conns_in_v _ _ _) H rfl rfl (fun v5 H=>?_);conv=>whnf
 refine Tst.T ?_;conv=>whnf
 exact fb_ H
def gc56:BCode:=(.seq (R_ 1 [O_ 1 (.bx (t_ 0)) 0,O_ 2 (.mv (b_ false)) 1]) (.seq (R_ 0 [O_ 3 (.ld 8 true (t_ 1)) 0,O_ 4 (.cl 40 [(t_ 3)]) 0,O_ 5 (.un .not (t_ 4)) 0,O_ 2 (.mv (t_ 5)) 0]) .ret))
theorem gc56_ok:compF Tryz.prog Tryz.f56=some (gc56.er,6,[.tmp 2]):=by unfold gc56;kernel_rfl
theorem p_conns_Check_1_v (a0:ConnsConn):CallsO Tryz.prog 56 [.agg [.i a0.ID,.i a0.Source,.s a0.User,.s a0.Res,.i a0.Credit,.s a0.In.Buf,.i a0.In.Bad,.i a0.In.Seen]] V.b (p_conns_Check_1 a0):=by
 refine callsO_comp mix Tryz.func56 gc56_ok fun r H=>?_
 rw [p_conns_Check_1] at H
 conv=>whnf
 refine ask_c (p_conns_Conn_numbered_v _) H rfl rfl (fun v1 H=>?_);conv=>whnf
 exact fb_ H
def gc63:BCode:=(.seq (R_ 0 [O_ 4 (.mv (b_ false)) 0]) (.seq (R_ 0 [O_ 5 (.mv (t_ 1)) 0,O_ 6 (.cl 74 [(t_ 5)]) 0,O_ 7 (.bin .eql (t_ 6) (i_ 0)) 0,O_ 8 (.mv (t_ 7)) 0,⟨(some 9),.mv (t_ 0),(some (8,true)),0⟩,⟨(some 10),.cl 75 [(t_ 9)],(some (8,true)),0⟩,O_ 11 (.pick (t_ 8) (t_ 10) (b_ false)) 0,O_ 4 (.mv (t_ 11)) 0]) .ret))
theorem gc63_ok:compF Tryz.prog Tryz.f63=some (gc63.er,12,[.tmp 4]):=by unfold gc63;kernel_rfl
theorem p_pres_named_v (a0:ByteArray) (a1:ByteArray):CallsO Tryz.prog 63 [.s a0,.s a1] V.b (p_pres_named a0 a1):=by
 refine callsO_comp mix Tryz.func63 gc63_ok fun r H=>?_
 rw [p_pres_named] at H
 conv=>whnf
 refine ask_c (p_addr_Resource_v _) H rfl rfl (fun v1 H=>?_);conv=>whnf
 refine tst_d H (fun b2 H=>?_) (fun b2 H=>?_)
 ·conv=>whnf
  iterate 2 (refine Tst.F ?_;conv=>whnf)
  exact fb_ H
 conv=>whnf
 refine Tst.T ?_;conv=>whnf
 refine ask_c (p_addr_IsBare_v _) H rfl rfl (fun v3 H=>?_);conv=>whnf
 refine Tst.T ?_;conv=>whnf
 exact fb_ H
def gc38:BCode:=(.seq (R_ 0 [O_ 4 (.mv (.const (.string ⟨#[]⟩))) 0]) (.seq (.seq (R_ 0 [O_ 5 (.mv (t_ 0)) 0,O_ 6 (.mv (t_ 1)) 0,O_ 7 (.cl 63 [(t_ 5),(t_ 6)]) 0,O_ 8 (.un .not (t_ 7)) 0]) (.cond (t_ 8) (.seq (R_ 0 [O_ 4 (.mv (.const (.string ⟨#[]⟩))) 0]) .ret) .skip)) (.seq (R_ 0 [O_ 9 (.mv (t_ 0)) 0,O_ 10 (.bin .add (t_ 9) (.const (.string ⟨#[32]⟩))) 0,O_ 11 (.mv (t_ 1)) 0,O_ 12 (.bin .add (t_ 10) (t_ 11)) 0,O_ 4 (.mv (t_ 12)) 0]) .ret)))
theorem gc38_ok:compF Tryz.prog Tryz.f38=some (gc38.er,13,[.tmp 4]):=by unfold gc38;kernel_rfl
theorem p_pres_Key_v (a0:ByteArray) (a1:ByteArray):CallsO Tryz.prog 38 [.s a0,.s a1] V.s (p_pres_Key a0 a1):=by
 refine callsO_comp mix Tryz.func38 gc38_ok fun r H=>?_
 rw [p_pres_Key] at H
 conv=>whnf
 refine ask_c (p_pres_named_v _ _) H rfl rfl (fun v1 H=>?_);conv=>whnf
 refine Tst.not ?_
 refine tst_d H (fun b2 H=>?_) (fun b2 H=>?_)
 ·conv=>whnf
  exact fin0_c (enc:=V.s) H (.inr rfl) (.cons (.tmp rfl) (.nil)) rfl rfl
 conv=>whnf
 refine cat_c H (fun s3 H=>?_);conv=>whnf
 refine cat_c H (fun s4 H=>?_);conv=>whnf
 exact fin0_c (enc:=V.s) H (.inr rfl) (.cons (.tmp rfl) (.nil)) rfl rfl
def gc35:BCode:=(.seq (R_ 1 [O_ 1 (.bx (t_ 0)) 0,O_ 2 (.mv (.const (.string ⟨#[]⟩))) 1]) (.seq (.seq (R_ 0 [O_ 3 (.fa 2 (t_ 1)) 0,O_ 4 (.ld 1 false (t_ 3)) 0,O_ 5 (.bin .eql (t_ 4) (.const (.string ⟨#[]⟩))) 0]) (.cond (t_ 5) (.seq (R_ 0 [O_ 2 (.mv (.const (.string ⟨#[]⟩))) 0]) .ret) .skip)) (.seq (R_ 0 [O_ 6 (.fa 2 (t_ 1)) 0,O_ 7 (.ld 1 false (t_ 6)) 0,O_ 8 (.fa 3 (t_ 1)) 0,O_ 9 (.ld 1 false (t_ 8)) 0,O_ 10 (.cl 38 [(t_ 7),(t_ 9)]) 0,O_ 2 (.mv (t_ 10)) 0]) .ret)))
theorem gc35_ok:compF Tryz.prog Tryz.f35=some (gc35.er,11,[.tmp 2]):=by unfold gc35;kernel_rfl
theorem p_conns_Key_v (a0:ConnsConn):CallsO Tryz.prog 35 [.agg [.i a0.ID,.i a0.Source,.s a0.User,.s a0.Res,.i a0.Credit,.s a0.In.Buf,.i a0.In.Bad,.i a0.In.Seen]] V.s (p_conns_Key a0):=by
 refine callsO_comp mix Tryz.func35 gc35_ok fun r H=>?_
 rw [p_conns_Key] at H
 conv=>whnf
 refine tst_c H (fun b1 H=>?_) (fun b1 H=>?_)
 ·conv=>whnf
  exact fin0_c (enc:=V.s) H (.inr rfl) (.cons (.tmp rfl) (.nil)) rfl rfl
 conv=>whnf
 refine ask_c (p_pres_Key_v _ _) H rfl rfl (fun v2 H=>?_);conv=>whnf
 exact fin0_c (enc:=V.s) H (.inr rfl) (.cons (.tmp rfl) (.nil)) rfl rfl
def gc58:BCode:=(.seq (R_ 1 [O_ 1 (.bx (t_ 0)) 0,O_ 2 (.mv (b_ false)) 1]) (.seq (.seq (R_ 0 [O_ 3 (.fa 2 (t_ 1)) 0,O_ 4 (.ld 1 false (t_ 3)) 0,O_ 5 (.bin .eql (t_ 4) (.const (.string ⟨#[]⟩))) 0]) (.cond (t_ 5) (.seq (R_ 0 [O_ 6 (.fa 3 (t_ 1)) 0,O_ 7 (.ld 1 false (t_ 6)) 0,O_ 8 (.bin .eql (t_ 7) (.const (.string ⟨#[]⟩))) 0,O_ 2 (.mv (t_ 8)) 0]) .ret) .skip)) (.seq (R_ 0 [O_ 9 (.ld 8 true (t_ 1)) 0,O_ 10 (.cl 35 [(t_ 9)]) 0,O_ 11 (.bin .neq (t_ 10) (.const (.string ⟨#[]⟩))) 0,O_ 2 (.mv (t_ 11)) 0]) .ret)))
theorem gc58_ok:compF Tryz.prog Tryz.f58=some (gc58.er,12,[.tmp 2]):=by unfold gc58;kernel_rfl
theorem p_conns_Conn_named_v (a0:ConnsConn):CallsO Tryz.prog 58 [.agg [.i a0.ID,.i a0.Source,.s a0.User,.s a0.Res,.i a0.Credit,.s a0.In.Buf,.i a0.In.Bad,.i a0.In.Seen]] V.b (p_conns_Conn_named a0):=by
 refine callsO_comp mix Tryz.func58 gc58_ok fun r H=>?_
 rw [p_conns_Conn_named] at H
 conv=>whnf
 refine tst_c H (fun b1 H=>?_) (fun b1 H=>?_)
 ·conv=>whnf
  exact fb_ H
 conv=>whnf
 refine ask_c (p_conns_Key_v _) H rfl rfl (fun v2 H=>?_);conv=>whnf
 exact fb_ H
def gc57:BCode:=(.seq (R_ 1 [O_ 1 (.bx (t_ 0)) 0,O_ 2 (.mv (b_ false)) 1]) (.seq (R_ 0 [O_ 3 (.ld 8 true (t_ 1)) 0,O_ 4 (.cl 58 [(t_ 3)]) 0,O_ 5 (.un .not (t_ 4)) 0,O_ 2 (.mv (t_ 5)) 0]) .ret))
theorem gc57_ok:compF Tryz.prog Tryz.f57=some (gc57.er,6,[.tmp 2]):=by unfold gc57;kernel_rfl
theorem p_conns_Check_2_v (a0:ConnsConn):CallsO Tryz.prog 57 [.agg [.i a0.ID,.i a0.Source,.s a0.User,.s a0.Res,.i a0.Credit,.s a0.In.Buf,.i a0.In.Bad,.i a0.In.Seen]] V.b (p_conns_Check_2 a0):=by
 refine callsO_comp mix Tryz.func57 gc57_ok fun r H=>?_
 rw [p_conns_Check_2] at H
 conv=>whnf
 refine ask_c (p_conns_Conn_named_v _) H rfl rfl (fun v1 H=>?_);conv=>whnf
 exact fb_ H
def gc47:BCode:=(.seq (R_ 0 [O_ 4 (.mv (i_ 0)) 0,O_ 5 (.mv (b_ false)) 0]) (.seq (R_ 0 [O_ 6 (.mv (i_ 0)) 0,O_ 7 (.mv (b_ false)) 0]) (.seq .skip (.seq (.seq (R_ 0 [O_ 10 (.mv (t_ 0)) 0,O_ 11 (.lens (t_ 10)) 0,O_ 12 (.mv (i_ 0)) 0]) (.block 0 (.loop (.seq (R_ 0 [O_ 13 (.bin .lss (t_ 12) (t_ 11)) 0]) (.seq (.cond (t_ 13) .skip (.exit 0)) (.seq (.block 1 (.seq (R_ 1 [O_ 14 (.mv (t_ 12)) 0,O_ 15 (.ixs 8 (t_ 10) (t_ 12)) 0,O_ 16 (.ld 8 true (t_ 15)) 0,O_ 9 (.al (.agg [(.lit (.int .i64 0)),(.lit (.int .i64 0)),(.lit (.string ⟨#[]⟩)),(.lit (.string ⟨#[]⟩)),(.lit (.int .i64 0)),(.lit (.string ⟨#[]⟩)),(.lit (.int .i64 0)),(.lit (.int .i64 0))])) 0,O_ 8 (.mv (t_ 14)) 1,U_ (.st 8 (t_ 9) (t_ 16)) 1]) (.seq (R_ 0 [O_ 17 (.mv (t_ 1)) 0,O_ 18 (.bin .neq (t_ 17) (.const (.string ⟨#[]⟩))) 0,O_ 19 (.mv (t_ 18)) 0,⟨(some 20),.ld 8 true (t_ 9),(some (19,true)),0⟩,⟨(some 21),.cl 35 [(t_ 20)],(some (19,true)),0⟩,⟨(some 22),.mv (t_ 1),(some (19,true)),0⟩,⟨(some 23),.bin .eql (t_ 21) (t_ 22),(some (19,true)),0⟩,O_ 24 (.pick (t_ 19) (t_ 23) (b_ false)) 0]) (.cond (t_ 24) (.seq (R_ 0 [O_ 25 (.mv (t_ 8)) 0,O_ 6 (.mv (t_ 25)) 0,O_ 7 (.mv (b_ true)) 0]) (.exit 0)) .skip)))) (R_ 0 [O_ 26 (.bin .add (t_ 12) (i_ 1)) 0,O_ 12 (.mv (t_ 26)) 0]))))))) (.seq (R_ 0 [O_ 27 (.mv (t_ 6)) 0,O_ 28 (.mv (t_ 7)) 0,O_ 4 (.mv (t_ 27)) 0,O_ 5 (.mv (t_ 28)) 0]) .ret)))))
theorem gc47_ok:compF Tryz.prog Tryz.f47=some (gc47.er,29,[.tmp 4,.tmp 5]):=by unfold gc47;kernel_rfl
theorem p_conns_State_keyed_v {u1:Bool} (a0:List ConnsConn) (a1:ByteArray):CallsO Tryz.prog 47 [.sl (List.map ConnsConn.v a0) u1,.s a1] (fun r:Int × Bool=>.tup [V.i r.1,V.b r.2]) (p_conns_State_keyed a0 a1):=by
 refine callsO_comp mix Tryz.func47 gc47_ok fun r H=>?_
 rw [p_conns_State_keyed] at H
 conv=>whnf
 refine LenQ.M ?_;conv=>whnf
 obtain ⟨o2,HL3,HQ4⟩:=bind_c H
 refine loop_c [6,7,12] [8,9,13,14,15,16,17,18,19,20,21,22,23,24,25,26] [8,9,13,14,15,16,17,18,19,20,21,22,23,24,25,26] (fun n vals st=>(∃ y6 y7 y8,p_conns_State_keyed_l1  a1 a0 (a0.length:Int) n y6 y7 y8=some o2∧vals=[.i y6,.b y7,.i y8]∧st=[])) fuel 0 [] (⟨_,_,_,HL3,rfl,rfl⟩) (Nat.zero_le _) rfl (by kernel_rfl) (by kernel_rfl) rfl trivial ?_
 rintro (_ | n5) _ _ (⟨y6,y7,y8,H,rfl,rfl⟩)
 ·rw [p_conns_State_keyed_l1] at H;cases H
 rw [p_conns_State_keyed_l1] at H
 conv=>whnf
 refine tst_d H (fun b9 H=>?_) (fun b9 H=>?_)
 ·conv=>whnf
  obtain rfl:=Option.some.inj H
  have H:=HQ4
  try dsimp only at H
  exact fq_ H
 conv=>whnf
 refine ixs_c (f:=ConnsConn.v) H (fun _=>rfl) (fun x10 H=>?_);conv=>whnf
 refine lq_ ?_;conv=>whnf
 refine Tst.not ?_
 refine tst_c H (fun b11 H=>?_) (fun b11 H=>?_)
 ·conv=>whnf
  iterate 5 (refine Tst.F ?_;conv=>whnf)
  refine Ari.w ?_;conv=>whnf
  exact again_c [8,9,13,14,15,16,17,18,19,20,21,22,23,24,25,26] n5 0 [] (⟨_,_,_,H,rfl,rfl⟩) (Nat.lt_succ_self _) (Nat.zero_le _) rfl (by kernel_rfl) (by kernel_rfl) rfl trivial
 conv=>whnf
 refine Tst.T ?_;conv=>whnf
 refine ask_c (p_conns_Key_v _) H rfl rfl (fun v12 H=>?_);conv=>whnf
 iterate 3 (refine Tst.T ?_;conv=>whnf)
 refine tst_c H (fun b13 H=>?_) (fun b13 H=>?_)
 ·conv=>whnf
  obtain rfl:=Option.some.inj H
  have H:=HQ4
  try dsimp only at H
  exact fq_ H
 conv=>whnf
 refine Ari.w ?_;conv=>whnf
 exact again_c [8,9,13,14,15,16,17,18,19,20,21,22,23,24,25,26] n5 0 [] (⟨_,_,_,H,rfl,rfl⟩) (Nat.lt_succ_self _) (Nat.zero_le _) rfl (by kernel_rfl) (by kernel_rfl) rfl trivial
def gc30:BCode:=(.seq (R_ 0 [O_ 2 (.mv (i_ 0)) 0]) (.seq (.seq (R_ 0 [O_ 11 (.mv (t_ 0)) 0,O_ 12 (.lens (t_ 11)) 0,O_ 13 (.bin .gtr (t_ 12) (i_ 16)) 0]) (.cond (t_ 13) (.seq (R_ 0 [O_ 2 (.mv (i_ 5)) 0]) .ret) .skip)) (.seq (.seq (R_ 0 [O_ 14 (.mv (t_ 0)) 0,O_ 15 (.cl 55 [(t_ 14),(.func 56)]) 0]) (.cond (t_ 15) (.seq (R_ 0 [O_ 2 (.mv (i_ 8)) 0]) .ret) .skip)) (.seq (.seq (R_ 0 [O_ 16 (.mv (t_ 0)) 0,O_ 17 (.cl 55 [(t_ 16),(.func 57)]) 0]) (.cond (t_ 17) (.seq (R_ 0 [O_ 2 (.mv (i_ 11)) 0]) .ret) .skip)) (.seq (.seq (R_ 0 [O_ 18 (.mv (t_ 0)) 0,O_ 19 (.lens (t_ 18)) 0,O_ 20 (.mv (i_ 0)) 0]) (.block 0 (.loop (.seq (R_ 0 [O_ 21 (.bin .lss (t_ 20) (t_ 19)) 0]) (.seq (.cond (t_ 21) .skip (.exit 0)) (.seq (.block 1 (.seq (R_ 1 [O_ 22 (.ixs 8 (t_ 18) (t_ 20)) 0,O_ 23 (.ld 8 true (t_ 22)) 0,O_ 4 (.al (.agg [(.lit (.int .i64 0)),(.lit (.int .i64 0)),(.lit (.string ⟨#[]⟩)),(.lit (.string ⟨#[]⟩)),(.lit (.int .i64 0)),(.lit (.string ⟨#[]⟩)),(.lit (.int .i64 0)),(.lit (.int .i64 0))])) 0,U_ (.st 8 (t_ 4) (t_ 23)) 1]) (.seq (R_ 0 [O_ 24 (.fa 5 (t_ 4)) 0,O_ 25 (.ld 3 true (t_ 24)) 0,O_ 26 (.cl 59 [(t_ 25)]) 0,O_ 5 (.mv (t_ 26)) 0]) (.seq (R_ 0 [O_ 27 (.mv (t_ 5)) 0,O_ 28 (.bin .neq (t_ 27) (i_ 0)) 0]) (.cond (t_ 28) (.seq (R_ 0 [O_ 29 (.mv (t_ 5)) 0,O_ 2 (.mv (t_ 29)) 0]) .ret) .skip))))) (R_ 0 [O_ 30 (.bin .add (t_ 20) (i_ 1)) 0,O_ 20 (.mv (t_ 30)) 0]))))))) (.seq (.seq (R_ 0 [O_ 6 (.mv (i_ 1)) 0]) (.block 2 (.loop (.seq (.seq (R_ 0 [O_ 31 (.mv (t_ 6)) 0,O_ 32 (.mv (t_ 0)) 0,O_ 33 (.lens (t_ 32)) 0,O_ 34 (.bin .lss (t_ 31) (t_ 33)) 0]) (.cond (t_ 34) .skip (.exit 2))) (.seq (.block 3 (.seq (.reg 0 [O_ 37 (.mv (t_ 0)) 0,O_ 38 (.mv (t_ 6)) 0,O_ 39 (.ixs 8 (t_ 37) (t_ 38)) 0,O_ 40 (.fa 0 (t_ 39)) 0,O_ 41 (.ld 1 false (t_ 40)) 0,O_ 42 (.mv (t_ 0)) 0,O_ 43 (.mv (t_ 6)) 0,O_ 44 (.bin .sub (t_ 43) (i_ 1)) 0,O_ 45 (.ixs 8 (t_ 42) (t_ 44)) 0,O_ 46 (.fa 0 (t_ 45)) 0,O_ 47 (.ld 1 false (t_ 46)) 0,O_ 48 (.bin .leq (t_ 41) (t_ 47)) 0] (some [[],[],[1,0],[0,1,2],[2,1,0,3],[],[],[6],[6,7,5],[5,7,6,8],[8,6,7,5,9],[9,5,7,6,8,10,3,0,1,2,4]]) 0 []) (.cond (t_ 48) (.seq (R_ 0 [O_ 2 (.mv (i_ 10)) 0]) .ret) .skip))) (R_ 0 [O_ 35 (.mv (t_ 6)) 0,O_ 36 (.bin .add (t_ 35) (i_ 1)) 0,O_ 6 (.mv (t_ 36)) 0])))))) (.seq (.seq (R_ 0 [O_ 49 (.mv (t_ 0)) 0,O_ 50 (.lens (t_ 49)) 0,O_ 51 (.mv (i_ 0)) 0]) (.block 4 (.loop (.seq (R_ 0 [O_ 52 (.bin .lss (t_ 51) (t_ 50)) 0]) (.seq (.cond (t_ 52) .skip (.exit 4)) (.seq (.block 5 (.seq (R_ 1 [O_ 53 (.mv (t_ 51)) 0,O_ 54 (.ixs 8 (t_ 49) (t_ 51)) 0,O_ 55 (.ld 8 true (t_ 54)) 0,O_ 8 (.al (.agg [(.lit (.int .i64 0)),(.lit (.int .i64 0)),(.lit (.string ⟨#[]⟩)),(.lit (.string ⟨#[]⟩)),(.lit (.int .i64 0)),(.lit (.string ⟨#[]⟩)),(.lit (.int .i64 0)),(.lit (.int .i64 0))])) 0,O_ 7 (.mv (t_ 53)) 1,U_ (.st 8 (t_ 8) (t_ 55)) 1]) (.seq (.reg 0 [O_ 57 (.mv (t_ 0)) 0,O_ 58 (.mv (t_ 7)) 0,O_ 59 (.sls 8 (t_ 57) none (some (t_ 58)) none) 0,O_ 60 (.ld 8 true (t_ 8)) 0,O_ 61 (.cl 35 [(t_ 60)]) 0,O_ 62 (.cl 47 [(t_ 59),(t_ 61)]) 0,O_ 56 (.mv (t_ 62)) 0,O_ 63 (.ex (t_ 56) 0) 0,O_ 64 (.ex (t_ 56) 1) 0,O_ 9 (.mv (t_ 63)) 0,O_ 10 (.mv (t_ 64)) 0] (some [[],[],[1,0],[],[3],[3,4,0,1,2],[2,1,0,4,3,5],[5,3,4,0,1,2,6],[5,3,4,0,1,2,6],[6,2,1,0,4,3,5,7],[7,9,6,2,1,0,4,3,5,8]]) 0 []) (.seq (R_ 0 [O_ 65 (.mv (t_ 10)) 0]) (.cond (t_ 65) (.seq (R_ 0 [O_ 2 (.mv (i_ 13)) 0]) .ret) .skip))))) (R_ 0 [O_ 66 (.bin .add (t_ 51) (i_ 1)) 0,O_ 51 (.mv (t_ 66)) 0]))))))) (.seq (R_ 0 [O_ 2 (.mv (i_ 0)) 0]) .ret))))))))
theorem gc30_ok:compF Tryz.prog Tryz.f30=some (gc30.er,67,[.tmp 2]):=by unfold gc30;kernel_rfl
theorem p_conns_Check_v {u1:Bool} (a0:List ConnsConn):CallsO Tryz.prog 30 [.sl (List.map ConnsConn.v a0) u1] V.i (p_conns_Check a0):=by
 refine callsO_comp mix Tryz.func30 gc30_ok fun r H=>?_
 rw [p_conns_Check] at H
 conv=>whnf
 refine LenQ.M ?_;conv=>whnf
 refine tst_c H (fun b1 H=>?_) (fun b1 H=>?_)
 ·conv=>whnf
  exact fi_ H
 conv=>whnf
 refine askF_c (p_slices_ContainsFunc_conns_State_conns_Conn__v _ _ ⟨⟨_,Tryz.func56,by kernel_rfl,by kernel_rfl⟩,rfl,fun x0=>p_conns_Check_1_v _⟩) H (.cons (.c (.slw)) (.cons (.c (.clo (.nil))) (.nil))) (fun v2 H=>?_);conv=>whnf
 refine tst_c H (fun b3 H=>?_) (fun b3 H=>?_)
 ·conv=>whnf
  exact fi_ H
 conv=>whnf
 refine askF_c (p_slices_ContainsFunc_conns_State_conns_Conn__v _ _ ⟨⟨_,Tryz.func57,by kernel_rfl,by kernel_rfl⟩,rfl,fun x0=>p_conns_Check_2_v _⟩) H (.cons (.c (.slw)) (.cons (.c (.clo (.nil))) (.nil))) (fun v4 H=>?_);conv=>whnf
 refine tst_c H (fun b5 H=>?_) (fun b5 H=>?_)
 ·conv=>whnf
  exact fi_ H
 conv=>whnf
 refine LenQ.M ?_;conv=>whnf
 obtain ⟨o7,HL8,HQ9⟩:=bind_c H
 refine loop_c [2,20] [4,5,21,22,23,24,25,26,27,28,29,30] [4,5,21,22,23,24,25,26,27,28,29,30] (fun n vals st=>(∃ y11,p_conns_Check_l1  a0 (a0.length:Int) n y11=some o7∧vals=[.i (0:Int),.i y11]∧st=[])) fuel 0 [] (⟨_,HL8,rfl,rfl⟩) (Nat.zero_le _) rfl (by kernel_rfl) (by kernel_rfl) rfl trivial ?_
 rintro (_ | n10) _ _ (⟨y11,H,rfl,rfl⟩)
 ·rw [p_conns_Check_l1] at H;cases H
 rw [p_conns_Check_l1] at H
 conv=>whnf
 refine tst_c H (fun b12 H=>?_) (fun b12 H=>?_)
 ·conv=>whnf
  refine ixs_c (f:=ConnsConn.v) H (fun _=>rfl) (fun x13 H=>?_);conv=>whnf
  refine lq_ ?_;conv=>whnf
  refine ask_c (p_deframe_Check_v _) H rfl rfl (fun v14 H=>?_);conv=>whnf
  refine tst_c H (fun b15 H=>?_) (fun b15 H=>?_)
  ·conv=>whnf
   obtain rfl:=Option.some.inj H
   have H:=HQ9
   try dsimp only at H
   exact fi_ H
  conv=>whnf
  refine Ari.w ?_;conv=>whnf
  exact again_c [4,5,21,22,23,24,25,26,27,28,29,30] n10 0 [] (⟨_,H,rfl,rfl⟩) (Nat.lt_succ_self _) (Nat.zero_le _) rfl (by kernel_rfl) (by kernel_rfl) rfl trivial
 conv=>whnf
 obtain rfl:=Option.some.inj H
 have H:=HQ9
 try dsimp only at H
 obtain ⟨o17,HL18,HQ19⟩:=bind_c H
 refine loop_c [2,6] [31,32,33,34,35,36,37,38,39,40,41,42,43,44,45,46,47,48] [31,32,33,34,35,36,37,38,39,40,41,42,43,44,45,46,47,48] (fun n vals st=>(∃ y21,p_conns_Check_l2  a0 n y21=some o17∧vals=[.i (0:Int),.i y21]∧st=[])) fuel 0 [] (⟨_,HL18,rfl,rfl⟩) (Nat.zero_le _) rfl (by kernel_rfl) (by kernel_rfl) rfl trivial ?_
 rintro (_ | n20) _ _ (⟨y21,H,rfl,rfl⟩)
 ·rw [p_conns_Check_l2] at H;cases H
 rw [p_conns_Check_l2] at H
 conv=>whnf
 refine LenQ.M ?_;conv=>whnf
 refine tst_c H (fun b22 H=>?_) (fun b22 H=>?_)
 ·conv=>whnf
  refine ixs_c (f:=ConnsConn.v) H (fun _=>rfl) (fun x23 H=>?_);conv=>whnf
  refine lq_ ?_;conv=>whnf
  refine Ari.w ?_;conv=>whnf
  refine ixs_c (f:=ConnsConn.v) H (fun _=>rfl) (fun x24 H=>?_);conv=>whnf
  refine lq_ ?_;conv=>whnf
  refine FootQ.mk ⟨rfl,?_⟩;conv=>whnf
  refine tst_c H (fun b25 H=>?_) (fun b25 H=>?_)
  ·conv=>whnf
   obtain rfl:=Option.some.inj H
   have H:=HQ19
   try dsimp only at H
   exact fi_ H
  conv=>whnf
  refine Ari.w ?_;conv=>whnf
  exact again_c [31,32,33,34,35,36,37,38,39,40,41,42,43,44,45,46,47,48] n20 0 [] (⟨_,H,rfl,rfl⟩) (Nat.lt_succ_self _) (Nat.zero_le _) rfl (by kernel_rfl) (by kernel_rfl) rfl trivial
 conv=>whnf
 obtain rfl:=Option.some.inj H
 have H:=HQ19
 try dsimp only at H
 refine LenQ.M ?_;conv=>whnf
 obtain ⟨o27,HL28,HQ29⟩:=bind_c H
 refine loop_c [2,51] [7,8,9,10,52,53,54,55,56,57,58,59,60,61,62,63,64,65,66] [7,8,9,10,52,53,54,55,56,57,58,59,60,61,62,63,64,65,66] (fun n vals st=>(∃ y31,p_conns_Check_l3  a0 a0 (a0.length:Int) n y31=some o27∧vals=[.i (0:Int),.i y31]∧st=[])) fuel 0 [] (⟨_,HL28,rfl,rfl⟩) (Nat.zero_le _) rfl (by kernel_rfl) (by kernel_rfl) rfl trivial ?_
 rintro (_ | n30) _ _ (⟨y31,H,rfl,rfl⟩)
 ·rw [p_conns_Check_l3] at H;cases H
 rw [p_conns_Check_l3] at H
 conv=>whnf
 refine tst_d H (fun b32 H=>?_) (fun b32 H=>?_)
 ·conv=>whnf
  obtain rfl:=Option.some.inj H
  have H:=HQ29
  try dsimp only at H
  exact fi_ H
 conv=>whnf
 refine ixs_c (f:=ConnsConn.v) H (fun _=>rfl) (fun x33 H=>?_);conv=>whnf
 refine lq_ ?_;conv=>whnf
 refine slsH_c (f:=ConnsConn.v) H (fun _=>rfl) (fun x34 H=>?_);conv=>whnf
 refine ask_c (p_conns_Key_v _) H rfl rfl (fun v35 H=>?_);conv=>whnf
 refine ask_c (p_conns_State_keyed_v _ _) H rfl rfl (fun v36 H=>?_);conv=>whnf
 refine FootQ.mk ⟨rfl,?_⟩;conv=>whnf
 refine tst_c H (fun b37 H=>?_) (fun b37 H=>?_)
 ·conv=>whnf
  obtain rfl:=Option.some.inj H
  have H:=HQ29
  try dsimp only at H
  exact fi_ H
 conv=>whnf
 refine Ari.w ?_;conv=>whnf
 exact again_c [7,8,9,10,52,53,54,55,56,57,58,59,60,61,62,63,64,65,66] n30 0 [] (⟨_,H,rfl,rfl⟩) (Nat.lt_succ_self _) (Nat.zero_le _) rfl (by kernel_rfl) (by kernel_rfl) rfl trivial
end Go.Proofs.YtdbigmjlhkgeoaaGreat

namespace Go.Proofs.YtdbigmjlhkgeoaaGreat
open Go.RowKit Go.Lib
set_option maxHeartbeats 4000000
set_option maxRecDepth 100000
theorem insS41 (b n c i vb voff vc:Nat) (cs vs:List Value) (w:World) (tA tB:TypeId) (kA kB:Nat) (hi:i < n) (hroom:n + 1≤c) (hbig:n + 1≤1000000) (hvb:vb≠b) (hcl:cs.length=n * 8) (hvl:vs.length=8)
  (hcs:∀ j v,cs[j]?=some v→w.cell? ⟨b,j,none⟩=some v) (hsp:∀ j,j < (n + 1) * 8→(w.cell? ⟨b,j,none⟩).isSome=true) (hfz:∀ j,j < (n + 1) * 8→w.frozen? ⟨b,j,none⟩=false)
  (hvs:∀ j v,vs[j]?=some v→w.cell? ⟨vb,voff + j,none⟩=some v) (h1c:∀ v ∈ cs,v.oneCell'=true) (h1v:∀ v ∈ vs,v.oneCell'=true)
  (hsa:w.shape? vb=some (tA,kA)) (hsb:w.shape? b=some (tB,kB)) (hkA:kA≠0) (hkB:kB≠0) (hfe:w.frozen? ⟨b,kB,none⟩=false) :
  Calls Tryz.prog 41 #[.slice (some ⟨b,0,none⟩) n c,.int .i64 i,.slice (some ⟨vb,voff,none⟩) 1 vc] w fun e w' =>
   e=.returned (.slice (some ⟨b,0,none⟩) (n + 1) c)∧w'=(w.drew.setCells b ((i + 1) * 8) (cs.drop (i * 8))).setCells b (i * 8) vs:=by
 have tS:Tryz.prog.underlying 28=some (.slice 38):=by kernel_rfl
 have tV:Tryz.prog.underlying 27=some (.slice 38):=by kernel_rfl
 have tI:Tryz.prog.underlying 3=some (.int .i64):=by kernel_rfl
 have uS:=run_underlying tS
 have uV:=run_underlying tV
 have uI:=run_underlying tI
 have mixed:Tryz.prog.follows .mixedOrders=true:=mix
 obtain ⟨i0,z,hi0,hzs,hz0,hzc,hzb⟩:=infB_ok (P:=Tryz.prog) (e:=38) (es:=8) (by kernel_rfl)
 have hsz:(Tryz.prog.info? 38).map (·.size)=some 8:=by rw [hi0];simp [hzs]
 have hov:∀ lb cb,(callFunc 64 #[.slice (some ⟨vb,voff,none⟩) 1 vc,.slice (some ⟨b,(i + 1) * 8,none⟩) lb cb]).run Tryz.prog w=.ok (.value (.bool false)) w:=fun lb cb=>by
  rw [run_callFunc_extern Tryz.func64 (by kernel_rfl) (by kernel_rfl) (by kernel_rfl) (e:=Extern.SlicesOverlaps.overlaps #[27,27] #[4]) (by kernel_rfl),
   run_overlaps_own w 27 4 38 tV 8 (fun w=>by rw [← hzs];exact run_sizeOf hi0 w) ⟨vb,voff,none⟩ ⟨b,(i + 1) * 8,none⟩ 1 vc lb cb hvb tA tB kA kB hsa hsb hkA hkB (hfz _ (by omega)) hfe]
  rfl
 have hdl:(cs.drop (i * 8)).length=(n - i) * 8:=by rw [List.length_drop,hcl];omega
 have hz2:¬ ((i:Int)=(n:Int)):=by omega
 have hw1:IntKind.i64.wrap ((i:Int) + 1)=(i:Int) + 1:=by rw [IntKind.wrap_i64];omega
 have hwn:IntKind.i64.wrap ((n:Int) + 1)=(n:Int) + 1:=by rw [IntKind.wrap_i64];omega
 have hb1:(0:Int)≤(i:Int) + 1:=by omega
 have hin:i≤n:=by omega
 have htn:((i:Int) + 1).toNat=i + 1:=by omega
 have htm:((n:Int) + 1).toNat=n + 1:=by omega
 have hb2:¬ (c=i + 1):=by omega
 have hb3:(i:Int)≤(n:Int) + 1:=by omega
 have hb4:¬ (c=i):=by omega
 have hb5:¬ ((c:Int) < (n:Int) + 1):=by omega
 have hb6:(n:Int) + 1≤(c:Int):=by omega
 have hm1:Nat.min (n + 1 - i) (n - i)=n - i:=by simp only [Nat.min_def];split <;> omega
 have hm2:Nat.min 1 (n + 1 - i)=1:=by simp only [Nat.min_def];split <;> omega
 have hcp1:∀ ty dc sc,(Builtin.copy_ #[28,28] ty #[.slice (some ⟨b,(i + 1) * 8,none⟩) (n - i) dc,.slice (some ⟨b,i * 8,none⟩) (n + 1 - i) sc]).run Tryz.prog w.drew=.ok (goInt (Nat.min (n + 1 - i) (n - i))) (w.drew.setCells b ((i + 1) * 8) (cs.drop (i * 8))):=fun ty dc sc =>
  run_copy_es w.drew _ _ ty 38 8 b ((i + 1) * 8) (n - i) dc ⟨b,i * 8,none⟩ (n + 1 - i) sc (cs.drop (i * 8)) tS hsz (by rw [hm1];exact hdl)
   (fun j v hj=>by rw [Addr.add_lit];exact hcs (i * 8 + j) v (by rwa [List.getElem?_drop] at hj))
   (fun j hj=>hsp _ (by omega)) (fun j hj=>hfz _ (by omega)) (fun v hv=>h1c v (List.mem_of_mem_drop hv))
 obtain ⟨W1,hW1⟩ : ∃ W1,W1=w.drew.setCells b ((i + 1) * 8) (cs.drop (i * 8)):=⟨_,rfl⟩
 have hsp1:∀ k,k < (n + 1) * 8→(W1.cell? ⟨b,k,none⟩).isSome=true:=fun k hk=>by
  rw [hW1]
  exact isSome_setCells b (cs.drop (i * 8)) ((i + 1) * 8) w.drew (fun j hj=>hsp _ (by omega)) _ (hsp k hk)
 have hcp2:∀ (W:World),(∀ x,W.cell? x=W1.cell? x)→(∀ x,W.frozen? x=W1.frozen? x)→∀ ty dc,(Builtin.copy_ #[28,27] ty #[.slice (some ⟨b,i * 8,none⟩) (n + 1 - i) dc,.slice (some ⟨vb,voff,none⟩) 1 vc]).run Tryz.prog W=.ok (goInt (Nat.min 1 (n + 1 - i))) (W.setCells b (i * 8) vs):=fun W hWc hWf ty dc =>
  run_copy_es W _ _ ty 38 8 b (i * 8) (n + 1 - i) dc ⟨vb,voff,none⟩ 1 vc vs tS hsz (by rw [hm2,hvl])
   (fun j v hj=>by
    rw [Addr.add_lit,hWc,hW1,World.cell?_setCells_out b _ _ _ _ (fun h _=>absurd h hvb)]
    exact hvs j v hj)
   (fun j hj=>by rw [hWc];exact hsp1 _ (by omega)) (fun j hj=>by rw [hWf,hW1,World.frozen?_setCells];exact hfz _ (by omega)) h1v
 rw [← hW1] at hcp1
 go_enter Tryz.func41,Tryz.ntmps41
 go_wp2_with (simp only [hov])
 go_region_law_o (refine step_copy_runI rfl _ _ 28 28 rfl _ _ (by simp [Act.eval,Act.put]) (by simp [Act.eval,Act.put]) (hcp1 _ _ _) ?_)
 go_wp2_with (at_builtin;refine wpList_copy_runI _ rfl _ _ 28 27 rfl _ _ rfl rfl (hcp2 _ (fun _=>rfl) (fun _=>rfl) _ _) ?_)
 go_ret
 first | exact ⟨rfl,rfl⟩ | exact ⟨rfl,by rw [hW1]⟩
theorem insE41 (b n c vb voff vc:Nat) (vs:List Value) (w:World) (hroom:n + 1≤c) (hbig:n + 1≤1000000) (hvl:vs.length=8)
  (hsp:∀ j,j < 8→(w.cell? ⟨b,n * 8 + j,none⟩).isSome=true) (hfz:∀ j,j < 8→w.frozen? ⟨b,n * 8 + j,none⟩=false)
  (hvs:∀ j v,vs[j]?=some v→w.cell? ⟨vb,voff + j,none⟩=some v) (h1v:∀ v ∈ vs,v.oneCell'=true) :
  Calls Tryz.prog 41 #[.slice (some ⟨b,0,none⟩) n c,.int .i64 n,.slice (some ⟨vb,voff,none⟩) 1 vc] w fun e w' =>
   e=.returned (.slice (some ⟨b,0,none⟩) (n + 1) c)∧w'=w.setCells b (n * 8) vs:=by
 have tS:Tryz.prog.underlying 28=some (.slice 38):=by kernel_rfl
 have tV:Tryz.prog.underlying 27=some (.slice 38):=by kernel_rfl
 have tI:Tryz.prog.underlying 3=some (.int .i64):=by kernel_rfl
 have uS:=run_underlying tS
 have uV:=run_underlying tV
 have uI:=run_underlying tI
 have mixed:Tryz.prog.follows .mixedOrders=true:=mix
 obtain ⟨i0,z,hi0,hzs,hz0,hzc,hzb⟩:=infB_ok (P:=Tryz.prog) (e:=38) (es:=8) (by kernel_rfl)
 have hsz:(Tryz.prog.info? 38).map (·.size)=some 8:=by rw [hi0];simp [hzs]
 have hsrc:Src Tryz.prog 8 27 (.slice (some ⟨vb,voff,none⟩) 1 vc) 1 vs w:=Src.ofSlice w tV ⟨vb,voff,none⟩ 1 vc vs (by omega) (fun j u hj=>by rw [Addr.add_lit];exact hvs j u hj) h1v
 have hrun:∀ ty,(Builtin.append_ #[28,27] ty #[.slice (some ⟨b,0,none⟩) n c,.slice (some ⟨vb,voff,none⟩) 1 vc]).run Tryz.prog w=_:=fun ty =>
  run_append_room_src w 28 27 ty 38 i0 tS hi0 b 0 n c _ 1 vs (by rw [hzs];exact hsrc) hroom (by rw [hzs,hvl,Nat.zero_add];exact hsp) (by rw [hzs,hvl,Nat.zero_add];exact hfz)
 rw [hzs,Nat.zero_add] at hrun
 go_enter Tryz.func41,Tryz.ntmps41
 go_wp2_with (at_builtin;refine Lib.wpList_append_run _ rfl _ _ _ _ rfl _ _ rfl rfl _ _ (hrun _) ?_)
 all_goals (go_ret;exact ⟨rfl,rfl⟩)
theorem insG41 (base:Option Addr) (n c vb voff vc:Nat) (cs vs:List Value) (w:World) (hnc:n≤c) (hroom:c < n + 1) (hbig:n + 1≤1000000) (hcl:cs.length=n * 8) (hvl:vs.length=8) (hnil:base=none→n=0)
  (hcs:∀ a,base=some a→∀ j v,cs[j]?=some v→w.cell? (a.add j)=some v) (hvs:∀ j v,vs[j]?=some v→w.cell? ⟨vb,voff + j,none⟩=some v) (h1v:∀ v ∈ vs,v.oneCell'=true) :
  Calls Tryz.prog 41 #[.slice base n c,.int .i64 n,.slice (some ⟨vb,voff,none⟩) 1 vc] w fun e w' =>
   ∃ zs:Array Value,e=.returned (.slice (some ⟨w.heap.size,0,none⟩) (n + 1) (grownCap w (n + 1) c 38))∧w'=w.drew.alloc (.cells ((cs++vs).toArray++zs) 38):=by
 have tS:Tryz.prog.underlying 28=some (.slice 38):=by kernel_rfl
 have tV:Tryz.prog.underlying 27=some (.slice 38):=by kernel_rfl
 have tI:Tryz.prog.underlying 3=some (.int .i64):=by kernel_rfl
 have uS:=run_underlying tS
 have uV:=run_underlying tV
 have uI:=run_underlying tI
 have mixed:Tryz.prog.follows .mixedOrders=true:=mix
 obtain ⟨i0,z,hi0,hzs,hz0,hzc,hzb⟩:=infB_ok (P:=Tryz.prog) (e:=38) (es:=8) (by kernel_rfl)
 have hsz:(Tryz.prog.info? 38).map (·.size)=some 8:=by rw [hi0];simp [hzs]
 have hsrc:Src Tryz.prog i0.size 27 (.slice (some ⟨vb,voff,none⟩) 1 vc) 1 vs w:=by
  rw [hzs]
  exact Src.ofSlice w tV ⟨vb,voff,none⟩ 1 vc vs (by omega) (fun j u hj=>by rw [Addr.add_lit];exact hvs j u hj) h1v
 have hold:(Builtin.firstCells i0.size n (.slice base n c)).run Tryz.prog w.drew=.ok cs.toArray w.drew:=by
  rw [hzs]
  cases base with
  | none =>
   have h0:=hnil rfl
   subst h0
   rw [List.length_eq_zero_iff.1 (by omega:cs.length=0)]
   exact run_firstCells_none w.drew 8 0 0 c
  | some a=>exact run_firstCells_some w.drew 8 n a n c cs hcl (fun j v hj=>hcs a rfl j v hj)
 have hrun:∀ ty,(Builtin.append_ #[28,27] ty #[.slice base n c,.slice (some ⟨vb,voff,none⟩) 1 vc]).run Tryz.prog w=_:=fun ty =>
  run_append_grow_src w 28 27 ty 38 i0 z tS hi0 hz0 base n c cs hold _ 1 vs hsrc hroom (by omega) (growslice_fits hroom (grown_bound hbig hzb))
 obtain ⟨ZS,hrun⟩ : ∃ ZS:Array Value,∀ ty,(Builtin.append_ #[28,27] ty #[.slice base n c,.slice (some ⟨vb,voff,none⟩) 1 vc]).run Tryz.prog w=.ok (.slice (some ⟨w.heap.size,0,none⟩) (n + 1) (grownCap w (n + 1) c 38)) (w.drew.alloc (.cells ((cs++vs).toArray++ZS) 38)):=⟨_,hrun⟩
 have main:Calls Tryz.prog 41 #[.slice base n c,.int .i64 n,.slice (some ⟨vb,voff,none⟩) 1 vc] w fun e w' =>
   e=.returned (.slice (some ⟨w.heap.size,0,none⟩) (n + 1) (grownCap w (n + 1) c 38))∧w'=w.drew.alloc (.cells ((cs++vs).toArray++ZS) 38):=by
  clear hz0 hold hsrc
  go_enter Tryz.func41,Tryz.ntmps41
  cases base with
  | none =>
   have h0:=hnil rfl
   subst h0
   go_wp2_with (at_builtin;refine Lib.wpList_append_run _ rfl _ _ _ _ rfl _ _ rfl rfl _ _ (hrun _) ?_)
   go_ret
   exact ⟨rfl,rfl⟩
  | some a =>
   obtain ⟨ab,ao,asp⟩:=a
   go_wp2_with (at_builtin;refine Lib.wpList_append_run _ rfl _ _ _ _ rfl _ _ rfl rfl _ _ (hrun _) ?_)
   all_goals (go_ret;exact ⟨rfl,rfl⟩)
 refine main.mono ?_
 rintro e w' ⟨rfl,rfl⟩
 exact ⟨ZS,rfl,rfl⟩
theorem insW41 (b n c i vb voff vc:Nat) (cs vs:List Value) (w:World) (hi:i < n) (hnc:n≤c) (hroom:c < n + 1) (hbig:n + 1≤1000000) (hcl:cs.length=n * 8) (hvl:vs.length=8)
  (hcs:∀ j v,cs[j]?=some v→w.cell? ⟨b,j,none⟩=some v) (hvs:∀ j v,vs[j]?=some v→w.cell? ⟨vb,voff + j,none⟩=some v) (h1c:∀ v ∈ cs,v.oneCell'=true) (h1v:∀ v ∈ vs,v.oneCell'=true) :
  Calls Tryz.prog 41 #[.slice (some ⟨b,0,none⟩) n c,.int .i64 i,.slice (some ⟨vb,voff,none⟩) 1 vc] w fun e w' =>
   ∃ ROW:Array Value,(n + 1) * 8≤ROW.size∧(∀ (j:Nat) (v:Value),(cs.take (i * 8))[j]?=some v→ROW[j]?=some v)∧e=.returned (.slice (some ⟨w.heap.size,0,none⟩) (n + 1) (grownCap w (n + 1) c 38)) ∧
    w'=(((w.alloc (.cells ROW 38)).drew.setCells w.heap.size (i * 8) vs).drew).setCells w.heap.size ((i + 1) * 8) (cs.drop (i * 8)):=by
 have tS:Tryz.prog.underlying 28=some (.slice 38):=by kernel_rfl
 have tV:Tryz.prog.underlying 27=some (.slice 38):=by kernel_rfl
 have tI:Tryz.prog.underlying 3=some (.int .i64):=by kernel_rfl
 have uS:=run_underlying tS
 have uV:=run_underlying tV
 have uI:=run_underlying tI
 have mixed:Tryz.prog.follows .mixedOrders=true:=mix
 obtain ⟨i0,z,hi0,hzs,hz0,hzc,hzb⟩:=infB_ok (P:=Tryz.prog) (e:=38) (es:=8) (by kernel_rfl)
 have hsz:(Tryz.prog.info? 38).map (·.size)=some 8:=by rw [hi0];simp [hzs]
 have hz2:¬ ((i:Int)=(n:Int)):=by omega
 have hz3:(c:Int) < (n:Int) + 1:=by omega
 have hbw:b < w.heap.size:=block_lt_of_cell (hcs 0 _ (List.getElem?_eq_getElem (by omega)))
 have hvw:vb < w.heap.size:=block_lt_of_cell (hvs 0 _ (List.getElem?_eq_getElem (by omega)))
 have hwk:IntKind.i64.wrap ((n:Int) + 1 - (i:Int))=((n + 1 - i:Nat):Int):=by rw [IntKind.wrap_i64];omega
 have hik:i + (n + 1 - i)=n + 1:=by omega
 have hold:(Builtin.firstCells i0.size i (.slice (some ⟨b,0,none⟩) i c)).run Tryz.prog w.drew=.ok (cs.take (i * 8)).toArray w.drew:=by
  rw [hzs]
  exact run_firstCells_some w.drew 8 i ⟨b,0,none⟩ i c (cs.take (i * 8)) (by rw [List.length_take];omega) (fun j v hj=>by
   rw [Addr.add_lit,Nat.zero_add]
   rw [List.getElem?_take] at hj
   split at hj
   ·exact hcs j v hj
   ·cases hj)
 have hbk:(n + 1 - i) * i0.bytes≤281474976710656:=by
  have:(n + 1 - i) * i0.bytes≤1000000 * 1000:=Nat.mul_le_mul (by omega) hzb
  omega
 have hrz:∀ ty,(Builtin.append_ #[28,3] ty #[.slice (some ⟨b,0,none⟩) i c,.int .i64 ((n + 1 - i:Nat):Int)]).run Tryz.prog w =
   .ok (.slice (some ⟨w.heap.size,0,none⟩) (n + 1) (grownCap w (n + 1) c 38)) (w.drew.alloc (.cells ((cs.take (i * 8)).toArray++Builtin.zeroCells z.cells (n + 1 - i)++Builtin.zeroCells z.cells (grownCap w (n + 1) c 38 - (n + 1))) 38)):=fun ty=>by
  have h:=Lib.run_append_grow_zeros w 28 3 ty 38 i0 z .i64 .i64 tS tI hi0 hz0 (some ⟨b,0,none⟩) i c (cs.take (i * 8)) hold (n + 1 - i) (by omega) (by omega) (by omega) (by omega) hbk (by rw [hik];exact growslice_fits hroom (grown_bound hbig hzb))
  rw [hik] at h
  exact h
 obtain ⟨G,hG⟩ : ∃ G,G=grownCap w (n + 1) c 38:=⟨_,rfl⟩
 obtain ⟨ROW,hROW⟩ : ∃ ROW:Array Value,ROW=(cs.take (i * 8)).toArray++Builtin.zeroCells z.cells (n + 1 - i)++Builtin.zeroCells z.cells (G - (n + 1)):=⟨_,rfl⟩
 rw [← hG] at hrz ⊢
 rw [← hROW] at hrz
 have hRl:(n + 1) * 8≤ROW.size:=by
  rw [hROW]
  simp only [Array.size_append,size_zeroCells,hzc,List.size_toArray,List.length_take]
  omega
 have hRt:∀ (j:Nat) (v:Value),(cs.take (i * 8))[j]?=some v→ROW[j]?=some v:=fun j v h=>by
  have hl:=(List.getElem?_eq_some_iff.1 h).1
  rw [hROW,Array.append_assoc,Array.getElem?_append_left (by simpa using hl),List.getElem?_toArray]
  exact h
 obtain ⟨W1,hW1⟩ : ∃ W1,W1=w.drew.alloc (.cells ROW 38):=⟨_,rfl⟩
 rw [← hW1] at hrz
 have hN:∀ j,j < (n + 1) * 8→(W1.cell? ⟨w.heap.size,j,none⟩).isSome=true:=fun j hj=>by
  rw [hW1,World.cell?_alloc_at (w:=w.drew) ROW _ w.heap.size j rfl,Array.getElem?_eq_getElem (by omega)];rfl
 have hNf:∀ j,W1.frozen? ⟨w.heap.size,j,none⟩=false:=fun j=>by rw [hW1];exact World.frozen?_alloc_at (w:=w.drew) ROW _ w.heap.size j rfl
 have hOb:∀ j v,w.cell? ⟨b,j,none⟩=some v→W1.cell? ⟨b,j,none⟩=some v:=fun j v h=>by rw [hW1,World.cell?_alloc_past (w:=w.drew) _ b j hbw];exact h
 have hOv:∀ j v,w.cell? ⟨vb,j,none⟩=some v→W1.cell? ⟨vb,j,none⟩=some v:=fun j v h=>by rw [hW1,World.cell?_alloc_past (w:=w.drew) _ vb j hvw];exact h
 have hmA:Nat.min 1 (n + 1 - i)=1:=by simp only [Nat.min_def];split <;> omega
 have hmB:Nat.min (n - i) (n - i)=n - i:=Nat.min_self _
 have hcpA:∀ (W:World),(∀ x,W.cell? x=W1.cell? x)→(∀ x,W.frozen? x=W1.frozen? x)→∀ ty dc,(Builtin.copy_ #[28,27] ty #[.slice (some ⟨w.heap.size,i * 8,none⟩) (n + 1 - i) dc,.slice (some ⟨vb,voff,none⟩) 1 vc]).run Tryz.prog W=.ok (goInt (Nat.min 1 (n + 1 - i))) (W.setCells w.heap.size (i * 8) vs):=fun W hWc hWf ty dc =>
  run_copy_es W _ _ ty 38 8 w.heap.size (i * 8) (n + 1 - i) dc ⟨vb,voff,none⟩ 1 vc vs tS hsz (by rw [hmA,hvl])
   (fun j v hj=>by rw [Addr.add_lit,hWc];exact hOv _ v (hvs j v hj))
   (fun j hj=>by rw [hWc];exact hN _ (by omega)) (fun j hj=>by rw [hWf];exact hNf _) h1v
 have hGn:n + 1≤G:=by rw [hG];exact grownCap_ge w _ _ _
 have hGi:¬ (G=i):=by omega
 have hGim:¬ (G=i + 1):=by omega
 have hci:¬ (c=i):=by omega
 have hbN:b≠w.heap.size:=by omega
 have hdl:(cs.drop (i * 8)).length=(n - i) * 8:=by rw [List.length_drop,hcl];omega
 have hcpB:∀ (W:World),(∀ x,W.cell? x=(W1.setCells w.heap.size (i * 8) vs).cell? x)→(∀ x,W.frozen? x=(W1.setCells w.heap.size (i * 8) vs).frozen? x)→∀ ty dc sc,(Builtin.copy_ #[28,28] ty #[.slice (some ⟨w.heap.size,(i + 1) * 8,none⟩) (n - i) dc,.slice (some ⟨b,i * 8,none⟩) (n - i) sc]).run Tryz.prog W=.ok (goInt (Nat.min (n - i) (n - i))) (W.setCells w.heap.size ((i + 1) * 8) (cs.drop (i * 8))):=fun W hWc hWf ty dc sc =>
  run_copy_es W _ _ ty 38 8 w.heap.size ((i + 1) * 8) (n - i) dc ⟨b,i * 8,none⟩ (n - i) sc (cs.drop (i * 8)) tS hsz (by rw [hmB];exact hdl)
   (fun j v hj=>by
    rw [Addr.add_lit,hWc,World.cell?_setCells_out _ _ _ _ _ (fun h _=>absurd h hbN)]
    exact hOb _ v (hcs (i * 8 + j) v (by rwa [List.getElem?_drop] at hj)))
   (fun j hj=>by rw [hWc];exact isSome_setCells _ _ _ _ (fun t ht=>hN _ (by omega)) _ (hN _ (by omega)))
   (fun j hj=>by rw [hWf,World.frozen?_setCells];exact hNf _) (fun v hv=>h1c v (List.mem_of_mem_drop hv))
 subst hW1
 have hE1:∀ x,((w.alloc (.cells ROW 38)).drew).cell? x=(w.drew.alloc (.cells ROW 38)).cell? x:=fun x=>rfl
 have hE2:∀ x,((w.alloc (.cells ROW 38)).drew).frozen? x=(w.drew.alloc (.cells ROW 38)).frozen? x:=fun x=>rfl
 have hF1:∀ x,(((w.alloc (.cells ROW 38)).drew.setCells w.heap.size (i * 8) vs).drew).cell? x=((w.drew.alloc (.cells ROW 38)).setCells w.heap.size (i * 8) vs).cell? x:=fun x=>rfl
 have hF2:∀ x,(((w.alloc (.cells ROW 38)).drew.setCells w.heap.size (i * 8) vs).drew).frozen? x=((w.drew.alloc (.cells ROW 38)).setCells w.heap.size (i * 8) vs).frozen? x:=fun x=>rfl
 have hw1:IntKind.i64.wrap ((i:Int) + 1)=(i:Int) + 1:=by rw [IntKind.wrap_i64];omega
 have hwn:IntKind.i64.wrap ((n:Int) + 1)=(n:Int) + 1:=by rw [IntKind.wrap_i64];omega
 have hb1:(0:Int)≤(i:Int) + 1:=by omega
 have hin:i≤n:=by omega
 have htn:((i:Int) + 1).toNat=i + 1:=by omega
 have hb3:(i:Int)≤(n:Int):=by omega
 have main:Calls Tryz.prog 41 #[.slice (some ⟨b,0,none⟩) n c,.int .i64 i,.slice (some ⟨vb,voff,none⟩) 1 vc] w fun e w' =>
   e=.returned (.slice (some ⟨w.heap.size,0,none⟩) (n + 1) G)∧w'=(((w.alloc (.cells ROW 38)).drew.setCells w.heap.size (i * 8) vs).drew).setCells w.heap.size ((i + 1) * 8) (cs.drop (i * 8)):=by
  clear hik hold hROW hG hRl hRt hbk hz0
  go_enter Tryz.func41,Tryz.ntmps41
  go_wp2_with (first
   | (at_builtin;refine Lib.wpList_append_run _ rfl _ _ _ _ rfl _ _ rfl rfl _ _ (hrz _) ?_)
   | (at_builtin;refine wpList_copy_runI _ rfl _ _ 28 27 rfl _ _ rfl rfl (hcpA _ hE1 hE2 _ _) ?_))
  go_region_law_o (refine step_copy_runI rfl _ _ 28 28 rfl (.slice (some ⟨w.heap.size,(i + 1) * 8,none⟩) (n - i) (G - (i + 1))) (.slice (some ⟨b,i * 8,none⟩) (n - i) (c - i)) (by simp [Act.eval,Act.put]) (by simp [Act.eval,Act.put]) (hcpB _ hF1 hF2 3 (G - (i + 1)) (c - i)) ?_)
  go_wp2
  go_ret
  first | exact ⟨rfl,rfl⟩ | trace_state
 refine main.mono ?_
 rintro e w' ⟨rfl,rfl⟩
 exact ⟨ROW,hRl,hRt,rfl,rfl⟩
theorem insR41_v:InsRoads Tryz.prog 41 8 38:=⟨insS41,insE41,insG41,insW41⟩
end Go.Proofs.YtdbigmjlhkgeoaaGreat

namespace Go.Proofs.YtdbigmjlhkgeoaaGreat
open Go.RowKit Go.Lib
set_option maxHeartbeats 4000000
set_option maxRecDepth 100000
theorem cloS42 (A:Addr) (n c:Nat) (cs:List Value) (w:World) (hn:0 < n) (hbig:n≤1000000) (hcl:cs.length=n * 8) (hcs:∀ j v,cs[j]?=some v→w.cell? (A.add j)=some v) (h1:∀ v ∈ cs,v.oneCell'=true) :
  Calls Tryz.prog 42 #[.slice (some A) n c] w fun e w'=>∃ ZS:Array Value,e=.returned (.slice (some ⟨w.heap.size + 1,0,none⟩) n (grownCap (w.alloc (.cells #[] 38)) n 0 38))∧w'=(w.alloc (.cells #[] 38)).drew.alloc (.cells (cs.toArray++ZS) 38)∧grownCap (w.alloc (.cells #[] 38)) n 0 38 * 8≤(cs.toArray++ZS).size:=by
 have tS:Tryz.prog.underlying 28=some (.slice 38):=by kernel_rfl
 have uS:=run_underlying tS
 have qS:∀ (w:World) (a:Option Addr) (n c n' c' : Nat),(binOp .eql 28 (.slice a n c) (.slice none n' c')).run Tryz.prog w=.ok (.bool a.isNone) w:=fun w a n c n' c'=>Lib.run_eql_slice_nil w _ _ a n c n' c' tS
 have mixed:Tryz.prog.follows .mixedOrders=true:=mix
 obtain ⟨i0,z,hi0,hzs,hz0,hzc,hzb⟩:=infB_ok (P:=Tryz.prog) (e:=38) (es:=8) (by kernel_rfl)
 have hsrc:Src Tryz.prog i0.size 28 (.slice (some A) n c) n cs (w.alloc (.cells #[] 38)):=by
  rw [hzs]
  exact Src.ofSlice _ tS A n c cs (by omega) (fun j u hj=>Lib.cell?_alloc_some _ (hcs j u hj)) h1
 have hold:(Builtin.firstCells i0.size 0 (.slice (some ⟨w.heap.size,0,none⟩) 0 0)).run Tryz.prog (w.alloc (.cells #[] 38)).drew=.ok ([]:List Value).toArray (w.alloc (.cells #[] 38)).drew:=by
  rw [hzs]
  exact run_firstCells_some _ 8 0 ⟨w.heap.size,0,none⟩ 0 0 [] (by simp) (fun j v hj=>by simp at hj)
 have hrun:∀ ty,(Builtin.append_ #[28,28] ty #[.slice (some ⟨w.heap.size,0,none⟩) 0 0,.slice (some A) n c]).run Tryz.prog (w.alloc (.cells #[] 38))=_:=fun ty =>
  run_append_grow_src (w.alloc (.cells #[] 38)) 28 28 ty 38 i0 z tS hi0 hz0 (some ⟨w.heap.size,0,none⟩) 0 0 [] hold _ n cs hsrc (by omega) (by omega) (growslice_fits (by omega) (grown_bound (by omega) hzb))
 simp only [Nat.zero_add,List.nil_append,World.size_alloc] at hrun
 have hge:=grownCap_ge (w.alloc (.cells #[] 38)) n 0 38
 have hsz:grownCap (w.alloc (.cells #[] 38)) n 0 38 * 8≤(cs.toArray++Builtin.zeroCells z.cells (grownCap (w.alloc (.cells #[] 38)) n 0 38 - n)).size:=by
  simp only [Array.size_append,size_zeroCells,hzc,List.size_toArray,hcl]
  omega
 obtain ⟨ZS,hrun,hsz⟩ : ∃ ZS:Array Value,(∀ ty,(Builtin.append_ #[28,28] ty #[.slice (some ⟨w.heap.size,0,none⟩) 0 0,.slice (some A) n c]).run Tryz.prog (w.alloc (.cells #[] 38))=.ok (.slice (some ⟨w.heap.size + 1,0,none⟩) n (grownCap (w.alloc (.cells #[] 38)) n 0 38)) ((w.alloc (.cells #[] 38)).drew.alloc (.cells (cs.toArray++ZS) 38)))∧grownCap (w.alloc (.cells #[] 38)) n 0 38 * 8≤(cs.toArray++ZS).size:=⟨_,hrun,hsz⟩
 have main:Calls Tryz.prog 42 #[.slice (some A) n c] w fun e w'=>e=.returned (.slice (some ⟨w.heap.size + 1,0,none⟩) n (grownCap (w.alloc (.cells #[] 38)) n 0 38))∧w'=(w.alloc (.cells #[] 38)).drew.alloc (.cells (cs.toArray++ZS) 38):=by
  clear hsz hold hsrc hz0 hcs
  go_enter Tryz.func42,Tryz.ntmps42
  go_wp2_with (at_builtin;refine Lib.wpList_append_run _ rfl _ _ _ _ rfl _ _ rfl rfl _ _ (hrun _) ?_)
  go_ret
  exact ⟨rfl,rfl⟩
 refine main.mono ?_
 rintro e w' ⟨rfl,rfl⟩
 exact ⟨ZS,rfl,rfl,hsz⟩
theorem cloZ42 (A:Addr) (c:Nat) (w:World):Calls Tryz.prog 42 #[.slice (some A) 0 c] w fun e w'=>e=.returned (.slice (some ⟨w.heap.size,0,none⟩) 0 0)∧∃ q,w'=(w.alloc (.cells #[] 38)).drewN q:=by
 have tS:Tryz.prog.underlying 28=some (.slice 38):=by kernel_rfl
 have uS:=run_underlying tS
 have qS:∀ (w:World) (a:Option Addr) (n c n' c' : Nat),(binOp .eql 28 (.slice a n c) (.slice none n' c')).run Tryz.prog w=.ok (.bool a.isNone) w:=fun w a n c n' c'=>Lib.run_eql_slice_nil w _ _ a n c n' c' tS
 have mixed:Tryz.prog.follows .mixedOrders=true:=mix
 obtain ⟨i0,z,hi0,hzs,hz0,hzc,hzb⟩:=infB_ok (P:=Tryz.prog) (e:=38) (es:=8) (by kernel_rfl)
 have hsz:(Tryz.prog.info? 38).map (·.size)=some 8:=by rw [hi0];simp [hzs]
 have hrun:∀ ty,(Builtin.append_ #[28,28] ty #[.slice (some ⟨w.heap.size,0,none⟩) 0 0,.slice (some A) 0 c]).run Tryz.prog (w.alloc (.cells #[] 38))=.ok (.slice (some ⟨w.heap.size,0,none⟩) 0 0) (w.alloc (.cells #[] 38)):=fun ty=>by
  have hl:∀ (x:Addr) (W:World),(loadCells x 0).run Tryz.prog W=.ok #[] W:=fun x W=>by simpa using run_loadCells_list (P:=Tryz.prog) W x [] (by simp)
  simp [Builtin.append_,uS,Builtin.lenOf,Builtin.firstCells,sizeOf,typeInfo,hi0,hl,storeCells]
 have main:Calls Tryz.prog 42 #[.slice (some A) 0 c] w fun e w'=>e=.returned (.slice (some ⟨w.heap.size,0,none⟩) 0 0)∧w'=w.alloc (.cells #[] 38):=by
  go_enter Tryz.func42,Tryz.ntmps42
  go_wp2_with (at_builtin;refine Lib.wpList_append_run _ rfl _ _ _ _ rfl _ _ rfl rfl _ _ (hrun _) ?_)
  go_ret
  exact ⟨rfl,rfl⟩
 refine main.mono ?_
 rintro e w' ⟨rfl,rfl⟩
 exact ⟨rfl,0,rfl⟩
theorem cloN42 (n c:Nat) (w:World):Calls Tryz.prog 42 #[.slice none n c] w fun e w'=>e=.returned (.slice none 0 0)∧w'=w:=by
 have tS:Tryz.prog.underlying 28=some (.slice 38):=by kernel_rfl
 have uS:=run_underlying tS
 have qS:∀ (w:World) (a:Option Addr) (n c n' c' : Nat),(binOp .eql 28 (.slice a n c) (.slice none n' c')).run Tryz.prog w=.ok (.bool a.isNone) w:=fun w a n c n' c'=>Lib.run_eql_slice_nil w _ _ a n c n' c' tS
 have mixed:Tryz.prog.follows .mixedOrders=true:=mix
 go_enter Tryz.func42,Tryz.ntmps42
 go_wp2
 go_ret
 exact ⟨rfl,rfl⟩
theorem cloR42_v:CloRoads Tryz.prog 42 8 38:=⟨cloS42,cloZ42,cloN42⟩
end Go.Proofs.YtdbigmjlhkgeoaaGreat

