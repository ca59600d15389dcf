/- A part of the proof: 4 texts joined. -/
import Derived.Test.YtbimgghogflikaaGreatDoorSaA17
import Derived.Test.YtbimgghogflikaaGreatDoorSaA20
import Derived.Test.YtbimgghogflikaaGreatDoorSaA11
import Derived.KernelRfl
import Derived.Test.YtbimgghogflikaaGreatDoorSaA13
import Derived.Test.YtbimgghogflikaaGreatDoorSaA18
set_option linter.all false
namespace Go.Proofs.YtbimgghogflikaaGreatDoor
open Go.RowKit
set_option maxRecDepth 100000
set_option maxHeartbeats 4000000
def gc33:BCode:=(.seq (R_ 2 [O_ 2 (.bx (t_ 0)) 0,O_ 4 (.al (.agg [(.lit (.string ⟨#[]⟩)),(.lit (.int .i64 0)),(.lit (.int .i64 0))])) 1,O_ 5 (.mv (i_ 0)) 2]) (.seq (.block 0 (.seq (R_ 0 [O_ 9 (.ld 3 true (t_ 2)) 0,O_ 10 (.cl 53 [(t_ 9)]) 0,O_ 11 (.bin .neq (t_ 10) (i_ 0)) 0,O_ 8 (.mv (t_ 11)) 0]) (.cond (t_ 8) (.seq (.reg 0 [O_ 12 (.ld 3 true (t_ 2)) 0,O_ 13 (.ld 3 true (t_ 2)) 0,O_ 14 (.cl 53 [(t_ 13)]) 0,O_ 15 (.cl 54 [(t_ 12),(t_ 14)]) 0,U_ (.st 3 (t_ 4) (t_ 15)) 0,O_ 5 (.mv (i_ 0)) 0] (some [[],[],[1],[1,2,0],[0,2,1,3],[3,1,2,0,4]]) 0 []) .ret) (.seq (R_ 0 [O_ 17 (.mv (t_ 1)) 0,O_ 18 (.cl 55 [(t_ 17)]) 0,O_ 19 (.un .not (t_ 18)) 0,O_ 16 (.mv (t_ 19)) 0]) (.cond (t_ 16) (.seq (R_ 0 [O_ 20 (.ld 3 true (t_ 2)) 0,O_ 21 (.cl 54 [(t_ 20),(i_ 2)]) 0,U_ (.st 3 (t_ 4) (t_ 21)) 0,O_ 5 (.mv (i_ 0)) 0]) .ret) (.seq (R_ 0 [O_ 23 (.mv (t_ 1)) 0,O_ 24 (.ld 3 true (t_ 2)) 0,O_ 25 (.cl 56 [(t_ 24)]) 0,O_ 26 (.bin .gtr (t_ 23) (t_ 25)) 0,O_ 22 (.mv (t_ 26)) 0]) (.cond (t_ 22) (.seq (R_ 0 [O_ 27 (.ld 3 true (t_ 2)) 0,O_ 28 (.cl 54 [(t_ 27),(i_ 3)]) 0,U_ (.st 3 (t_ 4) (t_ 28)) 0,O_ 5 (.mv (i_ 0)) 0]) .ret) .skip))))))) (.seq (R_ 0 [O_ 6 (.mv (i_ 0)) 0]) (.seq (.seq (R_ 0 [O_ 7 (.mv (i_ 0)) 0]) (.block 1 (.loop (.seq (.seq (R_ 0 [O_ 29 (.mv (t_ 7)) 0,O_ 30 (.mv (t_ 1)) 0,O_ 31 (.bin .lss (t_ 29) (t_ 30)) 0]) (.cond (t_ 31) .skip (.exit 1))) (.seq (.block 2 (.seq (R_ 0 [O_ 34 (.mv (t_ 6)) 0,O_ 35 (.bin .mul (i_ 256) (t_ 34)) 0,O_ 36 (.fa 0 (t_ 2)) 0,O_ 37 (.ld 1 false (t_ 36)) 0,O_ 38 (.fa 1 (t_ 2)) 0,O_ 39 (.ld 1 false (t_ 38)) 0,O_ 40 (.ixt (t_ 37) (t_ 39)) 0,O_ 41 (.cvi .i64 (t_ 40)) 0,O_ 42 (.bin .add (t_ 35) (t_ 41)) 0,O_ 6 (.mv (t_ 42)) 0]) (R_ 0 [O_ 43 (.fa 1 (t_ 2)) 0,O_ 44 (.ld 1 false (t_ 43)) 0,O_ 45 (.bin .add (t_ 44) (i_ 1)) 0,O_ 46 (.fa 1 (t_ 2)) 0,U_ (.st 1 (t_ 46) (t_ 45)) 0]))) (R_ 0 [O_ 32 (.mv (t_ 7)) 0,O_ 33 (.bin .add (t_ 32) (i_ 1)) 0,O_ 7 (.mv (t_ 33)) 0])))))) (.seq (R_ 0 [O_ 47 (.ld 3 true (t_ 2)) 0,O_ 48 (.mv (t_ 6)) 0,U_ (.st 3 (t_ 4) (t_ 47)) 0,O_ 5 (.mv (t_ 48)) 0]) .ret)))))
theorem gc33_ok:compF Tryz.prog Tryz.f33=some (gc33.er,49,[.cell 4 3 true,.tmp 5]):=by unfold gc33;kernel_rfl
theorem p_ref01_Num_v (a0:OctetRead) (a1:Int):CallsO Tryz.prog 33 [.agg [.s a0.S,.i a0.At,.i a0.Bad],.i a1] (fun r:OctetRead × Int=>.tup [OctetRead.v r.1,V.i r.2]) (p_ref01_Num a0 a1):=by
 refine callsO_comp mix Tryz.func33 gc33_ok fun r H=>?_
 rw [p_ref01_Num] at H
 conv=>whnf
 refine ask_c (p_ref01_bad_v _) H rfl rfl (fun v1 H=>?_);conv=>whnf
 refine tst_c H (fun b2 H=>?_) (fun b2 H=>?_)
 ·conv=>whnf
  refine ask_c (p_ref01_bad_v _) H rfl rfl (fun v3 H=>?_);conv=>whnf
  refine ask_c (p_ref01_with_v _ _) H rfl rfl (fun v4 H=>?_);conv=>whnf
  refine lq_ ?_;conv=>whnf
  refine FootQ.mk ⟨rfl,?_⟩;conv=>whnf
  exact fin0_c (enc:=(fun r:OctetRead × Int=>.tup [OctetRead.v r.1,V.i r.2])) H (.inr rfl) (.cons (.cell rfl rfl (Nat.le_of_ble_eq_true rfl)) (.cons (.tmp rfl) (.nil))) rfl rfl
 conv=>whnf
 refine ask_c (p_ref01_wide_v _) H rfl rfl (fun v5 H=>?_);conv=>whnf
 refine Tst.not ?_
 refine tst_d H (fun b6 H=>?_) (fun b6 H=>?_)
 ·conv=>whnf
  refine ask_c (p_ref01_with_v _ _) H rfl rfl (fun v20 H=>?_);conv=>whnf
  refine lq_ ?_;conv=>whnf
  exact fin0_c (enc:=(fun r:OctetRead × Int=>.tup [OctetRead.v r.1,V.i r.2])) H (.inr rfl) (.cons (.cell rfl rfl (Nat.le_of_ble_eq_true rfl)) (.cons (.tmp rfl) (.nil))) rfl rfl
 conv=>whnf
 refine ask_c (p_ref01_Left_v _) H rfl rfl (fun v7 H=>?_);conv=>whnf
 refine tst_c H (fun b8 H=>?_) (fun b8 H=>?_)
 ·conv=>whnf
  refine ask_c (p_ref01_with_v _ _) H rfl rfl (fun v9 H=>?_);conv=>whnf
  refine lq_ ?_;conv=>whnf
  exact fin0_c (enc:=(fun r:OctetRead × Int=>.tup [OctetRead.v r.1,V.i r.2])) H (.inr rfl) (.cons (.cell rfl rfl (Nat.le_of_ble_eq_true rfl)) (.cons (.tmp rfl) (.nil))) rfl rfl
 conv=>whnf
 obtain ⟨o11,HL12,HQ13⟩:=bind_c H
 refine loop_c [6,7] [29,30,31,32,33,34,35,36,37,38,39,40,41,42,43,44,45,46] [29,30,31,32,33,34,35,36,37,38,39,40,41,42,43,44,45,46] (fun n vals st=>(∃ y15 y16 y17,p_ref01_Num_l1  a1 n y15 y16 y17=some o11∧vals=[.i y15,.i y16]∧st=[.live [.s y17.S,.i y17.At,.i y17.Bad] 0,.live [.s (⟨#[]⟩ : ByteArray),.i (0:Int),.i (0:Int)] 0])) fuel 2 [] (⟨_,_,_,HL12,rfl,rfl⟩) (Nat.zero_le _) rfl (by kernel_rfl) (by kernel_rfl) rfl ⟨⟨rfl,rfl,rfl⟩,⟨⟨rfl,rfl,rfl⟩,trivial⟩⟩ ?_
 rintro (_ | n14) _ _ (⟨y15,y16,y17,H,rfl,rfl⟩)
 ·rw [p_ref01_Num_l1] at H;cases H
 rw [p_ref01_Num_l1] at H
 conv=>whnf
 refine tst_d H (fun b18 H=>?_) (fun b18 H=>?_)
 ·conv=>whnf
  obtain rfl:=Option.some.inj H
  have H:=HQ13
  try dsimp only at H
  refine lq_ ?_;conv=>whnf
  exact fin0_c (enc:=(fun r:OctetRead × Int=>.tup [OctetRead.v r.1,V.i r.2])) H (.inr rfl) (.cons (.cell rfl rfl (Nat.le_of_ble_eq_true rfl)) (.cons (.tmp rfl) (.nil))) rfl rfl
 conv=>whnf
 refine Ari.w ?_;conv=>whnf
 refine ixt_c H (fun c19 H=>?_);conv=>whnf
 iterate 3 (refine Ari.w ?_;conv=>whnf)
 refine lq_ ?_;conv=>whnf
 refine Ari.w ?_;conv=>whnf
 exact again_c [29,30,31,32,33,34,35,36,37,38,39,40,41,42,43,44,45,46] n14 2 [] (⟨_,_,_,H,rfl,rfl⟩) (Nat.lt_succ_self _) (Nat.zero_le _) rfl (by kernel_rfl) (by kernel_rfl) rfl ⟨⟨rfl,rfl,rfl⟩,⟨⟨rfl,rfl,rfl⟩,trivial⟩⟩
def gc34:BCode:=(.seq (R_ 2 [O_ 2 (.bx (t_ 0)) 0,O_ 4 (.al (.agg [(.lit (.string ⟨#[]⟩)),(.lit (.int .i64 0)),(.lit (.int .i64 0))])) 1,O_ 5 (.mv (.const (.string ⟨#[]⟩))) 2]) (.seq (R_ 1 [O_ 9 (.ld 3 true (t_ 2)) 0,O_ 6 (.al (.agg [(.lit (.string ⟨#[]⟩)),(.lit (.int .i64 0)),(.lit (.int .i64 0))])) 0,U_ (.st 3 (t_ 6) (t_ 9)) 1]) (.seq (R_ 0 [O_ 11 (.ld 3 true (t_ 2)) 0,O_ 12 (.cl 33 [(t_ 11),(i_ 1)]) 0,O_ 10 (.mv (t_ 12)) 0,O_ 13 (.ex (t_ 10) 0) 0,O_ 14 (.ex (t_ 10) 1) 0,U_ (.st 3 (t_ 2) (t_ 13)) 0,O_ 7 (.mv (t_ 14)) 0]) (.seq (.block 0 (.seq (R_ 0 [O_ 16 (.fa 2 (t_ 2)) 0,O_ 17 (.ld 1 false (t_ 16)) 0,O_ 18 (.bin .neq (t_ 17) (i_ 0)) 0,O_ 15 (.mv (t_ 18)) 0]) (.cond (t_ 15) (.seq (R_ 0 [O_ 19 (.ld 3 true (t_ 2)) 0,U_ (.st 3 (t_ 4) (t_ 19)) 0,O_ 5 (.mv (.const (.string ⟨#[]⟩))) 0]) .ret) (.seq (R_ 0 [O_ 21 (.mv (t_ 7)) 0,O_ 22 (.mv (t_ 1)) 0,O_ 23 (.bin .gtr (t_ 21) (t_ 22)) 0,O_ 20 (.mv (t_ 23)) 0]) (.cond (t_ 20) (.seq (R_ 0 [O_ 24 (.ld 3 true (t_ 6)) 0,O_ 25 (.cl 54 [(t_ 24),(i_ 5)]) 0,U_ (.st 3 (t_ 4) (t_ 25)) 0,O_ 5 (.mv (.const (.string ⟨#[]⟩))) 0]) .ret) (.seq (R_ 0 [O_ 27 (.mv (t_ 7)) 0,O_ 28 (.ld 3 true (t_ 2)) 0,O_ 29 (.cl 56 [(t_ 28)]) 0,O_ 30 (.bin .gtr (t_ 27) (t_ 29)) 0,O_ 26 (.mv (t_ 30)) 0]) (.cond (t_ 26) (.seq (R_ 0 [O_ 31 (.ld 3 true (t_ 6)) 0,O_ 32 (.cl 54 [(t_ 31),(i_ 3)]) 0,U_ (.st 3 (t_ 4) (t_ 32)) 0,O_ 5 (.mv (.const (.string ⟨#[]⟩))) 0]) .ret) .skip))))))) (.seq (R_ 0 [O_ 33 (.fa 0 (t_ 2)) 0,O_ 34 (.ld 1 false (t_ 33)) 0,O_ 35 (.fa 1 (t_ 2)) 0,O_ 36 (.ld 1 false (t_ 35)) 0,O_ 37 (.fa 1 (t_ 2)) 0,O_ 38 (.ld 1 false (t_ 37)) 0,O_ 39 (.mv (t_ 7)) 0,O_ 40 (.bin .add (t_ 38) (t_ 39)) 0,O_ 41 (.slt (t_ 34) (some (t_ 36)) (some (t_ 40))) 0,O_ 8 (.mv (t_ 41)) 0]) (.seq (R_ 0 [O_ 42 (.fa 1 (t_ 2)) 0,O_ 43 (.ld 1 false (t_ 42)) 0,O_ 44 (.mv (t_ 7)) 0,O_ 45 (.bin .add (t_ 43) (t_ 44)) 0,O_ 46 (.fa 1 (t_ 2)) 0,U_ (.st 1 (t_ 46) (t_ 45)) 0]) (.seq (R_ 0 [O_ 47 (.ld 3 true (t_ 2)) 0,O_ 48 (.mv (t_ 8)) 0,U_ (.st 3 (t_ 4) (t_ 47)) 0,O_ 5 (.mv (t_ 48)) 0]) .ret)))))))
theorem gc34_ok:compF Tryz.prog Tryz.f34=some (gc34.er,49,[.cell 4 3 true,.tmp 5]):=by unfold gc34;kernel_rfl
theorem p_ref01_Text_v (a0:OctetRead) (a1:Int):CallsO Tryz.prog 34 [.agg [.s a0.S,.i a0.At,.i a0.Bad],.i a1] (fun r:OctetRead × ByteArray=>.tup [OctetRead.v r.1,V.s r.2]) (p_ref01_Text a0 a1):=by
 refine callsO_comp mix Tryz.func34 gc34_ok fun r H=>?_
 rw [p_ref01_Text] at H
 conv=>whnf
 refine lq_ ?_;conv=>whnf
 refine ask_c (p_ref01_Num_v _ _) H rfl rfl (fun v1 H=>?_);conv=>whnf
 refine lq_ ?_;conv=>whnf
 refine tst_c H (fun b2 H=>?_) (fun b2 H=>?_)
 ·conv=>whnf
  refine lq_ ?_;conv=>whnf
  exact fin0_c (enc:=(fun r:OctetRead × ByteArray=>.tup [OctetRead.v r.1,V.s r.2])) H (.inr rfl) (.cons (.cell rfl rfl (Nat.le_of_ble_eq_true rfl)) (.cons (.tmp rfl) (.nil))) rfl rfl
 conv=>whnf
 refine tst_c H (fun b3 H=>?_) (fun b3 H=>?_)
 ·conv=>whnf
  refine ask_c (p_ref01_with_v _ _) H rfl rfl (fun v4 H=>?_);conv=>whnf
  refine lq_ ?_;conv=>whnf
  exact fin0_c (enc:=(fun r:OctetRead × ByteArray=>.tup [OctetRead.v r.1,V.s r.2])) H (.inr rfl) (.cons (.cell rfl rfl (Nat.le_of_ble_eq_true rfl)) (.cons (.tmp rfl) (.nil))) rfl rfl
 conv=>whnf
 refine ask_c (p_ref01_Left_v _) H rfl rfl (fun v5 H=>?_);conv=>whnf
 refine tst_c H (fun b6 H=>?_) (fun b6 H=>?_)
 ·conv=>whnf
  refine ask_c (p_ref01_with_v _ _) H rfl rfl (fun v7 H=>?_);conv=>whnf
  refine lq_ ?_;conv=>whnf
  exact fin0_c (enc:=(fun r:OctetRead × ByteArray=>.tup [OctetRead.v r.1,V.s r.2])) H (.inr rfl) (.cons (.cell rfl rfl (Nat.le_of_ble_eq_true rfl)) (.cons (.tmp rfl) (.nil))) rfl rfl
 conv=>whnf
 refine Ari.w ?_;conv=>whnf
 refine slt_c H (fun s8 H=>?_);conv=>whnf
 refine Ari.w ?_;conv=>whnf
 refine lq_ ?_;conv=>whnf
 refine lq_ ?_;conv=>whnf
 exact fin0_c (enc:=(fun r:OctetRead × ByteArray=>.tup [OctetRead.v r.1,V.s r.2])) H (.inr rfl) (.cons (.cell rfl rfl (Nat.le_of_ble_eq_true rfl)) (.cons (.tmp rfl) (.nil))) rfl rfl
def gc8:BCode:=(.seq (R_ 1 [O_ 2 (.al (.agg [(.lit (.int .u8 0)),(.lit (.int .i64 0)),(.lit (.int .i64 0)),(.lit (.string ⟨#[]⟩))])) 0,O_ 3 (.mv (i_ 0)) 1,O_ 4 (.mv (i_ 0)) 1]) (.seq (R_ 1 [O_ 5 (.al (.agg [(.lit (.int .u8 0)),(.lit (.int .i64 0)),(.lit (.int .i64 0)),(.lit (.string ⟨#[]⟩))])) 0]) (.seq (.seq (R_ 0 [O_ 10 (.mv (t_ 0)) 0,O_ 11 (.bin .eql (t_ 10) (.const (.string ⟨#[]⟩))) 0]) (.cond (t_ 11) (.seq (R_ 0 [O_ 12 (.ld 4 true (t_ 5)) 0,U_ (.st 4 (t_ 2) (t_ 12)) 0,O_ 3 (.mv (i_ 0)) 0,O_ 4 (.mv (i_ 3)) 0]) .ret) .skip)) (.seq (.seq (R_ 0 [O_ 13 (.mv (t_ 0)) 0,O_ 14 (.ixt (t_ 13) (i_ 0)) 0,O_ 15 (.bin .gtr (t_ 14) (.const (.int .u8 5))) 0]) (.cond (t_ 15) (.seq (R_ 0 [O_ 16 (.ld 4 true (t_ 5)) 0,U_ (.st 4 (t_ 2) (t_ 16)) 0,O_ 3 (.mv (i_ 0)) 0,O_ 4 (.mv (i_ 12)) 0]) .ret) .skip)) (.seq (R_ 1 [O_ 17 (.mv (t_ 0)) 0,O_ 18 (.ixt (t_ 17) (i_ 0)) 0,O_ 19 (.bd [(.lit (.int .u8 0)),(.lit (.int .i64 0)),(.lit (.int .i64 0)),(.lit (.string ⟨#[]⟩))] [(0,1,(t_ 18))]) 0,O_ 6 (.al (.agg [(.lit (.int .u8 0)),(.lit (.int .i64 0)),(.lit (.int .i64 0)),(.lit (.string ⟨#[]⟩))])) 0,U_ (.st 4 (t_ 6) (t_ 19)) 1]) (.seq (R_ 1 [O_ 20 (.mv (t_ 0)) 0,O_ 21 (.slt (t_ 20) (some (i_ 1)) none) 0,O_ 22 (.cl 31 [(t_ 21)]) 0,O_ 7 (.al (.agg [(.lit (.string ⟨#[]⟩)),(.lit (.int .i64 0)),(.lit (.int .i64 0))])) 0,U_ (.st 3 (t_ 7) (t_ 22)) 1]) (.seq (R_ 0 [O_ 23 (.mv (t_ 0)) 0,O_ 24 (.ixt (t_ 23) (i_ 0)) 0,O_ 25 (.cl 32 [(t_ 24)]) 0,O_ 8 (.mv (t_ 25)) 0]) (.seq (.seq (R_ 0 [O_ 9 (.mv (i_ 0)) 0]) (.block 0 (.loop (.seq (.seq (R_ 0 [O_ 26 (.mv (t_ 9)) 0,O_ 27 (.mv (t_ 8)) 0,O_ 28 (.lent (t_ 27)) 0,O_ 29 (.bin .lss (t_ 26) (t_ 28)) 0]) (.cond (t_ 29) .skip (.exit 0))) (.seq (.block 1 (.seq (R_ 0 [O_ 32 (.mv (t_ 8)) 0,O_ 33 (.mv (t_ 9)) 0,O_ 34 (.ixt (t_ 32) (t_ 33)) 0]) (.block 2 (.seq (R_ 0 [O_ 47 (.bin .eql (t_ 34) (.const (.int .u8 99))) 0,O_ 46 (.mv (t_ 47)) 0]) (.cond (t_ 46) (R_ 0 [O_ 49 (.ld 3 true (t_ 7)) 0,O_ 50 (.cl 33 [(t_ 49),(i_ 1)]) 0,O_ 48 (.mv (t_ 50)) 0,O_ 51 (.ex (t_ 48) 0) 0,O_ 52 (.ex (t_ 48) 1) 0,U_ (.st 3 (t_ 7) (t_ 51)) 0,O_ 53 (.fa 1 (t_ 6)) 0,U_ (.st 1 (t_ 53) (t_ 52)) 0]) (.seq (R_ 0 [O_ 55 (.bin .eql (t_ 34) (.const (.int .u8 116))) 0,O_ 54 (.mv (t_ 55)) 0]) (.cond (t_ 54) (R_ 0 [O_ 57 (.ld 3 true (t_ 7)) 0,O_ 58 (.cl 34 [(t_ 57),(i_ 255)]) 0,O_ 56 (.mv (t_ 58)) 0,O_ 59 (.ex (t_ 56) 0) 0,O_ 60 (.ex (t_ 56) 1) 0,U_ (.st 3 (t_ 7) (t_ 59)) 0,O_ 61 (.fa 3 (t_ 6)) 0,U_ (.st 1 (t_ 61) (t_ 60)) 0]) (.reg 0 [O_ 36 (.ld 3 true (t_ 7)) 0,O_ 37 (.mv (t_ 8)) 0,O_ 38 (.mv (t_ 9)) 0,O_ 39 (.ixt (t_ 37) (t_ 38)) 0,O_ 40 (.bin .sub (t_ 39) (.const (.int .u8 48))) 0,O_ 41 (.cvi .i64 (t_ 40)) 0,O_ 42 (.cl 33 [(t_ 36),(t_ 41)]) 0,O_ 35 (.mv (t_ 42)) 0,O_ 43 (.ex (t_ 35) 0) 0,O_ 44 (.ex (t_ 35) 1) 0,U_ (.st 3 (t_ 7) (t_ 43)) 0,O_ 45 (.fa 2 (t_ 6)) 0,U_ (.st 1 (t_ 45) (t_ 44)) 0] (some [[],[],[],[2,1],[1,2,3],[3,2,1,4],[4,1,2,3,5,0],[0,5,3,2,1,4,6],[6,4,1,2,3,5,0,7],[6,4,1,2,3,5,0,7],[7,0,5,3,2,1,4,6,8],[10,9,8,7,6,5,4,3,2,1,0],[0,1,2,3,4,5,6,7,8,9,10,11]]) 0 [])))))))) (R_ 0 [O_ 30 (.mv (t_ 9)) 0,O_ 31 (.bin .add (t_ 30) (i_ 1)) 0,O_ 9 (.mv (t_ 31)) 0])))))) (.seq (.seq (R_ 0 [O_ 62 (.fa 2 (t_ 7)) 0,O_ 63 (.ld 1 false (t_ 62)) 0,O_ 64 (.bin .neq (t_ 63) (i_ 0)) 0]) (.cond (t_ 64) (.seq (.reg 0 [O_ 65 (.ld 4 true (t_ 5)) 0,O_ 66 (.fa 2 (t_ 7)) 0,O_ 67 (.ld 1 false (t_ 66)) 0,U_ (.st 4 (t_ 2) (t_ 65)) 0,O_ 3 (.mv (i_ 0)) 0,O_ 4 (.mv (t_ 67)) 0] (some [[],[],[1],[0],[0,3],[3,0,4,1,2]]) 0 []) .ret) .skip)) (.seq (.reg 0 [O_ 68 (.ld 4 true (t_ 6)) 0,O_ 69 (.fa 1 (t_ 7)) 0,O_ 70 (.ld 1 false (t_ 69)) 0,O_ 71 (.bin .add (i_ 1) (t_ 70)) 0,U_ (.st 4 (t_ 2) (t_ 68)) 0,O_ 3 (.mv (t_ 71)) 0,O_ 4 (.mv (i_ 0)) 0] (some [[],[],[1],[1,2],[0],[0,4,2,1,3],[3,1,2,4,0,5]]) 0 []) .ret))))))))))
theorem gc8_ok:compF Tryz.prog Tryz.f8=some (gc8.er,72,[.cell 2 4 true,.tmp 3,.tmp 4]):=by unfold gc8;kernel_rfl
theorem p_ref34_Get_v (a0:ByteArray):CallsO Tryz.prog 8 [.s a0] (fun r:BrokerStep × Int × Int=>.tup [BrokerStep.v r.1,V.i r.2.1,V.i r.2.2]) (p_ref34_Get a0):=by
 refine callsO_comp mix Tryz.func8 gc8_ok fun r H=>?_
 rw [p_ref34_Get] at H
 conv=>whnf
 refine tst_c H (fun b1 H=>?_) (fun b1 H=>?_)
 ·conv=>whnf
  refine lq_ ?_;conv=>whnf
  exact fin0_c (enc:=(fun r:BrokerStep × Int × Int=>.tup [BrokerStep.v r.1,V.i r.2.1,V.i r.2.2])) H (.inr rfl) (.cons (.cell rfl rfl (Nat.le_of_ble_eq_true rfl)) (.cons (.tmp rfl) (.cons (.tmp rfl) (.nil)))) rfl rfl
 conv=>whnf
 refine ixt_c H (fun c2 H=>?_);conv=>whnf
 refine tst_c H (fun b3 H=>?_) (fun b3 H=>?_)
 ·conv=>whnf
  refine lq_ ?_;conv=>whnf
  exact fin0_c (enc:=(fun r:BrokerStep × Int × Int=>.tup [BrokerStep.v r.1,V.i r.2.1,V.i r.2.2])) H (.inr rfl) (.cons (.cell rfl rfl (Nat.le_of_ble_eq_true rfl)) (.cons (.tmp rfl) (.cons (.tmp rfl) (.nil)))) rfl rfl
 conv=>whnf
 refine ixt_c H (fun c4 H=>?_);conv=>whnf
 refine lq_ ?_;conv=>whnf
 refine slt_c H (fun s5 H=>?_);conv=>whnf
 refine ask_c (p_ref01_Open_v _) H rfl rfl (fun v6 H=>?_);conv=>whnf
 refine lq_ ?_;conv=>whnf
 refine ixt_c H (fun c7 H=>?_);conv=>whnf
 refine ask_c (p_ref34_has_v _) H rfl rfl (fun v8 H=>?_);conv=>whnf
 obtain ⟨o10,HL11,HQ12⟩:=bind_c H
 refine loop_c [9] [26,27,28,29,30,31,32,33,34,35,36,37,38,39,40,41,42,43,44,45,46,47,48,49,50,51,52,53,54,55,56,57,58,59,60,61] [26,27,28,29,30,31,32,33,34,35,36,37,38,39,40,41,42,43,44,45,46,47,48,49,50,51,52,53,54,55,56,57,58,59,60,61] (fun n vals st=>(∃ y14 y15 y16,p_ref34_Get_l1  v8 n y14 y15 y16=some o10∧vals=[.i y14]∧st=[.live [.y8 (0:Int),.i (0:Int),.i (0:Int),.s (⟨#[]⟩ : ByteArray)] 0,.live [.y8 (0:Int),.i (0:Int),.i (0:Int),.s (⟨#[]⟩ : ByteArray)] 0,.live [.y8 y15.Kind,.i y15.Conn,.i y15.N,.s y15.Text] 0,.live [.s y16.S,.i y16.At,.i y16.Bad] 0])) fuel 4 [] (⟨_,_,_,HL11,rfl,rfl⟩) (Nat.zero_le _) rfl (by kernel_rfl) (by kernel_rfl) rfl ⟨⟨rfl,rfl,rfl⟩,⟨⟨rfl,rfl,rfl⟩,⟨⟨rfl,rfl,rfl⟩,⟨⟨rfl,rfl,rfl⟩,trivial⟩⟩⟩⟩ ?_
 rintro (_ | n13) _ _ (⟨y14,y15,y16,H,rfl,rfl⟩)
 ·rw [p_ref34_Get_l1] at H;cases H
 rw [p_ref34_Get_l1] at H
 conv=>whnf
 refine tst_d H (fun b17 H=>?_) (fun b17 H=>?_)
 ·conv=>whnf
  obtain rfl:=Option.some.inj H
  have H:=HQ12
  try dsimp only at H
  refine tst_c H (fun b25 H=>?_) (fun b25 H=>?_)
  ·conv=>whnf
   refine lq_ ?_;conv=>whnf
   refine FootQ.mk ⟨rfl,?_⟩;conv=>whnf
   exact fin0_c (enc:=(fun r:BrokerStep × Int × Int=>.tup [BrokerStep.v r.1,V.i r.2.1,V.i r.2.2])) H (.inr rfl) (.cons (.cell rfl rfl (Nat.le_of_ble_eq_true rfl)) (.cons (.tmp rfl) (.cons (.tmp rfl) (.nil)))) rfl rfl
  conv=>whnf
  refine Ari.w ?_;conv=>whnf
  refine lq_ ?_;conv=>whnf
  refine FootQ.mk ⟨rfl,?_⟩;conv=>whnf
  exact fin0_c (enc:=(fun r:BrokerStep × Int × Int=>.tup [BrokerStep.v r.1,V.i r.2.1,V.i r.2.2])) H (.inr rfl) (.cons (.cell rfl rfl (Nat.le_of_ble_eq_true rfl)) (.cons (.tmp rfl) (.cons (.tmp rfl) (.nil)))) rfl rfl
 conv=>whnf
 refine ixt_c H (fun c18 H=>?_);conv=>whnf
 refine tst_c H (fun b19 H=>?_) (fun b19 H=>?_)
 ·conv=>whnf
  refine ask_c (p_ref01_Num_v _ _) H rfl rfl (fun v20 H=>?_);conv=>whnf
  refine lq_ ?_;conv=>whnf
  refine lq_ ?_;conv=>whnf
  refine Ari.w ?_;conv=>whnf
  exact again_c [26,27,28,29,30,31,32,33,34,35,36,37,38,39,40,41,42,43,44,45,46,47,48,49,50,51,52,53,54,55,56,57,58,59,60,61] n13 4 [] (⟨_,_,_,H,rfl,rfl⟩) (Nat.lt_succ_self _) (Nat.zero_le _) rfl (by kernel_rfl) (by kernel_rfl) rfl ⟨⟨rfl,rfl,rfl⟩,⟨⟨rfl,rfl,rfl⟩,⟨⟨rfl,rfl,rfl⟩,⟨⟨rfl,rfl,rfl⟩,trivial⟩⟩⟩⟩
 conv=>whnf
 refine tst_c H (fun b21 H=>?_) (fun b21 H=>?_)
 ·conv=>whnf
  refine ask_c (p_ref01_Text_v _ _) H rfl rfl (fun v22 H=>?_);conv=>whnf
  refine lq_ ?_;conv=>whnf
  refine lq_ ?_;conv=>whnf
  refine Ari.w ?_;conv=>whnf
  exact again_c [26,27,28,29,30,31,32,33,34,35,36,37,38,39,40,41,42,43,44,45,46,47,48,49,50,51,52,53,54,55,56,57,58,59,60,61] n13 4 [] (⟨_,_,_,H,rfl,rfl⟩) (Nat.lt_succ_self _) (Nat.zero_le _) rfl (by kernel_rfl) (by kernel_rfl) rfl ⟨⟨rfl,rfl,rfl⟩,⟨⟨rfl,rfl,rfl⟩,⟨⟨rfl,rfl,rfl⟩,⟨⟨rfl,rfl,rfl⟩,trivial⟩⟩⟩⟩
 conv=>whnf
 refine ixt_c H (fun c23 H=>?_);conv=>whnf
 iterate 2 (refine Ari.w ?_;conv=>whnf)
 refine ask_c (p_ref01_Num_v _ _) H rfl rfl (fun v24 H=>?_);conv=>whnf
 refine lq_ ?_;conv=>whnf
 refine lq_ ?_;conv=>whnf
 refine FootQ.mk ⟨rfl,?_⟩;conv=>whnf
 refine Ari.w ?_;conv=>whnf
 exact again_c [26,27,28,29,30,31,32,33,34,35,36,37,38,39,40,41,42,43,44,45,46,47,48,49,50,51,52,53,54,55,56,57,58,59,60,61] n13 4 [] (⟨_,_,_,H,rfl,rfl⟩) (Nat.lt_succ_self _) (Nat.zero_le _) rfl (by kernel_rfl) (by kernel_rfl) rfl ⟨⟨rfl,rfl,rfl⟩,⟨⟨rfl,rfl,rfl⟩,⟨⟨rfl,rfl,rfl⟩,⟨⟨rfl,rfl,rfl⟩,trivial⟩⟩⟩⟩
end Go.Proofs.YtbimgghogflikaaGreatDoor

namespace Go.Proofs.YtbimgghogflikaaGreatDoor
open Go.RowKit
set_option maxRecDepth 100000
set_option maxHeartbeats 4000000
def gc10:BCode:=(.seq (R_ 0 [O_ 2 (.mv (.const (.slice none 0 0))) 0,O_ 3 (.mv (i_ 0)) 0]) (.seq (R_ 0 [O_ 4 (.mv (.const (.slice none 0 0))) 0]) (.seq (.seq (R_ 0 [O_ 5 (.mv (i_ 0)) 0]) (.block 0 (.loop (.seq (.seq (R_ 0 [O_ 9 (.mv (t_ 5)) 0,O_ 10 (.mv (t_ 0)) 0,O_ 11 (.lent (t_ 10)) 0,O_ 12 (.bin .lss (t_ 9) (t_ 11)) 0]) (.cond (t_ 12) .skip (.exit 0))) (.block 1 (.seq (R_ 1 [O_ 14 (.mv (t_ 0)) 0,O_ 15 (.mv (t_ 5)) 0,O_ 16 (.slt (t_ 14) (some (t_ 15)) none) 0,O_ 17 (.cl 8 [(t_ 16)]) 0,O_ 13 (.mv (t_ 17)) 0,O_ 18 (.ex (t_ 13) 0) 0,O_ 19 (.ex (t_ 13) 1) 0,O_ 20 (.ex (t_ 13) 2) 0,O_ 6 (.al (.agg [(.lit (.int .u8 0)),(.lit (.int .i64 0)),(.lit (.int .i64 0)),(.lit (.string ⟨#[]⟩))])) 0,U_ (.st 4 (t_ 6) (t_ 18)) 1,O_ 7 (.mv (t_ 19)) 1,O_ 8 (.mv (t_ 20)) 1]) (.seq (.seq (R_ 0 [O_ 21 (.mv (t_ 8)) 0,O_ 22 (.bin .neq (t_ 21) (i_ 0)) 0]) (.cond (t_ 22) (.seq (R_ 0 [O_ 23 (.mv (t_ 8)) 0,O_ 2 (.mv (.const (.slice none 0 0))) 0,O_ 3 (.mv (t_ 23)) 0]) .ret) .skip)) (.seq (R_ 2 [O_ 24 (.mv (t_ 4)) 0,O_ 25 (.ld 4 true (t_ 6)) 0,O_ 26 (.bs 4 1 [(.lit (.int .u8 0)),(.lit (.int .i64 0)),(.lit (.int .i64 0)),(.lit (.string ⟨#[]⟩))] [(0,(t_ 25))]) 0,O_ 27 (.ap 4 40 (t_ 24) (t_ 26)) 1,O_ 4 (.mv (t_ 27)) 2]) (R_ 0 [O_ 28 (.mv (t_ 5)) 0,O_ 29 (.mv (t_ 7)) 0,O_ 30 (.mn true (t_ 29) (i_ 1)) 0,O_ 31 (.bin .add (t_ 28) (t_ 30)) 0,O_ 5 (.mv (t_ 31)) 0]))))))))) (.seq (R_ 0 [O_ 32 (.mv (t_ 4)) 0,O_ 2 (.mv (t_ 32)) 0,O_ 3 (.mv (i_ 0)) 0]) .ret))))
theorem gc10_ok:compF Tryz.prog Tryz.f10=some (gc10.er,33,[.tmp 2,.tmp 3]):=by unfold gc10;kernel_rfl
theorem p_ref34_All_v (a0:ByteArray):CallsO Tryz.prog 10 [.s a0] (fun r:(List BrokerStep) × Int=>.tup [(fun l:List BrokerStep=>V.sl (l.map BrokerStep.v) false) r.1,V.i r.2]) (p_ref34_All a0):=by
 refine callsO_comp mix Tryz.func10 gc10_ok fun r H=>?_
 rw [p_ref34_All] at H
 conv=>whnf
 obtain ⟨o2,HL3,HQ4⟩:=bind_c H
 refine loop_c [2,3,4,5] [6,7,8,9,10,11,12,13,14,15,16,17,18,19,20,21,22,23,24,25,26,27,28,29,30,31] [6,7,8,9,10,11,12,13,14,15,16,17,18,19,20,21,22,23,24,25,26,27,28,29,30,31] (fun n vals st=>(∃ y6,p_ref34_All_l1  a0 n [] y6=some o2∧vals=[.sl (List.map BrokerStep.v []) true,.i (0:Int),.sl (List.map BrokerStep.v []) true,.i y6]∧st=[])∨(∃ y12 y13,p_ref34_All_l1  a0 n y12 y13=some o2∧vals=[.sl (List.map BrokerStep.v []) true,.i (0:Int),.osl 0 0 (List.length y12) 4 false,.i y13]∧st=[.live (cellsM BrokerStep.v y12) (cellsM BrokerStep.v y12).length])) fuel 0 [] (.inl (⟨_,HL3,rfl,rfl⟩)) (Nat.zero_le _) rfl (by kernel_rfl) (by kernel_rfl) rfl trivial ?_
 rintro (_ | n5) _ _ (⟨y6,H,rfl,rfl⟩ | ⟨y12,y13,H,rfl,rfl⟩)
 ·rw [p_ref34_All_l1] at H;cases H
 ·rw [p_ref34_All_l1] at H;cases H
 ·rw [p_ref34_All_l1] at H
  conv=>whnf
  refine tst_d H (fun b7 H=>?_) (fun b7 H=>?_)
  ·conv=>whnf
   obtain rfl:=Option.some.inj H
   have H:=HQ4
   try dsimp only at H
   refine finR_c (enc:=(fun r:(List BrokerStep) × Int=>.tup [(fun l:List BrokerStep=>V.sl (l.map BrokerStep.v) false) r.1,V.i r.2])) H ?_;conv=>whnf
   exact ⟨_,.tup (.cons (.c (.slw)) (.cons (.c (.id rfl)) (.nil)))⟩
  conv=>whnf
  refine slt_c H (fun s8 H=>?_);conv=>whnf
  refine ask_c (p_ref34_Get_v _) H rfl rfl (fun v9 H=>?_);conv=>whnf
  refine lq_ ?_;conv=>whnf
  refine tst_c H (fun b10 H=>?_) (fun b10 H=>?_)
  ·conv=>whnf
   obtain rfl:=Option.some.inj H
   have H:=HQ4
   try dsimp only at H
   refine finR_c (enc:=(fun r:(List BrokerStep) × Int=>.tup [(fun l:List BrokerStep=>V.sl (l.map BrokerStep.v) false) r.1,V.i r.2])) H ?_;conv=>whnf
   exact ⟨_,.tup (.cons (.c (.slw)) (.cons (.c (.id rfl)) (.nil)))⟩
  conv=>whnf
  refine appN_c (f:=BrokerStep.v) H (fun _=>rfl) (srcM (f:=BrokerStep.v) (fun _=>rfl) [] true) rfl (.v (srcOwn (f:=BrokerStep.v) (l:=[v9.1]) (fun _=>rfl) rfl rfl rfl)) (by decide) rfl (by simp) (fun l11 H=>?_);conv=>whnf
  refine Ari.w ?_;conv=>whnf
  exact again_c [6,7,8,9,10,11,12,13,14,15,16,17,18,19,20,21,22,23,24,25,26,27,28,29,30,31] n5 1 [2] (.inr (⟨_,_,H,rfl,rfl⟩)) (Nat.lt_succ_self _) (Nat.zero_le _) rfl (by kernel_rfl) (by kernel_rfl) rfl (wkB_live0 rfl (cellsM_idlt (f:=BrokerStep.v) (fun _=>rfl) _) rfl trivial)
 rw [p_ref34_All_l1] at H
 conv=>whnf
 refine tst_d H (fun b14 H=>?_) (fun b14 H=>?_)
 ·conv=>whnf
  obtain rfl:=Option.some.inj H
  have H:=HQ4
  try dsimp only at H
  refine finR_c (enc:=(fun r:(List BrokerStep) × Int=>.tup [(fun l:List BrokerStep=>V.sl (l.map BrokerStep.v) false) r.1,V.i r.2])) H ?_;conv=>whnf
  exact ⟨_,.tup (.cons (.c (fzown (f:=BrokerStep.v) (l:=y12) rfl rfl (fun _=>rfl) (fun _=>rfl))) (.cons (.c (.id rfl)) (.nil)))⟩
 conv=>whnf
 refine slt_c H (fun s15 H=>?_);conv=>whnf
 refine ask_c (p_ref34_Get_v _) H rfl rfl (fun v16 H=>?_);conv=>whnf
 refine lq_ ?_;conv=>whnf
 refine tst_c H (fun b17 H=>?_) (fun b17 H=>?_)
 ·conv=>whnf
  obtain rfl:=Option.some.inj H
  have H:=HQ4
  try dsimp only at H
  refine finR_c (enc:=(fun r:(List BrokerStep) × Int=>.tup [(fun l:List BrokerStep=>V.sl (l.map BrokerStep.v) false) r.1,V.i r.2])) H ?_;conv=>whnf
  exact ⟨_,.tup (.cons (.c (.slw)) (.cons (.c (.id rfl)) (.nil)))⟩
 conv=>whnf
 refine appO_c (f:=BrokerStep.v) H (fun _=>rfl) rfl (Nat.le_refl _) (.v (srcOwn (f:=BrokerStep.v) (l:=[v16.1]) (fun _=>rfl) rfl rfl rfl)) (by decide) rfl (by simp) (fun l18 H=>?_);conv=>whnf
 refine Ari.w ?_;conv=>whnf
 exact again_c [6,7,8,9,10,11,12,13,14,15,16,17,18,19,20,21,22,23,24,25,26,27,28,29,30,31] n5 1 [3] (.inr (⟨_,_,H,rfl,rfl⟩)) (Nat.lt_succ_self _) (Nat.zero_le _) rfl (by kernel_rfl) (by kernel_rfl) rfl (wkB_live0 rfl (cellsM_idlt (f:=BrokerStep.v) (fun _=>rfl) _) rfl trivial)
end Go.Proofs.YtbimgghogflikaaGreatDoor

namespace Go.Proofs.YtbimgghogflikaaGreatDoor
open Go.RowKit
set_option maxRecDepth 100000
set_option maxHeartbeats 4000000
def gc11:BCode:=(.seq (R_ 0 [O_ 4 (.mv (b_ false)) 0]) (.seq (.seq (R_ 0 [O_ 6 (.mv (t_ 0)) 0,O_ 7 (.lens (t_ 6)) 0,O_ 8 (.mv (t_ 1)) 0,O_ 9 (.lens (t_ 8)) 0,O_ 10 (.bin .neq (t_ 7) (t_ 9)) 0]) (.cond (t_ 10) (.seq (R_ 0 [O_ 4 (.mv (b_ false)) 0]) .ret) .skip)) (.seq (.seq (R_ 0 [O_ 5 (.mv (i_ 0)) 0]) (.block 0 (.loop (.seq (.seq (R_ 0 [O_ 11 (.mv (t_ 5)) 0,O_ 12 (.mv (t_ 0)) 0,O_ 13 (.lens (t_ 12)) 0,O_ 14 (.bin .lss (t_ 11) (t_ 13)) 0]) (.cond (t_ 14) .skip (.exit 0))) (.seq (.block 1 (.seq (.reg 0 [O_ 17 (.mv (t_ 0)) 0,O_ 18 (.mv (t_ 5)) 0,O_ 19 (.ixs 4 (t_ 17) (t_ 18)) 0,O_ 20 (.ld 4 true (t_ 19)) 0,O_ 21 (.mv (t_ 1)) 0,O_ 22 (.mv (t_ 5)) 0,O_ 23 (.ixs 4 (t_ 21) (t_ 22)) 0,O_ 24 (.ld 4 true (t_ 23)) 0,O_ 25 (.eqa true [1,1,1,2] (t_ 20) (t_ 24)) 0] (some [[],[],[1,0],[0,1,2],[],[],[5,4],[4,5,6],[6,5,4,7,2,1,0,3]]) 0 []) (.cond (t_ 25) (.seq (R_ 0 [O_ 4 (.mv (b_ false)) 0]) .ret) .skip))) (R_ 0 [O_ 15 (.mv (t_ 5)) 0,O_ 16 (.bin .add (t_ 15) (i_ 1)) 0,O_ 5 (.mv (t_ 16)) 0])))))) (.seq (R_ 0 [O_ 4 (.mv (b_ true)) 0]) .ret))))
theorem gc11_ok:compF Tryz.prog Tryz.f11=some (gc11.er,26,[.tmp 4]):=by unfold gc11;kernel_rfl
theorem p_ref34_SameSteps_v {u1 u2:Bool} (a0:List BrokerStep) (a1:List BrokerStep):CallsO Tryz.prog 11 [.sl (List.map BrokerStep.v a0) u1,.sl (List.map BrokerStep.v a1) u2] V.b (p_ref34_SameSteps a0 a1):=by
 refine callsO_comp mix Tryz.func11 gc11_ok fun r H=>?_
 rw [p_ref34_SameSteps] at H
 conv=>whnf
 iterate 2 (refine LenQ.M ?_;conv=>whnf)
 refine tst_c H (fun b1 H=>?_) (fun b1 H=>?_)
 ·conv=>whnf
  exact fb_ H
 conv=>whnf
 obtain ⟨o3,HL4,HQ5⟩:=bind_c H
 refine loop_c [4,5] [11,12,13,14,15,16,17,18,19,20,21,22,23,24,25] [11,12,13,14,15,16,17,18,19,20,21,22,23,24,25] (fun n vals st=>(∃ y7,p_ref34_SameSteps_l1  a0 a1 n y7=some o3∧vals=[.b false,.i y7]∧st=[])) fuel 0 [] (⟨_,HL4,rfl,rfl⟩) (Nat.zero_le _) rfl (by kernel_rfl) (by kernel_rfl) rfl trivial ?_
 rintro (_ | n6) _ _ (⟨y7,H,rfl,rfl⟩)
 ·rw [p_ref34_SameSteps_l1] at H;cases H
 rw [p_ref34_SameSteps_l1] at H
 conv=>whnf
 refine LenQ.M ?_;conv=>whnf
 refine tst_d H (fun b8 H=>?_) (fun b8 H=>?_)
 ·conv=>whnf
  obtain rfl:=Option.some.inj H
  have H:=HQ5
  try dsimp only at H
  exact fb_ H
 conv=>whnf
 refine ixs_c (f:=BrokerStep.v) H (fun _=>rfl) (fun x9 H=>?_);conv=>whnf
 refine ixs_c (f:=BrokerStep.v) H (fun _=>rfl) (fun x10 H=>?_);conv=>whnf
 refine FootQ.mk ⟨rfl,?_⟩;conv=>whnf
 refine Tst.not ?_
 refine tst_d H (fun b11 H=>?_) (fun b11 H=>?_)
 ·conv=>whnf
  obtain rfl:=Option.some.inj H
  have H:=HQ5
  try dsimp only at H
  exact fb_ H
 conv=>whnf
 refine Ari.w ?_;conv=>whnf
 exact again_c [11,12,13,14,15,16,17,18,19,20,21,22,23,24,25] n6 0 [] (⟨_,H,rfl,rfl⟩) (Nat.lt_succ_self _) (Nat.zero_le _) rfl (by kernel_rfl) (by kernel_rfl) rfl trivial
end Go.Proofs.YtbimgghogflikaaGreatDoor

namespace Go.Proofs.YtbimgghogflikaaGreatDoor
open Go.RowKit
set_option maxRecDepth 1000000
set_option maxHeartbeats 4000000
def gc12:BCode:=(.seq (R_ 0 [O_ 2 (.mv (.const (.slice none 0 0))) 0]) (.seq (R_ 0 [O_ 3 (.mv (.const (.slice none 0 0))) 0]) (.seq (.seq (R_ 0 [O_ 4 (.mv (i_ 0)) 0]) (.block 0 (.loop (.seq (.seq (R_ 0 [O_ 5 (.mv (t_ 4)) 0,O_ 6 (.mv (t_ 0)) 0,O_ 7 (.lens (t_ 6)) 0,O_ 8 (.bin .lss (t_ 5) (t_ 7)) 0]) (.cond (t_ 8) .skip (.exit 0))) (.seq (.block 1 (R_ 2 [O_ 11 (.mv (t_ 3)) 0,O_ 12 (.mv (t_ 0)) 0,O_ 13 (.mv (t_ 4)) 0,O_ 14 (.ixs 4 (t_ 12) (t_ 13)) 0,O_ 15 (.ld 4 true (t_ 14)) 0,O_ 16 (.bs 4 1 [(.lit (.int .u8 0)),(.lit (.int .i64 0)),(.lit (.int .i64 0)),(.lit (.string ⟨#[]⟩))] [(0,(t_ 15))]) 0,O_ 17 (.ap 4 40 (t_ 11) (t_ 16)) 1,O_ 3 (.mv (t_ 17)) 2])) (R_ 0 [O_ 9 (.mv (t_ 4)) 0,O_ 10 (.bin .add (t_ 9) (i_ 1)) 0,O_ 4 (.mv (t_ 10)) 0])))))) (.seq (R_ 0 [O_ 18 (.mv (t_ 3)) 0,O_ 2 (.mv (t_ 18)) 0]) .ret))))
theorem gc12_ok:compF Tryz.prog Tryz.f12=some (gc12.er,19,[.tmp 2]):=by unfold gc12;kernel_rfl
theorem p_law34_back_v {u1:Bool} (a0:List BrokerStep):CallsO Tryz.prog 12 [.sl (List.map BrokerStep.v a0) u1] (fun l:List BrokerStep=>V.sl (l.map BrokerStep.v) false) (p_law34_back a0):=by
 refine callsO_comp mix Tryz.func12 gc12_ok fun r H=>?_
 rw [p_law34_back] at H
 conv=>whnf
 obtain ⟨o2,HL3,HQ4⟩:=bind_c H
 refine loop_c [3,4] [5,6,7,8,9,10,11,12,13,14,15,16,17] [5,6,7,8,9,10,11,12,13,14,15,16,17] (fun n vals st=>(∃ y6,p_law34_back_l1  a0 n [] y6=some o2∧vals=[.sl (List.map BrokerStep.v []) true,.i y6]∧st=[])∨(∃ y10 y11,p_law34_back_l1  a0 n y10 y11=some o2∧vals=[.osl 0 0 (List.length y10) 4 false,.i y11]∧st=[.live (cellsM BrokerStep.v y10) (cellsM BrokerStep.v y10).length])) fuel 0 [] (.inl (⟨_,HL3,rfl,rfl⟩)) (Nat.zero_le _) rfl (by kernel_rfl) (by kernel_rfl) rfl trivial ?_
 rintro (_ | n5) _ _ (⟨y6,H,rfl,rfl⟩ | ⟨y10,y11,H,rfl,rfl⟩)
 ·rw [p_law34_back_l1] at H;cases H
 ·rw [p_law34_back_l1] at H;cases H
 ·rw [p_law34_back_l1] at H
  conv=>whnf
  refine LenQ.M ?_;conv=>whnf
  refine tst_d H (fun b7 H=>?_) (fun b7 H=>?_)
  ·conv=>whnf
   obtain rfl:=Option.some.inj H
   have H:=HQ4
   try dsimp only at H
   refine finR_c (enc:=(fun l:List BrokerStep=>V.sl (l.map BrokerStep.v) false)) H ?_;conv=>whnf
   exact ⟨_,.v (.c (.slw))⟩
  conv=>whnf
  refine ixs_c (f:=BrokerStep.v) H (fun _=>rfl) (fun x8 H=>?_);conv=>whnf
  refine appN_c (f:=BrokerStep.v) H (fun _=>rfl) (srcM (f:=BrokerStep.v) (fun _=>rfl) [] true) rfl (.v (srcOwn (f:=BrokerStep.v) (l:=[x8]) (fun _=>rfl) rfl rfl rfl)) (by decide) rfl (by simp) (fun l9 H=>?_);conv=>whnf
  refine Ari.w ?_;conv=>whnf
  exact again_c [5,6,7,8,9,10,11,12,13,14,15,16,17] n5 1 [1] (.inr (⟨_,_,H,rfl,rfl⟩)) (Nat.lt_succ_self _) (Nat.zero_le _) rfl (by kernel_rfl) (by kernel_rfl) rfl (wkB_live0 rfl (cellsM_idlt (f:=BrokerStep.v) (fun _=>rfl) _) rfl trivial)
 rw [p_law34_back_l1] at H
 conv=>whnf
 refine LenQ.M ?_;conv=>whnf
 refine tst_d H (fun b12 H=>?_) (fun b12 H=>?_)
 ·conv=>whnf
  obtain rfl:=Option.some.inj H
  have H:=HQ4
  try dsimp only at H
  refine finR_c (enc:=(fun l:List BrokerStep=>V.sl (l.map BrokerStep.v) false)) H ?_;conv=>whnf
  exact ⟨_,.v (.c (fzown (f:=BrokerStep.v) (l:=y10) rfl rfl (fun _=>rfl) (fun _=>rfl)))⟩
 conv=>whnf
 refine ixs_c (f:=BrokerStep.v) H (fun _=>rfl) (fun x13 H=>?_);conv=>whnf
 refine appO_c (f:=BrokerStep.v) H (fun _=>rfl) rfl (Nat.le_refl _) (.v (srcOwn (f:=BrokerStep.v) (l:=[x13]) (fun _=>rfl) rfl rfl rfl)) (by decide) rfl (by simp) (fun l14 H=>?_);conv=>whnf
 refine Ari.w ?_;conv=>whnf
 exact again_c [5,6,7,8,9,10,11,12,13,14,15,16,17] n5 1 [2] (.inr (⟨_,_,H,rfl,rfl⟩)) (Nat.lt_succ_self _) (Nat.zero_le _) rfl (by kernel_rfl) (by kernel_rfl) rfl (wkB_live0 rfl (cellsM_idlt (f:=BrokerStep.v) (fun _=>rfl) _) rfl trivial)
def gc6:BCode:=(.seq (R_ 0 [O_ 0 (.mv (b_ false)) 0]) (.seq (R_ 0 [O_ 20 (.bd [(.lit (.int .u8 0)),(.lit (.int .i64 0)),(.lit (.int .i64 0)),(.lit (.string ⟨#[]⟩))] [(0,1,(.const (.int .u8 0))),(1,1,(i_ 3)),(2,1,(i_ 258))]) 0,O_ 21 (.cl 14 [(t_ 20)]) 0,O_ 19 (.mv (t_ 21)) 0,O_ 22 (.ex (t_ 19) 0) 0,O_ 23 (.ex (t_ 19) 1) 0,O_ 1 (.mv (t_ 22)) 0,O_ 2 (.mv (t_ 23)) 0]) (.seq (R_ 1 [O_ 25 (.cl 7 [(.const (.string ⟨#[1,2,2,104,105,33]⟩))]) 0,O_ 24 (.mv (t_ 25)) 0,O_ 26 (.ex (t_ 24) 0) 0,O_ 27 (.ex (t_ 24) 1) 0,O_ 28 (.ex (t_ 24) 2) 0,O_ 3 (.al (.agg [(.lit (.int .u8 0)),(.lit (.int .i64 0)),(.lit (.int .i64 0)),(.lit (.string ⟨#[]⟩))])) 0,U_ (.st 4 (t_ 3) (t_ 26)) 1,O_ 4 (.mv (t_ 27)) 1,O_ 5 (.mv (t_ 28)) 1]) (.seq (R_ 1 [O_ 30 (.cl 7 [(.const (.string ⟨#[6]⟩))]) 0,O_ 29 (.mv (t_ 30)) 0,O_ 31 (.ex (t_ 29) 0) 0,O_ 32 (.ex (t_ 29) 1) 0,O_ 33 (.ex (t_ 29) 2) 0,O_ 6 (.al (.agg [(.lit (.int .u8 0)),(.lit (.int .i64 0)),(.lit (.int .i64 0)),(.lit (.string ⟨#[]⟩))])) 0,U_ (.st 4 (t_ 6) (t_ 31)) 1,O_ 7 (.mv (t_ 32)) 1,O_ 8 (.mv (t_ 33)) 1]) (.seq (R_ 0 [O_ 35 (.bd [(.lit (.int .u8 0)),(.lit (.int .i64 0)),(.lit (.int .i64 0)),(.lit (.string ⟨#[]⟩))] [(0,1,(.const (.int .u8 3))),(2,1,(i_ 1))]) 0,O_ 36 (.cl 14 [(t_ 35)]) 0,O_ 34 (.mv (t_ 36)) 0,O_ 37 (.ex (t_ 34) 0) 0,O_ 38 (.ex (t_ 34) 1) 0,O_ 9 (.mv (t_ 37)) 0,O_ 10 (.mv (t_ 38)) 0]) (.seq (R_ 0 [O_ 40 (.cl 9 [(.const (.string ⟨#[3,2,7]⟩))]) 0,O_ 39 (.mv (t_ 40)) 0,O_ 41 (.ex (t_ 39) 0) 0,O_ 42 (.ex (t_ 39) 1) 0,O_ 11 (.mv (t_ 41)) 0,O_ 12 (.mv (t_ 42)) 0]) (.seq (R_ 1 [O_ 44 (.bd [(.lit (.int .u8 0)),(.lit (.int .i64 0)),(.lit (.int .i64 0)),(.lit (.string ⟨#[]⟩))] [(0,1,(.const (.int .u8 3)))]) 0,O_ 45 (.bd [(.lit (.int .u8 0)),(.lit (.int .i64 0)),(.lit (.int .i64 0)),(.lit (.string ⟨#[]⟩))] [(0,1,(.const (.int .u8 2))),(1,1,(i_ 7))]) 0,O_ 46 (.bs 4 2 [(.lit (.int .u8 0)),(.lit (.int .i64 0)),(.lit (.int .i64 0)),(.lit (.string ⟨#[]⟩)),(.lit (.int .u8 0)),(.lit (.int .i64 0)),(.lit (.int .i64 0)),(.lit (.string ⟨#[]⟩))] [(0,(t_ 44)),(1,(t_ 45))]) 0,O_ 47 (.cl 18 [(t_ 46)]) 1,O_ 43 (.mv (t_ 47)) 1,O_ 48 (.ex (t_ 43) 0) 1,O_ 49 (.ex (t_ 43) 1) 1,O_ 13 (.mv (t_ 48)) 1,O_ 14 (.mv (t_ 49)) 1]) (.seq (R_ 2 [O_ 51 (.bd [(.lit (.int .u8 0)),(.lit (.string ⟨#[]⟩)),(.lit (.string ⟨#[]⟩)),(.lit (.string ⟨#[]⟩)),(.lit (.int .i64 0)),(.lit (.int .i64 0)),(.lit (.int .i64 0)),(.lit (.int .i64 0))] [(0,1,(.const (.int .u8 2)))]) 0,O_ 52 (.bs 8 1 [(.lit (.int .u8 0)),(.lit (.string ⟨#[]⟩)),(.lit (.string ⟨#[]⟩)),(.lit (.string ⟨#[]⟩)),(.lit (.int .i64 0)),(.lit (.int .i64 0)),(.lit (.int .i64 0)),(.lit (.int .i64 0))] [(0,(t_ 51))]) 0,O_ 53 (.cl 21 [(i_ 4),(t_ 52)]) 1,O_ 50 (.mv (t_ 53)) 1,O_ 54 (.ex (t_ 50) 0) 1,O_ 55 (.ex (t_ 50) 1) 1,O_ 15 (.al (.agg [(.lit (.int .u8 0)),(.lit (.int .i64 0)),(.lit (.int .i64 0)),(.lit (.string ⟨#[]⟩))])) 1,U_ (.st 4 (t_ 15) (t_ 54)) 2,O_ 16 (.mv (t_ 55)) 2]) (.seq (R_ 0 [O_ 57 (.bd [(.lit (.int .u8 0)),(.lit (.int .i64 0)),(.lit (.int .i64 0)),(.lit (.string ⟨#[]⟩))] [(0,1,(.const (.int .u8 2))),(1,1,(i_ 256))]) 0,O_ 58 (.cl 14 [(t_ 57)]) 0,O_ 56 (.mv (t_ 58)) 0,O_ 59 (.ex (t_ 56) 0) 0,O_ 60 (.ex (t_ 56) 1) 0,O_ 17 (.mv (t_ 59)) 0,O_ 18 (.mv (t_ 60)) 0]) (.seq (R_ 1 [O_ 61 (.mv (t_ 1)) 0,O_ 62 (.bin .eql (t_ 61) (.const (.string ⟨#[0,3,1,2]⟩))) 0,O_ 63 (.mv (t_ 62)) 0,⟨(some 64),.mv (t_ 2),(some (63,true)),0⟩,⟨(some 65),.bin .eql (t_ 64) (i_ 0),(some (63,true)),0⟩,O_ 66 (.pick (t_ 63) (t_ 65) (b_ false)) 0,O_ 67 (.mv (t_ 66)) 0,⟨(some 68),.ld 4 true (t_ 3),(some (67,true)),0⟩,⟨(some 69),.bd [(.lit (.int .u8 0)),(.lit (.int .i64 0)),(.lit (.int .i64 0)),(.lit (.string ⟨#[]⟩))] [(0,1,(.const (.int .u8 1))),(1,1,(i_ 2)),(3,1,(.const (.string ⟨#[104,105]⟩)))],(some (67,true)),0⟩,⟨(some 70),.eqa false [1,1,1,2] (t_ 68) (t_ 69),(some (67,true)),0⟩,O_ 71 (.pick (t_ 67) (t_ 70) (b_ false)) 0,O_ 72 (.mv (t_ 71)) 0,⟨(some 73),.mv (t_ 4),(some (72,true)),0⟩,⟨(some 74),.bin .eql (t_ 73) (i_ 5),(some (72,true)),0⟩,O_ 75 (.pick (t_ 72) (t_ 74) (b_ false)) 0,O_ 76 (.mv (t_ 75)) 0,⟨(some 77),.mv (t_ 5),(some (76,true)),0⟩,⟨(some 78),.bin .eql (t_ 77) (i_ 0),(some (76,true)),0⟩,O_ 79 (.pick (t_ 76) (t_ 78) (b_ false)) 0,O_ 80 (.mv (t_ 79)) 0,⟨(some 81),.mv (t_ 8),(some (80,true)),0⟩,⟨(some 82),.bin .eql (t_ 81) (i_ 12),(some (80,true)),0⟩,O_ 83 (.pick (t_ 80) (t_ 82) (b_ false)) 0,O_ 84 (.mv (t_ 83)) 0,⟨(some 85),.mv (t_ 10),(some (84,true)),0⟩,⟨(some 86),.bin .eql (t_ 85) (i_ 4),(some (84,true)),0⟩,O_ 87 (.pick (t_ 84) (t_ 86) (b_ false)) 0,O_ 88 (.mv (t_ 87)) 0,⟨(some 89),.mv (t_ 11),(some (88,true)),0⟩,⟨(some 90),.cl 12 [(t_ 89)],(some (88,true)),0⟩,⟨(some 91),.bd [(.lit (.int .u8 0)),(.lit (.int .i64 0)),(.lit (.int .i64 0)),(.lit (.string ⟨#[]⟩))] [(0,1,(.const (.int .u8 3)))],(some (88,true)),0⟩,⟨(some 92),.bd [(.lit (.int .u8 0)),(.lit (.int .i64 0)),(.lit (.int .i64 0)),(.lit (.string ⟨#[]⟩))] [(0,1,(.const (.int .u8 2))),(1,1,(i_ 7))],(some (88,true)),0⟩,⟨(some 93),.bs 4 2 [(.lit (.int .u8 0)),(.lit (.int .i64 0)),(.lit (.int .i64 0)),(.lit (.string ⟨#[]⟩)),(.lit (.int .u8 0)),(.lit (.int .i64 0)),(.lit (.int .i64 0)),(.lit (.string ⟨#[]⟩))] [(0,(t_ 91)),(1,(t_ 92))],(some (88,true)),0⟩,⟨(some 94),.cl 11 [(t_ 90),(t_ 93)],(some (88,true)),1⟩,O_ 95 (.pick (t_ 88) (t_ 94) (b_ false)) 1,O_ 96 (.mv (t_ 95)) 1,⟨(some 97),.mv (t_ 12),(some (96,true)),1⟩,⟨(some 98),.bin .eql (t_ 97) (i_ 0),(some (96,true)),1⟩,O_ 99 (.pick (t_ 96) (t_ 98) (b_ false)) 1,O_ 100 (.mv (t_ 99)) 1,⟨(some 101),.mv (t_ 13),(some (100,true)),1⟩,⟨(some 102),.bin .eql (t_ 101) (.const (.string ⟨#[3,2,7]⟩)),(some (100,true)),1⟩,O_ 103 (.pick (t_ 100) (t_ 102) (b_ false)) 1,O_ 104 (.mv (t_ 103)) 1,⟨(some 105),.mv (t_ 14),(some (104,true)),1⟩,⟨(some 106),.bin .eql (t_ 105) (i_ 0),(some (104,true)),1⟩,O_ 107 (.pick (t_ 104) (t_ 106) (b_ false)) 1,O_ 108 (.mv (t_ 107)) 1,⟨(some 109),.ld 4 true (t_ 15),(some (108,true)),1⟩,⟨(some 110),.bd [(.lit (.int .u8 0)),(.lit (.int .i64 0)),(.lit (.int .i64 0)),(.lit (.string ⟨#[]⟩))] [(0,1,(.const (.int .u8 1))),(1,1,(i_ 4)),(3,1,(.const (.string ⟨#[0,1,2]⟩)))],(some (108,true)),1⟩,⟨(some 111),.eqa false [1,1,1,2] (t_ 109) (t_ 110),(some (108,true)),1⟩,O_ 112 (.pick (t_ 108) (t_ 111) (b_ false)) 1,O_ 113 (.mv (t_ 112)) 1,⟨(some 114),.mv (t_ 16),(some (113,true)),1⟩,⟨(some 115),.bin .eql (t_ 114) (i_ 0),(some (113,true)),1⟩,O_ 116 (.pick (t_ 113) (t_ 115) (b_ false)) 1,O_ 117 (.mv (t_ 116)) 1,⟨(some 118),.mv (t_ 18),(some (117,true)),1⟩,⟨(some 119),.bin .eql (t_ 118) (i_ 8),(some (117,true)),1⟩,O_ 120 (.pick (t_ 117) (t_ 119) (b_ false)) 1,O_ 121 (.mv (t_ 120)) 1,⟨(some 122),.cl 23 [(.const (.int .u8 5))],(some (121,true)),1⟩,⟨(some 123),.bin .eql (t_ 122) (.const (.string ⟨#[100,114,97,119]⟩)),(some (121,true)),1⟩,O_ 124 (.pick (t_ 121) (t_ 123) (b_ false)) 1,O_ 125 (.mv (t_ 124)) 1,⟨(some 126),.ld 4 true (t_ 15),(some (125,true)),1⟩,⟨(some 127),.cl 16 [(t_ 126)],(some (125,true)),1⟩,⟨(some 128),.bin .eql (t_ 127) (.const (.string ⟨#[98,121,116,101,115,32,52,32,48,32,51]⟩)),(some (125,true)),1⟩,O_ 129 (.pick (t_ 125) (t_ 128) (b_ false)) 1,O_ 130 (.mv (t_ 129)) 1,⟨(some 131),.mv (t_ 11),(some (130,true)),1⟩,⟨(some 132),.cl 25 [(t_ 131),(.const (.int .u8 3))],(some (130,true)),1⟩,⟨(some 133),.bin .eql (t_ 132) (i_ 1),(some (130,true)),1⟩,O_ 134 (.pick (t_ 130) (t_ 133) (b_ false)) 1,O_ 135 (.mv (t_ 134)) 1,O_ 136 (.pick (t_ 135) (b_ true) (b_ false)) 1,O_ 137 (.mv (t_ 136)) 1,O_ 138 (.pick (t_ 137) (b_ true) (b_ false)) 1,O_ 0 (.mv (t_ 138)) 1]) .ret))))))))))
theorem gc6_ok:compF Tryz.prog Tryz.f6=some (gc6.er,139,[.tmp 0]):=by unfold gc6;kernel_rfl
theorem p_law34_awake_t:CallsO Tryz.prog 6 [] V.b (tru? (p_law34_awake)):=by
 refine callsO_comp mix Tryz.func6 gc6_ok fun r H=>?_
 have H1:=tru_of H
 clear H
 obtain ⟨rfl,H⟩:=H1
 rw [p_law34_awake] at H
 conv=>whnf
 refine ask_c (p_script_Put_v _) H rfl rfl (fun v1 H=>?_);conv=>whnf
 refine ask_c (p_script_Get_v _) H rfl rfl (fun v2 H=>?_);conv=>whnf
 refine lq_ ?_;conv=>whnf
 refine ask_c (p_script_Get_v _) H rfl rfl (fun v3 H=>?_);conv=>whnf
 refine lq_ ?_;conv=>whnf
 refine ask_c (p_script_Put_v _) H rfl rfl (fun v4 H=>?_);conv=>whnf
 refine ask_c (p_script_All_v _) H rfl rfl (fun v5 H=>?_);conv=>whnf
 refine askF_c (p_script_Join_v _) H (.cons (.c (fzown (f:=BrokerStep.v) (l:=[(BrokerStep.mk (3:Int) (0:Int) (0:Int) (⟨#[]⟩ : ByteArray)),(BrokerStep.mk (2:Int) (7:Int) (0:Int) (⟨#[]⟩ : ByteArray))]) rfl rfl (fun _=>rfl) (fun _=>rfl))) (.nil)) (fun v6 H=>?_);conv=>whnf
 refine askF_c (p_script_Ask_v _ _) H (.cons (.c (.id rfl)) (.cons (.c (fzown (f:=StanzaStanza.v) (l:=[(StanzaStanza.mk (2:Int) (⟨#[]⟩ : ByteArray) (⟨#[]⟩ : ByteArray) (⟨#[]⟩ : ByteArray) (0:Int) (0:Int) (0:Int) (0:Int))]) rfl rfl (fun _=>rfl) (fun _=>rfl))) (.nil))) (fun v7 H=>?_);conv=>whnf
 refine lq_ ?_;conv=>whnf
 refine ask_c (p_script_Put_v _) H rfl rfl (fun v8 H=>?_);conv=>whnf
 refine tstT_c H (fun b9 H=>?_);conv=>whnf
 iterate 2 (refine Tst.T ?_;conv=>whnf)
 refine tstT_c H (fun b10 H=>?_);conv=>whnf
 iterate 3 (refine Tst.T ?_;conv=>whnf)
 refine tstT_c H (fun b11 H=>?_);conv=>whnf
 iterate 2 (refine Tst.T ?_;conv=>whnf)
 refine tstT_c H (fun b12 H=>?_);conv=>whnf
 iterate 2 (refine Tst.T ?_;conv=>whnf)
 refine tstT_c H (fun b13 H=>?_);conv=>whnf
 iterate 2 (refine Tst.T ?_;conv=>whnf)
 refine tstT_c H (fun b14 H=>?_);conv=>whnf
 iterate 2 (refine Tst.T ?_;conv=>whnf)
 refine tstT_c H (fun b15 H=>?_);conv=>whnf
 refine Tst.T ?_;conv=>whnf
 refine ask_c (p_law34_back_v _) H rfl rfl (fun v16 H=>?_);conv=>whnf
 iterate 4 (refine Tst.T ?_;conv=>whnf)
 refine askF_c (p_ref34_SameSteps_v _ _) H (.cons (.c (.id rfl)) (.cons (.c (fzown (f:=BrokerStep.v) (l:=[(BrokerStep.mk (3:Int) (0:Int) (0:Int) (⟨#[]⟩ : ByteArray)),(BrokerStep.mk (2:Int) (7:Int) (0:Int) (⟨#[]⟩ : ByteArray))]) rfl rfl (fun _=>rfl) (fun _=>rfl))) (.nil))) (fun v17 H=>?_);conv=>whnf
 refine Tst.T ?_;conv=>whnf
 refine tstT_c H (fun b18 H=>?_);conv=>whnf
 iterate 2 (refine Tst.T ?_;conv=>whnf)
 refine tstT_c H (fun b19 H=>?_);conv=>whnf
 iterate 2 (refine Tst.T ?_;conv=>whnf)
 refine tstT_c H (fun b20 H=>?_);conv=>whnf
 iterate 2 (refine Tst.T ?_;conv=>whnf)
 refine tstT_c H (fun b21 H=>?_);conv=>whnf
 iterate 3 (refine Tst.T ?_;conv=>whnf)
 refine tstT_c H (fun b22 H=>?_);conv=>whnf
 iterate 2 (refine Tst.T ?_;conv=>whnf)
 refine tstT_c H (fun b23 H=>?_);conv=>whnf
 iterate 2 (refine Tst.T ?_;conv=>whnf)
 refine tstT_c H (fun b24 H=>?_);conv=>whnf
 refine ask_c (p_script_Name_v _) H rfl rfl (fun v25 H=>?_);conv=>whnf
 iterate 2 (refine Tst.T ?_;conv=>whnf)
 refine tstT_c H (fun b26 H=>?_);conv=>whnf
 refine Tst.T ?_;conv=>whnf
 refine ask_c (p_script_Say_v _) H rfl rfl (fun v27 H=>?_);conv=>whnf
 iterate 2 (refine Tst.T ?_;conv=>whnf)
 refine tstT_c H (fun b28 H=>?_);conv=>whnf
 refine Tst.T ?_;conv=>whnf
 refine ask_c (p_script_Count_v _ _) H rfl rfl (fun v29 H=>?_);conv=>whnf
 iterate 2 (refine Tst.T ?_;conv=>whnf)
 refine tstT_c H (fun b30 H=>?_);conv=>whnf
 refine Tst.T ?_;conv=>whnf
 exact fb_ H
theorem p_law34_awake_true:p_law34_awake=some true:=by kernel_rfl
theorem p_law34_awake_v:CallsO Tryz.prog 6 [] V.b p_law34_awake:=tru_closed p_law34_awake_t p_law34_awake_true
def gc3:BCode:=(.seq (R_ 0 [O_ 2 (.mv (b_ false)) 0]) (.seq (.seq (R_ 0 [O_ 13 (.mv (t_ 0)) 0,O_ 14 (.lent (t_ 13)) 0,O_ 15 (.bin .gtr (t_ 14) (i_ 300)) 0]) (.cond (t_ 15) (.seq (R_ 0 [O_ 16 (.cl 6 []) 0,O_ 2 (.mv (t_ 16)) 0]) .ret) .skip)) (.seq (R_ 1 [O_ 18 (.mv (t_ 0)) 0,O_ 19 (.cl 7 [(t_ 18)]) 0,O_ 17 (.mv (t_ 19)) 0,O_ 20 (.ex (t_ 17) 0) 0,O_ 21 (.ex (t_ 17) 1) 0,O_ 22 (.ex (t_ 17) 2) 0,O_ 3 (.al (.agg [(.lit (.int .u8 0)),(.lit (.int .i64 0)),(.lit (.int .i64 0)),(.lit (.string ⟨#[]⟩))])) 0,U_ (.st 4 (t_ 3) (t_ 20)) 1,O_ 4 (.mv (t_ 21)) 1,O_ 5 (.mv (t_ 22)) 1]) (.seq (R_ 1 [O_ 24 (.mv (t_ 0)) 0,O_ 25 (.cl 8 [(t_ 24)]) 0,O_ 23 (.mv (t_ 25)) 0,O_ 26 (.ex (t_ 23) 0) 0,O_ 27 (.ex (t_ 23) 1) 0,O_ 28 (.ex (t_ 23) 2) 0,O_ 6 (.al (.agg [(.lit (.int .u8 0)),(.lit (.int .i64 0)),(.lit (.int .i64 0)),(.lit (.string ⟨#[]⟩))])) 0,U_ (.st 4 (t_ 6) (t_ 26)) 1,O_ 7 (.mv (t_ 27)) 1,O_ 8 (.mv (t_ 28)) 1]) (.seq (R_ 0 [O_ 30 (.mv (t_ 0)) 0,O_ 31 (.cl 9 [(t_ 30)]) 0,O_ 29 (.mv (t_ 31)) 0,O_ 32 (.ex (t_ 29) 0) 0,O_ 33 (.ex (t_ 29) 1) 0,O_ 9 (.mv (t_ 32)) 0,O_ 10 (.mv (t_ 33)) 0]) (.seq (R_ 0 [O_ 35 (.mv (t_ 0)) 0,O_ 36 (.cl 10 [(t_ 35)]) 0,O_ 34 (.mv (t_ 36)) 0,O_ 37 (.ex (t_ 34) 0) 0,O_ 38 (.ex (t_ 34) 1) 0,O_ 11 (.mv (t_ 37)) 0,O_ 12 (.mv (t_ 38)) 0]) (.seq (R_ 0 [O_ 39 (.ld 4 true (t_ 3)) 0,O_ 40 (.ld 4 true (t_ 6)) 0,O_ 41 (.eqa false [1,1,1,2] (t_ 39) (t_ 40)) 0,O_ 42 (.mv (t_ 41)) 0,⟨(some 43),.mv (t_ 4),(some (42,true)),0⟩,⟨(some 44),.mv (t_ 7),(some (42,true)),0⟩,⟨(some 45),.bin .eql (t_ 43) (t_ 44),(some (42,true)),0⟩,O_ 46 (.pick (t_ 42) (t_ 45) (b_ false)) 0,O_ 47 (.mv (t_ 46)) 0,⟨(some 48),.mv (t_ 5),(some (47,true)),0⟩,⟨(some 49),.mv (t_ 8),(some (47,true)),0⟩,⟨(some 50),.bin .eql (t_ 48) (t_ 49),(some (47,true)),0⟩,O_ 51 (.pick (t_ 47) (t_ 50) (b_ false)) 0,O_ 52 (.mv (t_ 51)) 0,⟨(some 53),.mv (t_ 9),(some (52,true)),0⟩,⟨(some 54),.cl 12 [(t_ 53)],(some (52,true)),0⟩,⟨(some 55),.mv (t_ 11),(some (52,true)),0⟩,⟨(some 56),.cl 11 [(t_ 54),(t_ 55)],(some (52,true)),0⟩,O_ 57 (.pick (t_ 52) (t_ 56) (b_ false)) 0,O_ 58 (.mv (t_ 57)) 0,⟨(some 59),.mv (t_ 10),(some (58,true)),0⟩,⟨(some 60),.mv (t_ 12),(some (58,true)),0⟩,⟨(some 61),.bin .eql (t_ 59) (t_ 60),(some (58,true)),0⟩,O_ 62 (.pick (t_ 58) (t_ 61) (b_ false)) 0,O_ 63 (.mv (t_ 62)) 0,⟨(some 64),.cl 6 [],(some (63,true)),0⟩,O_ 65 (.pick (t_ 63) (t_ 64) (b_ false)) 0,O_ 2 (.mv (t_ 65)) 0]) .ret)))))))
theorem gc3_ok:compF Tryz.prog Tryz.f3=some (gc3.er,66,[.tmp 2]):=by unfold gc3;kernel_rfl
theorem p_law34_ScriptReads_v (a0:ByteArray):CallsO Tryz.prog 3 [.s a0] V.b (tru? (p_law34_ScriptReads a0)):=by
 refine callsO_comp mix Tryz.func3 gc3_ok fun r H=>?_
 have H1:=tru_of H
 clear H
 obtain ⟨rfl,H⟩:=H1
 rw [p_law34_ScriptReads] at H
 conv=>whnf
 refine tst_c H (fun b1 H=>?_) (fun b1 H=>?_)
 ·conv=>whnf
  refine ask_c (p_law34_awake_v) H rfl rfl (fun v2 H=>?_);conv=>whnf
  exact fb_ H
 conv=>whnf
 refine ask_c (p_script_Get_v _) H rfl rfl (fun v3 H=>?_);conv=>whnf
 refine lq_ ?_;conv=>whnf
 refine ask_c (p_ref34_Get_v _) H rfl rfl (fun v4 H=>?_);conv=>whnf
 refine lq_ ?_;conv=>whnf
 refine ask_c (p_script_All_v _) H rfl rfl (fun v5 H=>?_);conv=>whnf
 refine ask_c (p_ref34_All_v _) H rfl rfl (fun v6 H=>?_);conv=>whnf
 refine tstT_c H (fun b7 H=>?_);conv=>whnf
 iterate 3 (refine Tst.T ?_;conv=>whnf)
 refine tstT_c H (fun b8 H=>?_);conv=>whnf
 iterate 3 (refine Tst.T ?_;conv=>whnf)
 refine tstT_c H (fun b9 H=>?_);conv=>whnf
 refine Tst.T ?_;conv=>whnf
 refine ask_c (p_law34_back_v _) H rfl rfl (fun v10 H=>?_);conv=>whnf
 iterate 2 (refine Tst.T ?_;conv=>whnf)
 refine ask_c (p_ref34_SameSteps_v _ _) H rfl rfl (fun v11 H=>?_);conv=>whnf
 refine Tst.T ?_;conv=>whnf
 refine tstT_c H (fun b12 H=>?_);conv=>whnf
 iterate 3 (refine Tst.T ?_;conv=>whnf)
 refine tstT_c H (fun b13 H=>?_);conv=>whnf
 refine ask_c (p_law34_awake_v) H rfl rfl (fun v14 H=>?_);conv=>whnf
 refine Tst.T ?_;conv=>whnf
 exact fb_ H
end Go.Proofs.YtbimgghogflikaaGreatDoor

