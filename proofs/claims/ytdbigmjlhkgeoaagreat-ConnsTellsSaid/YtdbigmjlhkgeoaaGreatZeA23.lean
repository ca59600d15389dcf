/- A part of the proof: 3 texts joined. -/
import Derived.Test.YtdbigmjlhkgeoaaGreatZeA15
import Derived.Test.YtdbigmjlhkgeoaaGreatZeA11
import Derived.KernelRfl
import Derived.Test.YtdbigmjlhkgeoaaGreatZeA22
import Derived.Test.YtdbigmjlhkgeoaaGreatZeA13
import Derived.Test.YtdbigmjlhkgeoaaGreatZeA17
import Derived.Test.YtdbigmjlhkgeoaaGreatZeA21
set_option linter.all false
namespace Go.Proofs.YtdbigmjlhkgeoaaGreat
open Go.RowKit
set_option maxRecDepth 100000
set_option maxHeartbeats 4000000
def gc105:BCode:=(.seq (R_ 1 [O_ 1 (.bx (t_ 0)) 0,O_ 2 (.mv (i_ 0)) 1]) (.seq (.seq (R_ 0 [O_ 3 (.fa 2 (t_ 1)) 0,O_ 4 (.ld 1 false (t_ 3)) 0,O_ 5 (.bin .eql (t_ 4) (i_ 0)) 0,O_ 6 (.mv (t_ 5)) 0,⟨(some 7),.fa 1 (t_ 1),(some (6,true)),0⟩,⟨(some 8),.ld 1 false (t_ 7),(some (6,true)),0⟩,⟨(some 9),.bin .lss (t_ 8) (i_ 0),(some (6,true)),0⟩,⟨(some 10),.mv (t_ 9),(some (6,true)),0⟩,⟨(some 11),.fa 1 (t_ 1),(some (10,false)),0⟩,⟨(some 12),.ld 1 false (t_ 11),(some (10,false)),0⟩,⟨(some 13),.fa 0 (t_ 1),(some (10,false)),0⟩,⟨(some 14),.ld 1 false (t_ 13),(some (10,false)),0⟩,⟨(some 15),.lent (t_ 14),(some (10,false)),0⟩,⟨(some 16),.bin .gtr (t_ 12) (t_ 15),(some (10,false)),0⟩,⟨(some 17),.pick (t_ 10) (b_ true) (t_ 16),(some (6,true)),0⟩,O_ 18 (.pick (t_ 6) (t_ 17) (b_ false)) 0]) (.cond (t_ 18) (.seq (R_ 0 [O_ 2 (.mv (i_ 2)) 0]) .ret) .skip)) (.seq (R_ 0 [O_ 19 (.fa 2 (t_ 1)) 0,O_ 20 (.ld 1 false (t_ 19)) 0,O_ 2 (.mv (t_ 20)) 0]) .ret)))
theorem gc105_ok:compF Tryz.prog Tryz.f105=some (gc105.er,21,[.tmp 2]):=by unfold gc105;kernel_rfl
theorem p_ref01_bad_v (a0:OctetRead):CallsO Tryz.prog 105 [.agg [.s a0.S,.i a0.At,.i a0.Bad]] V.i (p_ref01_bad a0):=by
 refine callsO_comp mix Tryz.func105 gc105_ok fun r H=>?_
 rw [p_ref01_bad] at H
 conv=>whnf
 refine tst_d H (fun b1 H=>?_) (fun b1 H=>?_)
 ·conv=>whnf
  iterate 6 (refine Tst.F ?_;conv=>whnf)
  exact fi_ H
 conv=>whnf
 iterate 3 (refine Tst.T ?_;conv=>whnf)
 refine tst_c H (fun b2 H=>?_) (fun b2 H=>?_)
 ·conv=>whnf
  iterate 9 (refine Tst.T ?_;conv=>whnf)
  exact fi_ H
 conv=>whnf
 iterate 5 (refine Tst.F ?_;conv=>whnf)
 refine Tst.T ?_;conv=>whnf
 refine Tst.F ?_;conv=>whnf
 refine Tst.T ?_;conv=>whnf
 refine tst_c H (fun b3 H=>?_) (fun b3 H=>?_)
 ·conv=>whnf
  exact fi_ H
 conv=>whnf
 exact fi_ H
def gc103:BCode:=(.seq (R_ 2 [O_ 2 (.bx (t_ 0)) 0,O_ 4 (.al (.agg [(.lit (.string ⟨#[]⟩)),(.lit (.int .i64 0)),(.lit (.int .i64 0))])) 1]) (.seq (R_ 0 [O_ 5 (.mv (t_ 1)) 0,O_ 6 (.fa 2 (t_ 2)) 0,U_ (.st 1 (t_ 6) (t_ 5)) 0]) (.seq (R_ 0 [O_ 7 (.ld 3 true (t_ 2)) 0,U_ (.st 3 (t_ 4) (t_ 7)) 0]) .ret)))
theorem gc103_ok:compF Tryz.prog Tryz.f103=some (gc103.er,8,[.cell 4 3 true]):=by unfold gc103;kernel_rfl
theorem p_ref01_with_v (a0:OctetRead) (a1:Int):CallsO Tryz.prog 103 [.agg [.s a0.S,.i a0.At,.i a0.Bad],.i a1] OctetRead.v (p_ref01_with a0 a1):=by
 refine callsO_comp mix Tryz.func103 gc103_ok fun r H=>?_
 rw [p_ref01_with] at H
 conv=>whnf
 refine lq_ ?_;conv=>whnf
 refine lq_ ?_;conv=>whnf
 exact fin0_c (enc:=OctetRead.v) H (.inr rfl) (.cons (.cell rfl rfl (Nat.le_of_ble_eq_true rfl)) (.nil)) rfl rfl
def gc106:BCode:=(.seq (R_ 0 [O_ 2 (.mv (b_ false)) 0]) (.seq (R_ 0 [O_ 3 (.mv (t_ 0)) 0,O_ 4 (.bin .eql (t_ 3) (i_ 1)) 0,O_ 5 (.mv (t_ 4)) 0,⟨(some 6),.mv (t_ 0),(some (5,false)),0⟩,⟨(some 7),.bin .eql (t_ 6) (i_ 2),(some (5,false)),0⟩,O_ 8 (.pick (t_ 5) (b_ true) (t_ 7)) 0,O_ 9 (.mv (t_ 8)) 0,⟨(some 10),.mv (t_ 0),(some (9,false)),0⟩,⟨(some 11),.bin .eql (t_ 10) (i_ 4),(some (9,false)),0⟩,O_ 12 (.pick (t_ 9) (b_ true) (t_ 11)) 0,O_ 13 (.mv (t_ 12)) 0,⟨(some 14),.mv (t_ 0),(some (13,false)),0⟩,⟨(some 15),.bin .eql (t_ 14) (i_ 6),(some (13,false)),0⟩,O_ 16 (.pick (t_ 13) (b_ true) (t_ 15)) 0,O_ 2 (.mv (t_ 16)) 0]) .ret))
theorem gc106_ok:compF Tryz.prog Tryz.f106=some (gc106.er,17,[.tmp 2]):=by unfold gc106;kernel_rfl
theorem p_ref01_wide_v (a0:Int):CallsO Tryz.prog 106 [.i a0] V.b (p_ref01_wide a0):=by
 refine callsO_comp mix Tryz.func106 gc106_ok fun r H=>?_
 rw [p_ref01_wide] at H
 conv=>whnf
 refine tst_c H (fun b1 H=>?_) (fun b1 H=>?_)
 ·conv=>whnf
  iterate 8 (refine Tst.T ?_;conv=>whnf)
  exact fb_ H
 conv=>whnf
 iterate 2 (refine Tst.F ?_;conv=>whnf)
 refine tst_c H (fun b2 H=>?_) (fun b2 H=>?_)
 ·conv=>whnf
  iterate 5 (refine Tst.T ?_;conv=>whnf)
  exact fb_ H
 conv=>whnf
 iterate 2 (refine Tst.F ?_;conv=>whnf)
 refine tst_c H (fun b3 H=>?_) (fun b3 H=>?_)
 ·conv=>whnf
  iterate 2 (refine Tst.T ?_;conv=>whnf)
  exact fb_ H
 conv=>whnf
 iterate 2 (refine Tst.F ?_;conv=>whnf)
 exact fb_ H
def gc104:BCode:=(.seq (R_ 1 [O_ 1 (.bx (t_ 0)) 0,O_ 2 (.mv (i_ 0)) 1]) (.seq (.seq (R_ 0 [O_ 3 (.ld 3 true (t_ 1)) 0,O_ 4 (.cl 105 [(t_ 3)]) 0,O_ 5 (.bin .neq (t_ 4) (i_ 0)) 0]) (.cond (t_ 5) (.seq (R_ 0 [O_ 2 (.mv (i_ 0)) 0]) .ret) .skip)) (.seq (R_ 0 [O_ 6 (.fa 0 (t_ 1)) 0,O_ 7 (.ld 1 false (t_ 6)) 0,O_ 8 (.lent (t_ 7)) 0,O_ 9 (.fa 1 (t_ 1)) 0,O_ 10 (.ld 1 false (t_ 9)) 0,O_ 11 (.bin .sub (t_ 8) (t_ 10)) 0,O_ 2 (.mv (t_ 11)) 0]) .ret)))
theorem gc104_ok:compF Tryz.prog Tryz.f104=some (gc104.er,12,[.tmp 2]):=by unfold gc104;kernel_rfl
theorem p_ref01_Left_v (a0:OctetRead):CallsO Tryz.prog 104 [.agg [.s a0.S,.i a0.At,.i a0.Bad]] V.i (p_ref01_Left a0):=by
 refine callsO_comp mix Tryz.func104 gc104_ok fun r H=>?_
 rw [p_ref01_Left] at H
 conv=>whnf
 refine ask_c (p_ref01_bad_v _) H rfl rfl (fun v1 H=>?_);conv=>whnf
 refine tst_c H (fun b2 H=>?_) (fun b2 H=>?_)
 ·conv=>whnf
  exact fi_ H
 conv=>whnf
 refine Ari.w ?_;conv=>whnf
 exact fi_ H
def gc85:BCode:=(.seq (R_ 2 [O_ 2 (.bx (t_ 0)) 0,O_ 4 (.al (.agg [(.lit (.string ⟨#[]⟩)),(.lit (.int .i64 0)),(.lit (.int .i64 0))])) 1,O_ 5 (.mv (i_ 0)) 2]) (.seq (.block 0 (.seq (R_ 0 [O_ 9 (.ld 3 true (t_ 2)) 0,O_ 10 (.cl 105 [(t_ 9)]) 0,O_ 11 (.bin .neq (t_ 10) (i_ 0)) 0,O_ 8 (.mv (t_ 11)) 0]) (.cond (t_ 8) (.seq (.reg 0 [O_ 12 (.ld 3 true (t_ 2)) 0,O_ 13 (.ld 3 true (t_ 2)) 0,O_ 14 (.cl 105 [(t_ 13)]) 0,O_ 15 (.cl 103 [(t_ 12),(t_ 14)]) 0,U_ (.st 3 (t_ 4) (t_ 15)) 0,O_ 5 (.mv (i_ 0)) 0] (some [[],[],[1],[1,2,0],[0,2,1,3],[3,1,2,0,4]]) 0 []) .ret) (.seq (R_ 0 [O_ 17 (.mv (t_ 1)) 0,O_ 18 (.cl 106 [(t_ 17)]) 0,O_ 19 (.un .not (t_ 18)) 0,O_ 16 (.mv (t_ 19)) 0]) (.cond (t_ 16) (.seq (R_ 0 [O_ 20 (.ld 3 true (t_ 2)) 0,O_ 21 (.cl 103 [(t_ 20),(i_ 2)]) 0,U_ (.st 3 (t_ 4) (t_ 21)) 0,O_ 5 (.mv (i_ 0)) 0]) .ret) (.seq (R_ 0 [O_ 23 (.mv (t_ 1)) 0,O_ 24 (.ld 3 true (t_ 2)) 0,O_ 25 (.cl 104 [(t_ 24)]) 0,O_ 26 (.bin .gtr (t_ 23) (t_ 25)) 0,O_ 22 (.mv (t_ 26)) 0]) (.cond (t_ 22) (.seq (R_ 0 [O_ 27 (.ld 3 true (t_ 2)) 0,O_ 28 (.cl 103 [(t_ 27),(i_ 3)]) 0,U_ (.st 3 (t_ 4) (t_ 28)) 0,O_ 5 (.mv (i_ 0)) 0]) .ret) .skip))))))) (.seq (R_ 0 [O_ 6 (.mv (i_ 0)) 0]) (.seq (.seq (R_ 0 [O_ 7 (.mv (i_ 0)) 0]) (.block 1 (.loop (.seq (.seq (R_ 0 [O_ 29 (.mv (t_ 7)) 0,O_ 30 (.mv (t_ 1)) 0,O_ 31 (.bin .lss (t_ 29) (t_ 30)) 0]) (.cond (t_ 31) .skip (.exit 1))) (.seq (.block 2 (.seq (R_ 0 [O_ 34 (.mv (t_ 6)) 0,O_ 35 (.bin .mul (i_ 256) (t_ 34)) 0,O_ 36 (.fa 0 (t_ 2)) 0,O_ 37 (.ld 1 false (t_ 36)) 0,O_ 38 (.fa 1 (t_ 2)) 0,O_ 39 (.ld 1 false (t_ 38)) 0,O_ 40 (.ixt (t_ 37) (t_ 39)) 0,O_ 41 (.cvi .i64 (t_ 40)) 0,O_ 42 (.bin .add (t_ 35) (t_ 41)) 0,O_ 6 (.mv (t_ 42)) 0]) (R_ 0 [O_ 43 (.fa 1 (t_ 2)) 0,O_ 44 (.ld 1 false (t_ 43)) 0,O_ 45 (.bin .add (t_ 44) (i_ 1)) 0,O_ 46 (.fa 1 (t_ 2)) 0,U_ (.st 1 (t_ 46) (t_ 45)) 0]))) (R_ 0 [O_ 32 (.mv (t_ 7)) 0,O_ 33 (.bin .add (t_ 32) (i_ 1)) 0,O_ 7 (.mv (t_ 33)) 0])))))) (.seq (R_ 0 [O_ 47 (.ld 3 true (t_ 2)) 0,O_ 48 (.mv (t_ 6)) 0,U_ (.st 3 (t_ 4) (t_ 47)) 0,O_ 5 (.mv (t_ 48)) 0]) .ret)))))
theorem gc85_ok:compF Tryz.prog Tryz.f85=some (gc85.er,49,[.cell 4 3 true,.tmp 5]):=by unfold gc85;kernel_rfl
theorem p_ref01_Num_v (a0:OctetRead) (a1:Int):CallsO Tryz.prog 85 [.agg [.s a0.S,.i a0.At,.i a0.Bad],.i a1] (fun r:OctetRead × Int=>.tup [OctetRead.v r.1,V.i r.2]) (p_ref01_Num a0 a1):=by
 refine callsO_comp mix Tryz.func85 gc85_ok fun r H=>?_
 rw [p_ref01_Num] at H
 conv=>whnf
 refine ask_c (p_ref01_bad_v _) H rfl rfl (fun v1 H=>?_);conv=>whnf
 refine tst_c H (fun b2 H=>?_) (fun b2 H=>?_)
 ·conv=>whnf
  refine ask_c (p_ref01_bad_v _) H rfl rfl (fun v3 H=>?_);conv=>whnf
  refine ask_c (p_ref01_with_v _ _) H rfl rfl (fun v4 H=>?_);conv=>whnf
  refine lq_ ?_;conv=>whnf
  refine FootQ.mk ⟨rfl,?_⟩;conv=>whnf
  exact fin0_c (enc:=(fun r:OctetRead × Int=>.tup [OctetRead.v r.1,V.i r.2])) H (.inr rfl) (.cons (.cell rfl rfl (Nat.le_of_ble_eq_true rfl)) (.cons (.tmp rfl) (.nil))) rfl rfl
 conv=>whnf
 refine ask_c (p_ref01_wide_v _) H rfl rfl (fun v5 H=>?_);conv=>whnf
 refine Tst.not ?_
 refine tst_d H (fun b6 H=>?_) (fun b6 H=>?_)
 ·conv=>whnf
  refine ask_c (p_ref01_with_v _ _) H rfl rfl (fun v20 H=>?_);conv=>whnf
  refine lq_ ?_;conv=>whnf
  exact fin0_c (enc:=(fun r:OctetRead × Int=>.tup [OctetRead.v r.1,V.i r.2])) H (.inr rfl) (.cons (.cell rfl rfl (Nat.le_of_ble_eq_true rfl)) (.cons (.tmp rfl) (.nil))) rfl rfl
 conv=>whnf
 refine ask_c (p_ref01_Left_v _) H rfl rfl (fun v7 H=>?_);conv=>whnf
 refine tst_c H (fun b8 H=>?_) (fun b8 H=>?_)
 ·conv=>whnf
  refine ask_c (p_ref01_with_v _ _) H rfl rfl (fun v9 H=>?_);conv=>whnf
  refine lq_ ?_;conv=>whnf
  exact fin0_c (enc:=(fun r:OctetRead × Int=>.tup [OctetRead.v r.1,V.i r.2])) H (.inr rfl) (.cons (.cell rfl rfl (Nat.le_of_ble_eq_true rfl)) (.cons (.tmp rfl) (.nil))) rfl rfl
 conv=>whnf
 obtain ⟨o11,HL12,HQ13⟩:=bind_c H
 refine loop_c [6,7] [29,30,31,32,33,34,35,36,37,38,39,40,41,42,43,44,45,46] [29,30,31,32,33,34,35,36,37,38,39,40,41,42,43,44,45,46] (fun n vals st=>(∃ y15 y16 y17,p_ref01_Num_l1  a1 n y15 y16 y17=some o11∧vals=[.i y15,.i y16]∧st=[.live [.s y17.S,.i y17.At,.i y17.Bad] 0,.live [.s (⟨#[]⟩ : ByteArray),.i (0:Int),.i (0:Int)] 0])) fuel 2 [] (⟨_,_,_,HL12,rfl,rfl⟩) (Nat.zero_le _) rfl (by kernel_rfl) (by kernel_rfl) rfl ⟨⟨rfl,rfl,rfl⟩,⟨⟨rfl,rfl,rfl⟩,trivial⟩⟩ ?_
 rintro (_ | n14) _ _ (⟨y15,y16,y17,H,rfl,rfl⟩)
 ·rw [p_ref01_Num_l1] at H;cases H
 rw [p_ref01_Num_l1] at H
 conv=>whnf
 refine tst_d H (fun b18 H=>?_) (fun b18 H=>?_)
 ·conv=>whnf
  obtain rfl:=Option.some.inj H
  have H:=HQ13
  try dsimp only at H
  refine lq_ ?_;conv=>whnf
  exact fin0_c (enc:=(fun r:OctetRead × Int=>.tup [OctetRead.v r.1,V.i r.2])) H (.inr rfl) (.cons (.cell rfl rfl (Nat.le_of_ble_eq_true rfl)) (.cons (.tmp rfl) (.nil))) rfl rfl
 conv=>whnf
 refine Ari.w ?_;conv=>whnf
 refine ixt_c H (fun c19 H=>?_);conv=>whnf
 iterate 3 (refine Ari.w ?_;conv=>whnf)
 refine lq_ ?_;conv=>whnf
 refine Ari.w ?_;conv=>whnf
 exact again_c [29,30,31,32,33,34,35,36,37,38,39,40,41,42,43,44,45,46] n14 2 [] (⟨_,_,_,H,rfl,rfl⟩) (Nat.lt_succ_self _) (Nat.zero_le _) rfl (by kernel_rfl) (by kernel_rfl) rfl ⟨⟨rfl,rfl,rfl⟩,⟨⟨rfl,rfl,rfl⟩,trivial⟩⟩
def gc84:BCode:=(.seq (R_ 2 [O_ 2 (.bx (t_ 0)) 0,O_ 4 (.al (.agg [(.lit (.string ⟨#[]⟩)),(.lit (.int .i64 0)),(.lit (.int .i64 0))])) 1,O_ 5 (.mv (.const (.string ⟨#[]⟩))) 2]) (.seq (R_ 1 [O_ 9 (.ld 3 true (t_ 2)) 0,O_ 6 (.al (.agg [(.lit (.string ⟨#[]⟩)),(.lit (.int .i64 0)),(.lit (.int .i64 0))])) 0,U_ (.st 3 (t_ 6) (t_ 9)) 1]) (.seq (R_ 0 [O_ 11 (.ld 3 true (t_ 2)) 0,O_ 12 (.cl 85 [(t_ 11),(i_ 1)]) 0,O_ 10 (.mv (t_ 12)) 0,O_ 13 (.ex (t_ 10) 0) 0,O_ 14 (.ex (t_ 10) 1) 0,U_ (.st 3 (t_ 2) (t_ 13)) 0,O_ 7 (.mv (t_ 14)) 0]) (.seq (.block 0 (.seq (R_ 0 [O_ 16 (.fa 2 (t_ 2)) 0,O_ 17 (.ld 1 false (t_ 16)) 0,O_ 18 (.bin .neq (t_ 17) (i_ 0)) 0,O_ 15 (.mv (t_ 18)) 0]) (.cond (t_ 15) (.seq (R_ 0 [O_ 19 (.ld 3 true (t_ 2)) 0,U_ (.st 3 (t_ 4) (t_ 19)) 0,O_ 5 (.mv (.const (.string ⟨#[]⟩))) 0]) .ret) (.seq (R_ 0 [O_ 21 (.mv (t_ 7)) 0,O_ 22 (.mv (t_ 1)) 0,O_ 23 (.bin .gtr (t_ 21) (t_ 22)) 0,O_ 20 (.mv (t_ 23)) 0]) (.cond (t_ 20) (.seq (R_ 0 [O_ 24 (.ld 3 true (t_ 6)) 0,O_ 25 (.cl 103 [(t_ 24),(i_ 5)]) 0,U_ (.st 3 (t_ 4) (t_ 25)) 0,O_ 5 (.mv (.const (.string ⟨#[]⟩))) 0]) .ret) (.seq (R_ 0 [O_ 27 (.mv (t_ 7)) 0,O_ 28 (.ld 3 true (t_ 2)) 0,O_ 29 (.cl 104 [(t_ 28)]) 0,O_ 30 (.bin .gtr (t_ 27) (t_ 29)) 0,O_ 26 (.mv (t_ 30)) 0]) (.cond (t_ 26) (.seq (R_ 0 [O_ 31 (.ld 3 true (t_ 6)) 0,O_ 32 (.cl 103 [(t_ 31),(i_ 3)]) 0,U_ (.st 3 (t_ 4) (t_ 32)) 0,O_ 5 (.mv (.const (.string ⟨#[]⟩))) 0]) .ret) .skip))))))) (.seq (R_ 0 [O_ 33 (.fa 0 (t_ 2)) 0,O_ 34 (.ld 1 false (t_ 33)) 0,O_ 35 (.fa 1 (t_ 2)) 0,O_ 36 (.ld 1 false (t_ 35)) 0,O_ 37 (.fa 1 (t_ 2)) 0,O_ 38 (.ld 1 false (t_ 37)) 0,O_ 39 (.mv (t_ 7)) 0,O_ 40 (.bin .add (t_ 38) (t_ 39)) 0,O_ 41 (.slt (t_ 34) (some (t_ 36)) (some (t_ 40))) 0,O_ 8 (.mv (t_ 41)) 0]) (.seq (R_ 0 [O_ 42 (.fa 1 (t_ 2)) 0,O_ 43 (.ld 1 false (t_ 42)) 0,O_ 44 (.mv (t_ 7)) 0,O_ 45 (.bin .add (t_ 43) (t_ 44)) 0,O_ 46 (.fa 1 (t_ 2)) 0,U_ (.st 1 (t_ 46) (t_ 45)) 0]) (.seq (R_ 0 [O_ 47 (.ld 3 true (t_ 2)) 0,O_ 48 (.mv (t_ 8)) 0,U_ (.st 3 (t_ 4) (t_ 47)) 0,O_ 5 (.mv (t_ 48)) 0]) .ret)))))))
theorem gc84_ok:compF Tryz.prog Tryz.f84=some (gc84.er,49,[.cell 4 3 true,.tmp 5]):=by unfold gc84;kernel_rfl
theorem p_ref01_Text_v (a0:OctetRead) (a1:Int):CallsO Tryz.prog 84 [.agg [.s a0.S,.i a0.At,.i a0.Bad],.i a1] (fun r:OctetRead × ByteArray=>.tup [OctetRead.v r.1,V.s r.2]) (p_ref01_Text a0 a1):=by
 refine callsO_comp mix Tryz.func84 gc84_ok fun r H=>?_
 rw [p_ref01_Text] at H
 conv=>whnf
 refine lq_ ?_;conv=>whnf
 refine ask_c (p_ref01_Num_v _ _) H rfl rfl (fun v1 H=>?_);conv=>whnf
 refine lq_ ?_;conv=>whnf
 refine tst_c H (fun b2 H=>?_) (fun b2 H=>?_)
 ·conv=>whnf
  refine lq_ ?_;conv=>whnf
  exact fin0_c (enc:=(fun r:OctetRead × ByteArray=>.tup [OctetRead.v r.1,V.s r.2])) H (.inr rfl) (.cons (.cell rfl rfl (Nat.le_of_ble_eq_true rfl)) (.cons (.tmp rfl) (.nil))) rfl rfl
 conv=>whnf
 refine tst_c H (fun b3 H=>?_) (fun b3 H=>?_)
 ·conv=>whnf
  refine ask_c (p_ref01_with_v _ _) H rfl rfl (fun v4 H=>?_);conv=>whnf
  refine lq_ ?_;conv=>whnf
  exact fin0_c (enc:=(fun r:OctetRead × ByteArray=>.tup [OctetRead.v r.1,V.s r.2])) H (.inr rfl) (.cons (.cell rfl rfl (Nat.le_of_ble_eq_true rfl)) (.cons (.tmp rfl) (.nil))) rfl rfl
 conv=>whnf
 refine ask_c (p_ref01_Left_v _) H rfl rfl (fun v5 H=>?_);conv=>whnf
 refine tst_c H (fun b6 H=>?_) (fun b6 H=>?_)
 ·conv=>whnf
  refine ask_c (p_ref01_with_v _ _) H rfl rfl (fun v7 H=>?_);conv=>whnf
  refine lq_ ?_;conv=>whnf
  exact fin0_c (enc:=(fun r:OctetRead × ByteArray=>.tup [OctetRead.v r.1,V.s r.2])) H (.inr rfl) (.cons (.cell rfl rfl (Nat.le_of_ble_eq_true rfl)) (.cons (.tmp rfl) (.nil))) rfl rfl
 conv=>whnf
 refine Ari.w ?_;conv=>whnf
 refine slt_c H (fun s8 H=>?_);conv=>whnf
 refine Ari.w ?_;conv=>whnf
 refine lq_ ?_;conv=>whnf
 refine lq_ ?_;conv=>whnf
 exact fin0_c (enc:=(fun r:OctetRead × ByteArray=>.tup [OctetRead.v r.1,V.s r.2])) H (.inr rfl) (.cons (.cell rfl rfl (Nat.le_of_ble_eq_true rfl)) (.cons (.tmp rfl) (.nil))) rfl rfl
def gc86:BCode:=(.seq (R_ 1 [O_ 1 (.bx (t_ 0)) 0,O_ 2 (.mv (i_ 0)) 1]) (.seq (.seq (R_ 0 [O_ 3 (.ld 3 true (t_ 1)) 0,O_ 4 (.cl 105 [(t_ 3)]) 0,O_ 5 (.bin .eql (t_ 4) (i_ 0)) 0,O_ 6 (.mv (t_ 5)) 0,⟨(some 7),.ld 3 true (t_ 1),(some (6,true)),0⟩,⟨(some 8),.cl 104 [(t_ 7)],(some (6,true)),0⟩,⟨(some 9),.bin .gtr (t_ 8) (i_ 0),(some (6,true)),0⟩,O_ 10 (.pick (t_ 6) (t_ 9) (b_ false)) 0]) (.cond (t_ 10) (.seq (R_ 0 [O_ 2 (.mv (i_ 4)) 0]) .ret) .skip)) (.seq (R_ 0 [O_ 11 (.ld 3 true (t_ 1)) 0,O_ 12 (.cl 105 [(t_ 11)]) 0,O_ 2 (.mv (t_ 12)) 0]) .ret)))
theorem gc86_ok:compF Tryz.prog Tryz.f86=some (gc86.er,13,[.tmp 2]):=by unfold gc86;kernel_rfl
theorem p_ref01_Done_v (a0:OctetRead):CallsO Tryz.prog 86 [.agg [.s a0.S,.i a0.At,.i a0.Bad]] V.i (p_ref01_Done a0):=by
 refine callsO_comp mix Tryz.func86 gc86_ok fun r H=>?_
 rw [p_ref01_Done] at H
 conv=>whnf
 refine ask_c (p_ref01_bad_v _) H rfl rfl (fun v1 H=>?_);conv=>whnf
 refine tst_d H (fun b2 H=>?_) (fun b2 H=>?_)
 ·conv=>whnf
  iterate 4 (refine Tst.F ?_;conv=>whnf)
  refine ask_c (p_ref01_bad_v _) H rfl rfl (fun v6 H=>?_);conv=>whnf
  exact fi_ H
 conv=>whnf
 refine Tst.T ?_;conv=>whnf
 refine ask_c (p_ref01_Left_v _) H rfl rfl (fun v3 H=>?_);conv=>whnf
 iterate 2 (refine Tst.T ?_;conv=>whnf)
 refine tst_c H (fun b4 H=>?_) (fun b4 H=>?_)
 ·conv=>whnf
  exact fi_ H
 conv=>whnf
 refine ask_c (p_ref01_bad_v _) H rfl rfl (fun v5 H=>?_);conv=>whnf
 exact fi_ H
end Go.Proofs.YtdbigmjlhkgeoaaGreat

namespace Go.Proofs.YtdbigmjlhkgeoaaGreat
open Go.RowKit
set_option maxRecDepth 1000000
set_option maxHeartbeats 4000000
def gc71:BCode:=(.seq (R_ 1 [O_ 2 (.al (.agg [(.lit (.int .u8 0)),(.lit (.string ⟨#[]⟩)),(.lit (.string ⟨#[]⟩)),(.lit (.string ⟨#[]⟩)),(.lit (.int .i64 0)),(.lit (.int .i64 0)),(.lit (.int .i64 0)),(.lit (.int .i64 0))])) 0,O_ 3 (.mv (i_ 0)) 1]) (.seq (.seq (R_ 0 [O_ 9 (.mv (t_ 0)) 0,O_ 10 (.bin .eql (t_ 9) (.const (.string ⟨#[]⟩))) 0]) (.cond (t_ 10) (.seq (R_ 0 [O_ 11 (.bd [(.lit (.int .u8 0)),(.lit (.string ⟨#[]⟩)),(.lit (.string ⟨#[]⟩)),(.lit (.string ⟨#[]⟩)),(.lit (.int .i64 0)),(.lit (.int .i64 0)),(.lit (.int .i64 0)),(.lit (.int .i64 0))] []) 0,U_ (.st 8 (t_ 2) (t_ 11)) 0,O_ 3 (.mv (i_ 3)) 0]) .ret) .skip)) (.seq (.seq (R_ 0 [O_ 12 (.mv (t_ 0)) 0,O_ 13 (.ixt (t_ 12) (i_ 0)) 0,O_ 14 (.cl 81 [(t_ 13)]) 0,O_ 15 (.un .not (t_ 14)) 0]) (.cond (t_ 15) (.seq (R_ 0 [O_ 16 (.bd [(.lit (.int .u8 0)),(.lit (.string ⟨#[]⟩)),(.lit (.string ⟨#[]⟩)),(.lit (.string ⟨#[]⟩)),(.lit (.int .i64 0)),(.lit (.int .i64 0)),(.lit (.int .i64 0)),(.lit (.int .i64 0))] []) 0,U_ (.st 8 (t_ 2) (t_ 16)) 0,O_ 3 (.mv (i_ 12)) 0]) .ret) .skip)) (.seq (R_ 1 [O_ 17 (.mv (t_ 0)) 0,O_ 18 (.ixt (t_ 17) (i_ 0)) 0,O_ 19 (.bd [(.lit (.int .u8 0)),(.lit (.string ⟨#[]⟩)),(.lit (.string ⟨#[]⟩)),(.lit (.string ⟨#[]⟩)),(.lit (.int .i64 0)),(.lit (.int .i64 0)),(.lit (.int .i64 0)),(.lit (.int .i64 0))] [(0,1,(t_ 18))]) 0,O_ 4 (.al (.agg [(.lit (.int .u8 0)),(.lit (.string ⟨#[]⟩)),(.lit (.string ⟨#[]⟩)),(.lit (.string ⟨#[]⟩)),(.lit (.int .i64 0)),(.lit (.int .i64 0)),(.lit (.int .i64 0)),(.lit (.int .i64 0))])) 0,U_ (.st 8 (t_ 4) (t_ 19)) 1]) (.seq (R_ 1 [O_ 20 (.mv (t_ 0)) 0,O_ 21 (.slt (t_ 20) (some (i_ 1)) none) 0,O_ 22 (.cl 82 [(t_ 21)]) 0,O_ 5 (.al (.agg [(.lit (.string ⟨#[]⟩)),(.lit (.int .i64 0)),(.lit (.int .i64 0))])) 0,U_ (.st 3 (t_ 5) (t_ 22)) 1]) (.seq (R_ 0 [O_ 23 (.mv (t_ 0)) 0,O_ 24 (.ixt (t_ 23) (i_ 0)) 0,O_ 25 (.cl 83 [(t_ 24)]) 0,O_ 6 (.mv (t_ 25)) 0]) (.seq (.seq (R_ 0 [O_ 7 (.mv (i_ 0)) 0]) (.block 0 (.loop (.seq (.seq (R_ 0 [O_ 26 (.mv (t_ 7)) 0,O_ 27 (.mv (t_ 6)) 0,O_ 28 (.lent (t_ 27)) 0,O_ 29 (.bin .lss (t_ 26) (t_ 28)) 0]) (.cond (t_ 29) .skip (.exit 0))) (.seq (.block 1 (.seq (R_ 0 [O_ 32 (.mv (t_ 6)) 0,O_ 33 (.mv (t_ 7)) 0,O_ 34 (.ixt (t_ 32) (t_ 33)) 0]) (.block 2 (.seq (R_ 0 [O_ 42 (.bin .eql (t_ 34) (.const (.int .u8 117))) 0,O_ 41 (.mv (t_ 42)) 0]) (.cond (t_ 41) (R_ 0 [O_ 44 (.ld 3 true (t_ 5)) 0,O_ 45 (.cl 84 [(t_ 44),(i_ 33)]) 0,O_ 43 (.mv (t_ 45)) 0,O_ 46 (.ex (t_ 43) 0) 0,O_ 47 (.ex (t_ 43) 1) 0,U_ (.st 3 (t_ 5) (t_ 46)) 0,O_ 48 (.fa 1 (t_ 4)) 0,U_ (.st 1 (t_ 48) (t_ 47)) 0]) (.seq (R_ 0 [O_ 50 (.bin .eql (t_ 34) (.const (.int .u8 114))) 0,O_ 49 (.mv (t_ 50)) 0]) (.cond (t_ 49) (R_ 0 [O_ 52 (.ld 3 true (t_ 5)) 0,O_ 53 (.cl 84 [(t_ 52),(i_ 12)]) 0,O_ 51 (.mv (t_ 53)) 0,O_ 54 (.ex (t_ 51) 0) 0,O_ 55 (.ex (t_ 51) 1) 0,U_ (.st 3 (t_ 5) (t_ 54)) 0,O_ 56 (.fa 2 (t_ 4)) 0,U_ (.st 1 (t_ 56) (t_ 55)) 0]) (.seq (R_ 0 [O_ 58 (.bin .eql (t_ 34) (.const (.int .u8 109))) 0,O_ 57 (.mv (t_ 58)) 0]) (.cond (t_ 57) (R_ 0 [O_ 60 (.ld 3 true (t_ 5)) 0,O_ 61 (.cl 84 [(t_ 60),(i_ 24)]) 0,O_ 59 (.mv (t_ 61)) 0,O_ 62 (.ex (t_ 59) 0) 0,O_ 63 (.ex (t_ 59) 1) 0,U_ (.st 3 (t_ 5) (t_ 62)) 0,O_ 64 (.fa 3 (t_ 4)) 0,U_ (.st 1 (t_ 64) (t_ 63)) 0]) (.seq (R_ 0 [O_ 66 (.bin .eql (t_ 34) (.const (.int .u8 115))) 0,O_ 65 (.mv (t_ 66)) 0]) (.cond (t_ 65) (R_ 0 [O_ 68 (.ld 3 true (t_ 5)) 0,O_ 69 (.cl 85 [(t_ 68),(i_ 1)]) 0,O_ 67 (.mv (t_ 69)) 0,O_ 70 (.ex (t_ 67) 0) 0,O_ 71 (.ex (t_ 67) 1) 0,U_ (.st 3 (t_ 5) (t_ 70)) 0,O_ 72 (.fa 4 (t_ 4)) 0,U_ (.st 1 (t_ 72) (t_ 71)) 0]) (.seq (R_ 0 [O_ 74 (.bin .eql (t_ 34) (.const (.int .u8 112))) 0,O_ 73 (.mv (t_ 74)) 0]) (.cond (t_ 73) (.seq (R_ 0 [O_ 76 (.ld 3 true (t_ 5)) 0,O_ 77 (.cl 85 [(t_ 76),(i_ 1)]) 0,O_ 75 (.mv (t_ 77)) 0,O_ 78 (.ex (t_ 75) 0) 0,O_ 79 (.ex (t_ 75) 1) 0,U_ (.st 3 (t_ 5) (t_ 78)) 0,O_ 80 (.fa 5 (t_ 4)) 0,U_ (.st 1 (t_ 80) (t_ 79)) 0]) (R_ 0 [O_ 81 (.fa 5 (t_ 4)) 0,O_ 82 (.ld 1 false (t_ 81)) 0,O_ 83 (.bin .sub (t_ 82) (i_ 128)) 0,O_ 84 (.fa 5 (t_ 4)) 0,U_ (.st 1 (t_ 84) (t_ 83)) 0])) (.seq (R_ 0 [O_ 86 (.bin .eql (t_ 34) (.const (.int .u8 99))) 0,O_ 85 (.mv (t_ 86)) 0]) (.cond (t_ 85) (R_ 0 [O_ 88 (.ld 3 true (t_ 5)) 0,O_ 89 (.cl 85 [(t_ 88),(i_ 1)]) 0,O_ 87 (.mv (t_ 89)) 0,O_ 90 (.ex (t_ 87) 0) 0,O_ 91 (.ex (t_ 87) 1) 0,U_ (.st 3 (t_ 5) (t_ 90)) 0,O_ 92 (.fa 6 (t_ 4)) 0,U_ (.st 1 (t_ 92) (t_ 91)) 0]) (R_ 0 [O_ 36 (.ld 3 true (t_ 5)) 0,O_ 37 (.cl 85 [(t_ 36),(i_ 6)]) 0,O_ 35 (.mv (t_ 37)) 0,O_ 38 (.ex (t_ 35) 0) 0,O_ 39 (.ex (t_ 35) 1) 0,U_ (.st 3 (t_ 5) (t_ 38)) 0,O_ 40 (.fa 7 (t_ 4)) 0,U_ (.st 1 (t_ 40) (t_ 39)) 0])))))))))))))))) (R_ 0 [O_ 30 (.mv (t_ 7)) 0,O_ 31 (.bin .add (t_ 30) (i_ 1)) 0,O_ 7 (.mv (t_ 31)) 0])))))) (.seq (R_ 0 [O_ 93 (.ld 3 true (t_ 5)) 0,O_ 94 (.cl 86 [(t_ 93)]) 0,O_ 8 (.mv (t_ 94)) 0]) (.seq (.seq (R_ 0 [O_ 95 (.mv (t_ 8)) 0,O_ 96 (.bin .eql (t_ 95) (i_ 0)) 0]) (.cond (t_ 96) (R_ 0 [O_ 97 (.ld 8 true (t_ 4)) 0,O_ 98 (.cl 87 [(t_ 97)]) 0,O_ 8 (.mv (t_ 98)) 0]) .skip)) (.seq (.seq (R_ 0 [O_ 99 (.mv (t_ 8)) 0,O_ 100 (.bin .neq (t_ 99) (i_ 0)) 0]) (.cond (t_ 100) (.seq (R_ 0 [O_ 101 (.bd [(.lit (.int .u8 0)),(.lit (.string ⟨#[]⟩)),(.lit (.string ⟨#[]⟩)),(.lit (.string ⟨#[]⟩)),(.lit (.int .i64 0)),(.lit (.int .i64 0)),(.lit (.int .i64 0)),(.lit (.int .i64 0))] []) 0,O_ 102 (.mv (t_ 8)) 0,U_ (.st 8 (t_ 2) (t_ 101)) 0,O_ 3 (.mv (t_ 102)) 0]) .ret) .skip)) (.seq (R_ 0 [O_ 103 (.ld 8 true (t_ 4)) 0,U_ (.st 8 (t_ 2) (t_ 103)) 0,O_ 3 (.mv (i_ 0)) 0]) .ret)))))))))))
theorem gc71_ok:compF Tryz.prog Tryz.f71=some (gc71.er,104,[.cell 2 8 true,.tmp 3]):=by unfold gc71;kernel_rfl
theorem p_ref10_Read_v (a0:ByteArray):CallsO Tryz.prog 71 [.s a0] (fun r:StanzaStanza × Int=>.tup [StanzaStanza.v r.1,V.i r.2]) (p_ref10_Read a0):=by
 refine callsO_comp mix Tryz.func71 gc71_ok fun r H=>?_
 rw [p_ref10_Read] at H
 conv=>whnf
 refine tst_c H (fun b1 H=>?_) (fun b1 H=>?_)
 ·conv=>whnf
  refine lq_ ?_;conv=>whnf
  exact fin0_c (enc:=(fun r:StanzaStanza × Int=>.tup [StanzaStanza.v r.1,V.i r.2])) H (.inr rfl) (.cons (.cell rfl rfl (Nat.le_of_ble_eq_true rfl)) (.cons (.tmp rfl) (.nil))) rfl rfl
 conv=>whnf
 refine ixt_c H (fun c2 H=>?_);conv=>whnf
 refine ask_c (p_ref10_known_v _) H rfl rfl (fun v3 H=>?_);conv=>whnf
 refine Tst.not ?_
 refine tst_d H (fun b4 H=>?_) (fun b4 H=>?_)
 ·conv=>whnf
  refine lq_ ?_;conv=>whnf
  exact fin0_c (enc:=(fun r:StanzaStanza × Int=>.tup [StanzaStanza.v r.1,V.i r.2])) H (.inr rfl) (.cons (.cell rfl rfl (Nat.le_of_ble_eq_true rfl)) (.cons (.tmp rfl) (.nil))) rfl rfl
 conv=>whnf
 refine ixt_c H (fun c5 H=>?_);conv=>whnf
 refine lq_ ?_;conv=>whnf
 refine slt_c H (fun s6 H=>?_);conv=>whnf
 refine ask_c (p_ref01_Open_v _) H rfl rfl (fun v7 H=>?_);conv=>whnf
 refine lq_ ?_;conv=>whnf
 refine ixt_c H (fun c8 H=>?_);conv=>whnf
 refine ask_c (p_ref10_Has_v _) H rfl rfl (fun v9 H=>?_);conv=>whnf
 obtain ⟨o11,HL12,HQ13⟩:=bind_c H
 refine loop_c [7] [26,27,28,29,30,31,32,33,34,35,36,37,38,39,40,41,42,43,44,45,46,47,48,49,50,51,52,53,54,55,56,57,58,59,60,61,62,63,64,65,66,67,68,69,70,71,72,73,74,75,76,77,78,79,80,81,82,83,84,85,86,87,88,89,90,91,92] [26,27,28,29,30,31,32,33,34,35,36,37,38,39,40,41,42,43,44,45,46,47,48,49,50,51,52,53,54,55,56,57,58,59,60,61,62,63,64,65,66,67,68,69,70,71,72,73,74,75,76,77,78,79,80,81,82,83,84,85,86,87,88,89,90,91,92] (fun n vals st=>(∃ y15 y16 y17,p_ref10_Read_l1  v9 n y15 y16 y17=some o11∧vals=[.i y15]∧st=[.live [.y8 (0:Int),.s (⟨#[]⟩ : ByteArray),.s (⟨#[]⟩ : ByteArray),.s (⟨#[]⟩ : ByteArray),.i (0:Int),.i (0:Int),.i (0:Int),.i (0:Int)] 0,.live [.y8 y16.Kind,.s y16.User,.s y16.Res,.s y16.Name,.i y16.Show,.i y16.Prio,.i y16.Code,.i y16.N] 0,.live [.s y17.S,.i y17.At,.i y17.Bad] 0])) fuel 3 [] (⟨_,_,_,HL12,rfl,rfl⟩) (Nat.zero_le _) rfl (by kernel_rfl) (by kernel_rfl) rfl ⟨⟨rfl,rfl,rfl⟩,⟨⟨rfl,rfl,rfl⟩,⟨⟨rfl,rfl,rfl⟩,trivial⟩⟩⟩ ?_
 rintro (_ | n14) _ _ (⟨y15,y16,y17,H,rfl,rfl⟩)
 ·rw [p_ref10_Read_l1] at H;cases H
 rw [p_ref10_Read_l1] at H
 conv=>whnf
 refine tst_d H (fun b18 H=>?_) (fun b18 H=>?_)
 ·conv=>whnf
  obtain rfl:=Option.some.inj H
  have H:=HQ13
  try dsimp only at H
  refine ask_c (p_ref01_Done_v _) H rfl rfl (fun v33 H=>?_);conv=>whnf
  refine tst_d H (fun b34 H=>?_) (fun b34 H=>?_)
  ·conv=>whnf
   refine tst_c H (fun b37 H=>?_) (fun b37 H=>?_)
   ·conv=>whnf
    refine lq_ ?_;conv=>whnf
    exact fin0_c (enc:=(fun r:StanzaStanza × Int=>.tup [StanzaStanza.v r.1,V.i r.2])) H (.inr rfl) (.cons (.cell rfl rfl (Nat.le_of_ble_eq_true rfl)) (.cons (.tmp rfl) (.nil))) rfl rfl
   conv=>whnf
   refine lq_ ?_;conv=>whnf
   exact fin0_c (enc:=(fun r:StanzaStanza × Int=>.tup [StanzaStanza.v r.1,V.i r.2])) H (.inr rfl) (.cons (.cell rfl rfl (Nat.le_of_ble_eq_true rfl)) (.cons (.tmp rfl) (.nil))) rfl rfl
  conv=>whnf
  refine ask_c (p_ref10_Check_v _) H rfl rfl (fun v35 H=>?_);conv=>whnf
  refine tst_c H (fun b36 H=>?_) (fun b36 H=>?_)
  ·conv=>whnf
   refine lq_ ?_;conv=>whnf
   exact fin0_c (enc:=(fun r:StanzaStanza × Int=>.tup [StanzaStanza.v r.1,V.i r.2])) H (.inr rfl) (.cons (.cell rfl rfl (Nat.le_of_ble_eq_true rfl)) (.cons (.tmp rfl) (.nil))) rfl rfl
  conv=>whnf
  refine lq_ ?_;conv=>whnf
  exact fin0_c (enc:=(fun r:StanzaStanza × Int=>.tup [StanzaStanza.v r.1,V.i r.2])) H (.inr rfl) (.cons (.cell rfl rfl (Nat.le_of_ble_eq_true rfl)) (.cons (.tmp rfl) (.nil))) rfl rfl
 conv=>whnf
 refine ixt_c H (fun c19 H=>?_);conv=>whnf
 refine tst_c H (fun b20 H=>?_) (fun b20 H=>?_)
 ·conv=>whnf
  refine ask_c (p_ref01_Text_v _ _) H rfl rfl (fun v21 H=>?_);conv=>whnf
  refine lq_ ?_;conv=>whnf
  refine lq_ ?_;conv=>whnf
  refine Ari.w ?_;conv=>whnf
  exact again_c [26,27,28,29,30,31,32,33,34,35,36,37,38,39,40,41,42,43,44,45,46,47,48,49,50,51,52,53,54,55,56,57,58,59,60,61,62,63,64,65,66,67,68,69,70,71,72,73,74,75,76,77,78,79,80,81,82,83,84,85,86,87,88,89,90,91,92] n14 3 [] (⟨_,_,_,H,rfl,rfl⟩) (Nat.lt_succ_self _) (Nat.zero_le _) rfl (by kernel_rfl) (by kernel_rfl) rfl ⟨⟨rfl,rfl,rfl⟩,⟨⟨rfl,rfl,rfl⟩,⟨⟨rfl,rfl,rfl⟩,trivial⟩⟩⟩
 conv=>whnf
 refine tst_c H (fun b22 H=>?_) (fun b22 H=>?_)
 ·conv=>whnf
  refine ask_c (p_ref01_Text_v _ _) H rfl rfl (fun v23 H=>?_);conv=>whnf
  refine lq_ ?_;conv=>whnf
  refine lq_ ?_;conv=>whnf
  refine Ari.w ?_;conv=>whnf
  exact again_c [26,27,28,29,30,31,32,33,34,35,36,37,38,39,40,41,42,43,44,45,46,47,48,49,50,51,52,53,54,55,56,57,58,59,60,61,62,63,64,65,66,67,68,69,70,71,72,73,74,75,76,77,78,79,80,81,82,83,84,85,86,87,88,89,90,91,92] n14 3 [] (⟨_,_,_,H,rfl,rfl⟩) (Nat.lt_succ_self _) (Nat.zero_le _) rfl (by kernel_rfl) (by kernel_rfl) rfl ⟨⟨rfl,rfl,rfl⟩,⟨⟨rfl,rfl,rfl⟩,⟨⟨rfl,rfl,rfl⟩,trivial⟩⟩⟩
 conv=>whnf
 refine tst_c H (fun b24 H=>?_) (fun b24 H=>?_)
 ·conv=>whnf
  refine ask_c (p_ref01_Text_v _ _) H rfl rfl (fun v25 H=>?_);conv=>whnf
  refine lq_ ?_;conv=>whnf
  refine lq_ ?_;conv=>whnf
  refine Ari.w ?_;conv=>whnf
  exact again_c [26,27,28,29,30,31,32,33,34,35,36,37,38,39,40,41,42,43,44,45,46,47,48,49,50,51,52,53,54,55,56,57,58,59,60,61,62,63,64,65,66,67,68,69,70,71,72,73,74,75,76,77,78,79,80,81,82,83,84,85,86,87,88,89,90,91,92] n14 3 [] (⟨_,_,_,H,rfl,rfl⟩) (Nat.lt_succ_self _) (Nat.zero_le _) rfl (by kernel_rfl) (by kernel_rfl) rfl ⟨⟨rfl,rfl,rfl⟩,⟨⟨rfl,rfl,rfl⟩,⟨⟨rfl,rfl,rfl⟩,trivial⟩⟩⟩
 conv=>whnf
 refine tst_c H (fun b26 H=>?_) (fun b26 H=>?_)
 ·conv=>whnf
  refine ask_c (p_ref01_Num_v _ _) H rfl rfl (fun v27 H=>?_);conv=>whnf
  refine lq_ ?_;conv=>whnf
  refine lq_ ?_;conv=>whnf
  refine Ari.w ?_;conv=>whnf
  exact again_c [26,27,28,29,30,31,32,33,34,35,36,37,38,39,40,41,42,43,44,45,46,47,48,49,50,51,52,53,54,55,56,57,58,59,60,61,62,63,64,65,66,67,68,69,70,71,72,73,74,75,76,77,78,79,80,81,82,83,84,85,86,87,88,89,90,91,92] n14 3 [] (⟨_,_,_,H,rfl,rfl⟩) (Nat.lt_succ_self _) (Nat.zero_le _) rfl (by kernel_rfl) (by kernel_rfl) rfl ⟨⟨rfl,rfl,rfl⟩,⟨⟨rfl,rfl,rfl⟩,⟨⟨rfl,rfl,rfl⟩,trivial⟩⟩⟩
 conv=>whnf
 refine tst_c H (fun b28 H=>?_) (fun b28 H=>?_)
 ·conv=>whnf
  refine ask_c (p_ref01_Num_v _ _) H rfl rfl (fun v29 H=>?_);conv=>whnf
  refine lq_ ?_;conv=>whnf
  refine lq_ ?_;conv=>whnf
  refine Ari.w ?_;conv=>whnf
  refine lq_ ?_;conv=>whnf
  refine Ari.w ?_;conv=>whnf
  exact again_c [26,27,28,29,30,31,32,33,34,35,36,37,38,39,40,41,42,43,44,45,46,47,48,49,50,51,52,53,54,55,56,57,58,59,60,61,62,63,64,65,66,67,68,69,70,71,72,73,74,75,76,77,78,79,80,81,82,83,84,85,86,87,88,89,90,91,92] n14 3 [] (⟨_,_,_,H,rfl,rfl⟩) (Nat.lt_succ_self _) (Nat.zero_le _) rfl (by kernel_rfl) (by kernel_rfl) rfl ⟨⟨rfl,rfl,rfl⟩,⟨⟨rfl,rfl,rfl⟩,⟨⟨rfl,rfl,rfl⟩,trivial⟩⟩⟩
 conv=>whnf
 refine tst_c H (fun b30 H=>?_) (fun b30 H=>?_)
 ·conv=>whnf
  refine ask_c (p_ref01_Num_v _ _) H rfl rfl (fun v31 H=>?_);conv=>whnf
  refine lq_ ?_;conv=>whnf
  refine lq_ ?_;conv=>whnf
  refine Ari.w ?_;conv=>whnf
  exact again_c [26,27,28,29,30,31,32,33,34,35,36,37,38,39,40,41,42,43,44,45,46,47,48,49,50,51,52,53,54,55,56,57,58,59,60,61,62,63,64,65,66,67,68,69,70,71,72,73,74,75,76,77,78,79,80,81,82,83,84,85,86,87,88,89,90,91,92] n14 3 [] (⟨_,_,_,H,rfl,rfl⟩) (Nat.lt_succ_self _) (Nat.zero_le _) rfl (by kernel_rfl) (by kernel_rfl) rfl ⟨⟨rfl,rfl,rfl⟩,⟨⟨rfl,rfl,rfl⟩,⟨⟨rfl,rfl,rfl⟩,trivial⟩⟩⟩
 conv=>whnf
 refine ask_c (p_ref01_Num_v _ _) H rfl rfl (fun v32 H=>?_);conv=>whnf
 refine lq_ ?_;conv=>whnf
 refine lq_ ?_;conv=>whnf
 refine Ari.w ?_;conv=>whnf
 exact again_c [26,27,28,29,30,31,32,33,34,35,36,37,38,39,40,41,42,43,44,45,46,47,48,49,50,51,52,53,54,55,56,57,58,59,60,61,62,63,64,65,66,67,68,69,70,71,72,73,74,75,76,77,78,79,80,81,82,83,84,85,86,87,88,89,90,91,92] n14 3 [] (⟨_,_,_,H,rfl,rfl⟩) (Nat.lt_succ_self _) (Nat.zero_le _) rfl (by kernel_rfl) (by kernel_rfl) rfl ⟨⟨rfl,rfl,rfl⟩,⟨⟨rfl,rfl,rfl⟩,⟨⟨rfl,rfl,rfl⟩,trivial⟩⟩⟩
def gc54:BCode:=(.seq (R_ 2 [O_ 2 (.bx (t_ 0)) 0,O_ 4 (.al (.agg [(.lit (.string ⟨#[]⟩)),(.lit (.int .i64 0)),(.lit (.int .i64 0))])) 1,O_ 5 (.mv (.const (.slice none 0 0))) 2]) (.seq (R_ 0 [O_ 12 (.ld 3 true (t_ 2)) 0,O_ 13 (.mv (t_ 1)) 0,O_ 14 (.cl 70 [(t_ 12),(t_ 13)]) 0,O_ 11 (.mv (t_ 14)) 0,O_ 15 (.ex (t_ 11) 0) 0,O_ 16 (.ex (t_ 11) 1) 0,U_ (.st 3 (t_ 2) (t_ 15)) 0,O_ 6 (.mv (t_ 16)) 0]) (.seq (R_ 0 [O_ 7 (.mv (.const (.slice none 0 0))) 0]) (.seq (.seq (R_ 0 [O_ 8 (.mv (i_ 0)) 0]) (.block 0 (.loop (.seq (.seq (R_ 0 [O_ 17 (.mv (t_ 8)) 0,O_ 18 (.mv (t_ 6)) 0,O_ 19 (.lens (t_ 18)) 0,O_ 20 (.bin .lss (t_ 17) (t_ 19)) 0]) (.cond (t_ 20) .skip (.exit 0))) (.seq (.block 1 (.seq (R_ 1 [O_ 24 (.mv (t_ 6)) 0,O_ 25 (.mv (t_ 8)) 0,O_ 26 (.ixs 1 (t_ 24) (t_ 25)) 0,O_ 27 (.ld 1 false (t_ 26)) 0,O_ 28 (.cl 71 [(t_ 27)]) 0,O_ 23 (.mv (t_ 28)) 0,O_ 29 (.ex (t_ 23) 0) 0,O_ 30 (.ex (t_ 23) 1) 0,O_ 9 (.al (.agg [(.lit (.int .u8 0)),(.lit (.string ⟨#[]⟩)),(.lit (.string ⟨#[]⟩)),(.lit (.string ⟨#[]⟩)),(.lit (.int .i64 0)),(.lit (.int .i64 0)),(.lit (.int .i64 0)),(.lit (.int .i64 0))])) 0,U_ (.st 8 (t_ 9) (t_ 29)) 1,O_ 10 (.mv (t_ 30)) 1]) (R_ 2 [O_ 31 (.mv (t_ 7)) 0,O_ 32 (.ld 8 true (t_ 9)) 0,O_ 33 (.mv (t_ 10)) 0,O_ 34 (.bd [(.lit (.int .u8 0)),(.lit (.string ⟨#[]⟩)),(.lit (.string ⟨#[]⟩)),(.lit (.string ⟨#[]⟩)),(.lit (.int .i64 0)),(.lit (.int .i64 0)),(.lit (.int .i64 0)),(.lit (.int .i64 0)),(.lit (.int .i64 0))] [(0,8,(t_ 32)),(8,1,(t_ 33))]) 0,O_ 35 (.bs 9 1 [(.lit (.int .u8 0)),(.lit (.string ⟨#[]⟩)),(.lit (.string ⟨#[]⟩)),(.lit (.string ⟨#[]⟩)),(.lit (.int .i64 0)),(.lit (.int .i64 0)),(.lit (.int .i64 0)),(.lit (.int .i64 0)),(.lit (.int .i64 0))] [(0,(t_ 34))]) 0,O_ 36 (.ap 9 96 (t_ 31) (t_ 35)) 1,O_ 7 (.mv (t_ 36)) 2]))) (R_ 0 [O_ 21 (.mv (t_ 8)) 0,O_ 22 (.bin .add (t_ 21) (i_ 1)) 0,O_ 8 (.mv (t_ 22)) 0])))))) (.seq (R_ 0 [O_ 37 (.ld 3 true (t_ 2)) 0,O_ 38 (.mv (t_ 7)) 0,U_ (.st 3 (t_ 4) (t_ 37)) 0,O_ 5 (.mv (t_ 38)) 0]) .ret)))))
theorem gc54_ok:compF Tryz.prog Tryz.f54=some (gc54.er,39,[.cell 4 3 true,.tmp 5]):=by unfold gc54;kernel_rfl
theorem p_ref12_Feed_v (a0:DeframeState) (a1:ByteArray):CallsO Tryz.prog 54 [.agg [.s a0.Buf,.i a0.Bad,.i a0.Seen],.s a1] (fun r:DeframeState × (List DeframeItem)=>.tup [DeframeState.v r.1,(fun l:List DeframeItem=>V.sl (l.map DeframeItem.v) false) r.2]) (p_ref12_Feed a0 a1):=by
 refine callsO_comp mix Tryz.func54 gc54_ok fun r H=>?_
 rw [p_ref12_Feed] at H
 conv=>whnf
 refine ask_c (p_ref12_Texts_v _ _) H rfl rfl (fun v1 H=>?_);conv=>whnf
 refine lq_ ?_;conv=>whnf
 obtain ⟨o3,HL4,HQ5⟩:=bind_c H
 refine loop_c [7,8] [9,10,17,18,19,20,21,22,23,24,25,26,27,28,29,30,31,32,33,34,35,36] [9,10,17,18,19,20,21,22,23,24,25,26,27,28,29,30,31,32,33,34,35,36] (fun n vals st=>(∃ y7,p_ref12_Feed_l1  v1.2 n [] y7=some o3∧vals=[.sl (List.map DeframeItem.v []) true,.i y7]∧st=[.live [.s v1.1.Buf,.i v1.1.Bad,.i v1.1.Seen] 0,.live [.s (⟨#[]⟩ : ByteArray),.i (0:Int),.i (0:Int)] 0])∨(∃ y12 y13,p_ref12_Feed_l1  v1.2 n y12 y13=some o3∧vals=[.osl 2 0 (List.length y12) 9 false,.i y13]∧st=[.live [.s v1.1.Buf,.i v1.1.Bad,.i v1.1.Seen] 0,.live [.s (⟨#[]⟩ : ByteArray),.i (0:Int),.i (0:Int)] 0,.live (cellsM DeframeItem.v y12) (cellsM DeframeItem.v y12).length])) fuel 2 [] (.inl (⟨_,HL4,rfl,rfl⟩)) (Nat.zero_le _) rfl (by kernel_rfl) (by kernel_rfl) rfl ⟨⟨rfl,rfl,rfl⟩,⟨⟨rfl,rfl,rfl⟩,trivial⟩⟩ ?_
 rintro (_ | n6) _ _ (⟨y7,H,rfl,rfl⟩ | ⟨y12,y13,H,rfl,rfl⟩)
 ·rw [p_ref12_Feed_l1] at H;cases H
 ·rw [p_ref12_Feed_l1] at H;cases H
 ·rw [p_ref12_Feed_l1] at H
  conv=>whnf
  refine LenQ.M ?_;conv=>whnf
  refine tst_d H (fun b8 H=>?_) (fun b8 H=>?_)
  ·conv=>whnf
   obtain rfl:=Option.some.inj H
   have H:=HQ5
   try dsimp only at H
   refine lq_ ?_;conv=>whnf
   refine finR_c (enc:=(fun r:DeframeState × (List DeframeItem)=>.tup [DeframeState.v r.1,(fun l:List DeframeItem=>V.sl (l.map DeframeItem.v) false) r.2])) H ?_;conv=>whnf
   exact ⟨_,.tup (.cons (fzagg (.cons (.id rfl) (.cons (.id rfl) (.cons (.id rfl) (.nil)))) rfl) (.cons (.c (.slw)) (.nil)))⟩
  conv=>whnf
  refine ixs_c (f:=V.s) H (fun _=>rfl) (fun x9 H=>?_);conv=>whnf
  refine ask_c (p_ref10_Read_v _) H rfl rfl (fun v10 H=>?_);conv=>whnf
  refine lq_ ?_;conv=>whnf
  refine appN_c (f:=DeframeItem.v) H (fun _=>rfl) (srcM (f:=DeframeItem.v) (fun _=>rfl) [] true) rfl (.v (srcOwn (f:=DeframeItem.v) (l:=[(DeframeItem.mk v10.1 v10.2)]) (fun _=>rfl) rfl rfl rfl)) (by decide) rfl (by simp) (fun l11 H=>?_);conv=>whnf
  refine Ari.w ?_;conv=>whnf
  exact again_c [9,10,17,18,19,20,21,22,23,24,25,26,27,28,29,30,31,32,33,34,35,36] n6 3 [0,1,4] (.inr (⟨_,_,H,rfl,rfl⟩)) (Nat.lt_succ_self _) (Nat.zero_le _) rfl (by kernel_rfl) (by kernel_rfl) rfl ⟨⟨rfl,rfl,rfl⟩,⟨⟨rfl,rfl,rfl⟩,wkB_live0 rfl (cellsM_idlt (f:=DeframeItem.v) (fun _=>rfl) _) rfl trivial⟩⟩
 rw [p_ref12_Feed_l1] at H
 conv=>whnf
 refine LenQ.M ?_;conv=>whnf
 refine tst_d H (fun b14 H=>?_) (fun b14 H=>?_)
 ·conv=>whnf
  obtain rfl:=Option.some.inj H
  have H:=HQ5
  try dsimp only at H
  refine lq_ ?_;conv=>whnf
  refine finR_c (enc:=(fun r:DeframeState × (List DeframeItem)=>.tup [DeframeState.v r.1,(fun l:List DeframeItem=>V.sl (l.map DeframeItem.v) false) r.2])) H ?_;conv=>whnf
  exact ⟨_,.tup (.cons (fzagg (.cons (.id rfl) (.cons (.id rfl) (.cons (.id rfl) (.nil)))) rfl) (.cons (.c (fzown (f:=DeframeItem.v) (l:=y12) rfl rfl (fun _=>rfl) (fun _=>rfl))) (.nil)))⟩
 conv=>whnf
 refine ixs_c (f:=V.s) H (fun _=>rfl) (fun x15 H=>?_);conv=>whnf
 refine ask_c (p_ref10_Read_v _) H rfl rfl (fun v16 H=>?_);conv=>whnf
 refine lq_ ?_;conv=>whnf
 refine appO_c (f:=DeframeItem.v) H (fun _=>rfl) rfl (Nat.le_refl _) (.v (srcOwn (f:=DeframeItem.v) (l:=[(DeframeItem.mk v16.1 v16.2)]) (fun _=>rfl) rfl rfl rfl)) (by decide) rfl (by simp) (fun l17 H=>?_);conv=>whnf
 refine Ari.w ?_;conv=>whnf
 exact again_c [9,10,17,18,19,20,21,22,23,24,25,26,27,28,29,30,31,32,33,34,35,36] n6 3 [0,1,5] (.inr (⟨_,_,H,rfl,rfl⟩)) (Nat.lt_succ_self _) (Nat.zero_le _) rfl (by kernel_rfl) (by kernel_rfl) rfl ⟨⟨rfl,rfl,rfl⟩,⟨⟨rfl,rfl,rfl⟩,wkB_live0 rfl (cellsM_idlt (f:=DeframeItem.v) (fun _=>rfl) _) rfl trivial⟩⟩
end Go.Proofs.YtdbigmjlhkgeoaaGreat

namespace Go.Proofs.YtdbigmjlhkgeoaaGreat
open Go.RowKit
set_option maxRecDepth 100000
set_option maxHeartbeats 4000000
def gc23:BCode:=(.seq (R_ 0 [O_ 6 (.mv (.const (.slice none 0 0))) 0,O_ 7 (.mv (.const (.slice none 0 0))) 0,O_ 8 (.mv (i_ 0)) 0]) (.seq (R_ 1 [O_ 14 (.mv (t_ 0)) 0,O_ 15 (.mv (t_ 1)) 0,O_ 16 (.cl 27 [(t_ 14),(t_ 15)]) 0,O_ 13 (.mv (t_ 16)) 0,O_ 17 (.ex (t_ 13) 0) 0,O_ 18 (.ex (t_ 13) 1) 0,O_ 9 (.al (.agg [(.lit (.int .i64 0)),(.lit (.int .i64 0)),(.lit (.string ⟨#[]⟩)),(.lit (.string ⟨#[]⟩)),(.lit (.int .i64 0)),(.lit (.string ⟨#[]⟩)),(.lit (.int .i64 0)),(.lit (.int .i64 0))])) 0,U_ (.st 8 (t_ 9) (t_ 17)) 1,O_ 10 (.mv (t_ 18)) 1]) (.seq (.block 0 (.seq (R_ 0 [O_ 20 (.mv (t_ 0)) 0,O_ 21 (.cl 31 [(t_ 20)]) 0,O_ 22 (.bin .neq (t_ 21) (i_ 0)) 0,O_ 19 (.mv (t_ 22)) 0]) (.cond (t_ 19) (.seq (R_ 0 [O_ 23 (.mv (t_ 0)) 0,O_ 24 (.mv (t_ 0)) 0,O_ 25 (.cl 31 [(t_ 24)]) 0,O_ 6 (.mv (t_ 23)) 0,O_ 7 (.mv (.const (.slice none 0 0))) 0,O_ 8 (.mv (t_ 25)) 0]) .ret) (.seq (R_ 0 [O_ 27 (.mv (t_ 10)) 0,O_ 28 (.un .not (t_ 27)) 0,O_ 26 (.mv (t_ 28)) 0]) (.cond (t_ 26) (.seq (R_ 0 [O_ 29 (.mv (t_ 0)) 0,O_ 6 (.mv (t_ 29)) 0,O_ 7 (.mv (.const (.slice none 0 0))) 0,O_ 8 (.mv (i_ 6)) 0]) .ret) .skip))))) (.seq (R_ 1 [O_ 31 (.fa 5 (t_ 9)) 0,O_ 32 (.ld 3 true (t_ 31)) 0,O_ 33 (.mv (t_ 2)) 0,O_ 34 (.cl 54 [(t_ 32),(t_ 33)]) 0,O_ 30 (.mv (t_ 34)) 0,O_ 35 (.ex (t_ 30) 0) 0,O_ 36 (.ex (t_ 30) 1) 0,O_ 11 (.al (.agg [(.lit (.string ⟨#[]⟩)),(.lit (.int .i64 0)),(.lit (.int .i64 0))])) 0,U_ (.st 3 (t_ 11) (t_ 35)) 1,O_ 12 (.mv (t_ 36)) 1]) (.seq (R_ 0 [O_ 37 (.ld 3 true (t_ 11)) 0,O_ 38 (.fa 5 (t_ 9)) 0,U_ (.st 3 (t_ 38) (t_ 37)) 0]) (.seq (.reg 0 [O_ 39 (.mv (t_ 0)) 0,O_ 40 (.mv (t_ 0)) 0,O_ 41 (.mv (t_ 1)) 0,O_ 42 (.cl 44 [(t_ 40),(t_ 41)]) 0,O_ 43 (.ld 8 true (t_ 9)) 0,O_ 44 (.cl 51 [(t_ 39),(t_ 42),(t_ 43)]) 0,O_ 45 (.mv (t_ 12)) 0,O_ 46 (.fa 1 (t_ 11)) 0,O_ 47 (.ld 1 false (t_ 46)) 0,O_ 6 (.mv (t_ 44)) 0,O_ 7 (.mv (t_ 45)) 0,O_ 8 (.mv (t_ 47)) 0] (some [[],[],[],[2,1],[],[4,1,2,3,0],[],[],[7],[0,3,2,1,4,5],[5,4,1,2,3,0,9,6],[6,9,0,3,2,1,4,5,10,7,8]]) 0 []) .ret))))))
theorem gc23_ok:compF Tryz.prog Tryz.f23=some (gc23.er,48,[.tmp 6,.tmp 7,.tmp 8]):=by unfold gc23;kernel_rfl
theorem p_ref31_Feed_v {u1:Bool} (a0:List ConnsConn) (a1:Int) (a2:ByteArray):CallsO Tryz.prog 23 [.sl (List.map ConnsConn.v a0) u1,.i a1,.s a2] (fun r:(List ConnsConn) × (List DeframeItem) × Int=>.tup [(fun l:List ConnsConn=>V.sl (l.map ConnsConn.v) false) r.1,(fun l:List DeframeItem=>V.sl (l.map DeframeItem.v) false) r.2.1,V.i r.2.2]) (p_ref31_Feed a0 a1 a2):=by
 refine callsO_comp mix Tryz.func23 gc23_ok fun r H=>?_
 rw [p_ref31_Feed] at H
 conv=>whnf
 refine ask_c (p_ref31_Find_v _ _) H rfl rfl (fun v1 H=>?_);conv=>whnf
 refine lq_ ?_;conv=>whnf
 refine ask_c (p_ref31_Check_v _) H rfl rfl (fun v2 H=>?_);conv=>whnf
 refine tst_c H (fun b3 H=>?_) (fun b3 H=>?_)
 ·conv=>whnf
  refine ask_c (p_ref31_Check_v _) H rfl rfl (fun v4 H=>?_);conv=>whnf
  refine finR_c (enc:=(fun r:(List ConnsConn) × (List DeframeItem) × Int=>.tup [(fun l:List ConnsConn=>V.sl (l.map ConnsConn.v) false) r.1,(fun l:List DeframeItem=>V.sl (l.map DeframeItem.v) false) r.2.1,V.i r.2.2])) H ?_;conv=>whnf
  exact ⟨_,.tup (.cons (.c (.slw)) (.cons (.c (.slw)) (.cons (.c (.id rfl)) (.nil))))⟩
 conv=>whnf
 refine Tst.not ?_
 refine tst_d H (fun b5 H=>?_) (fun b5 H=>?_)
 ·conv=>whnf
  refine finR_c (enc:=(fun r:(List ConnsConn) × (List DeframeItem) × Int=>.tup [(fun l:List ConnsConn=>V.sl (l.map ConnsConn.v) false) r.1,(fun l:List DeframeItem=>V.sl (l.map DeframeItem.v) false) r.2.1,V.i r.2.2])) H ?_;conv=>whnf
  exact ⟨_,.tup (.cons (.c (.slw)) (.cons (.c (.slw)) (.cons (.c (.id rfl)) (.nil))))⟩
 conv=>whnf
 refine ask_c (p_ref12_Feed_v _ _) H rfl rfl (fun v6 H=>?_);conv=>whnf
 refine lq_ ?_;conv=>whnf
 refine lq_ ?_;conv=>whnf
 refine ask_c (p_ref31_place_v _ _) H rfl rfl (fun v7 H=>?_);conv=>whnf
 refine ask_c (p_ref31_with_v _ _ _) H rfl rfl (fun v8 H=>?_);conv=>whnf
 refine FootQ.mk ⟨rfl,?_⟩;conv=>whnf
 exact fin0_c (enc:=(fun r:(List ConnsConn) × (List DeframeItem) × Int=>.tup [(fun l:List ConnsConn=>V.sl (l.map ConnsConn.v) false) r.1,(fun l:List DeframeItem=>V.sl (l.map DeframeItem.v) false) r.2.1,V.i r.2.2])) H (.inr rfl) (.cons (.tmp rfl) (.cons (.tmp rfl) (.cons (.tmp rfl) (.nil)))) rfl rfl
def gc29:BCode:=(.seq (R_ 0 [O_ 4 (.mv (i_ 0)) 0,O_ 5 (.mv (b_ false)) 0]) (.seq (R_ 0 [O_ 7 (.mv (t_ 0)) 0,O_ 8 (.mv (t_ 1)) 0,O_ 9 (.cl 50 [(t_ 7),(t_ 8)]) 0,O_ 6 (.mv (t_ 9)) 0]) (.seq (.seq (R_ 0 [O_ 10 (.mv (t_ 0)) 0,O_ 11 (.cl 31 [(t_ 10)]) 0,O_ 12 (.bin .neq (t_ 11) (i_ 0)) 0,O_ 13 (.mv (t_ 12)) 0,⟨(some 14),.mv (t_ 6),(some (13,false)),0⟩,⟨(some 15),.bin .lss (t_ 14) (i_ 0),(some (13,false)),0⟩,O_ 16 (.pick (t_ 13) (b_ true) (t_ 15)) 0]) (.cond (t_ 16) (.seq (R_ 0 [O_ 4 (.mv (i_ 0)) 0,O_ 5 (.mv (b_ false)) 0]) .ret) .skip)) (.seq (R_ 0 [O_ 17 (.mv (t_ 0)) 0,O_ 18 (.mv (t_ 6)) 0,O_ 19 (.ixs 8 (t_ 17) (t_ 18)) 0,O_ 20 (.fa 0 (t_ 19)) 0,O_ 21 (.ld 1 false (t_ 20)) 0,O_ 4 (.mv (t_ 21)) 0,O_ 5 (.mv (b_ true)) 0]) .ret))))
theorem gc29_ok:compF Tryz.prog Tryz.f29=some (gc29.er,22,[.tmp 4,.tmp 5]):=by unfold gc29;kernel_rfl
theorem p_ref31_ByKey_v {u1:Bool} (a0:List ConnsConn) (a1:ByteArray):CallsO Tryz.prog 29 [.sl (List.map ConnsConn.v a0) u1,.s a1] (fun r:Int × Bool=>.tup [V.i r.1,V.b r.2]) (p_ref31_ByKey a0 a1):=by
 refine callsO_comp mix Tryz.func29 gc29_ok fun r H=>?_
 rw [p_ref31_ByKey] at H
 conv=>whnf
 refine ask_c (p_ref31_keyed_v _ _) H rfl rfl (fun v1 H=>?_);conv=>whnf
 refine ask_c (p_ref31_Check_v _) H rfl rfl (fun v2 H=>?_);conv=>whnf
 refine tst_c H (fun b3 H=>?_) (fun b3 H=>?_)
 ·conv=>whnf
  iterate 3 (refine Tst.T ?_;conv=>whnf)
  exact fq_ H
 conv=>whnf
 iterate 2 (refine Tst.F ?_;conv=>whnf)
 refine tst_c H (fun b4 H=>?_) (fun b4 H=>?_)
 ·conv=>whnf
  exact fq_ H
 conv=>whnf
 refine ixs_c (f:=ConnsConn.v) H (fun _=>rfl) (fun x5 H=>?_);conv=>whnf
 refine lq_ ?_;conv=>whnf
 exact fq_ H
def gc34:BCode:=(.seq (R_ 0 [O_ 4 (.mv (.const (.slice none 0 0))) 0]) (.seq (R_ 0 [O_ 5 (.mv (.const (.slice none 0 0))) 0]) (.seq (.seq (R_ 0 [O_ 6 (.mv (i_ 0)) 0]) (.block 0 (.loop (.seq (.seq (R_ 0 [O_ 7 (.mv (t_ 6)) 0,O_ 8 (.mv (t_ 0)) 0,O_ 9 (.lens (t_ 8)) 0,O_ 10 (.bin .lss (t_ 7) (t_ 9)) 0,O_ 11 (.mv (t_ 10)) 0,⟨(some 12),.mv (t_ 0),(some (11,true)),0⟩,⟨(some 13),.cl 31 [(t_ 12)],(some (11,true)),0⟩,⟨(some 14),.bin .eql (t_ 13) (i_ 0),(some (11,true)),0⟩,O_ 15 (.pick (t_ 11) (t_ 14) (b_ false)) 0]) (.cond (t_ 15) .skip (.exit 0))) (.seq (.block 1 (.seq (R_ 0 [O_ 18 (.mv (t_ 1)) 0,O_ 19 (.bin .neq (t_ 18) (.const (.string ⟨#[]⟩))) 0,O_ 20 (.mv (t_ 19)) 0,⟨(some 21),.mv (t_ 0),(some (20,true)),0⟩,⟨(some 22),.mv (t_ 6),(some (20,true)),0⟩,⟨(some 23),.ixs 8 (t_ 21) (t_ 22),(some (20,true)),0⟩,⟨(some 24),.fa 2 (t_ 23),(some (20,true)),0⟩,⟨(some 25),.ld 1 false (t_ 24),(some (20,true)),0⟩,⟨(some 26),.mv (t_ 1),(some (20,true)),0⟩,⟨(some 27),.bin .eql (t_ 25) (t_ 26),(some (20,true)),0⟩,O_ 28 (.pick (t_ 20) (t_ 27) (b_ false)) 0]) (.cond (t_ 28) (R_ 2 [O_ 29 (.mv (t_ 5)) 0,O_ 30 (.mv (t_ 0)) 0,O_ 31 (.mv (t_ 6)) 0,O_ 32 (.ixs 8 (t_ 30) (t_ 31)) 0,O_ 33 (.fa 0 (t_ 32)) 0,O_ 34 (.ld 1 false (t_ 33)) 0,O_ 35 (.bs 1 1 [(.lit (.int .i64 0))] [(0,(t_ 34))]) 0,O_ 36 (.ap 1 8 (t_ 29) (t_ 35)) 1,O_ 5 (.mv (t_ 36)) 2]) .skip))) (R_ 0 [O_ 16 (.mv (t_ 6)) 0,O_ 17 (.bin .add (t_ 16) (i_ 1)) 0,O_ 6 (.mv (t_ 17)) 0])))))) (.seq (R_ 0 [O_ 37 (.mv (t_ 5)) 0,O_ 4 (.mv (t_ 37)) 0]) .ret))))
theorem gc34_ok:compF Tryz.prog Tryz.f34=some (gc34.er,38,[.tmp 4]):=by unfold gc34;kernel_rfl
theorem p_ref31_Sessions_v {u1:Bool} (a0:List ConnsConn) (a1:ByteArray):CallsO Tryz.prog 34 [.sl (List.map ConnsConn.v a0) u1,.s a1] (fun l:List Int=>V.sl (l.map V.i) false) (p_ref31_Sessions a0 a1):=by
 refine callsO_comp mix Tryz.func34 gc34_ok fun r H=>?_
 rw [p_ref31_Sessions] at H
 conv=>whnf
 obtain ⟨o2,HL3,HQ4⟩:=bind_c H
 refine loop_c [5,6] [7,8,9,10,11,12,13,14,15,16,17,18,19,20,21,22,23,24,25,26,27,28,29,30,31,32,33,34,35,36] [7,8,9,10,11,12,13,14,15,16,17,18,19,20,21,22,23,24,25,26,27,28,29,30,31,32,33,34,35,36] (fun n vals st=>(∃ y6,p_ref31_Sessions_l1  a0 a1 n [] y6=some o2∧vals=[.sl (List.map V.i []) true,.i y6]∧st=[])∨(∃ y15 y16,p_ref31_Sessions_l1  a0 a1 n y15 y16=some o2∧vals=[.osl 0 0 (List.length y15) 1 false,.i y16]∧st=[.live (cellsM V.i y15) (cellsM V.i y15).length])) fuel 0 [] (.inl (⟨_,HL3,rfl,rfl⟩)) (Nat.zero_le _) rfl (by kernel_rfl) (by kernel_rfl) rfl trivial ?_
 rintro (_ | n5) _ _ (⟨y6,H,rfl,rfl⟩ | ⟨y15,y16,H,rfl,rfl⟩)
 ·rw [p_ref31_Sessions_l1] at H;cases H
 ·rw [p_ref31_Sessions_l1] at H;cases H
 ·rw [p_ref31_Sessions_l1] at H
  conv=>whnf
  refine LenQ.M ?_;conv=>whnf
  refine tst_d H (fun b7 H=>?_) (fun b7 H=>?_)
  ·conv=>whnf
   iterate 4 (refine Tst.F ?_;conv=>whnf)
   obtain rfl:=Option.some.inj H
   have H:=HQ4
   try dsimp only at H
   refine finR_c (enc:=(fun l:List Int=>V.sl (l.map V.i) false)) H ?_;conv=>whnf
   exact ⟨_,.v (.c (.slw))⟩
  conv=>whnf
  refine Tst.T ?_;conv=>whnf
  refine ask_c (p_ref31_Check_v _) H rfl rfl (fun v8 H=>?_);conv=>whnf
  iterate 2 (refine Tst.T ?_;conv=>whnf)
  refine tst_d H (fun b9 H=>?_) (fun b9 H=>?_)
  ·conv=>whnf
   obtain rfl:=Option.some.inj H
   have H:=HQ4
   try dsimp only at H
   refine finR_c (enc:=(fun l:List Int=>V.sl (l.map V.i) false)) H ?_;conv=>whnf
   exact ⟨_,.v (.c (.slw))⟩
  conv=>whnf
  refine Tst.not ?_
  refine tst_c H (fun b10 H=>?_) (fun b10 H=>?_)
  ·conv=>whnf
   iterate 8 (refine Tst.F ?_;conv=>whnf)
   refine Ari.w ?_;conv=>whnf
   exact again_c [7,8,9,10,11,12,13,14,15,16,17,18,19,20,21,22,23,24,25,26,27,28,29,30,31,32,33,34,35,36] n5 0 [] (.inl (⟨_,H,rfl,rfl⟩)) (Nat.lt_succ_self _) (Nat.zero_le _) rfl (by kernel_rfl) (by kernel_rfl) rfl trivial
  conv=>whnf
  iterate 2 (refine Tst.T ?_;conv=>whnf)
  refine ixs_c (f:=ConnsConn.v) H (fun _=>rfl) (fun x11 H=>?_);conv=>whnf
  refine Tst.T ?_;conv=>whnf
  refine lq_ ?_;conv=>whnf
  iterate 4 (refine Tst.T ?_;conv=>whnf)
  refine tst_d H (fun b12 H=>?_) (fun b12 H=>?_)
  ·conv=>whnf
   refine Ari.w ?_;conv=>whnf
   exact again_c [7,8,9,10,11,12,13,14,15,16,17,18,19,20,21,22,23,24,25,26,27,28,29,30,31,32,33,34,35,36] n5 0 [] (.inl (⟨_,H,rfl,rfl⟩)) (Nat.lt_succ_self _) (Nat.zero_le _) rfl (by kernel_rfl) (by kernel_rfl) rfl trivial
  conv=>whnf
  refine ixs_c (f:=ConnsConn.v) H (fun _=>rfl) (fun x13 H=>?_);conv=>whnf
  refine lq_ ?_;conv=>whnf
  refine appN_c (f:=V.i) H (fun _=>rfl) (srcM (f:=V.i) (fun _=>rfl) [] true) rfl (.v (srcOwn (f:=V.i) (l:=[x13.ID]) (fun _=>rfl) rfl rfl rfl)) (by decide) rfl (by simp) (fun l14 H=>?_);conv=>whnf
  refine Ari.w ?_;conv=>whnf
  exact again_c [7,8,9,10,11,12,13,14,15,16,17,18,19,20,21,22,23,24,25,26,27,28,29,30,31,32,33,34,35,36] n5 1 [1] (.inr (⟨_,_,H,rfl,rfl⟩)) (Nat.lt_succ_self _) (Nat.zero_le _) rfl (by kernel_rfl) (by kernel_rfl) rfl (wkB_live0 rfl (cellsM_idlt (f:=V.i) (fun _=>rfl) _) rfl trivial)
 rw [p_ref31_Sessions_l1] at H
 conv=>whnf
 refine LenQ.M ?_;conv=>whnf
 refine tst_d H (fun b17 H=>?_) (fun b17 H=>?_)
 ·conv=>whnf
  iterate 4 (refine Tst.F ?_;conv=>whnf)
  obtain rfl:=Option.some.inj H
  have H:=HQ4
  try dsimp only at H
  refine finR_c (enc:=(fun l:List Int=>V.sl (l.map V.i) false)) H ?_;conv=>whnf
  exact ⟨_,.v (.c (fzown (f:=V.i) (l:=y15) rfl rfl (fun _=>rfl) (fun _=>rfl)))⟩
 conv=>whnf
 refine Tst.T ?_;conv=>whnf
 refine ask_c (p_ref31_Check_v _) H rfl rfl (fun v18 H=>?_);conv=>whnf
 iterate 2 (refine Tst.T ?_;conv=>whnf)
 refine tst_d H (fun b19 H=>?_) (fun b19 H=>?_)
 ·conv=>whnf
  obtain rfl:=Option.some.inj H
  have H:=HQ4
  try dsimp only at H
  refine finR_c (enc:=(fun l:List Int=>V.sl (l.map V.i) false)) H ?_;conv=>whnf
  exact ⟨_,.v (.c (fzown (f:=V.i) (l:=y15) rfl rfl (fun _=>rfl) (fun _=>rfl)))⟩
 conv=>whnf
 refine Tst.not ?_
 refine tst_c H (fun b20 H=>?_) (fun b20 H=>?_)
 ·conv=>whnf
  iterate 8 (refine Tst.F ?_;conv=>whnf)
  refine Ari.w ?_;conv=>whnf
  exact again_c [7,8,9,10,11,12,13,14,15,16,17,18,19,20,21,22,23,24,25,26,27,28,29,30,31,32,33,34,35,36] n5 1 [] (.inr (⟨_,_,H,rfl,rfl⟩)) (Nat.lt_succ_self _) (Nat.zero_le _) rfl (by kernel_rfl) (by kernel_rfl) rfl (wkB_live0 rfl (cellsM_idlt (f:=V.i) (fun _=>rfl) _) rfl trivial)
 conv=>whnf
 iterate 2 (refine Tst.T ?_;conv=>whnf)
 refine ixs_c (f:=ConnsConn.v) H (fun _=>rfl) (fun x21 H=>?_);conv=>whnf
 refine Tst.T ?_;conv=>whnf
 refine lq_ ?_;conv=>whnf
 iterate 4 (refine Tst.T ?_;conv=>whnf)
 refine tst_d H (fun b22 H=>?_) (fun b22 H=>?_)
 ·conv=>whnf
  refine Ari.w ?_;conv=>whnf
  exact again_c [7,8,9,10,11,12,13,14,15,16,17,18,19,20,21,22,23,24,25,26,27,28,29,30,31,32,33,34,35,36] n5 1 [] (.inr (⟨_,_,H,rfl,rfl⟩)) (Nat.lt_succ_self _) (Nat.zero_le _) rfl (by kernel_rfl) (by kernel_rfl) rfl (wkB_live0 rfl (cellsM_idlt (f:=V.i) (fun _=>rfl) _) rfl trivial)
 conv=>whnf
 refine ixs_c (f:=ConnsConn.v) H (fun _=>rfl) (fun x23 H=>?_);conv=>whnf
 refine lq_ ?_;conv=>whnf
 refine appO_c (f:=V.i) H (fun _=>rfl) rfl (Nat.le_refl _) (.v (srcOwn (f:=V.i) (l:=[x23.ID]) (fun _=>rfl) rfl rfl rfl)) (by decide) rfl (by simp) (fun l24 H=>?_);conv=>whnf
 refine Ari.w ?_;conv=>whnf
 exact again_c [7,8,9,10,11,12,13,14,15,16,17,18,19,20,21,22,23,24,25,26,27,28,29,30,31,32,33,34,35,36] n5 1 [2] (.inr (⟨_,_,H,rfl,rfl⟩)) (Nat.lt_succ_self _) (Nat.zero_le _) rfl (by kernel_rfl) (by kernel_rfl) rfl (wkB_live0 rfl (cellsM_idlt (f:=V.i) (fun _=>rfl) _) rfl trivial)
def gc16:BCode:=(.seq (R_ 0 [O_ 4 (.mv (b_ false)) 0]) (.seq (.seq (R_ 0 [O_ 6 (.mv (t_ 0)) 0,O_ 7 (.lens (t_ 6)) 0,O_ 8 (.mv (t_ 1)) 0,O_ 9 (.lens (t_ 8)) 0,O_ 10 (.bin .neq (t_ 7) (t_ 9)) 0]) (.cond (t_ 10) (.seq (R_ 0 [O_ 4 (.mv (b_ false)) 0]) .ret) .skip)) (.seq (.seq (R_ 0 [O_ 5 (.mv (i_ 0)) 0]) (.block 0 (.loop (.seq (.seq (R_ 0 [O_ 11 (.mv (t_ 5)) 0,O_ 12 (.mv (t_ 0)) 0,O_ 13 (.lens (t_ 12)) 0,O_ 14 (.bin .lss (t_ 11) (t_ 13)) 0]) (.cond (t_ 14) .skip (.exit 0))) (.seq (.block 1 (.seq (.reg 0 [O_ 17 (.mv (t_ 0)) 0,O_ 18 (.mv (t_ 5)) 0,O_ 19 (.ixs 8 (t_ 17) (t_ 18)) 0,O_ 20 (.ld 8 true (t_ 19)) 0,O_ 21 (.mv (t_ 1)) 0,O_ 22 (.mv (t_ 5)) 0,O_ 23 (.ixs 8 (t_ 21) (t_ 22)) 0,O_ 24 (.ld 8 true (t_ 23)) 0,O_ 25 (.eqa true [1,1,2,2,1,2,1,1] (t_ 20) (t_ 24)) 0] (some [[],[],[1,0],[0,1,2],[],[],[5,4],[4,5,6],[6,5,4,7,2,1,0,3]]) 0 []) (.cond (t_ 25) (.seq (R_ 0 [O_ 4 (.mv (b_ false)) 0]) .ret) .skip))) (R_ 0 [O_ 15 (.mv (t_ 5)) 0,O_ 16 (.bin .add (t_ 15) (i_ 1)) 0,O_ 5 (.mv (t_ 16)) 0])))))) (.seq (R_ 0 [O_ 4 (.mv (b_ true)) 0]) .ret))))
theorem gc16_ok:compF Tryz.prog Tryz.f16=some (gc16.er,26,[.tmp 4]):=by unfold gc16;kernel_rfl
theorem p_ref31_Same_v {u1 u2:Bool} (a0:List ConnsConn) (a1:List ConnsConn):CallsO Tryz.prog 16 [.sl (List.map ConnsConn.v a0) u1,.sl (List.map ConnsConn.v a1) u2] V.b (p_ref31_Same a0 a1):=by
 refine callsO_comp mix Tryz.func16 gc16_ok fun r H=>?_
 rw [p_ref31_Same] at H
 conv=>whnf
 iterate 2 (refine LenQ.M ?_;conv=>whnf)
 refine tst_c H (fun b1 H=>?_) (fun b1 H=>?_)
 ·conv=>whnf
  exact fb_ H
 conv=>whnf
 obtain ⟨o3,HL4,HQ5⟩:=bind_c H
 refine loop_c [4,5] [11,12,13,14,15,16,17,18,19,20,21,22,23,24,25] [11,12,13,14,15,16,17,18,19,20,21,22,23,24,25] (fun n vals st=>(∃ y7,p_ref31_Same_l1  a0 a1 n y7=some o3∧vals=[.b false,.i y7]∧st=[])) fuel 0 [] (⟨_,HL4,rfl,rfl⟩) (Nat.zero_le _) rfl (by kernel_rfl) (by kernel_rfl) rfl trivial ?_
 rintro (_ | n6) _ _ (⟨y7,H,rfl,rfl⟩)
 ·rw [p_ref31_Same_l1] at H;cases H
 rw [p_ref31_Same_l1] at H
 conv=>whnf
 refine LenQ.M ?_;conv=>whnf
 refine tst_d H (fun b8 H=>?_) (fun b8 H=>?_)
 ·conv=>whnf
  obtain rfl:=Option.some.inj H
  have H:=HQ5
  try dsimp only at H
  exact fb_ H
 conv=>whnf
 refine ixs_c (f:=ConnsConn.v) H (fun _=>rfl) (fun x9 H=>?_);conv=>whnf
 refine ixs_c (f:=ConnsConn.v) H (fun _=>rfl) (fun x10 H=>?_);conv=>whnf
 refine FootQ.mk ⟨rfl,?_⟩;conv=>whnf
 refine Tst.not ?_
 refine tst_d H (fun b11 H=>?_) (fun b11 H=>?_)
 ·conv=>whnf
  obtain rfl:=Option.some.inj H
  have H:=HQ5
  try dsimp only at H
  exact fb_ H
 conv=>whnf
 refine Ari.w ?_;conv=>whnf
 exact again_c [11,12,13,14,15,16,17,18,19,20,21,22,23,24,25] n6 0 [] (⟨_,H,rfl,rfl⟩) (Nat.lt_succ_self _) (Nat.zero_le _) rfl (by kernel_rfl) (by kernel_rfl) rfl trivial
def gc7:BCode:=(.seq (R_ 0 [O_ 2 (.mv (b_ false)) 0]) (.seq (.seq (R_ 0 [O_ 4 (.mv (t_ 0)) 0,O_ 5 (.lens (t_ 4)) 0,O_ 6 (.bin .gtr (t_ 5) (i_ 20)) 0]) (.cond (t_ 6) (.seq (R_ 0 [O_ 2 (.mv (b_ false)) 0]) .ret) .skip)) (.seq (.seq (R_ 0 [O_ 3 (.mv (i_ 0)) 0]) (.block 0 (.loop (.seq (.seq (R_ 0 [O_ 7 (.mv (t_ 3)) 0,O_ 8 (.mv (t_ 0)) 0,O_ 9 (.lens (t_ 8)) 0,O_ 10 (.bin .lss (t_ 7) (t_ 9)) 0]) (.cond (t_ 10) .skip (.exit 0))) (.seq (.block 1 (.seq (R_ 0 [O_ 13 (.mv (t_ 0)) 0,O_ 14 (.mv (t_ 3)) 0,O_ 15 (.ixs 8 (t_ 13) (t_ 14)) 0,O_ 16 (.fa 2 (t_ 15)) 0,O_ 17 (.ld 1 false (t_ 16)) 0,O_ 18 (.lent (t_ 17)) 0,O_ 19 (.bin .gtr (t_ 18) (i_ 100)) 0,O_ 20 (.mv (t_ 19)) 0,⟨(some 21),.mv (t_ 0),(some (20,false)),0⟩,⟨(some 22),.mv (t_ 3),(some (20,false)),0⟩,⟨(some 23),.ixs 8 (t_ 21) (t_ 22),(some (20,false)),0⟩,⟨(some 24),.fa 3 (t_ 23),(some (20,false)),0⟩,⟨(some 25),.ld 1 false (t_ 24),(some (20,false)),0⟩,⟨(some 26),.lent (t_ 25),(some (20,false)),0⟩,⟨(some 27),.bin .gtr (t_ 26) (i_ 100),(some (20,false)),0⟩,O_ 28 (.pick (t_ 20) (b_ true) (t_ 27)) 0,O_ 29 (.mv (t_ 28)) 0,⟨(some 30),.mv (t_ 0),(some (29,false)),0⟩,⟨(some 31),.mv (t_ 3),(some (29,false)),0⟩,⟨(some 32),.ixs 8 (t_ 30) (t_ 31),(some (29,false)),0⟩,⟨(some 33),.fa 5 (t_ 32),(some (29,false)),0⟩,⟨(some 34),.fa 0 (t_ 33),(some (29,false)),0⟩,⟨(some 35),.ld 1 false (t_ 34),(some (29,false)),0⟩,⟨(some 36),.lent (t_ 35),(some (29,false)),0⟩,⟨(some 37),.bin .gtr (t_ 36) (i_ 200),(some (29,false)),0⟩,O_ 38 (.pick (t_ 29) (b_ true) (t_ 37)) 0]) (.cond (t_ 38) (.seq (R_ 0 [O_ 2 (.mv (b_ false)) 0]) .ret) .skip))) (R_ 0 [O_ 11 (.mv (t_ 3)) 0,O_ 12 (.bin .add (t_ 11) (i_ 1)) 0,O_ 3 (.mv (t_ 12)) 0])))))) (.seq (R_ 0 [O_ 2 (.mv (b_ true)) 0]) .ret))))
theorem gc7_ok:compF Tryz.prog Tryz.f7=some (gc7.er,39,[.tmp 2]):=by unfold gc7;kernel_rfl
theorem p_ref31_Light_v {u1:Bool} (a0:List ConnsConn):CallsO Tryz.prog 7 [.sl (List.map ConnsConn.v a0) u1] V.b (p_ref31_Light a0):=by
 refine callsO_comp mix Tryz.func7 gc7_ok fun r H=>?_
 rw [p_ref31_Light] at H
 conv=>whnf
 refine LenQ.M ?_;conv=>whnf
 refine tst_c H (fun b1 H=>?_) (fun b1 H=>?_)
 ·conv=>whnf
  exact fb_ H
 conv=>whnf
 obtain ⟨o3,HL4,HQ5⟩:=bind_c H
 refine loop_c [2,3] [7,8,9,10,11,12,13,14,15,16,17,18,19,20,21,22,23,24,25,26,27,28,29,30,31,32,33,34,35,36,37,38] [7,8,9,10,11,12,13,14,15,16,17,18,19,20,21,22,23,24,25,26,27,28,29,30,31,32,33,34,35,36,37,38] (fun n vals st=>(∃ y7,p_ref31_Light_l1  a0 n y7=some o3∧vals=[.b false,.i y7]∧st=[])) fuel 0 [] (⟨_,HL4,rfl,rfl⟩) (Nat.zero_le _) rfl (by kernel_rfl) (by kernel_rfl) rfl trivial ?_
 rintro (_ | n6) _ _ (⟨y7,H,rfl,rfl⟩)
 ·rw [p_ref31_Light_l1] at H;cases H
 rw [p_ref31_Light_l1] at H
 conv=>whnf
 refine LenQ.M ?_;conv=>whnf
 refine tst_d H (fun b8 H=>?_) (fun b8 H=>?_)
 ·conv=>whnf
  obtain rfl:=Option.some.inj H
  have H:=HQ5
  try dsimp only at H
  exact fb_ H
 conv=>whnf
 refine ixs_c (f:=ConnsConn.v) H (fun _=>rfl) (fun x9 H=>?_);conv=>whnf
 refine lq_ ?_;conv=>whnf
 refine tst_c H (fun b10 H=>?_) (fun b10 H=>?_)
 ·conv=>whnf
  iterate 17 (refine Tst.T ?_;conv=>whnf)
  obtain rfl:=Option.some.inj H
  have H:=HQ5
  try dsimp only at H
  exact fb_ H
 conv=>whnf
 iterate 2 (refine Tst.F ?_;conv=>whnf)
 refine ixs_c (f:=ConnsConn.v) H (fun _=>rfl) (fun x11 H=>?_);conv=>whnf
 refine Tst.F ?_;conv=>whnf
 refine lq_ ?_;conv=>whnf
 iterate 4 (refine Tst.F ?_;conv=>whnf)
 refine tst_c H (fun b12 H=>?_) (fun b12 H=>?_)
 ·conv=>whnf
  iterate 9 (refine Tst.T ?_;conv=>whnf)
  obtain rfl:=Option.some.inj H
  have H:=HQ5
  try dsimp only at H
  exact fb_ H
 conv=>whnf
 iterate 2 (refine Tst.F ?_;conv=>whnf)
 refine ixs_c (f:=ConnsConn.v) H (fun _=>rfl) (fun x13 H=>?_);conv=>whnf
 refine Tst.F ?_;conv=>whnf
 refine lq_ ?_;conv=>whnf
 refine Tst.F ?_;conv=>whnf
 refine lq_ ?_;conv=>whnf
 iterate 4 (refine Tst.F ?_;conv=>whnf)
 refine tst_c H (fun b14 H=>?_) (fun b14 H=>?_)
 ·conv=>whnf
  obtain rfl:=Option.some.inj H
  have H:=HQ5
  try dsimp only at H
  exact fb_ H
 conv=>whnf
 refine Ari.w ?_;conv=>whnf
 exact again_c [7,8,9,10,11,12,13,14,15,16,17,18,19,20,21,22,23,24,25,26,27,28,29,30,31,32,33,34,35,36,37,38] n6 0 [] (⟨_,H,rfl,rfl⟩) (Nat.lt_succ_self _) (Nat.zero_le _) rfl (by kernel_rfl) (by kernel_rfl) rfl trivial
end Go.Proofs.YtdbigmjlhkgeoaaGreat

