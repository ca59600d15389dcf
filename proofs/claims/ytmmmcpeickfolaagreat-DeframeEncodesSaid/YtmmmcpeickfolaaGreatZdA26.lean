/- A part of the proof: 11 texts joined. -/
import Derived.Test.YtmmmcpeickfolaaGreatZdA17
import Derived.Test.YtmmmcpeickfolaaGreatZdA14
import Derived.KernelRfl
import Derived.Test.YtmmmcpeickfolaaGreatZdA25
import Derived.Test.YtmmmcpeickfolaaGreatZdA24
import Derived.Test.YtmmmcpeickfolaaGreatZdA16
import Derived.Test.YtmmmcpeickfolaaGreatZdA15
import Derived.Test.YtmmmcpeickfolaaGreatZdA20
set_option linter.all false
namespace Go.Proofs.YtmmmcpeickfolaaGreat
open Go.RowKit
set_option maxRecDepth 100000
set_option maxHeartbeats 4000000
def gc147:BCode:=(.seq (R_ 0 [O_ 2 (.mv (b_ false)) 0]) (.seq (.seq (R_ 0 [O_ 3 (.mv (t_ 0)) 0]) (.block 0 (.seq (.seq (R_ 0 [O_ 5 (.bin .eql (t_ 3) (i_ 1)) 0,O_ 4 (.mv (t_ 5)) 0]) (.cond (t_ 4) .skip (.seq (R_ 0 [O_ 6 (.bin .eql (t_ 3) (i_ 2)) 0,O_ 4 (.mv (t_ 6)) 0]) (.cond (t_ 4) .skip (.seq (R_ 0 [O_ 7 (.bin .eql (t_ 3) (i_ 4)) 0,O_ 4 (.mv (t_ 7)) 0]) (.cond (t_ 4) .skip (R_ 0 [O_ 8 (.bin .eql (t_ 3) (i_ 6)) 0,O_ 4 (.mv (t_ 8)) 0]))))))) (.cond (t_ 4) (.seq (R_ 0 [O_ 2 (.mv (b_ true)) 0]) .ret) .skip)))) (.seq (R_ 0 [O_ 2 (.mv (b_ false)) 0]) .ret)))
theorem gc147_ok:compF Tryz.prog Tryz.f147=some (gc147.er,9,[.tmp 2]):=by unfold gc147;kernel_rfl
theorem p_octet_wide_v (a0:Int):CallsO Tryz.prog 147 [.i a0] V.b (p_octet_wide a0):=by
 refine callsO_comp mix Tryz.func147 gc147_ok fun r H=>?_
 rw [p_octet_wide] at H
 conv=>whnf
 refine tst_c H (fun b1 H=>?_) (fun b1 H=>?_)
 ·conv=>whnf
  refine Tst.T ?_;conv=>whnf
  exact fb_ H
 conv=>whnf
 refine tst_c H (fun b2 H=>?_) (fun b2 H=>?_)
 ·conv=>whnf
  refine Tst.T ?_;conv=>whnf
  exact fb_ H
 conv=>whnf
 refine tst_c H (fun b3 H=>?_) (fun b3 H=>?_)
 ·conv=>whnf
  refine Tst.T ?_;conv=>whnf
  exact fb_ H
 conv=>whnf
 refine tst_c H (fun b4 H=>?_) (fun b4 H=>?_)
 ·conv=>whnf
  exact fb_ H
 conv=>whnf
 exact fb_ H
def gc98:BCode:=(.seq (R_ 0 [O_ 4 (.mv (.const (.slice none 0 0))) 0,O_ 5 (.mv (i_ 0)) 0]) (.seq (.seq (R_ 0 [O_ 8 (.mv (t_ 1)) 0,O_ 9 (.cl 147 [(t_ 8)]) 0,O_ 10 (.un .not (t_ 9)) 0]) (.cond (t_ 10) (.seq (R_ 0 [O_ 4 (.mv (.const (.slice none 0 0))) 0,O_ 5 (.mv (i_ 2)) 0]) .ret) .skip)) (.seq (.seq (R_ 0 [O_ 11 (.mv (t_ 0)) 0,O_ 12 (.bin .lss (t_ 11) (i_ 0)) 0,O_ 13 (.mv (t_ 12)) 0,⟨(some 14),.mv (t_ 0),(some (13,false)),0⟩,⟨(some 15),.mv (t_ 1),(some (13,false)),0⟩,⟨(some 16),.bin .mul (i_ 8) (t_ 15),(some (13,false)),0⟩,⟨(some 17),.bin .shr (t_ 14) (t_ 16),(some (13,false)),0⟩,⟨(some 18),.bin .neq (t_ 17) (i_ 0),(some (13,false)),0⟩,O_ 19 (.pick (t_ 13) (b_ true) (t_ 18)) 0]) (.cond (t_ 19) (.seq (R_ 0 [O_ 4 (.mv (.const (.slice none 0 0))) 0,O_ 5 (.mv (i_ 8)) 0]) .ret) .skip)) (.seq (R_ 1 [O_ 20 (.mv (t_ 1)) 0,O_ 21 (.mks 1 1 [(.lit (.int .u8 0))] (t_ 20) (t_ 20)) 0,O_ 6 (.mv (t_ 21)) 1]) (.seq (.seq (R_ 0 [O_ 22 (.mv (t_ 1)) 0,O_ 23 (.mv (i_ 0)) 0]) (.block 0 (.loop (.seq (R_ 0 [O_ 24 (.bin .lss (t_ 23) (t_ 22)) 0]) (.seq (.cond (t_ 24) .skip (.exit 0)) (.seq (.block 1 (.seq (R_ 0 [O_ 25 (.mv (t_ 23)) 0,O_ 7 (.mv (t_ 25)) 0]) (R_ 0 [O_ 26 (.mv (t_ 6)) 0,O_ 27 (.mv (t_ 1)) 0,O_ 28 (.bin .sub (t_ 27) (i_ 1)) 0,O_ 29 (.mv (t_ 7)) 0,O_ 30 (.bin .sub (t_ 28) (t_ 29)) 0,O_ 31 (.mv (t_ 0)) 0,O_ 32 (.mv (t_ 7)) 0,O_ 33 (.bin .mul (i_ 8) (t_ 32)) 0,O_ 34 (.bin .shr (t_ 31) (t_ 33)) 0,O_ 35 (.cvi .u8 (t_ 34)) 0,O_ 36 (.ixs 1 (t_ 26) (t_ 30)) 0,U_ (.st 1 (t_ 36) (t_ 35)) 0]))) (R_ 0 [O_ 37 (.bin .add (t_ 23) (i_ 1)) 0,O_ 23 (.mv (t_ 37)) 0]))))))) (.seq (R_ 0 [O_ 38 (.mv (t_ 6)) 0,O_ 4 (.mv (t_ 38)) 0,O_ 5 (.mv (i_ 0)) 0]) .ret))))))
theorem gc98_ok:compF Tryz.prog Tryz.f98=some (gc98.er,39,[.tmp 4,.tmp 5]):=by unfold gc98;kernel_rfl
theorem p_octet_Lay_v (a0:Int) (a1:Int):CallsO Tryz.prog 98 [.i a0,.i a1] (fun r:(List Int) × Int=>.tup [(fun l:List Int=>V.sl (l.map V.y8) false) r.1,V.i r.2]) (p_octet_Lay a0 a1):=by
 refine callsO_comp mix Tryz.func98 gc98_ok fun r H=>?_
 rw [p_octet_Lay] at H
 conv=>whnf
 refine ask_c (p_octet_wide_v _) H rfl rfl (fun v1 H=>?_);conv=>whnf
 refine Tst.not ?_
 refine tst_d H (fun b2 H=>?_) (fun b2 H=>?_)
 ·conv=>whnf
  refine finR_c (enc:=(fun r:(List Int) × Int=>.tup [(fun l:List Int=>V.sl (l.map V.y8) false) r.1,V.i r.2])) H ?_;conv=>whnf
  exact ⟨_,.tup (.cons (.c (.slw)) (.cons (.c (.id rfl)) (.nil)))⟩
 conv=>whnf
 refine tst_c H (fun b3 H=>?_) (fun b3 H=>?_)
 ·conv=>whnf
  iterate 6 (refine Tst.T ?_;conv=>whnf)
  refine finR_c (enc:=(fun r:(List Int) × Int=>.tup [(fun l:List Int=>V.sl (l.map V.y8) false) r.1,V.i r.2])) H ?_;conv=>whnf
  exact ⟨_,.tup (.cons (.c (.slw)) (.cons (.c (.id rfl)) (.nil)))⟩
 conv=>whnf
 iterate 2 (refine Tst.F ?_;conv=>whnf)
 refine Ari.w ?_;conv=>whnf
 refine Tst.F ?_;conv=>whnf
 refine Shr.ok (pos_c H).1 ((fun H=>?_) (pos_c H).2);conv=>whnf
 iterate 2 (refine Tst.F ?_;conv=>whnf)
 refine tst_c H (fun b5 H=>?_) (fun b5 H=>?_)
 ·conv=>whnf
  refine finR_c (enc:=(fun r:(List Int) × Int=>.tup [(fun l:List Int=>V.sl (l.map V.y8) false) r.1,V.i r.2])) H ?_;conv=>whnf
  exact ⟨_,.tup (.cons (.c (.slw)) (.cons (.c (.id rfl)) (.nil)))⟩
 conv=>whnf
 refine mksA_c (f:=V.y8) H rfl rfl (by decide) (fun l6 H=>?_);conv=>whnf
 obtain ⟨o8,HL9,HQ10⟩:=bind_c H
 refine loop_c [23] [7,24,25,26,27,28,29,30,31,32,33,34,35,36,37,21] [7,24,25,26,27,28,29,30,31,32,33,34,35,36,37,21] (fun n vals st=>(∃ y12 y13,p_octet_Lay_l1  a1 a0 a1 a1 n y12 y13=some o8∧vals=[.i y12]∧st=[.live (cellsM V.y8 y13) 0])) fuel 1 [] (⟨_,_,HL9,rfl,rfl⟩) (Nat.zero_le _) rfl (by kernel_rfl) (by kernel_rfl) rfl (wkB_live0 rfl (cellsM_idlt (f:=V.y8) (fun _=>rfl) _) rfl trivial) ?_
 rintro (_ | n11) _ _ (⟨y12,y13,H,rfl,rfl⟩)
 ·rw [p_octet_Lay_l1] at H;cases H
 rw [p_octet_Lay_l1] at H
 conv=>whnf
 refine tst_d H (fun b14 H=>?_) (fun b14 H=>?_)
 ·conv=>whnf
  obtain rfl:=Option.some.inj H
  have H:=HQ10
  try dsimp only at H
  obtain ⟨_,h18,H⟩:=lenG_c H
  refine finRz_c (enc:=(fun r:(List Int) × Int=>.tup [(fun l:List Int=>V.sl (l.map V.y8) false) r.1,V.i r.2])) [0] H ?_;conv=>whnf
  refine ⟨Nat.zero_le _,?_⟩;conv=>whnf
  exact ⟨_,.tup (.cons (.c (fzc_made (f:=V.y8) (l:=y13) rfl rfl rfl h18 (fun _=>rfl) (fun _=>rfl))) (.cons (.c (.id rfl)) (.nil)))⟩
 conv=>whnf
 iterate 3 (refine Ari.w ?_;conv=>whnf)
 refine Shr.ok (pos_c H).1 ((fun H=>?_) (pos_c H).2);conv=>whnf
 refine Ari.w ?_;conv=>whnf
 refine ⟨rfl,ixa_c H (fun x16 h17 H=>?_)⟩;conv=>whnf
 refine ⟨Nat.zero_le _,sto_c (f:=V.y8) (es:=1) h17 (x':=IntKind.wrap .u8 (shrI .i64 a0 (w64 ((8:Int) * y12)))) (fun _=>rfl) 0 (by omega) (Nat.le_of_ble_eq_true rfl) (by rfl) ?_⟩;conv=>whnf
 refine Ari.w ?_;conv=>whnf
 exact again_c [7,24,25,26,27,28,29,30,31,32,33,34,35,36,37,21] n11 1 [] (⟨_,_,H,rfl,rfl⟩) (Nat.lt_succ_self _) (Nat.zero_le _) rfl (by kernel_rfl) (by kernel_rfl) rfl (wkB_live0 rfl (cellsM_idlt (f:=V.y8) (fun _=>rfl) _) rfl trivial)
def gc115:BCode:=(.seq (R_ 0 [O_ 2 (.mv (.const (.string ⟨#[]⟩))) 0,O_ 3 (.mv (i_ 0)) 0]) (.seq (.seq (R_ 0 [O_ 6 (.mv (t_ 0)) 0,O_ 7 (.bin .eql (t_ 6) (.const (.string ⟨#[]⟩))) 0]) (.cond (t_ 7) (.seq (R_ 0 [O_ 2 (.mv (.const (.string ⟨#[]⟩))) 0,O_ 3 (.mv (i_ 4)) 0]) .ret) .skip)) (.seq (.seq (R_ 0 [O_ 8 (.mv (t_ 0)) 0,O_ 9 (.lent (t_ 8)) 0,O_ 10 (.bin .gtr (t_ 9) (i_ 128)) 0]) (.cond (t_ 10) (.seq (R_ 0 [O_ 2 (.mv (.const (.string ⟨#[]⟩))) 0,O_ 3 (.mv (i_ 5)) 0]) .ret) .skip)) (.seq (R_ 0 [O_ 12 (.mv (t_ 0)) 0,O_ 13 (.lent (t_ 12)) 0,O_ 14 (.cl 98 [(t_ 13),(i_ 2)]) 0,O_ 11 (.mv (t_ 14)) 0,O_ 15 (.ex (t_ 11) 0) 0,O_ 16 (.ex (t_ 11) 1) 0,O_ 4 (.mv (t_ 15)) 0,O_ 5 (.mv (t_ 16)) 0]) (.seq (R_ 0 [O_ 17 (.mv (t_ 4)) 0,O_ 18 (.b2s (t_ 17)) 0,O_ 19 (.mv (t_ 0)) 0,O_ 20 (.bin .add (t_ 18) (t_ 19)) 0,O_ 21 (.mv (t_ 5)) 0,O_ 2 (.mv (t_ 20)) 0,O_ 3 (.mv (t_ 21)) 0]) .ret)))))
theorem gc115_ok:compF Tryz.prog Tryz.f115=some (gc115.er,22,[.tmp 2,.tmp 3]):=by unfold gc115;kernel_rfl
theorem p_frame_Put_v (a0:ByteArray):CallsO Tryz.prog 115 [.s a0] (fun r:ByteArray × Int=>.tup [V.s r.1,V.i r.2]) (p_frame_Put a0):=by
 refine callsO_comp mix Tryz.func115 gc115_ok fun r H=>?_
 rw [p_frame_Put] at H
 conv=>whnf
 refine tst_c H (fun b1 H=>?_) (fun b1 H=>?_)
 ·conv=>whnf
  exact fin0_c (enc:=(fun r:ByteArray × Int=>.tup [V.s r.1,V.i r.2])) H (.inr rfl) (.cons (.tmp rfl) (.cons (.tmp rfl) (.nil))) rfl rfl
 conv=>whnf
 refine tst_c H (fun b2 H=>?_) (fun b2 H=>?_)
 ·conv=>whnf
  exact fin0_c (enc:=(fun r:ByteArray × Int=>.tup [V.s r.1,V.i r.2])) H (.inr rfl) (.cons (.tmp rfl) (.cons (.tmp rfl) (.nil))) rfl rfl
 conv=>whnf
 refine ask_c (p_octet_Lay_v _ _) H rfl rfl (fun v3 H=>?_);conv=>whnf
 refine b2sI_c H (fun s4 H=>?_);conv=>whnf
 refine cat_c H (fun s5 H=>?_);conv=>whnf
 exact fin0_c (enc:=(fun r:ByteArray × Int=>.tup [V.s r.1,V.i r.2])) H (.inr rfl) (.cons (.tmp rfl) (.cons (.tmp rfl) (.nil))) rfl rfl
def gc113:BCode:=(.seq (R_ 1 [O_ 2 (.al (.agg [(.lit (.string ⟨#[]⟩)),(.lit (.int .i64 0)),(.lit (.int .i64 0))])) 0]) (.seq (R_ 0 [O_ 3 (.mv (t_ 0)) 0,O_ 4 (.bd [(.lit (.string ⟨#[]⟩)),(.lit (.int .i64 0)),(.lit (.int .i64 0))] [(0,1,(t_ 3))]) 0,U_ (.st 3 (t_ 2) (t_ 4)) 0]) .ret))
theorem gc113_ok:compF Tryz.prog Tryz.f113=some (gc113.er,5,[.cell 2 3 true]):=by unfold gc113;kernel_rfl
theorem p_octet_Open_v (a0:ByteArray):CallsO Tryz.prog 113 [.s a0] OctetRead.v (p_octet_Open a0):=by
 refine callsO_comp mix Tryz.func113 gc113_ok fun r H=>?_
 rw [p_octet_Open] at H
 conv=>whnf
 refine lq_ ?_;conv=>whnf
 exact fin0_c (enc:=OctetRead.v) H (.inr rfl) (.cons (.cell rfl rfl (Nat.le_of_ble_eq_true rfl)) (.nil)) rfl rfl
def gc166:BCode:=(.seq (R_ 1 [O_ 1 (.bx (t_ 0)) 0,O_ 2 (.mv (i_ 0)) 1]) (.seq (.seq (R_ 0 [O_ 3 (.fa 2 (t_ 1)) 0,O_ 4 (.ld 1 false (t_ 3)) 0,O_ 5 (.bin .eql (t_ 4) (i_ 0)) 0,O_ 6 (.mv (t_ 5)) 0,⟨(some 7),.fa 1 (t_ 1),(some (6,true)),0⟩,⟨(some 8),.ld 1 false (t_ 7),(some (6,true)),0⟩,⟨(some 9),.bin .lss (t_ 8) (i_ 0),(some (6,true)),0⟩,⟨(some 10),.mv (t_ 9),(some (6,true)),0⟩,⟨(some 11),.fa 1 (t_ 1),(some (10,false)),0⟩,⟨(some 12),.ld 1 false (t_ 11),(some (10,false)),0⟩,⟨(some 13),.fa 0 (t_ 1),(some (10,false)),0⟩,⟨(some 14),.ld 1 false (t_ 13),(some (10,false)),0⟩,⟨(some 15),.lent (t_ 14),(some (10,false)),0⟩,⟨(some 16),.bin .gtr (t_ 12) (t_ 15),(some (10,false)),0⟩,⟨(some 17),.pick (t_ 10) (b_ true) (t_ 16),(some (6,true)),0⟩,O_ 18 (.pick (t_ 6) (t_ 17) (b_ false)) 0]) (.cond (t_ 18) (.seq (R_ 0 [O_ 2 (.mv (i_ 2)) 0]) .ret) .skip)) (.seq (R_ 0 [O_ 19 (.fa 2 (t_ 1)) 0,O_ 20 (.ld 1 false (t_ 19)) 0,O_ 2 (.mv (t_ 20)) 0]) .ret)))
theorem gc166_ok:compF Tryz.prog Tryz.f166=some (gc166.er,21,[.tmp 2]):=by unfold gc166;kernel_rfl
theorem p_octet_Read_fault_v (a0:OctetRead):CallsO Tryz.prog 166 [.agg [.s a0.S,.i a0.At,.i a0.Bad]] V.i (p_octet_Read_fault a0):=by
 refine callsO_comp mix Tryz.func166 gc166_ok fun r H=>?_
 rw [p_octet_Read_fault] at H
 conv=>whnf
 refine tst_d H (fun b1 H=>?_) (fun b1 H=>?_)
 ·conv=>whnf
  iterate 6 (refine Tst.F ?_;conv=>whnf)
  exact fi_ H
 conv=>whnf
 iterate 3 (refine Tst.T ?_;conv=>whnf)
 refine tst_c H (fun b2 H=>?_) (fun b2 H=>?_)
 ·conv=>whnf
  iterate 9 (refine Tst.T ?_;conv=>whnf)
  exact fi_ H
 conv=>whnf
 iterate 5 (refine Tst.F ?_;conv=>whnf)
 refine Tst.T ?_;conv=>whnf
 refine Tst.F ?_;conv=>whnf
 refine Tst.T ?_;conv=>whnf
 refine tst_c H (fun b3 H=>?_) (fun b3 H=>?_)
 ·conv=>whnf
  exact fi_ H
 conv=>whnf
 exact fi_ H
def gc167:BCode:=(.seq (R_ 2 [O_ 2 (.bx (t_ 0)) 0,O_ 4 (.al (.agg [(.lit (.string ⟨#[]⟩)),(.lit (.int .i64 0)),(.lit (.int .i64 0))])) 1]) (.seq (R_ 0 [O_ 5 (.mv (t_ 1)) 0,O_ 6 (.fa 2 (t_ 2)) 0,U_ (.st 1 (t_ 6) (t_ 5)) 0]) (.seq (R_ 0 [O_ 7 (.ld 3 true (t_ 2)) 0,U_ (.st 3 (t_ 4) (t_ 7)) 0]) .ret)))
theorem gc167_ok:compF Tryz.prog Tryz.f167=some (gc167.er,8,[.cell 4 3 true]):=by unfold gc167;kernel_rfl
theorem p_octet_Read_fail_v (a0:OctetRead) (a1:Int):CallsO Tryz.prog 167 [.agg [.s a0.S,.i a0.At,.i a0.Bad],.i a1] OctetRead.v (p_octet_Read_fail a0 a1):=by
 refine callsO_comp mix Tryz.func167 gc167_ok fun r H=>?_
 rw [p_octet_Read_fail] at H
 conv=>whnf
 refine lq_ ?_;conv=>whnf
 refine lq_ ?_;conv=>whnf
 exact fin0_c (enc:=OctetRead.v) H (.inr rfl) (.cons (.cell rfl rfl (Nat.le_of_ble_eq_true rfl)) (.nil)) rfl rfl
def gc114:BCode:=(.seq (R_ 1 [O_ 1 (.bx (t_ 0)) 0,O_ 2 (.mv (i_ 0)) 1]) (.seq (.seq (R_ 0 [O_ 3 (.ld 3 true (t_ 1)) 0,O_ 4 (.cl 166 [(t_ 3)]) 0,O_ 5 (.bin .neq (t_ 4) (i_ 0)) 0]) (.cond (t_ 5) (.seq (R_ 0 [O_ 2 (.mv (i_ 0)) 0]) .ret) .skip)) (.seq (R_ 0 [O_ 6 (.fa 0 (t_ 1)) 0,O_ 7 (.ld 1 false (t_ 6)) 0,O_ 8 (.lent (t_ 7)) 0,O_ 9 (.fa 1 (t_ 1)) 0,O_ 10 (.ld 1 false (t_ 9)) 0,O_ 11 (.bin .sub (t_ 8) (t_ 10)) 0,O_ 2 (.mv (t_ 11)) 0]) .ret)))
theorem gc114_ok:compF Tryz.prog Tryz.f114=some (gc114.er,12,[.tmp 2]):=by unfold gc114;kernel_rfl
theorem p_octet_Left_v (a0:OctetRead):CallsO Tryz.prog 114 [.agg [.s a0.S,.i a0.At,.i a0.Bad]] V.i (p_octet_Left a0):=by
 refine callsO_comp mix Tryz.func114 gc114_ok fun r H=>?_
 rw [p_octet_Left] at H
 conv=>whnf
 refine ask_c (p_octet_Read_fault_v _) H rfl rfl (fun v1 H=>?_);conv=>whnf
 refine tst_c H (fun b2 H=>?_) (fun b2 H=>?_)
 ·conv=>whnf
  exact fi_ H
 conv=>whnf
 refine Ari.w ?_;conv=>whnf
 exact fi_ H
def gc112:BCode:=(.seq (R_ 2 [O_ 2 (.bx (t_ 0)) 0,O_ 4 (.al (.agg [(.lit (.string ⟨#[]⟩)),(.lit (.int .i64 0)),(.lit (.int .i64 0))])) 1,O_ 5 (.mv (i_ 0)) 2]) (.seq (.seq (R_ 0 [O_ 10 (.ld 3 true (t_ 2)) 0,O_ 11 (.cl 166 [(t_ 10)]) 0,O_ 6 (.mv (t_ 11)) 0]) (.seq (R_ 0 [O_ 12 (.mv (t_ 6)) 0,O_ 13 (.bin .neq (t_ 12) (i_ 0)) 0]) (.cond (t_ 13) (.seq (R_ 0 [O_ 14 (.ld 3 true (t_ 2)) 0,O_ 15 (.mv (t_ 6)) 0,O_ 16 (.cl 167 [(t_ 14),(t_ 15)]) 0,U_ (.st 3 (t_ 4) (t_ 16)) 0,O_ 5 (.mv (i_ 0)) 0]) .ret) .skip))) (.seq (.seq (R_ 0 [O_ 17 (.mv (t_ 1)) 0,O_ 18 (.cl 147 [(t_ 17)]) 0,O_ 19 (.un .not (t_ 18)) 0]) (.cond (t_ 19) (.seq (R_ 0 [O_ 20 (.ld 3 true (t_ 2)) 0,O_ 21 (.cl 167 [(t_ 20),(i_ 2)]) 0,U_ (.st 3 (t_ 4) (t_ 21)) 0,O_ 5 (.mv (i_ 0)) 0]) .ret) .skip)) (.seq (.seq (R_ 0 [O_ 22 (.ld 3 true (t_ 2)) 0,O_ 23 (.cl 114 [(t_ 22)]) 0,O_ 24 (.mv (t_ 1)) 0,O_ 25 (.bin .lss (t_ 23) (t_ 24)) 0]) (.cond (t_ 25) (.seq (R_ 0 [O_ 26 (.ld 3 true (t_ 2)) 0,O_ 27 (.cl 167 [(t_ 26),(i_ 3)]) 0,U_ (.st 3 (t_ 4) (t_ 27)) 0,O_ 5 (.mv (i_ 0)) 0]) .ret) .skip)) (.seq (R_ 0 [O_ 7 (.mv (i_ 0)) 0]) (.seq (.seq (R_ 1 [O_ 28 (.fa 0 (t_ 2)) 0,O_ 29 (.ld 1 false (t_ 28)) 0,O_ 30 (.fa 1 (t_ 2)) 0,O_ 31 (.ld 1 false (t_ 30)) 0,O_ 32 (.fa 1 (t_ 2)) 0,O_ 33 (.ld 1 false (t_ 32)) 0,O_ 34 (.mv (t_ 1)) 0,O_ 35 (.bin .add (t_ 33) (t_ 34)) 0,O_ 36 (.slt (t_ 29) (some (t_ 31)) (some (t_ 35))) 0,O_ 37 (.s2b (t_ 36)) 0,O_ 38 (.lens (t_ 37)) 1,O_ 39 (.mv (i_ 0)) 1]) (.block 0 (.loop (.seq (R_ 0 [O_ 40 (.bin .lss (t_ 39) (t_ 38)) 0]) (.seq (.cond (t_ 40) .skip (.exit 0)) (.seq (.block 1 (.seq (R_ 0 [O_ 41 (.ixs 1 (t_ 37) (t_ 39)) 0,O_ 42 (.ld 1 false (t_ 41)) 0,O_ 9 (.mv (t_ 42)) 0]) (R_ 0 [O_ 43 (.mv (t_ 7)) 0,O_ 44 (.bin .shl (t_ 43) (.const (.int .u64 8))) 0,O_ 45 (.mv (t_ 9)) 0,O_ 46 (.cvi .i64 (t_ 45)) 0,O_ 47 (.bin .or (t_ 44) (t_ 46)) 0,O_ 7 (.mv (t_ 47)) 0]))) (R_ 0 [O_ 48 (.bin .add (t_ 39) (i_ 1)) 0,O_ 39 (.mv (t_ 48)) 0]))))))) (.seq (R_ 0 [O_ 49 (.fa 1 (t_ 2)) 0,O_ 50 (.ld 1 false (t_ 49)) 0,O_ 51 (.mv (t_ 1)) 0,O_ 52 (.bin .add (t_ 50) (t_ 51)) 0,O_ 53 (.fa 1 (t_ 2)) 0,U_ (.st 1 (t_ 53) (t_ 52)) 0]) (.seq (R_ 0 [O_ 54 (.ld 3 true (t_ 2)) 0,O_ 55 (.mv (t_ 7)) 0,U_ (.st 3 (t_ 4) (t_ 54)) 0,O_ 5 (.mv (t_ 55)) 0]) .ret))))))))
theorem gc112_ok:compF Tryz.prog Tryz.f112=some (gc112.er,56,[.cell 4 3 true,.tmp 5]):=by unfold gc112;kernel_rfl
theorem p_octet_Num_v (a0:OctetRead) (a1:Int):CallsO Tryz.prog 112 [.agg [.s a0.S,.i a0.At,.i a0.Bad],.i a1] (fun r:OctetRead × Int=>.tup [OctetRead.v r.1,V.i r.2]) (p_octet_Num a0 a1):=by
 refine callsO_comp mix Tryz.func112 gc112_ok fun r H=>?_
 rw [p_octet_Num] at H
 conv=>whnf
 refine ask_c (p_octet_Read_fault_v _) H rfl rfl (fun v1 H=>?_);conv=>whnf
 refine tst_c H (fun b2 H=>?_) (fun b2 H=>?_)
 ·conv=>whnf
  refine ask_c (p_octet_Read_fail_v _ _) H rfl rfl (fun v3 H=>?_);conv=>whnf
  refine lq_ ?_;conv=>whnf
  exact fin0_c (enc:=(fun r:OctetRead × Int=>.tup [OctetRead.v r.1,V.i r.2])) H (.inr rfl) (.cons (.cell rfl rfl (Nat.le_of_ble_eq_true rfl)) (.cons (.tmp rfl) (.nil))) rfl rfl
 conv=>whnf
 refine ask_c (p_octet_wide_v _) H rfl rfl (fun v4 H=>?_);conv=>whnf
 refine Tst.not ?_
 refine tst_d H (fun b5 H=>?_) (fun b5 H=>?_)
 ·conv=>whnf
  refine ask_c (p_octet_Read_fail_v _ _) H rfl rfl (fun v19 H=>?_);conv=>whnf
  refine lq_ ?_;conv=>whnf
  exact fin0_c (enc:=(fun r:OctetRead × Int=>.tup [OctetRead.v r.1,V.i r.2])) H (.inr rfl) (.cons (.cell rfl rfl (Nat.le_of_ble_eq_true rfl)) (.cons (.tmp rfl) (.nil))) rfl rfl
 conv=>whnf
 refine ask_c (p_octet_Left_v _) H rfl rfl (fun v6 H=>?_);conv=>whnf
 refine tst_c H (fun b7 H=>?_) (fun b7 H=>?_)
 ·conv=>whnf
  refine ask_c (p_octet_Read_fail_v _ _) H rfl rfl (fun v8 H=>?_);conv=>whnf
  refine lq_ ?_;conv=>whnf
  exact fin0_c (enc:=(fun r:OctetRead × Int=>.tup [OctetRead.v r.1,V.i r.2])) H (.inr rfl) (.cons (.cell rfl rfl (Nat.le_of_ble_eq_true rfl)) (.cons (.tmp rfl) (.nil))) rfl rfl
 conv=>whnf
 refine Ari.w ?_;conv=>whnf
 refine slt_c H (fun s9 H=>?_);conv=>whnf
 rw [bytesI_V]
 refine LenQ.M ?_;conv=>whnf
 obtain ⟨o11,HL12,HQ13⟩:=bind_c H
 refine loop_c [7,39] [9,40,41,42,43,44,45,46,47,48,28,30,32] [9,40,41,42,43,44,45,46,47,48,28,30,32] (fun n vals st=>(∃ y15 y16,p_octet_Num_l1  (bytesI s9) ((bytesI s9).length:Int) n y15 y16=some o11∧vals=[.i y15,.i y16]∧st=[.live [.s a0.S,.i a0.At,.i a0.Bad] 0,.live [.s (⟨#[]⟩ : ByteArray),.i (0:Int),.i (0:Int)] 0])) fuel 2 [] (⟨_,_,HL12,rfl,rfl⟩) (Nat.zero_le _) rfl (by kernel_rfl) (by kernel_rfl) rfl ⟨⟨rfl,rfl,rfl⟩,⟨⟨rfl,rfl,rfl⟩,trivial⟩⟩ ?_
 rintro (_ | n14) _ _ (⟨y15,y16,H,rfl,rfl⟩)
 ·rw [p_octet_Num_l1] at H;cases H
 rw [p_octet_Num_l1] at H
 conv=>whnf
 refine tst_d H (fun b17 H=>?_) (fun b17 H=>?_)
 ·conv=>whnf
  obtain rfl:=Option.some.inj H
  have H:=HQ13
  try dsimp only at H
  refine Ari.w ?_;conv=>whnf
  refine lq_ ?_;conv=>whnf
  refine lq_ ?_;conv=>whnf
  exact fin0_c (enc:=(fun r:OctetRead × Int=>.tup [OctetRead.v r.1,V.i r.2])) H (.inr rfl) (.cons (.cell rfl rfl (Nat.le_of_ble_eq_true rfl)) (.cons (.tmp rfl) (.nil))) rfl rfl
 conv=>whnf
 refine ixs_c (f:=V.y8) H (fun _=>rfl) (fun x18 H=>?_);conv=>whnf
 refine Shl.ok (by decide) ?_;conv=>whnf
 iterate 2 (refine Ari.w ?_;conv=>whnf)
 exact again_c [9,40,41,42,43,44,45,46,47,48,28,30,32] n14 2 [] (⟨_,_,H,rfl,rfl⟩) (Nat.lt_succ_self _) (Nat.zero_le _) rfl (by kernel_rfl) (by kernel_rfl) rfl ⟨⟨rfl,rfl,rfl⟩,⟨⟨rfl,rfl,rfl⟩,trivial⟩⟩
def gc61:BCode:=(.seq (R_ 0 [O_ 2 (.mv (.const (.string ⟨#[]⟩))) 0,O_ 3 (.mv (i_ 0)) 0,O_ 4 (.mv (i_ 0)) 0]) (.seq (R_ 1 [O_ 8 (.mv (t_ 0)) 0,O_ 9 (.cl 113 [(t_ 8)]) 0,O_ 10 (.cl 112 [(t_ 9),(i_ 2)]) 0,O_ 7 (.mv (t_ 10)) 0,O_ 11 (.ex (t_ 7) 0) 0,O_ 12 (.ex (t_ 7) 1) 0,O_ 5 (.al (.agg [(.lit (.string ⟨#[]⟩)),(.lit (.int .i64 0)),(.lit (.int .i64 0))])) 0,U_ (.st 3 (t_ 5) (t_ 11)) 1,O_ 6 (.mv (t_ 12)) 1]) (.seq (.block 0 (.seq (R_ 0 [O_ 14 (.fa 2 (t_ 5)) 0,O_ 15 (.ld 1 false (t_ 14)) 0,O_ 16 (.bin .neq (t_ 15) (i_ 0)) 0,O_ 13 (.mv (t_ 16)) 0]) (.cond (t_ 13) (.seq (.reg 0 [O_ 17 (.fa 2 (t_ 5)) 0,O_ 18 (.ld 1 false (t_ 17)) 0,O_ 2 (.mv (.const (.string ⟨#[]⟩))) 0,O_ 3 (.mv (i_ 0)) 0,O_ 4 (.mv (t_ 18)) 0] (some [[],[0],[],[2],[2,3,0,1]]) 0 []) .ret) (.seq (R_ 0 [O_ 20 (.mv (t_ 6)) 0,O_ 21 (.bin .eql (t_ 20) (i_ 0)) 0,O_ 19 (.mv (t_ 21)) 0]) (.cond (t_ 19) (.seq (R_ 0 [O_ 2 (.mv (.const (.string ⟨#[]⟩))) 0,O_ 3 (.mv (i_ 0)) 0,O_ 4 (.mv (i_ 4)) 0]) .ret) (.seq (R_ 0 [O_ 23 (.mv (t_ 6)) 0,O_ 24 (.bin .gtr (t_ 23) (i_ 128)) 0,O_ 22 (.mv (t_ 24)) 0]) (.cond (t_ 22) (.seq (R_ 0 [O_ 2 (.mv (.const (.string ⟨#[]⟩))) 0,O_ 3 (.mv (i_ 0)) 0,O_ 4 (.mv (i_ 5)) 0]) .ret) (.seq (R_ 0 [O_ 26 (.mv (t_ 6)) 0,O_ 27 (.ld 3 true (t_ 5)) 0,O_ 28 (.cl 114 [(t_ 27)]) 0,O_ 29 (.bin .gtr (t_ 26) (t_ 28)) 0,O_ 25 (.mv (t_ 29)) 0]) (.cond (t_ 25) (.seq (R_ 0 [O_ 2 (.mv (.const (.string ⟨#[]⟩))) 0,O_ 3 (.mv (i_ 0)) 0,O_ 4 (.mv (i_ 3)) 0]) .ret) .skip))))))))) (.seq (R_ 0 [O_ 30 (.mv (t_ 0)) 0,O_ 31 (.mv (t_ 6)) 0,O_ 32 (.bin .add (i_ 2) (t_ 31)) 0,O_ 33 (.slt (t_ 30) (some (i_ 2)) (some (t_ 32))) 0,O_ 34 (.mv (t_ 6)) 0,O_ 35 (.bin .add (i_ 2) (t_ 34)) 0,O_ 2 (.mv (t_ 33)) 0,O_ 3 (.mv (t_ 35)) 0,O_ 4 (.mv (i_ 0)) 0]) .ret))))
theorem gc61_ok:compF Tryz.prog Tryz.f61=some (gc61.er,36,[.tmp 2,.tmp 3,.tmp 4]):=by unfold gc61;kernel_rfl
theorem p_frame_Get_v (a0:ByteArray):CallsO Tryz.prog 61 [.s a0] (fun r:ByteArray × Int × Int=>.tup [V.s r.1,V.i r.2.1,V.i r.2.2]) (p_frame_Get a0):=by
 refine callsO_comp mix Tryz.func61 gc61_ok fun r H=>?_
 rw [p_frame_Get] at H
 conv=>whnf
 refine ask_c (p_octet_Open_v _) H rfl rfl (fun v1 H=>?_);conv=>whnf
 refine ask_c (p_octet_Num_v _ _) H rfl rfl (fun v2 H=>?_);conv=>whnf
 refine lq_ ?_;conv=>whnf
 refine tst_c H (fun b3 H=>?_) (fun b3 H=>?_)
 ·conv=>whnf
  refine FootQ.mk ⟨rfl,?_⟩;conv=>whnf
  exact fin0_c (enc:=(fun r:ByteArray × Int × Int=>.tup [V.s r.1,V.i r.2.1,V.i r.2.2])) H (.inr rfl) (.cons (.tmp rfl) (.cons (.tmp rfl) (.cons (.tmp rfl) (.nil)))) rfl rfl
 conv=>whnf
 refine tst_c H (fun b4 H=>?_) (fun b4 H=>?_)
 ·conv=>whnf
  exact fin0_c (enc:=(fun r:ByteArray × Int × Int=>.tup [V.s r.1,V.i r.2.1,V.i r.2.2])) H (.inr rfl) (.cons (.tmp rfl) (.cons (.tmp rfl) (.cons (.tmp rfl) (.nil)))) rfl rfl
 conv=>whnf
 refine tst_c H (fun b5 H=>?_) (fun b5 H=>?_)
 ·conv=>whnf
  exact fin0_c (enc:=(fun r:ByteArray × Int × Int=>.tup [V.s r.1,V.i r.2.1,V.i r.2.2])) H (.inr rfl) (.cons (.tmp rfl) (.cons (.tmp rfl) (.cons (.tmp rfl) (.nil)))) rfl rfl
 conv=>whnf
 refine ask_c (p_octet_Left_v _) H rfl rfl (fun v6 H=>?_);conv=>whnf
 refine tst_c H (fun b7 H=>?_) (fun b7 H=>?_)
 ·conv=>whnf
  exact fin0_c (enc:=(fun r:ByteArray × Int × Int=>.tup [V.s r.1,V.i r.2.1,V.i r.2.2])) H (.inr rfl) (.cons (.tmp rfl) (.cons (.tmp rfl) (.cons (.tmp rfl) (.nil)))) rfl rfl
 conv=>whnf
 refine Ari.w ?_;conv=>whnf
 refine slt_c H (fun s8 H=>?_);conv=>whnf
 refine Ari.w ?_;conv=>whnf
 exact fin0_c (enc:=(fun r:ByteArray × Int × Int=>.tup [V.s r.1,V.i r.2.1,V.i r.2.2])) H (.inr rfl) (.cons (.tmp rfl) (.cons (.tmp rfl) (.cons (.tmp rfl) (.nil)))) rfl rfl
end Go.Proofs.YtmmmcpeickfolaaGreat

namespace Go.Proofs.YtmmmcpeickfolaaGreat
open Go.RowKit
def joinL (put:ByteArray→Option (ByteArray × Int)):List ByteArray→List UInt8→Option (ByteArray × Int)
 | [],acc=>some (⟨acc.toArray⟩,0)
 | s :: l,acc=>(put s).bind fun r=>if r.2≠0 then some (⟨#[]⟩,r.2) else if acc.length + r.1.size≤1000000000 then joinL put l (acc++r.1.data.toList) else none
def p_frame_Join (l:List ByteArray):Option (ByteArray × Int):=if l.length≤1000000 then joinL p_frame_Put l [] else none
theorem strCells_bytes (s:ByteArray) (acc:List UInt8):Lib.byteCells acc++Lib.strCells s=Lib.byteCells (acc++s.data.toList):=by
 simp [Lib.byteCells,Lib.strCells]
set_option maxHeartbeats 2000000 in
theorem frameJoin_c (A:Option Addr) (n cap:Nat) (ss:List ByteArray) (w:World) (hml:ML w) (hn:n=ss.length) (hn2:n≤1000000) (hs:∀ k (h:k < ss.length),∃ b o,A=some ⟨b,o,none⟩∧w.cell? ⟨b,o + k,none⟩=some (.string ss[k])) (r:ByteArray × Int) (hr:joinL p_frame_Put ss []=some r) :
  Calls Tryz.prog 63 #[.slice A n cap] w (Ret w (.tuple #[.string r.1,.int .i64 r.2])):=by
 have HS:=Lib.hid hs
 have HN:=Lib.hid hn
 have HR:=Lib.hid hr
 clear hs hn hr
 go_enter Tryz.func63,Tryz.ntmps63
 go_wp2
 go_loopw [6,7,8,11] (fun _ _ _ i wr=>∃ (k:Nat) (acc:List UInt8),k≤n∧i=.int .i64 k∧Lib.IsBuilder 211 5 w.heap.size w.heap.size (Lib.byteCells acc) wr∧acc.length≤1000000000∧Below w.heap.size w wr∧joinL p_frame_Put (ss.drop k) acc=some r) (fun _ _ _ i _=>n - (intOf i).toNat)
 case atStart=>exact ⟨0,[],Nat.zero_le _,rfl,Lib.fresh_isBuilder _ _ _,Nat.zero_le _,bel_,HR.out⟩
 case round =>
  obtain ⟨k,acc,hk,rfl,hb,ha,hB,hj⟩:=hrel
  have hbl:=hb
  have HB:=Lib.hid hb
  have HJ:=Lib.hid hj
  clear hb hbl hj
  by_cases hlt:k < n
  ·have hkl:k < ss.length:=by rw [← HN.out];exact hlt
   obtain ⟨b,o,rfl,hc⟩:=HS.out k hkl
   have hcw:wr.cell? ⟨b,o + k,none⟩=some (.string ss[k]):=(hB.cell (p:=⟨b,o + k,none⟩) (cell_lt hc)).trans hc
   obtain ⟨hm1,m,hm2⟩:=hml
   have hmr:ML wr:=⟨Nat.lt_of_lt_of_le hm1 hB.size,m,(hB.cell (p:=⟨0,0,none⟩) hm1).trans hm2⟩
   clear hc hm2
   have hjj:=HJ.out
   rw [List.drop_eq_getElem_cons hkl,joinL] at hjj
   cases hq:p_frame_Put ss[k] with
   | none=>rw [hq] at hjj;cases hjj
   | some q =>
    rw [hq,Option.bind_some] at hjj
    obtain ⟨q1,q2⟩:=q
    have HP:=Lib.hid (calls_lit (vs:=[.string ss[k]]) (rs:=[.string q1,.int .i64 q2]) (p_frame_Put_v ss[k] (q1,q2) hq) (by simp [Value.oneCell']))
    have HQ:=Lib.hid hjj
    clear hq hjj
    by_cases h0:q2=0
    ·subst h0
     have hq2:=HQ.out
     rw [if_neg (by simp)] at hq2
     split at hq2
     case isFalse=>cases hq2
     rename_i hlen
     have HZ:=Lib.hid hq2
     clear hq2 HQ
     go_wp2_with (first
      | (go_at_call 115;(with_reducible refine (HP.out wr hmr).mono ?_);rintro e w1 ⟨rfl,hb1⟩;have hbw:=isb_below HB.out hb1;have hB1:=hB.trans (hb1.mono hB.size);have hz1:=hb1.size)
      | (go_at_call 116;(with_reducible refine (write_c _ _ _ q1 _ hbw (by rw [Lib.byteCells_length];omega) (Nat.le_trans hB.size hz1)).mono ?_);rintro e w2 ⟨rfl,hb2,hB2⟩))
     exact ⟨⟨k + 1,acc++q1.data.toList,by omega,by go_num,.inr (by rw [← strCells_bytes];exact hb2),by simp;omega,hB1.trans hB2,HZ.out⟩,by simp [intOf];omega⟩
    ·have hq2:=HQ.out
     rw [if_pos h0] at hq2
     have hr:r=(⟨#[]⟩,q2):=(Option.some.inj hq2).symm
     clear hq2 HQ
     have HR2:=Lib.hid hr
     clear hr
     have hne:(q2 != 0)=true:=by simpa using h0
     go_wp2_with (first
      | (go_at_call 115;(with_reducible refine (HP.out wr hmr).mono ?_);rintro e w1 ⟨rfl,hb1⟩;have hB1:=hB.trans (hb1.mono hB.size)))
     go_ret2
     exact ⟨by rw [HR2.out];rfl,hB1⟩
  ·have hkn:k=ss.length:=by have:=HN.out;omega
   have hjj:=HJ.out
   rw [hkn,List.drop_length,joinL] at hjj
   have hr:r=(⟨acc.toArray⟩,0):=(Option.some.inj hjj).symm
   have HR2:=Lib.hid hr
   have hbb:=HB.out
   have HK:=Lib.hid hkn
   clear hjj hr hkn
   go_wp2_with (first
    | (go_at_call 117;(with_reducible refine (Tryz.Builder_String_any _ _ acc _ hbb hB.size).mono ?_);rintro e w2 ⟨rfl,hB2⟩))
   go_ret2
   exact ⟨by rw [HR2.out];rfl,hB.trans hB2⟩
theorem flat_s (L:List ByteArray):((List.map V.s L).flatMap V.cells)=L.map V.s:=by
 induction L with
 | nil=>rfl
 | cons y L ih=>simp [V.cells,ih]
theorem p_frame_Join_v {u:Bool} (l:List ByteArray):CallsO Tryz.prog 63 [.sl (List.map V.s l) u] (fun r:ByteArray × Int=>.tup [V.s r.1,V.i r.2]) (p_frame_Join l):=by
 intro r hr m w cargs hg hmem hargs
 unfold p_frame_Join at hr
 split at hr
 case isFalse=>cases hr
 rename_i hl
 obtain ⟨hsz,hrp⟩:=hargs
 obtain ⟨c,rfl⟩ : ∃ c,cargs=#[c]:=by
  have h1:cargs.size=1:=hsz
  exact ⟨cargs[0],by apply Array.ext;simp [h1];intro i a b;simp at b;subst b;rfl⟩
 have h0:=hrp 0 (by simp) (by simp)
 simp only [List.getElem_cons_zero] at h0
 change Rep m noBk c _ at h0
 obtain ⟨n,hn⟩:=hg
 have hml:ML w:=⟨by have:=cell_lt (hmem _ _ hn);omega,n,hmem _ _ hn⟩
 have fin:∀ (A:Option Addr) (k cap:Nat),c=.slice A k cap→k=l.length→(∀ j (h:j < l.length),∃ b o,A=some ⟨b,o,none⟩∧w.cell? ⟨b,o + j,none⟩=some (.string l[j]))→Calls Tryz.prog 63 #[c] w fun e w'=>∃ c m',e=.returned c∧Below w.heap.size w w'∧(∀ a u,m' a=some u→w'.cell? a=some u)∧(∀ a u,m a=some u→m' a=some u)∧(∀ a u,m' a=some u→m a=some u∨w.heap.size≤a.block)∧Rep m' noBk c (.tup [V.s r.1,V.i r.2]):=fun A k cap hc hk hs=>by
  subst hc
  refine (frameJoin_c A k cap l w hml hk (by omega) hs r hr).mono ?_
  rintro e w' ⟨rfl,hb⟩
  refine ⟨_,m,rfl,hb,fun a u h=>(hb.cell (cell_lt (hmem a u h))).trans (hmem a u h),fun _ _ h=>h,fun _ _ h=>.inl h,.tup rfl fun j h1 h2=>?_⟩
  have:j=0∨j=1:=by simp at h1;omega
  rcases this with rfl | rfl
  ·exact .lit rfl
  ·exact .lit rfl
 cases l with
 | nil =>
  cases h0 with
  | sl hn hc hf hes h1 hm h=>exact fin _ _ _ rfl (by simpa using hn) fun j h=>absurd h (Nat.not_lt_zero _)
  | slnil hf=>exact fin _ _ _ rfl rfl fun j h=>absurd h (Nat.not_lt_zero _)
 | cons x l =>
  generalize hL:x :: l=L at *
  have hfl:=flat_s L
  have hlen:(List.map V.s L).length=L.length:=List.length_map ..
  generalize hX:List.map V.s L=X at *
  cases h0 with
  | slnil hf=>exfalso;rw [← hL] at hlen;cases hlen
  | @sl _ b o k cap es full xs us hn hc hf hes h1 hm h =>
   refine fin _ _ _ rfl (hn.trans hlen) fun j hj=>⟨b,o,rfl,?_⟩
   have hj2:j < (X.flatMap V.cells).length:=by rw [hfl,hlen];exact hj
   have e1:=hm j hj2
   have e2:=h j hj2
   have e3:(X.flatMap V.cells)[j]=V.s L[j]:=by
    rw [List.getElem_of_eq hfl hj2]
    subst hX
    simp
   rw [e3] at e2
   have e4:=e2.int
   rw [e4] at e1
   exact hmem _ _ e1
end Go.Proofs.YtmmmcpeickfolaaGreat

namespace Go.Proofs.YtmmmcpeickfolaaGreat
open Go.RowKit
def p_deframe_Check (a0:DeframeState):Option (Int) :=
 bif (a0.Bad != (0:Int)) then
  bif (a0.Buf.toList == (⟨#[]⟩ : ByteArray).toList) then
   (p_frame_Get a0.Buf).bind fun v3 =>
   bif (v3.2.2 != (3:Int)) then
    some (5:Int)
   else
   bif (decide (a0.Seen < (0:Int))) then
    some (8:Int)
   else
   some (0:Int)
  else
  some (4:Int)
 else
 (p_frame_Get a0.Buf).bind fun v6 =>
 bif (v6.2.2 != (3:Int)) then
  some (5:Int)
 else
 bif (decide (a0.Seen < (0:Int))) then
  some (8:Int)
 else
 some (0:Int)
def p_deframe_State_deaf (a0:DeframeState):Option (Bool) :=
 bif (a0.Bad != (0:Int)) then
  some true
 else
 (p_deframe_Check a0).bind fun v2 =>
 some (v2 != (0:Int))
def p_deframe_Texts_l1:Nat→(List ByteArray)→DeframeState→Option ((DeframeState × (List ByteArray)))
 | 0,_,_=>none
 | n + 1,y8,y9 =>
  (p_frame_Get y9.Buf).bind fun v11 =>
  bif (v11.2.2 == (3:Int)) then
   some (y9,y8)
  else
  bif (v11.2.2 != (0:Int)) then
   some ((DeframeState.mk (⟨#[]⟩ : ByteArray) v11.2.2 y9.Seen),y8)
  else
  (app? y8 [v11.1]).bind fun l14 =>
  (sub? y9.Buf (some v11.2.1) none).bind fun s15 =>
  p_deframe_Texts_l1 n l14 (DeframeState.mk s15 y9.Bad (w64 (y9.Seen + (1:Int))))
def p_deframe_Texts (a0:DeframeState) (a1:ByteArray):Option (DeframeState × (List ByteArray)) :=
 (p_deframe_State_deaf a0).bind fun v1 =>
 bif v1 then
  some (a0,[])
 else
 (cat? a0.Buf a1).bind fun s3 =>
 (p_deframe_Texts_l1 fuel [] (DeframeState.mk s3 a0.Bad a0.Seen)).bind fun q17 =>
 some q17
def p_deframe_items_l1 (z7:List ByteArray) (z8:Int):Nat→(List DeframeItem)→Int→Option (((List DeframeItem) × Int))
 | 0,_,_=>none
 | n + 1,y6,y9 =>
  bif (decide (y9 < z8)) then
   (at? z7 y9).bind fun x11 =>
   (p_stanza_Read x11).bind fun v12 =>
   (app? y6 [(DeframeItem.mk v12.1 v12.2)]).bind fun l13 =>
   p_deframe_items_l1 z7 z8 n l13 (w64 (y9 + (1:Int)))
  else
  some (y6,y9)
def p_deframe_items (a0:List ByteArray):Option ((List DeframeItem)) :=
 (p_deframe_items_l1 a0 (a0.length:Int) fuel [] (0:Int)).bind fun q15 =>
 some q15.1
def p_deframe_Feed (a0:DeframeState) (a1:ByteArray):Option (DeframeState × (List DeframeItem)) :=
 (p_deframe_Texts a0 a1).bind fun v1 =>
 (p_deframe_items v1.2).bind fun v2 =>
 some (v1.1,v2)
def p_deframe_Encode_l1 (z8:List StanzaStanza) (z9:Int):Nat→(List ByteArray)→Int→Option ((ByteArray × Int) ⊕ ((List ByteArray) × Int))
 | 0,_,_=>none
 | n + 1,y7,y10 =>
  bif (decide (y10 < z9)) then
   (at? z8 y10).bind fun x12 =>
   (p_stanza_Put x12).bind fun v13 =>
   bif (v13.2 != (0:Int)) then
    some (.inl ((⟨#[]⟩ : ByteArray),v13.2))
   else
   (app? y7 [v13.1]).bind fun l15 =>
   p_deframe_Encode_l1 z8 z9 n l15 (w64 (y10 + (1:Int)))
  else
  some (.inr (y7,y10))
def p_deframe_Encode (a0:List StanzaStanza):Option (ByteArray × Int) :=
 (p_deframe_Encode_l1 a0 (a0.length:Int) fuel [] (0:Int)).bind fun o16=>match o16 with
 | .inl q17 =>
  some q17
 | .inr q18 =>
  (p_frame_Join q18.1).bind fun v19 =>
  some (v19.1,v19.2)
def p_deframe_Need (a0:DeframeState):Option (Int) :=
 (p_deframe_State_deaf a0).bind fun v1 =>
 bif v1 then
  some (0:Int)
 else
 bif (decide ((2:Int)≤(a0.Buf.size:Int))) then
  (byte? a0.Buf (0:Int)).bind fun c4 =>
  (byte? a0.Buf (1:Int)).bind fun c5 =>
  some (w64 (w64 ((2:Int) + (orI .i64 (shlI .i64 (w64 c4) (8:Int)) (w64 c5))) - (a0.Buf.size:Int)))
 else
 some (w64 ((2:Int) - (a0.Buf.size:Int)))
def p_law12_awake:Option (Bool) :=
 (p_deframe_Feed (DeframeState.mk (⟨#[]⟩ : ByteArray) (0:Int) (0:Int)) (⟨#[0,1]⟩ : ByteArray)).bind fun v1 =>
 (p_deframe_Feed v1.1 (⟨#[2,0,2,16,120,0]⟩ : ByteArray)).bind fun v2 =>
 (p_deframe_Feed v2.1 (⟨#[0,120]⟩ : ByteArray)).bind fun v3 =>
 (p_deframe_Texts v3.1 (⟨#[0,1,2]⟩ : ByteArray)).bind fun v4 =>
 (p_deframe_Encode [(StanzaStanza.mk (2:Int) (⟨#[]⟩ : ByteArray) (⟨#[]⟩ : ByteArray) (⟨#[]⟩ : ByteArray) (0:Int) (0:Int) (0:Int) (0:Int)),(StanzaStanza.mk (15:Int) (⟨#[]⟩ : ByteArray) (⟨#[]⟩ : ByteArray) (⟨#[]⟩ : ByteArray) (0:Int) (0:Int) (0:Int) (1:Int))]).bind fun v5 =>
 (p_deframe_Encode [(StanzaStanza.mk (0:Int) (⟨#[]⟩ : ByteArray) (⟨#[]⟩ : ByteArray) (⟨#[]⟩ : ByteArray) (0:Int) (0:Int) (0:Int) (0:Int))]).bind fun v6 =>
 bif ((v1.2.length:Int) == (0:Int)) then
  (p_deframe_Need v1.1).bind fun v8 =>
  bif (v8 == (1:Int)) then
   bif ((v2.2.length:Int) == (2:Int)) then
    (at? v2.2 (0:Int)).bind fun x11 =>
    bif (x11.S.Kind == (2:Int)) then
     (at? v2.2 (0:Int)).bind fun x13 =>
     bif (x13.E == (0:Int)) then
      (at? v2.2 (1:Int)).bind fun x15 =>
      bif (x15.E == (12:Int)) then
       bif (v2.1.Buf.toList == (⟨#[0]⟩ : ByteArray).toList) then
        bif (v2.1.Seen == (2:Int)) then
         (p_deframe_Need v2.1).bind fun v19 =>
         bif (v19 == (1:Int)) then
          bif (v3.1.Bad == (4:Int)) then
           bif ((v3.2.length:Int) == (0:Int)) then
            bif ((v4.1.Buf.toList == v3.1.Buf.toList) && ((v4.1.Bad == v3.1.Bad) && ((v4.1.Seen == v3.1.Seen) && true))) then
             bif ((v4.2.length:Int) == (0:Int)) then
              bif (v5.1.toList == (⟨#[0,1,2,0,7,15,0,0,0,0,0,1]⟩ : ByteArray).toList) then
               bif (v5.2 == (0:Int)) then
                bif (v6.2 == (12:Int)) then
                 (p_deframe_Check v2.1).bind fun v28 =>
                 bif (v28 == (0:Int)) then
                  (p_deframe_Check (DeframeState.mk (⟨#[]⟩ : ByteArray) (0:Int) (-1:Int))).bind fun v30 =>
                  bif (v30 == (8:Int)) then
                   some true
                  else
                  some false
                 else
                 some false
                else
                some false
               else
               some false
              else
              some false
             else
             some false
            else
            some false
           else
           some false
          else
          some false
         else
         some false
        else
        some false
       else
       some false
      else
      some false
     else
     some false
    else
    some false
   else
   some false
  else
  some false
 else
 some false
def p_ref10_known (a0:Int):Option (Bool) :=
 bif (decide ((1:Int)≤a0)) then
  bif (decide (a0≤(15:Int))) then
   some true
  else
  bif (decide ((32:Int)≤a0)) then
   some (decide (a0≤(41:Int)))
  else
  some false
 else
 bif (decide ((32:Int)≤a0)) then
  some (decide (a0≤(41:Int)))
 else
 some false
def p_ref10_Has (a0:Int):Option (ByteArray) :=
 bif (a0 == (1:Int)) then
  some (⟨#[117,114]⟩ : ByteArray)
 else
 bif (a0 == (3:Int)) then
  some (⟨#[115,112]⟩ : ByteArray)
 else
 bif (a0 == (5:Int)) then
  some (⟨#[117,115,112]⟩ : ByteArray)
 else
 bif (a0 == (6:Int)) then
  some (⟨#[117]⟩ : ByteArray)
 else
 bif (a0 == (7:Int)) then
  some (⟨#[117]⟩ : ByteArray)
 else
 bif (a0 == (8:Int)) then
  some (⟨#[117]⟩ : ByteArray)
 else
 bif (a0 == (9:Int)) then
  some (⟨#[117]⟩ : ByteArray)
 else
 bif (a0 == (10:Int)) then
  some (⟨#[117]⟩ : ByteArray)
 else
 bif (a0 == (11:Int)) then
  some (⟨#[117]⟩ : ByteArray)
 else
 bif (a0 == (14:Int)) then
  some (⟨#[117]⟩ : ByteArray)
 else
 bif (a0 == (12:Int)) then
  some (⟨#[110]⟩ : ByteArray)
 else
 bif (a0 == (15:Int)) then
  some (⟨#[110]⟩ : ByteArray)
 else
 bif (a0 == (36:Int)) then
  some (⟨#[110]⟩ : ByteArray)
 else
 bif (a0 == (41:Int)) then
  some (⟨#[110]⟩ : ByteArray)
 else
 bif (a0 == (13:Int)) then
  some (⟨#[117,109]⟩ : ByteArray)
 else
 bif (a0 == (32:Int)) then
  some (⟨#[99,110]⟩ : ByteArray)
 else
 bif (a0 == (33:Int)) then
  some (⟨#[99,115,110]⟩ : ByteArray)
 else
 bif (a0 == (34:Int)) then
  some (⟨#[117,114,115,112,110]⟩ : ByteArray)
 else
 bif (a0 == (35:Int)) then
  some (⟨#[117,114,110]⟩ : ByteArray)
 else
 bif (a0 == (38:Int)) then
  some (⟨#[117,109,115,110]⟩ : ByteArray)
 else
 bif (a0 == (39:Int)) then
  some (⟨#[117,110]⟩ : ByteArray)
 else
 bif (a0 == (40:Int)) then
  some (⟨#[117,99]⟩ : ByteArray)
 else
 some (⟨#[]⟩ : ByteArray)
def p_ref01_wide (a0:Int):Option (Bool) :=
 bif (a0 == (1:Int)) then
  some true
 else
 bif (a0 == (2:Int)) then
  some true
 else
 bif (a0 == (4:Int)) then
  some true
 else
 some (a0 == (6:Int))
def p_ref10_Light (a0:StanzaStanza):Option (Bool) :=
 bif (decide ((a0.User.size:Int)≤(100:Int))) then
  bif (decide ((a0.Res.size:Int)≤(100:Int))) then
   some (decide ((a0.Name.size:Int)≤(100:Int)))
  else
  some false
 else
 some false
def p_ref01_Say (a0:ByteArray) (a1:Int):Option ((List Int) × Int) :=
 bif (decide (a1 < (a0.size:Int))) then
  some ([],(5:Int))
 else
 bif (decide ((255:Int) < (a0.size:Int))) then
  some ([],(5:Int))
 else
 (app? [IntKind.wrap .u8 (a0.size:Int)] (bytesI a0)).bind fun l3 =>
 some (l3,(0:Int))
def p_ref01_Lay_l1 (z11:Int):Nat→Int→(List Int)→Int→Option ((Int × (List Int) × Int))
 | 0,_,_,_=>none
 | n + 1,y10,y12,y13 =>
  bif (decide (y13 < z11)) then
   (app? [IntKind.wrap .u8 (Int.tmod y10 (256:Int))] y12).bind fun l15 =>
   p_ref01_Lay_l1 z11 n (w64 (Int.tdiv y10 (256:Int))) l15 (w64 (y13 + (1:Int)))
  else
  some (y10,y12,y13)
def p_ref01_Lay (a0:Int) (a1:Int):Option ((List Int) × Int) :=
 (p_ref01_wide a1).bind fun v1 =>
 bif v1 then
  bif (decide (a0 < (0:Int))) then
   some ([],(8:Int))
  else
  (p_ref01_Lay_l1 a1 fuel a0 [] (0:Int)).bind fun q17 =>
  bif (decide ((0:Int) < q17.1)) then
   some ([],(8:Int))
  else
  some (q17.2.1,(0:Int))
 else
 some ([],(2:Int))
def p_ref10_field (a0:StanzaStanza) (a1:Int):Option ((List Int)) :=
 bif (a1 == (117:Int)) then
  (p_ref01_Say a0.User (33:Int)).bind fun v2 =>
  some v2.1
 else
 bif (a1 == (114:Int)) then
  (p_ref01_Say a0.Res (12:Int)).bind fun v4 =>
  some v4.1
 else
 bif (a1 == (109:Int)) then
  (p_ref01_Say a0.Name (24:Int)).bind fun v6 =>
  some v6.1
 else
 bif (a1 == (115:Int)) then
  (p_ref01_Lay a0.Show (1:Int)).bind fun v8 =>
  some v8.1
 else
 bif (a1 == (112:Int)) then
  (p_ref01_Lay (w64 (a0.Prio + (128:Int))) (1:Int)).bind fun v10 =>
  some v10.1
 else
 bif (a1 == (99:Int)) then
  (p_ref01_Lay a0.Code (1:Int)).bind fun v12 =>
  some v12.1
 else
 (p_ref01_Lay a0.N (6:Int)).bind fun v13 =>
 some v13.1
def p_ref10_Put_l1 (z11:ByteArray) (z13:StanzaStanza):Nat→(List Int)→Int→Option (((List Int) × Int))
 | 0,_,_=>none
 | n + 1,y10,y12 =>
  bif (decide (y12 < (z11.size:Int))) then
   (byte? z11 y12).bind fun c15 =>
   (p_ref10_field z13 c15).bind fun v16 =>
   (app? y10 v16).bind fun l17 =>
   p_ref10_Put_l1 z11 z13 n l17 (w64 (y12 + (1:Int)))
  else
  some (y10,y12)
def p_ref10_Put (a0:StanzaStanza):Option (ByteArray × Int) :=
 (p_ref10_Check a0).bind fun v1 =>
 bif (v1 != (0:Int)) then
  some ((⟨#[]⟩ : ByteArray),v1)
 else
 (p_ref10_Has a0.Kind).bind fun v3 =>
 (p_ref10_Put_l1 v3 a0 fuel [a0.Kind] (0:Int)).bind fun q19 =>
 (text? q19.1).bind fun s20 =>
 some (s20,(0:Int))
def p_ref11_Put (a0:ByteArray):Option (ByteArray × Int) :=
 bif (a0.toList == (⟨#[]⟩ : ByteArray).toList) then
  some ((⟨#[]⟩ : ByteArray),(4:Int))
 else
 bif (decide ((128:Int) < (a0.size:Int))) then
  some ((⟨#[]⟩ : ByteArray),(5:Int))
 else
 (text? [IntKind.wrap .u8 (w64 (Int.tdiv (a0.size:Int) (256:Int))),IntKind.wrap .u8 (Int.tmod (a0.size:Int) (256:Int))]).bind fun s3 =>
 (cat? s3 a0).bind fun s4 =>
 some (s4,(0:Int))
def p_ref12_Encode_l1 (z6:List StanzaStanza):Nat→ByteArray→Int→Option ((ByteArray × Int) ⊕ (ByteArray × Int))
 | 0,_,_=>none
 | n + 1,y7,y8 =>
  bif (decide (y8 < (z6.length:Int))) then
   (at? z6 y8).bind fun x10 =>
   (p_ref10_Put x10).bind fun v11 =>
   bif (v11.2 != (0:Int)) then
    some (.inl ((⟨#[]⟩ : ByteArray),v11.2))
   else
   (p_ref11_Put v11.1).bind fun v13 =>
   bif (v13.2 != (0:Int)) then
    some (.inl ((⟨#[]⟩ : ByteArray),v13.2))
   else
   (cat? y7 v13.1).bind fun s15 =>
   p_ref12_Encode_l1 z6 n s15 (w64 (y8 + (1:Int)))
  else
  some (.inr (y7,y8))
def p_ref12_Encode (a0:List StanzaStanza):Option (ByteArray × Int) :=
 (p_ref12_Encode_l1 a0 fuel (⟨#[]⟩ : ByteArray) (0:Int)).bind fun o16=>match o16 with
 | .inl q17 =>
  some q17
 | .inr q18 =>
  some (q18.1,(0:Int))
def p_law12_DeframeEncodes_l1 (z7:List StanzaStanza):Nat→(List StanzaStanza)→Int→Option (Bool ⊕ ((List StanzaStanza) × Int))
 | 0,_,_=>none
 | n + 1,y8,y9 =>
  bif (decide (y9 < (z7.length:Int))) then
   (at? z7 y9).bind fun x11 =>
   (p_ref10_Light x11).bind fun v12 =>
   bif v12 then
    (at? z7 y9).bind fun x14 =>
    (app? y8 [x14]).bind fun l15 =>
    p_law12_DeframeEncodes_l1 z7 n l15 (w64 (y9 + (1:Int)))
   else
   (p_law12_awake).bind fun v16 =>
   some (.inl v16)
  else
  some (.inr (y8,y9))
def p_law12_DeframeEncodes (a0:List StanzaStanza):Option (Bool) :=
 bif (decide ((12:Int) < (a0.length:Int))) then
  (p_law12_awake).bind fun v2 =>
  some v2
 else
 (p_law12_DeframeEncodes_l1 a0 fuel [] (0:Int)).bind fun o17=>match o17 with
 | .inl q18 =>
  some q18
 | .inr q19 =>
  (p_deframe_Encode q19.1).bind fun v20 =>
  (p_ref12_Encode a0).bind fun v21 =>
  bif (v20.1.toList == v21.1.toList) then
   bif (v20.2 == v21.2) then
    (p_law12_awake).bind fun v24 =>
    some v24
   else
   some false
  else
  some false
end Go.Proofs.YtmmmcpeickfolaaGreat

namespace Go.Proofs.YtmmmcpeickfolaaGreat
open Go.ChangeShapes Go.WideShapes Go.ChangeAt Go.RowKit Go.Joins Go.Deep
structure StanzaStanza.Wf (x:StanzaStanza):Prop where
 Kind:(Lit.int .u8 x.Kind).wf=true
 Show:(Lit.int .i64 x.Show).wf=true
 Prio:(Lit.int .i64 x.Prio).wf=true
 Code:(Lit.int .i64 x.Code).wf=true
 N:(Lit.int .i64 x.N).wf=true
set_option maxRecDepth 100000 in
theorem rd_T85 {H:Type} {enc:TypeId × Value→H} {W:World} {spare:Nat→Bool} {held:Bool} {fuel:Nat} {cs:List Value} {y:DataW H × List MemPlace} (h:DataW.trod enc Tryz.prog W 0 spare held fuel 85 cs=some y):∃ x:StanzaStanza,StanzaStanza.Wf x∧RepL (MW W) noBk cs [.y8 x.Kind,.s x.User,.s x.Res,.s x.Name,.i x.Show,.i x.Prio,.i x.Code,.i x.N]:=by
 obtain ⟨xs,n,_,_,hl,hx,hall⟩:=DataW.trod_struct Tryz.underlying85 h
 have hce:Tryz.prog.cellsOf 85=8:=by kernel_rfl
 rw [hce] at hl
 match cs,hl,hall with
 | [c0,c1,c2,c3,c4,c5,c6,c7],_,hall =>
  obtain ⟨y0,hy0⟩:=get_some hx (show 0 < 8 by omega)
  have g0:DataW.trod enc Tryz.prog W 0 spare held n 5 [c0]=some y0:=by
   have hz:Tryz.prog.cellsOf 5=1:=by kernel_rfl
   have g:DataW.trod enc Tryz.prog W 0 spare held n 5 (([c0,c1,c2,c3,c4,c5,c6,c7].drop 0).take (Tryz.prog.cellsOf 5))=some y0:=(hall 0 _ rfl).trans hy0
   rw [hz] at g;exact g
  obtain ⟨x0,w0,r0⟩:=rd_int Tryz.underlying5 g0
  obtain ⟨y1,hy1⟩:=get_some hx (show 1 < 8 by omega)
  have g1:DataW.trod enc Tryz.prog W 0 spare held n 9 [c1]=some y1:=by
   have hz:Tryz.prog.cellsOf 9=1:=by kernel_rfl
   have g:DataW.trod enc Tryz.prog W 0 spare held n 9 (([c0,c1,c2,c3,c4,c5,c6,c7].drop 1).take (Tryz.prog.cellsOf 9))=some y1:=(hall 1 _ rfl).trans hy1
   rw [hz] at g;exact g
  obtain ⟨x1,r1⟩:=rd_string Tryz.underlying9 g1
  obtain ⟨y2,hy2⟩:=get_some hx (show 2 < 8 by omega)
  have g2:DataW.trod enc Tryz.prog W 0 spare held n 9 [c2]=some y2:=by
   have hz:Tryz.prog.cellsOf 9=1:=by kernel_rfl
   have g:DataW.trod enc Tryz.prog W 0 spare held n 9 (([c0,c1,c2,c3,c4,c5,c6,c7].drop 2).take (Tryz.prog.cellsOf 9))=some y2:=(hall 2 _ rfl).trans hy2
   rw [hz] at g;exact g
  obtain ⟨x2,r2⟩:=rd_string Tryz.underlying9 g2
  obtain ⟨y3,hy3⟩:=get_some hx (show 3 < 8 by omega)
  have g3:DataW.trod enc Tryz.prog W 0 spare held n 9 [c3]=some y3:=by
   have hz:Tryz.prog.cellsOf 9=1:=by kernel_rfl
   have g:DataW.trod enc Tryz.prog W 0 spare held n 9 (([c0,c1,c2,c3,c4,c5,c6,c7].drop 3).take (Tryz.prog.cellsOf 9))=some y3:=(hall 3 _ rfl).trans hy3
   rw [hz] at g;exact g
  obtain ⟨x3,r3⟩:=rd_string Tryz.underlying9 g3
  obtain ⟨y4,hy4⟩:=get_some hx (show 4 < 8 by omega)
  have g4:DataW.trod enc Tryz.prog W 0 spare held n 3 [c4]=some y4:=by
   have hz:Tryz.prog.cellsOf 3=1:=by kernel_rfl
   have g:DataW.trod enc Tryz.prog W 0 spare held n 3 (([c0,c1,c2,c3,c4,c5,c6,c7].drop 4).take (Tryz.prog.cellsOf 3))=some y4:=(hall 4 _ rfl).trans hy4
   rw [hz] at g;exact g
  obtain ⟨x4,w4,r4⟩:=rd_int Tryz.underlying3 g4
  obtain ⟨y5,hy5⟩:=get_some hx (show 5 < 8 by omega)
  have g5:DataW.trod enc Tryz.prog W 0 spare held n 3 [c5]=some y5:=by
   have hz:Tryz.prog.cellsOf 3=1:=by kernel_rfl
   have g:DataW.trod enc Tryz.prog W 0 spare held n 3 (([c0,c1,c2,c3,c4,c5,c6,c7].drop 5).take (Tryz.prog.cellsOf 3))=some y5:=(hall 5 _ rfl).trans hy5
   rw [hz] at g;exact g
  obtain ⟨x5,w5,r5⟩:=rd_int Tryz.underlying3 g5
  obtain ⟨y6,hy6⟩:=get_some hx (show 6 < 8 by omega)
  have g6:DataW.trod enc Tryz.prog W 0 spare held n 3 [c6]=some y6:=by
   have hz:Tryz.prog.cellsOf 3=1:=by kernel_rfl
   have g:DataW.trod enc Tryz.prog W 0 spare held n 3 (([c0,c1,c2,c3,c4,c5,c6,c7].drop 6).take (Tryz.prog.cellsOf 3))=some y6:=(hall 6 _ rfl).trans hy6
   rw [hz] at g;exact g
  obtain ⟨x6,w6,r6⟩:=rd_int Tryz.underlying3 g6
  obtain ⟨y7,hy7⟩:=get_some hx (show 7 < 8 by omega)
  have g7:DataW.trod enc Tryz.prog W 0 spare held n 3 [c7]=some y7:=by
   have hz:Tryz.prog.cellsOf 3=1:=by kernel_rfl
   have g:DataW.trod enc Tryz.prog W 0 spare held n 3 (([c0,c1,c2,c3,c4,c5,c6,c7].drop 7).take (Tryz.prog.cellsOf 3))=some y7:=(hall 7 _ rfl).trans hy7
   rw [hz] at g;exact g
  obtain ⟨x7,w7,r7⟩:=rd_int Tryz.underlying3 g7
  exact ⟨⟨x0,x1,x2,x3,x4,x5,x6,x7⟩,⟨w0,w4,w5,w6,w7⟩,repL_app r0 (repL_app r1 (repL_app r2 (repL_app r3 (repL_app r4 (repL_app r5 (repL_app r6 (repL_app r7 (repL_nil))))))))⟩
theorem rd_T81 {H:Type} {enc:TypeId × Value→H} {W:World} {spare:Nat→Bool} {held:Bool} {fuel:Nat} {cs:List Value} {y:DataW H × List MemPlace} (h:DataW.trod enc Tryz.prog W 0 spare held fuel 81 cs=some y):∃ x:List StanzaStanza,(∀ z ∈ x,StanzaStanza.Wf z)∧RepL (MW W) noBk cs [(fun l:List StanzaStanza=>V.sl (l.map StanzaStanza.v) false) x] :=
 rd_slice (f:=StanzaStanza.v) (es:=8) (wf:=StanzaStanza.Wf) Tryz.underlying81 (fun _=>rfl) (by intro a v hv;simp [V.cells] at hv;first | (subst hv;rfl) | (rcases hv with rfl | rfl | rfl | rfl | rfl | rfl | rfl | rfl <;> rfl)) (by omega) (by kernel_rfl) (fun n cs y h=>rd_T85 h) h
end Go.Proofs.YtmmmcpeickfolaaGreat

namespace Go.Proofs.YtmmmcpeickfolaaGreat
open Go.RowKit
theorem at_nat {α:Type} (l:List α) (k:Nat):at? l (k:Int)=l[k]?:=by
 unfold at?;rw [if_pos (Int.natCast_nonneg k)];rfl
theorem at_lt {α:Type} {l:List α} {k:Nat} (h:k < l.length):at? l (k:Int)=some l[k]:=by rw [at_nat,List.getElem?_eq_getElem h]
theorem w64_id {r:Int} (h:-9223372036854775808≤r∧r≤9223372036854775807):w64 r=r:=wrap_ok h
theorem w64_succ {k:Nat} (h:k≤1000000):w64 ((k:Int) + 1)=((k + 1:Nat):Int):=by rw [w64_id (by omega)];rfl
theorem lt_tt {a b:Nat} (h:a < b):decide ((a:Int) < (b:Int))=true:=by simpa using h
theorem lt_ff {a b:Nat} (h:b≤a):decide ((a:Int) < (b:Int))=false:=by simpa using h
theorem drop_at {α:Type} {l:List α} {k:Nat} (h:k < l.length):l.drop k=l[k] :: l.drop (k + 1):=List.drop_eq_getElem_cons h
theorem fuel_pos:(1000000:Nat) < fuel:=by decide
theorem fdivN (m p:Nat):(m:Int).fdiv (2 ^ p)=((m / 2 ^ p:Nat):Int):=by
 rw [show ((2:Int) ^ p)=((2 ^ p:Nat):Int) by simp,Int.fdiv_eq_ediv_of_nonneg _ (Int.natCast_nonneg _)];rfl
theorem app_ok {α:Type} {a b:List α} (h:a.length + b.length≤1000000):app? a b=some (a++b):=if_pos h
theorem byte_at {s:ByteArray} {k:Nat} (h:k < s.size):byte? s (k:Int)=some (s[k].toNat:Int):=by
 unfold byte?
 rw [dif_pos ⟨Int.natCast_nonneg k,h⟩];rfl
theorem tl_data (s:ByteArray):s.toList=s.data.toList:=by rw [ByteArray.toList_eq]
def eqT (a b:ByteArray):Bool:=a.toList == b.toList
theorem eqT_refl (a:ByteArray):(a.toList == a.toList)=true:=by simp
theorem eqT_iff {a b:ByteArray}:(a.toList == b.toList)=true ↔ a=b:=by
 rw [beq_iff_eq,tl_data,tl_data]
 exact ⟨fun h=>by cases a;cases b;congr 1;exact Array.ext' h,fun h=>by rw [h]⟩
end Go.Proofs.YtmmmcpeickfolaaGreat

namespace Go.Proofs.YtmmmcpeickfolaaGreat
open Go.RowKit
inductive GR where
 | cut
 | bad (e:Int)
 | ok (t r:List UInt8)
def getR:List UInt8→GR
 | a :: b :: r=>if 256 * a.toNat + b.toNat=0 then .bad 4 else if 128 < 256 * a.toNat + b.toNat then .bad 5 else if r.length < 256 * a.toNat + b.toNat then .cut else .ok (r.take (256 * a.toNat + b.toNat)) (r.drop (256 * a.toNat + b.toNat))
 | _=>.cut
def runF:Nat→List UInt8→List (List UInt8) × List UInt8 × Int
 | 0,l=>([],l,0)
 | n + 1,l=>match getR l with
  | .cut=>([],l,0)
  | .bad e=>([],[],e)
  | .ok t r=>(t :: (runF n r).1,(runF n r).2)
def run (l:List UInt8):List (List UInt8) × List UInt8 × Int:=runF (l.length + 1) l
end Go.Proofs.YtmmmcpeickfolaaGreat

namespace Go.Proofs.YtmmmcpeickfolaaGreat
open Go.RowKit
structure Good (buf:List UInt8) (bad seen:Int):Prop where
 seen:0≤seen
 len:buf.length≤50000
 out:bad=0∧getR buf=.cut∨bad≠0∧buf=[]
end Go.Proofs.YtmmmcpeickfolaaGreat

namespace Go.Proofs.YtmmmcpeickfolaaGreat
def letterS (c:UInt8):Prop:=c=117∨c=114∨c=109∨c=115∨c=112∨c=99∨c=110
theorem letters (k:Nat):∀ c ∈ hasN k,letterS c:=hasN_in k
end Go.Proofs.YtmmmcpeickfolaaGreat

namespace Go.Proofs.YtmmmcpeickfolaaGreat
def encS (s:StzD):List UInt8:=s.kind :: bodyB s (hasN s.kind.toNat)
theorem let_ok {s:StzD} (h:checkS s=0):∀ c ∈ hasN s.kind.toNat,letterS c∧okF s c:=fun c hc=>⟨letters _ c hc,check_ok h c hc⟩
def fmax (c:UInt8):Nat:=if c=117 then 34 else if c=114 then 13 else if c=109 then 25 else if c=110 then 6 else 1
theorem field_max {s:StzD} {c:UInt8} (hc:letterS c) (h:okF s c):(fieldB s c).length≤fmax c:=by
 have b1:∀ n,(beL n 1).length=1:=fun _=>rfl
 have b6:∀ n,(beL n 6).length=6:=fun _=>rfl
 rcases hc with rfl | rfl | rfl | rfl | rfl | rfl | rfl
 ·rw [fld117,sayB_len];have:=ok117 h;show _≤34;omega
 ·rw [fld114,sayB_len];have:=ok114 h;show _≤13;omega
 ·rw [fld109,sayB_len];have:=ok109 h;show _≤25;omega
 ·rw [fld115,b1];decide
 ·rw [fld112,b1];decide
 ·rw [fld99,b1];decide
 ·rw [fld110,b6];decide
theorem body_max {s:StzD}:∀ {L:List UInt8},(∀ c ∈ L,letterS c∧okF s c)→(bodyB s L).length≤(L.map fmax).sum
 | [],_=>by simp [bodyB]
 | c :: L,h=>by
  have h1:=body_max (s:=s) (L:=L) (fun d hd=>h d (List.mem_cons_of_mem _ hd))
  have h2:=field_max (h c (by simp)).1 (h c (by simp)).2
  have e:bodyB s (c :: L)=fieldB s c++bodyB s L:=by simp [bodyB]
  rw [e,List.length_append,List.map_cons,List.sum_cons];omega
theorem ite_p {p:Prop} [Decidable p] {a b:List UInt8} {Q:List UInt8→Prop} (ha:Q a) (hb:Q b):Q (if p then a else b):=by split <;> assumption
theorem sum_max (k:Nat):((hasN k).map fmax).sum≤80:=by
 have:(fun l:List UInt8=>(l.map fmax).sum≤80) (hasN k):=by
  unfold hasN
  repeat' (refine ite_p (Q:=fun l:List UInt8=>(l.map fmax).sum≤80) ?_ ?_)
  all_goals decide
 exact this
theorem enc_len {s:StzD} (h:checkS s=0):0 < (encS s).length∧(encS s).length≤81:=by
 have:=body_max (let_ok h)
 have:=sum_max s.kind.toNat
 unfold encS
 rw [List.length_cons];omega
end Go.Proofs.YtmmmcpeickfolaaGreat

namespace Go.Proofs.YtmmmcpeickfolaaGreat
open Go.RowKit
theorem rkh_all:(List.range 256).all (fun k=>(p_ref10_known (k:Int) == some (knownN k)) && ((p_ref10_Has (k:Int)).map (·.data.toList) == some (hasN k)))=true:=by kernel_rfl
theorem rkh_p (k:UInt8):p_ref10_known (k.toNat:Int)=some (knownN k.toNat)∧p_ref10_Has (k.toNat:Int)=some (ba (hasN k.toNat)):=by
 have:=List.all_eq_true.1 rkh_all k.toNat (List.mem_range.2 k.toNat_lt)
 simp only [Bool.and_eq_true,beq_iff_eq] at this
 refine ⟨this.1,?_⟩
 cases h:p_ref10_Has (k.toNat:Int) with
 | none=>rw [h] at this;cases this.2
 | some b=>rw [h] at this;have:=Option.some.inj this.2;rw [← this,ba_of]
end Go.Proofs.YtmmmcpeickfolaaGreat

namespace Go.Proofs.YtmmmcpeickfolaaGreat
open Go.RowKit
end Go.Proofs.YtmmmcpeickfolaaGreat

