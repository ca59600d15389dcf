/- A part of the proof: 5 texts joined. -/
import Derived.Test.YtmmmcpeickfolaaGreatZcA16
import Derived.Test.YtmmmcpeickfolaaGreatZcA14
import Derived.KernelRfl
import Derived.Test.YtmmmcpeickfolaaGreatZcA24
import Derived.Test.YtmmmcpeickfolaaGreatZcA23
import Derived.Test.YtmmmcpeickfolaaGreatZcA15
set_option linter.all false
namespace Go.Proofs.YtmmmcpeickfolaaGreat
open Go.RowKit
set_option maxRecDepth 100000
set_option maxHeartbeats 4000000
def gc147:BCode:=(.seq (R_ 0 [O_ 2 (.mv (b_ false)) 0]) (.seq (.seq (R_ 0 [O_ 3 (.mv (t_ 0)) 0]) (.block 0 (.seq (.seq (R_ 0 [O_ 5 (.bin .eql (t_ 3) (i_ 1)) 0,O_ 4 (.mv (t_ 5)) 0]) (.cond (t_ 4) .skip (.seq (R_ 0 [O_ 6 (.bin .eql (t_ 3) (i_ 2)) 0,O_ 4 (.mv (t_ 6)) 0]) (.cond (t_ 4) .skip (.seq (R_ 0 [O_ 7 (.bin .eql (t_ 3) (i_ 4)) 0,O_ 4 (.mv (t_ 7)) 0]) (.cond (t_ 4) .skip (R_ 0 [O_ 8 (.bin .eql (t_ 3) (i_ 6)) 0,O_ 4 (.mv (t_ 8)) 0]))))))) (.cond (t_ 4) (.seq (R_ 0 [O_ 2 (.mv (b_ true)) 0]) .ret) .skip)))) (.seq (R_ 0 [O_ 2 (.mv (b_ false)) 0]) .ret)))
theorem gc147_ok:compF Tryz.prog Tryz.f147=some (gc147.er,9,[.tmp 2]):=by unfold gc147;kernel_rfl
theorem p_octet_wide_v (a0:Int):CallsO Tryz.prog 147 [.i a0] V.b (p_octet_wide a0):=by
 refine callsO_comp mix Tryz.func147 gc147_ok fun r H=>?_
 rw [p_octet_wide] at H
 conv=>whnf
 refine tst_c H (fun b1 H=>?_) (fun b1 H=>?_)
 ·conv=>whnf
  refine Tst.T ?_;conv=>whnf
  exact fb_ H
 conv=>whnf
 refine tst_c H (fun b2 H=>?_) (fun b2 H=>?_)
 ·conv=>whnf
  refine Tst.T ?_;conv=>whnf
  exact fb_ H
 conv=>whnf
 refine tst_c H (fun b3 H=>?_) (fun b3 H=>?_)
 ·conv=>whnf
  refine Tst.T ?_;conv=>whnf
  exact fb_ H
 conv=>whnf
 refine tst_c H (fun b4 H=>?_) (fun b4 H=>?_)
 ·conv=>whnf
  exact fb_ H
 conv=>whnf
 exact fb_ H
def gc98:BCode:=(.seq (R_ 0 [O_ 4 (.mv (.const (.slice none 0 0))) 0,O_ 5 (.mv (i_ 0)) 0]) (.seq (.seq (R_ 0 [O_ 8 (.mv (t_ 1)) 0,O_ 9 (.cl 147 [(t_ 8)]) 0,O_ 10 (.un .not (t_ 9)) 0]) (.cond (t_ 10) (.seq (R_ 0 [O_ 4 (.mv (.const (.slice none 0 0))) 0,O_ 5 (.mv (i_ 2)) 0]) .ret) .skip)) (.seq (.seq (R_ 0 [O_ 11 (.mv (t_ 0)) 0,O_ 12 (.bin .lss (t_ 11) (i_ 0)) 0,O_ 13 (.mv (t_ 12)) 0,⟨(some 14),.mv (t_ 0),(some (13,false)),0⟩,⟨(some 15),.mv (t_ 1),(some (13,false)),0⟩,⟨(some 16),.bin .mul (i_ 8) (t_ 15),(some (13,false)),0⟩,⟨(some 17),.bin .shr (t_ 14) (t_ 16),(some (13,false)),0⟩,⟨(some 18),.bin .neq (t_ 17) (i_ 0),(some (13,false)),0⟩,O_ 19 (.pick (t_ 13) (b_ true) (t_ 18)) 0]) (.cond (t_ 19) (.seq (R_ 0 [O_ 4 (.mv (.const (.slice none 0 0))) 0,O_ 5 (.mv (i_ 8)) 0]) .ret) .skip)) (.seq (R_ 1 [O_ 20 (.mv (t_ 1)) 0,O_ 21 (.mks 1 1 [(.lit (.int .u8 0))] (t_ 20) (t_ 20)) 0,O_ 6 (.mv (t_ 21)) 1]) (.seq (.seq (R_ 0 [O_ 22 (.mv (t_ 1)) 0,O_ 23 (.mv (i_ 0)) 0]) (.block 0 (.loop (.seq (R_ 0 [O_ 24 (.bin .lss (t_ 23) (t_ 22)) 0]) (.seq (.cond (t_ 24) .skip (.exit 0)) (.seq (.block 1 (.seq (R_ 0 [O_ 25 (.mv (t_ 23)) 0,O_ 7 (.mv (t_ 25)) 0]) (R_ 0 [O_ 26 (.mv (t_ 6)) 0,O_ 27 (.mv (t_ 1)) 0,O_ 28 (.bin .sub (t_ 27) (i_ 1)) 0,O_ 29 (.mv (t_ 7)) 0,O_ 30 (.bin .sub (t_ 28) (t_ 29)) 0,O_ 31 (.mv (t_ 0)) 0,O_ 32 (.mv (t_ 7)) 0,O_ 33 (.bin .mul (i_ 8) (t_ 32)) 0,O_ 34 (.bin .shr (t_ 31) (t_ 33)) 0,O_ 35 (.cvi .u8 (t_ 34)) 0,O_ 36 (.ixs 1 (t_ 26) (t_ 30)) 0,U_ (.st 1 (t_ 36) (t_ 35)) 0]))) (R_ 0 [O_ 37 (.bin .add (t_ 23) (i_ 1)) 0,O_ 23 (.mv (t_ 37)) 0]))))))) (.seq (R_ 0 [O_ 38 (.mv (t_ 6)) 0,O_ 4 (.mv (t_ 38)) 0,O_ 5 (.mv (i_ 0)) 0]) .ret))))))
theorem gc98_ok:compF Tryz.prog Tryz.f98=some (gc98.er,39,[.tmp 4,.tmp 5]):=by unfold gc98;kernel_rfl
theorem p_octet_Lay_v (a0:Int) (a1:Int):CallsO Tryz.prog 98 [.i a0,.i a1] (fun r:(List Int) × Int=>.tup [(fun l:List Int=>V.sl (l.map V.y8) false) r.1,V.i r.2]) (p_octet_Lay a0 a1):=by
 refine callsO_comp mix Tryz.func98 gc98_ok fun r H=>?_
 rw [p_octet_Lay] at H
 conv=>whnf
 refine ask_c (p_octet_wide_v _) H rfl rfl (fun v1 H=>?_);conv=>whnf
 refine Tst.not ?_
 refine tst_d H (fun b2 H=>?_) (fun b2 H=>?_)
 ·conv=>whnf
  refine finR_c (enc:=(fun r:(List Int) × Int=>.tup [(fun l:List Int=>V.sl (l.map V.y8) false) r.1,V.i r.2])) H ?_;conv=>whnf
  exact ⟨_,.tup (.cons (.c (.slw)) (.cons (.c (.id rfl)) (.nil)))⟩
 conv=>whnf
 refine tst_c H (fun b3 H=>?_) (fun b3 H=>?_)
 ·conv=>whnf
  iterate 6 (refine Tst.T ?_;conv=>whnf)
  refine finR_c (enc:=(fun r:(List Int) × Int=>.tup [(fun l:List Int=>V.sl (l.map V.y8) false) r.1,V.i r.2])) H ?_;conv=>whnf
  exact ⟨_,.tup (.cons (.c (.slw)) (.cons (.c (.id rfl)) (.nil)))⟩
 conv=>whnf
 iterate 2 (refine Tst.F ?_;conv=>whnf)
 refine Ari.w ?_;conv=>whnf
 refine Tst.F ?_;conv=>whnf
 refine Shr.ok (pos_c H).1 ((fun H=>?_) (pos_c H).2);conv=>whnf
 iterate 2 (refine Tst.F ?_;conv=>whnf)
 refine tst_c H (fun b5 H=>?_) (fun b5 H=>?_)
 ·conv=>whnf
  refine finR_c (enc:=(fun r:(List Int) × Int=>.tup [(fun l:List Int=>V.sl (l.map V.y8) false) r.1,V.i r.2])) H ?_;conv=>whnf
  exact ⟨_,.tup (.cons (.c (.slw)) (.cons (.c (.id rfl)) (.nil)))⟩
 conv=>whnf
 refine mksA_c (f:=V.y8) H rfl rfl (by decide) (fun l6 H=>?_);conv=>whnf
 obtain ⟨o8,HL9,HQ10⟩:=bind_c H
 refine loop_c [23] [7,24,25,26,27,28,29,30,31,32,33,34,35,36,37,21] [7,24,25,26,27,28,29,30,31,32,33,34,35,36,37,21] (fun n vals st=>(∃ y12 y13,p_octet_Lay_l1  a1 a0 a1 a1 n y12 y13=some o8∧vals=[.i y12]∧st=[.live (cellsM V.y8 y13) 0])) fuel 1 [] (⟨_,_,HL9,rfl,rfl⟩) (Nat.zero_le _) rfl (by kernel_rfl) (by kernel_rfl) rfl (wkB_live0 rfl (cellsM_idlt (f:=V.y8) (fun _=>rfl) _) rfl trivial) ?_
 rintro (_ | n11) _ _ (⟨y12,y13,H,rfl,rfl⟩)
 ·rw [p_octet_Lay_l1] at H;cases H
 rw [p_octet_Lay_l1] at H
 conv=>whnf
 refine tst_d H (fun b14 H=>?_) (fun b14 H=>?_)
 ·conv=>whnf
  obtain rfl:=Option.some.inj H
  have H:=HQ10
  try dsimp only at H
  obtain ⟨_,h18,H⟩:=lenG_c H
  refine finRz_c (enc:=(fun r:(List Int) × Int=>.tup [(fun l:List Int=>V.sl (l.map V.y8) false) r.1,V.i r.2])) [0] H ?_;conv=>whnf
  refine ⟨Nat.zero_le _,?_⟩;conv=>whnf
  exact ⟨_,.tup (.cons (.c (fzc_made (f:=V.y8) (l:=y13) rfl rfl rfl h18 (fun _=>rfl) (fun _=>rfl))) (.cons (.c (.id rfl)) (.nil)))⟩
 conv=>whnf
 iterate 3 (refine Ari.w ?_;conv=>whnf)
 refine Shr.ok (pos_c H).1 ((fun H=>?_) (pos_c H).2);conv=>whnf
 refine Ari.w ?_;conv=>whnf
 refine ⟨rfl,ixa_c H (fun x16 h17 H=>?_)⟩;conv=>whnf
 refine ⟨Nat.zero_le _,sto_c (f:=V.y8) (es:=1) h17 (x':=IntKind.wrap .u8 (shrI .i64 a0 (w64 ((8:Int) * y12)))) (fun _=>rfl) 0 (by omega) (Nat.le_of_ble_eq_true rfl) (by rfl) ?_⟩;conv=>whnf
 refine Ari.w ?_;conv=>whnf
 exact again_c [7,24,25,26,27,28,29,30,31,32,33,34,35,36,37,21] n11 1 [] (⟨_,_,H,rfl,rfl⟩) (Nat.lt_succ_self _) (Nat.zero_le _) rfl (by kernel_rfl) (by kernel_rfl) rfl (wkB_live0 rfl (cellsM_idlt (f:=V.y8) (fun _=>rfl) _) rfl trivial)
def gc115:BCode:=(.seq (R_ 0 [O_ 2 (.mv (.const (.string ⟨#[]⟩))) 0,O_ 3 (.mv (i_ 0)) 0]) (.seq (.seq (R_ 0 [O_ 6 (.mv (t_ 0)) 0,O_ 7 (.bin .eql (t_ 6) (.const (.string ⟨#[]⟩))) 0]) (.cond (t_ 7) (.seq (R_ 0 [O_ 2 (.mv (.const (.string ⟨#[]⟩))) 0,O_ 3 (.mv (i_ 4)) 0]) .ret) .skip)) (.seq (.seq (R_ 0 [O_ 8 (.mv (t_ 0)) 0,O_ 9 (.lent (t_ 8)) 0,O_ 10 (.bin .gtr (t_ 9) (i_ 128)) 0]) (.cond (t_ 10) (.seq (R_ 0 [O_ 2 (.mv (.const (.string ⟨#[]⟩))) 0,O_ 3 (.mv (i_ 5)) 0]) .ret) .skip)) (.seq (R_ 0 [O_ 12 (.mv (t_ 0)) 0,O_ 13 (.lent (t_ 12)) 0,O_ 14 (.cl 98 [(t_ 13),(i_ 2)]) 0,O_ 11 (.mv (t_ 14)) 0,O_ 15 (.ex (t_ 11) 0) 0,O_ 16 (.ex (t_ 11) 1) 0,O_ 4 (.mv (t_ 15)) 0,O_ 5 (.mv (t_ 16)) 0]) (.seq (R_ 0 [O_ 17 (.mv (t_ 4)) 0,O_ 18 (.b2s (t_ 17)) 0,O_ 19 (.mv (t_ 0)) 0,O_ 20 (.bin .add (t_ 18) (t_ 19)) 0,O_ 21 (.mv (t_ 5)) 0,O_ 2 (.mv (t_ 20)) 0,O_ 3 (.mv (t_ 21)) 0]) .ret)))))
theorem gc115_ok:compF Tryz.prog Tryz.f115=some (gc115.er,22,[.tmp 2,.tmp 3]):=by unfold gc115;kernel_rfl
theorem p_frame_Put_v (a0:ByteArray):CallsO Tryz.prog 115 [.s a0] (fun r:ByteArray × Int=>.tup [V.s r.1,V.i r.2]) (p_frame_Put a0):=by
 refine callsO_comp mix Tryz.func115 gc115_ok fun r H=>?_
 rw [p_frame_Put] at H
 conv=>whnf
 refine tst_c H (fun b1 H=>?_) (fun b1 H=>?_)
 ·conv=>whnf
  exact fin0_c (enc:=(fun r:ByteArray × Int=>.tup [V.s r.1,V.i r.2])) H (.inr rfl) (.cons (.tmp rfl) (.cons (.tmp rfl) (.nil))) rfl rfl
 conv=>whnf
 refine tst_c H (fun b2 H=>?_) (fun b2 H=>?_)
 ·conv=>whnf
  exact fin0_c (enc:=(fun r:ByteArray × Int=>.tup [V.s r.1,V.i r.2])) H (.inr rfl) (.cons (.tmp rfl) (.cons (.tmp rfl) (.nil))) rfl rfl
 conv=>whnf
 refine ask_c (p_octet_Lay_v _ _) H rfl rfl (fun v3 H=>?_);conv=>whnf
 refine b2sI_c H (fun s4 H=>?_);conv=>whnf
 refine cat_c H (fun s5 H=>?_);conv=>whnf
 exact fin0_c (enc:=(fun r:ByteArray × Int=>.tup [V.s r.1,V.i r.2])) H (.inr rfl) (.cons (.tmp rfl) (.cons (.tmp rfl) (.nil))) rfl rfl
def gc113:BCode:=(.seq (R_ 1 [O_ 2 (.al (.agg [(.lit (.string ⟨#[]⟩)),(.lit (.int .i64 0)),(.lit (.int .i64 0))])) 0]) (.seq (R_ 0 [O_ 3 (.mv (t_ 0)) 0,O_ 4 (.bd [(.lit (.string ⟨#[]⟩)),(.lit (.int .i64 0)),(.lit (.int .i64 0))] [(0,1,(t_ 3))]) 0,U_ (.st 3 (t_ 2) (t_ 4)) 0]) .ret))
theorem gc113_ok:compF Tryz.prog Tryz.f113=some (gc113.er,5,[.cell 2 3 true]):=by unfold gc113;kernel_rfl
theorem p_octet_Open_v (a0:ByteArray):CallsO Tryz.prog 113 [.s a0] OctetRead.v (p_octet_Open a0):=by
 refine callsO_comp mix Tryz.func113 gc113_ok fun r H=>?_
 rw [p_octet_Open] at H
 conv=>whnf
 refine lq_ ?_;conv=>whnf
 exact fin0_c (enc:=OctetRead.v) H (.inr rfl) (.cons (.cell rfl rfl (Nat.le_of_ble_eq_true rfl)) (.nil)) rfl rfl
def gc166:BCode:=(.seq (R_ 1 [O_ 1 (.bx (t_ 0)) 0,O_ 2 (.mv (i_ 0)) 1]) (.seq (.seq (R_ 0 [O_ 3 (.fa 2 (t_ 1)) 0,O_ 4 (.ld 1 false (t_ 3)) 0,O_ 5 (.bin .eql (t_ 4) (i_ 0)) 0,O_ 6 (.mv (t_ 5)) 0,⟨(some 7),.fa 1 (t_ 1),(some (6,true)),0⟩,⟨(some 8),.ld 1 false (t_ 7),(some (6,true)),0⟩,⟨(some 9),.bin .lss (t_ 8) (i_ 0),(some (6,true)),0⟩,⟨(some 10),.mv (t_ 9),(some (6,true)),0⟩,⟨(some 11),.fa 1 (t_ 1),(some (10,false)),0⟩,⟨(some 12),.ld 1 false (t_ 11),(some (10,false)),0⟩,⟨(some 13),.fa 0 (t_ 1),(some (10,false)),0⟩,⟨(some 14),.ld 1 false (t_ 13),(some (10,false)),0⟩,⟨(some 15),.lent (t_ 14),(some (10,false)),0⟩,⟨(some 16),.bin .gtr (t_ 12) (t_ 15),(some (10,false)),0⟩,⟨(some 17),.pick (t_ 10) (b_ true) (t_ 16),(some (6,true)),0⟩,O_ 18 (.pick (t_ 6) (t_ 17) (b_ false)) 0]) (.cond (t_ 18) (.seq (R_ 0 [O_ 2 (.mv (i_ 2)) 0]) .ret) .skip)) (.seq (R_ 0 [O_ 19 (.fa 2 (t_ 1)) 0,O_ 20 (.ld 1 false (t_ 19)) 0,O_ 2 (.mv (t_ 20)) 0]) .ret)))
theorem gc166_ok:compF Tryz.prog Tryz.f166=some (gc166.er,21,[.tmp 2]):=by unfold gc166;kernel_rfl
theorem p_octet_Read_fault_v (a0:OctetRead):CallsO Tryz.prog 166 [.agg [.s a0.S,.i a0.At,.i a0.Bad]] V.i (p_octet_Read_fault a0):=by
 refine callsO_comp mix Tryz.func166 gc166_ok fun r H=>?_
 rw [p_octet_Read_fault] at H
 conv=>whnf
 refine tst_d H (fun b1 H=>?_) (fun b1 H=>?_)
 ·conv=>whnf
  iterate 6 (refine Tst.F ?_;conv=>whnf)
  exact fi_ H
 conv=>whnf
 iterate 3 (refine Tst.T ?_;conv=>whnf)
 refine tst_c H (fun b2 H=>?_) (fun b2 H=>?_)
 ·conv=>whnf
  iterate 9 (refine Tst.T ?_;conv=>whnf)
  exact fi_ H
 conv=>whnf
 iterate 5 (refine Tst.F ?_;conv=>whnf)
 refine Tst.T ?_;conv=>whnf
 refine Tst.F ?_;conv=>whnf
 refine Tst.T ?_;conv=>whnf
 refine tst_c H (fun b3 H=>?_) (fun b3 H=>?_)
 ·conv=>whnf
  exact fi_ H
 conv=>whnf
 exact fi_ H
def gc167:BCode:=(.seq (R_ 2 [O_ 2 (.bx (t_ 0)) 0,O_ 4 (.al (.agg [(.lit (.string ⟨#[]⟩)),(.lit (.int .i64 0)),(.lit (.int .i64 0))])) 1]) (.seq (R_ 0 [O_ 5 (.mv (t_ 1)) 0,O_ 6 (.fa 2 (t_ 2)) 0,U_ (.st 1 (t_ 6) (t_ 5)) 0]) (.seq (R_ 0 [O_ 7 (.ld 3 true (t_ 2)) 0,U_ (.st 3 (t_ 4) (t_ 7)) 0]) .ret)))
theorem gc167_ok:compF Tryz.prog Tryz.f167=some (gc167.er,8,[.cell 4 3 true]):=by unfold gc167;kernel_rfl
theorem p_octet_Read_fail_v (a0:OctetRead) (a1:Int):CallsO Tryz.prog 167 [.agg [.s a0.S,.i a0.At,.i a0.Bad],.i a1] OctetRead.v (p_octet_Read_fail a0 a1):=by
 refine callsO_comp mix Tryz.func167 gc167_ok fun r H=>?_
 rw [p_octet_Read_fail] at H
 conv=>whnf
 refine lq_ ?_;conv=>whnf
 refine lq_ ?_;conv=>whnf
 exact fin0_c (enc:=OctetRead.v) H (.inr rfl) (.cons (.cell rfl rfl (Nat.le_of_ble_eq_true rfl)) (.nil)) rfl rfl
def gc114:BCode:=(.seq (R_ 1 [O_ 1 (.bx (t_ 0)) 0,O_ 2 (.mv (i_ 0)) 1]) (.seq (.seq (R_ 0 [O_ 3 (.ld 3 true (t_ 1)) 0,O_ 4 (.cl 166 [(t_ 3)]) 0,O_ 5 (.bin .neq (t_ 4) (i_ 0)) 0]) (.cond (t_ 5) (.seq (R_ 0 [O_ 2 (.mv (i_ 0)) 0]) .ret) .skip)) (.seq (R_ 0 [O_ 6 (.fa 0 (t_ 1)) 0,O_ 7 (.ld 1 false (t_ 6)) 0,O_ 8 (.lent (t_ 7)) 0,O_ 9 (.fa 1 (t_ 1)) 0,O_ 10 (.ld 1 false (t_ 9)) 0,O_ 11 (.bin .sub (t_ 8) (t_ 10)) 0,O_ 2 (.mv (t_ 11)) 0]) .ret)))
theorem gc114_ok:compF Tryz.prog Tryz.f114=some (gc114.er,12,[.tmp 2]):=by unfold gc114;kernel_rfl
theorem p_octet_Left_v (a0:OctetRead):CallsO Tryz.prog 114 [.agg [.s a0.S,.i a0.At,.i a0.Bad]] V.i (p_octet_Left a0):=by
 refine callsO_comp mix Tryz.func114 gc114_ok fun r H=>?_
 rw [p_octet_Left] at H
 conv=>whnf
 refine ask_c (p_octet_Read_fault_v _) H rfl rfl (fun v1 H=>?_);conv=>whnf
 refine tst_c H (fun b2 H=>?_) (fun b2 H=>?_)
 ·conv=>whnf
  exact fi_ H
 conv=>whnf
 refine Ari.w ?_;conv=>whnf
 exact fi_ H
def gc112:BCode:=(.seq (R_ 2 [O_ 2 (.bx (t_ 0)) 0,O_ 4 (.al (.agg [(.lit (.string ⟨#[]⟩)),(.lit (.int .i64 0)),(.lit (.int .i64 0))])) 1,O_ 5 (.mv (i_ 0)) 2]) (.seq (.seq (R_ 0 [O_ 10 (.ld 3 true (t_ 2)) 0,O_ 11 (.cl 166 [(t_ 10)]) 0,O_ 6 (.mv (t_ 11)) 0]) (.seq (R_ 0 [O_ 12 (.mv (t_ 6)) 0,O_ 13 (.bin .neq (t_ 12) (i_ 0)) 0]) (.cond (t_ 13) (.seq (R_ 0 [O_ 14 (.ld 3 true (t_ 2)) 0,O_ 15 (.mv (t_ 6)) 0,O_ 16 (.cl 167 [(t_ 14),(t_ 15)]) 0,U_ (.st 3 (t_ 4) (t_ 16)) 0,O_ 5 (.mv (i_ 0)) 0]) .ret) .skip))) (.seq (.seq (R_ 0 [O_ 17 (.mv (t_ 1)) 0,O_ 18 (.cl 147 [(t_ 17)]) 0,O_ 19 (.un .not (t_ 18)) 0]) (.cond (t_ 19) (.seq (R_ 0 [O_ 20 (.ld 3 true (t_ 2)) 0,O_ 21 (.cl 167 [(t_ 20),(i_ 2)]) 0,U_ (.st 3 (t_ 4) (t_ 21)) 0,O_ 5 (.mv (i_ 0)) 0]) .ret) .skip)) (.seq (.seq (R_ 0 [O_ 22 (.ld 3 true (t_ 2)) 0,O_ 23 (.cl 114 [(t_ 22)]) 0,O_ 24 (.mv (t_ 1)) 0,O_ 25 (.bin .lss (t_ 23) (t_ 24)) 0]) (.cond (t_ 25) (.seq (R_ 0 [O_ 26 (.ld 3 true (t_ 2)) 0,O_ 27 (.cl 167 [(t_ 26),(i_ 3)]) 0,U_ (.st 3 (t_ 4) (t_ 27)) 0,O_ 5 (.mv (i_ 0)) 0]) .ret) .skip)) (.seq (R_ 0 [O_ 7 (.mv (i_ 0)) 0]) (.seq (.seq (R_ 1 [O_ 28 (.fa 0 (t_ 2)) 0,O_ 29 (.ld 1 false (t_ 28)) 0,O_ 30 (.fa 1 (t_ 2)) 0,O_ 31 (.ld 1 false (t_ 30)) 0,O_ 32 (.fa 1 (t_ 2)) 0,O_ 33 (.ld 1 false (t_ 32)) 0,O_ 34 (.mv (t_ 1)) 0,O_ 35 (.bin .add (t_ 33) (t_ 34)) 0,O_ 36 (.slt (t_ 29) (some (t_ 31)) (some (t_ 35))) 0,O_ 37 (.s2b (t_ 36)) 0,O_ 38 (.lens (t_ 37)) 1,O_ 39 (.mv (i_ 0)) 1]) (.block 0 (.loop (.seq (R_ 0 [O_ 40 (.bin .lss (t_ 39) (t_ 38)) 0]) (.seq (.cond (t_ 40) .skip (.exit 0)) (.seq (.block 1 (.seq (R_ 0 [O_ 41 (.ixs 1 (t_ 37) (t_ 39)) 0,O_ 42 (.ld 1 false (t_ 41)) 0,O_ 9 (.mv (t_ 42)) 0]) (R_ 0 [O_ 43 (.mv (t_ 7)) 0,O_ 44 (.bin .shl (t_ 43) (.const (.int .u64 8))) 0,O_ 45 (.mv (t_ 9)) 0,O_ 46 (.cvi .i64 (t_ 45)) 0,O_ 47 (.bin .or (t_ 44) (t_ 46)) 0,O_ 7 (.mv (t_ 47)) 0]))) (R_ 0 [O_ 48 (.bin .add (t_ 39) (i_ 1)) 0,O_ 39 (.mv (t_ 48)) 0]))))))) (.seq (R_ 0 [O_ 49 (.fa 1 (t_ 2)) 0,O_ 50 (.ld 1 false (t_ 49)) 0,O_ 51 (.mv (t_ 1)) 0,O_ 52 (.bin .add (t_ 50) (t_ 51)) 0,O_ 53 (.fa 1 (t_ 2)) 0,U_ (.st 1 (t_ 53) (t_ 52)) 0]) (.seq (R_ 0 [O_ 54 (.ld 3 true (t_ 2)) 0,O_ 55 (.mv (t_ 7)) 0,U_ (.st 3 (t_ 4) (t_ 54)) 0,O_ 5 (.mv (t_ 55)) 0]) .ret))))))))
theorem gc112_ok:compF Tryz.prog Tryz.f112=some (gc112.er,56,[.cell 4 3 true,.tmp 5]):=by unfold gc112;kernel_rfl
theorem p_octet_Num_v (a0:OctetRead) (a1:Int):CallsO Tryz.prog 112 [.agg [.s a0.S,.i a0.At,.i a0.Bad],.i a1] (fun r:OctetRead × Int=>.tup [OctetRead.v r.1,V.i r.2]) (p_octet_Num a0 a1):=by
 refine callsO_comp mix Tryz.func112 gc112_ok fun r H=>?_
 rw [p_octet_Num] at H
 conv=>whnf
 refine ask_c (p_octet_Read_fault_v _) H rfl rfl (fun v1 H=>?_);conv=>whnf
 refine tst_c H (fun b2 H=>?_) (fun b2 H=>?_)
 ·conv=>whnf
  refine ask_c (p_octet_Read_fail_v _ _) H rfl rfl (fun v3 H=>?_);conv=>whnf
  refine lq_ ?_;conv=>whnf
  exact fin0_c (enc:=(fun r:OctetRead × Int=>.tup [OctetRead.v r.1,V.i r.2])) H (.inr rfl) (.cons (.cell rfl rfl (Nat.le_of_ble_eq_true rfl)) (.cons (.tmp rfl) (.nil))) rfl rfl
 conv=>whnf
 refine ask_c (p_octet_wide_v _) H rfl rfl (fun v4 H=>?_);conv=>whnf
 refine Tst.not ?_
 refine tst_d H (fun b5 H=>?_) (fun b5 H=>?_)
 ·conv=>whnf
  refine ask_c (p_octet_Read_fail_v _ _) H rfl rfl (fun v19 H=>?_);conv=>whnf
  refine lq_ ?_;conv=>whnf
  exact fin0_c (enc:=(fun r:OctetRead × Int=>.tup [OctetRead.v r.1,V.i r.2])) H (.inr rfl) (.cons (.cell rfl rfl (Nat.le_of_ble_eq_true rfl)) (.cons (.tmp rfl) (.nil))) rfl rfl
 conv=>whnf
 refine ask_c (p_octet_Left_v _) H rfl rfl (fun v6 H=>?_);conv=>whnf
 refine tst_c H (fun b7 H=>?_) (fun b7 H=>?_)
 ·conv=>whnf
  refine ask_c (p_octet_Read_fail_v _ _) H rfl rfl (fun v8 H=>?_);conv=>whnf
  refine lq_ ?_;conv=>whnf
  exact fin0_c (enc:=(fun r:OctetRead × Int=>.tup [OctetRead.v r.1,V.i r.2])) H (.inr rfl) (.cons (.cell rfl rfl (Nat.le_of_ble_eq_true rfl)) (.cons (.tmp rfl) (.nil))) rfl rfl
 conv=>whnf
 refine Ari.w ?_;conv=>whnf
 refine slt_c H (fun s9 H=>?_);conv=>whnf
 rw [bytesI_V]
 refine LenQ.M ?_;conv=>whnf
 obtain ⟨o11,HL12,HQ13⟩:=bind_c H
 refine loop_c [7,39] [9,40,41,42,43,44,45,46,47,48,28,30,32] [9,40,41,42,43,44,45,46,47,48,28,30,32] (fun n vals st=>(∃ y15 y16,p_octet_Num_l1  (bytesI s9) ((bytesI s9).length:Int) n y15 y16=some o11∧vals=[.i y15,.i y16]∧st=[.live [.s a0.S,.i a0.At,.i a0.Bad] 0,.live [.s (⟨#[]⟩ : ByteArray),.i (0:Int),.i (0:Int)] 0])) fuel 2 [] (⟨_,_,HL12,rfl,rfl⟩) (Nat.zero_le _) rfl (by kernel_rfl) (by kernel_rfl) rfl ⟨⟨rfl,rfl,rfl⟩,⟨⟨rfl,rfl,rfl⟩,trivial⟩⟩ ?_
 rintro (_ | n14) _ _ (⟨y15,y16,H,rfl,rfl⟩)
 ·rw [p_octet_Num_l1] at H;cases H
 rw [p_octet_Num_l1] at H
 conv=>whnf
 refine tst_d H (fun b17 H=>?_) (fun b17 H=>?_)
 ·conv=>whnf
  obtain rfl:=Option.some.inj H
  have H:=HQ13
  try dsimp only at H
  refine Ari.w ?_;conv=>whnf
  refine lq_ ?_;conv=>whnf
  refine lq_ ?_;conv=>whnf
  exact fin0_c (enc:=(fun r:OctetRead × Int=>.tup [OctetRead.v r.1,V.i r.2])) H (.inr rfl) (.cons (.cell rfl rfl (Nat.le_of_ble_eq_true rfl)) (.cons (.tmp rfl) (.nil))) rfl rfl
 conv=>whnf
 refine ixs_c (f:=V.y8) H (fun _=>rfl) (fun x18 H=>?_);conv=>whnf
 refine Shl.ok (by decide) ?_;conv=>whnf
 iterate 2 (refine Ari.w ?_;conv=>whnf)
 exact again_c [9,40,41,42,43,44,45,46,47,48,28,30,32] n14 2 [] (⟨_,_,H,rfl,rfl⟩) (Nat.lt_succ_self _) (Nat.zero_le _) rfl (by kernel_rfl) (by kernel_rfl) rfl ⟨⟨rfl,rfl,rfl⟩,⟨⟨rfl,rfl,rfl⟩,trivial⟩⟩
def gc61:BCode:=(.seq (R_ 0 [O_ 2 (.mv (.const (.string ⟨#[]⟩))) 0,O_ 3 (.mv (i_ 0)) 0,O_ 4 (.mv (i_ 0)) 0]) (.seq (R_ 1 [O_ 8 (.mv (t_ 0)) 0,O_ 9 (.cl 113 [(t_ 8)]) 0,O_ 10 (.cl 112 [(t_ 9),(i_ 2)]) 0,O_ 7 (.mv (t_ 10)) 0,O_ 11 (.ex (t_ 7) 0) 0,O_ 12 (.ex (t_ 7) 1) 0,O_ 5 (.al (.agg [(.lit (.string ⟨#[]⟩)),(.lit (.int .i64 0)),(.lit (.int .i64 0))])) 0,U_ (.st 3 (t_ 5) (t_ 11)) 1,O_ 6 (.mv (t_ 12)) 1]) (.seq (.block 0 (.seq (R_ 0 [O_ 14 (.fa 2 (t_ 5)) 0,O_ 15 (.ld 1 false (t_ 14)) 0,O_ 16 (.bin .neq (t_ 15) (i_ 0)) 0,O_ 13 (.mv (t_ 16)) 0]) (.cond (t_ 13) (.seq (.reg 0 [O_ 17 (.fa 2 (t_ 5)) 0,O_ 18 (.ld 1 false (t_ 17)) 0,O_ 2 (.mv (.const (.string ⟨#[]⟩))) 0,O_ 3 (.mv (i_ 0)) 0,O_ 4 (.mv (t_ 18)) 0] (some [[],[0],[],[2],[2,3,0,1]]) 0 []) .ret) (.seq (R_ 0 [O_ 20 (.mv (t_ 6)) 0,O_ 21 (.bin .eql (t_ 20) (i_ 0)) 0,O_ 19 (.mv (t_ 21)) 0]) (.cond (t_ 19) (.seq (R_ 0 [O_ 2 (.mv (.const (.string ⟨#[]⟩))) 0,O_ 3 (.mv (i_ 0)) 0,O_ 4 (.mv (i_ 4)) 0]) .ret) (.seq (R_ 0 [O_ 23 (.mv (t_ 6)) 0,O_ 24 (.bin .gtr (t_ 23) (i_ 128)) 0,O_ 22 (.mv (t_ 24)) 0]) (.cond (t_ 22) (.seq (R_ 0 [O_ 2 (.mv (.const (.string ⟨#[]⟩))) 0,O_ 3 (.mv (i_ 0)) 0,O_ 4 (.mv (i_ 5)) 0]) .ret) (.seq (R_ 0 [O_ 26 (.mv (t_ 6)) 0,O_ 27 (.ld 3 true (t_ 5)) 0,O_ 28 (.cl 114 [(t_ 27)]) 0,O_ 29 (.bin .gtr (t_ 26) (t_ 28)) 0,O_ 25 (.mv (t_ 29)) 0]) (.cond (t_ 25) (.seq (R_ 0 [O_ 2 (.mv (.const (.string ⟨#[]⟩))) 0,O_ 3 (.mv (i_ 0)) 0,O_ 4 (.mv (i_ 3)) 0]) .ret) .skip))))))))) (.seq (R_ 0 [O_ 30 (.mv (t_ 0)) 0,O_ 31 (.mv (t_ 6)) 0,O_ 32 (.bin .add (i_ 2) (t_ 31)) 0,O_ 33 (.slt (t_ 30) (some (i_ 2)) (some (t_ 32))) 0,O_ 34 (.mv (t_ 6)) 0,O_ 35 (.bin .add (i_ 2) (t_ 34)) 0,O_ 2 (.mv (t_ 33)) 0,O_ 3 (.mv (t_ 35)) 0,O_ 4 (.mv (i_ 0)) 0]) .ret))))
theorem gc61_ok:compF Tryz.prog Tryz.f61=some (gc61.er,36,[.tmp 2,.tmp 3,.tmp 4]):=by unfold gc61;kernel_rfl
theorem p_frame_Get_v (a0:ByteArray):CallsO Tryz.prog 61 [.s a0] (fun r:ByteArray × Int × Int=>.tup [V.s r.1,V.i r.2.1,V.i r.2.2]) (p_frame_Get a0):=by
 refine callsO_comp mix Tryz.func61 gc61_ok fun r H=>?_
 rw [p_frame_Get] at H
 conv=>whnf
 refine ask_c (p_octet_Open_v _) H rfl rfl (fun v1 H=>?_);conv=>whnf
 refine ask_c (p_octet_Num_v _ _) H rfl rfl (fun v2 H=>?_);conv=>whnf
 refine lq_ ?_;conv=>whnf
 refine tst_c H (fun b3 H=>?_) (fun b3 H=>?_)
 ·conv=>whnf
  refine FootQ.mk ⟨rfl,?_⟩;conv=>whnf
  exact fin0_c (enc:=(fun r:ByteArray × Int × Int=>.tup [V.s r.1,V.i r.2.1,V.i r.2.2])) H (.inr rfl) (.cons (.tmp rfl) (.cons (.tmp rfl) (.cons (.tmp rfl) (.nil)))) rfl rfl
 conv=>whnf
 refine tst_c H (fun b4 H=>?_) (fun b4 H=>?_)
 ·conv=>whnf
  exact fin0_c (enc:=(fun r:ByteArray × Int × Int=>.tup [V.s r.1,V.i r.2.1,V.i r.2.2])) H (.inr rfl) (.cons (.tmp rfl) (.cons (.tmp rfl) (.cons (.tmp rfl) (.nil)))) rfl rfl
 conv=>whnf
 refine tst_c H (fun b5 H=>?_) (fun b5 H=>?_)
 ·conv=>whnf
  exact fin0_c (enc:=(fun r:ByteArray × Int × Int=>.tup [V.s r.1,V.i r.2.1,V.i r.2.2])) H (.inr rfl) (.cons (.tmp rfl) (.cons (.tmp rfl) (.cons (.tmp rfl) (.nil)))) rfl rfl
 conv=>whnf
 refine ask_c (p_octet_Left_v _) H rfl rfl (fun v6 H=>?_);conv=>whnf
 refine tst_c H (fun b7 H=>?_) (fun b7 H=>?_)
 ·conv=>whnf
  exact fin0_c (enc:=(fun r:ByteArray × Int × Int=>.tup [V.s r.1,V.i r.2.1,V.i r.2.2])) H (.inr rfl) (.cons (.tmp rfl) (.cons (.tmp rfl) (.cons (.tmp rfl) (.nil)))) rfl rfl
 conv=>whnf
 refine Ari.w ?_;conv=>whnf
 refine slt_c H (fun s8 H=>?_);conv=>whnf
 refine Ari.w ?_;conv=>whnf
 exact fin0_c (enc:=(fun r:ByteArray × Int × Int=>.tup [V.s r.1,V.i r.2.1,V.i r.2.2])) H (.inr rfl) (.cons (.tmp rfl) (.cons (.tmp rfl) (.cons (.tmp rfl) (.nil)))) rfl rfl
end Go.Proofs.YtmmmcpeickfolaaGreat

namespace Go.Proofs.YtmmmcpeickfolaaGreat
open Go.RowKit
def joinL (put:ByteArray→Option (ByteArray × Int)):List ByteArray→List UInt8→Option (ByteArray × Int)
 | [],acc=>some (⟨acc.toArray⟩,0)
 | s :: l,acc=>(put s).bind fun r=>if r.2≠0 then some (⟨#[]⟩,r.2) else if acc.length + r.1.size≤1000000000 then joinL put l (acc++r.1.data.toList) else none
def p_frame_Join (l:List ByteArray):Option (ByteArray × Int):=if l.length≤1000000 then joinL p_frame_Put l [] else none
theorem strCells_bytes (s:ByteArray) (acc:List UInt8):Lib.byteCells acc++Lib.strCells s=Lib.byteCells (acc++s.data.toList):=by
 simp [Lib.byteCells,Lib.strCells]
set_option maxHeartbeats 2000000 in
theorem frameJoin_c (A:Option Addr) (n cap:Nat) (ss:List ByteArray) (w:World) (hml:ML w) (hn:n=ss.length) (hn2:n≤1000000) (hs:∀ k (h:k < ss.length),∃ b o,A=some ⟨b,o,none⟩∧w.cell? ⟨b,o + k,none⟩=some (.string ss[k])) (r:ByteArray × Int) (hr:joinL p_frame_Put ss []=some r) :
  Calls Tryz.prog 63 #[.slice A n cap] w (Ret w (.tuple #[.string r.1,.int .i64 r.2])):=by
 have HS:=Lib.hid hs
 have HN:=Lib.hid hn
 have HR:=Lib.hid hr
 clear hs hn hr
 go_enter Tryz.func63,Tryz.ntmps63
 go_wp2
 go_loopw [6,7,8,11] (fun _ _ _ i wr=>∃ (k:Nat) (acc:List UInt8),k≤n∧i=.int .i64 k∧Lib.IsBuilder 211 5 w.heap.size w.heap.size (Lib.byteCells acc) wr∧acc.length≤1000000000∧Below w.heap.size w wr∧joinL p_frame_Put (ss.drop k) acc=some r) (fun _ _ _ i _=>n - (intOf i).toNat)
 case atStart=>exact ⟨0,[],Nat.zero_le _,rfl,Lib.fresh_isBuilder _ _ _,Nat.zero_le _,bel_,HR.out⟩
 case round =>
  obtain ⟨k,acc,hk,rfl,hb,ha,hB,hj⟩:=hrel
  have hbl:=hb
  have HB:=Lib.hid hb
  have HJ:=Lib.hid hj
  clear hb hbl hj
  by_cases hlt:k < n
  ·have hkl:k < ss.length:=by rw [← HN.out];exact hlt
   obtain ⟨b,o,rfl,hc⟩:=HS.out k hkl
   have hcw:wr.cell? ⟨b,o + k,none⟩=some (.string ss[k]):=(hB.cell (p:=⟨b,o + k,none⟩) (cell_lt hc)).trans hc
   obtain ⟨hm1,m,hm2⟩:=hml
   have hmr:ML wr:=⟨Nat.lt_of_lt_of_le hm1 hB.size,m,(hB.cell (p:=⟨0,0,none⟩) hm1).trans hm2⟩
   clear hc hm2
   have hjj:=HJ.out
   rw [List.drop_eq_getElem_cons hkl,joinL] at hjj
   cases hq:p_frame_Put ss[k] with
   | none=>rw [hq] at hjj;cases hjj
   | some q =>
    rw [hq,Option.bind_some] at hjj
    obtain ⟨q1,q2⟩:=q
    have HP:=Lib.hid (calls_lit (vs:=[.string ss[k]]) (rs:=[.string q1,.int .i64 q2]) (p_frame_Put_v ss[k] (q1,q2) hq) (by simp [Value.oneCell']))
    have HQ:=Lib.hid hjj
    clear hq hjj
    by_cases h0:q2=0
    ·subst h0
     have hq2:=HQ.out
     rw [if_neg (by simp)] at hq2
     split at hq2
     case isFalse=>cases hq2
     rename_i hlen
     have HZ:=Lib.hid hq2
     clear hq2 HQ
     go_wp2_with (first
      | (go_at_call 115;(with_reducible refine (HP.out wr hmr).mono ?_);rintro e w1 ⟨rfl,hb1⟩;have hbw:=isb_below HB.out hb1;have hB1:=hB.trans (hb1.mono hB.size);have hz1:=hb1.size)
      | (go_at_call 116;(with_reducible refine (write_c _ _ _ q1 _ hbw (by rw [Lib.byteCells_length];omega) (Nat.le_trans hB.size hz1)).mono ?_);rintro e w2 ⟨rfl,hb2,hB2⟩))
     exact ⟨⟨k + 1,acc++q1.data.toList,by omega,by go_num,.inr (by rw [← strCells_bytes];exact hb2),by simp;omega,hB1.trans hB2,HZ.out⟩,by simp [intOf];omega⟩
    ·have hq2:=HQ.out
     rw [if_pos h0] at hq2
     have hr:r=(⟨#[]⟩,q2):=(Option.some.inj hq2).symm
     clear hq2 HQ
     have HR2:=Lib.hid hr
     clear hr
     have hne:(q2 != 0)=true:=by simpa using h0
     go_wp2_with (first
      | (go_at_call 115;(with_reducible refine (HP.out wr hmr).mono ?_);rintro e w1 ⟨rfl,hb1⟩;have hB1:=hB.trans (hb1.mono hB.size)))
     go_ret2
     exact ⟨by rw [HR2.out];rfl,hB1⟩
  ·have hkn:k=ss.length:=by have:=HN.out;omega
   have hjj:=HJ.out
   rw [hkn,List.drop_length,joinL] at hjj
   have hr:r=(⟨acc.toArray⟩,0):=(Option.some.inj hjj).symm
   have HR2:=Lib.hid hr
   have hbb:=HB.out
   have HK:=Lib.hid hkn
   clear hjj hr hkn
   go_wp2_with (first
    | (go_at_call 117;(with_reducible refine (Tryz.Builder_String_any _ _ acc _ hbb hB.size).mono ?_);rintro e w2 ⟨rfl,hB2⟩))
   go_ret2
   exact ⟨by rw [HR2.out];rfl,hB.trans hB2⟩
theorem flat_s (L:List ByteArray):((List.map V.s L).flatMap V.cells)=L.map V.s:=by
 induction L with
 | nil=>rfl
 | cons y L ih=>simp [V.cells,ih]
theorem p_frame_Join_v {u:Bool} (l:List ByteArray):CallsO Tryz.prog 63 [.sl (List.map V.s l) u] (fun r:ByteArray × Int=>.tup [V.s r.1,V.i r.2]) (p_frame_Join l):=by
 intro r hr m w cargs hg hmem hargs
 unfold p_frame_Join at hr
 split at hr
 case isFalse=>cases hr
 rename_i hl
 obtain ⟨hsz,hrp⟩:=hargs
 obtain ⟨c,rfl⟩ : ∃ c,cargs=#[c]:=by
  have h1:cargs.size=1:=hsz
  exact ⟨cargs[0],by apply Array.ext;simp [h1];intro i a b;simp at b;subst b;rfl⟩
 have h0:=hrp 0 (by simp) (by simp)
 simp only [List.getElem_cons_zero] at h0
 change Rep m noBk c _ at h0
 obtain ⟨n,hn⟩:=hg
 have hml:ML w:=⟨by have:=cell_lt (hmem _ _ hn);omega,n,hmem _ _ hn⟩
 have fin:∀ (A:Option Addr) (k cap:Nat),c=.slice A k cap→k=l.length→(∀ j (h:j < l.length),∃ b o,A=some ⟨b,o,none⟩∧w.cell? ⟨b,o + j,none⟩=some (.string l[j]))→Calls Tryz.prog 63 #[c] w fun e w'=>∃ c m',e=.returned c∧Below w.heap.size w w'∧(∀ a u,m' a=some u→w'.cell? a=some u)∧(∀ a u,m a=some u→m' a=some u)∧(∀ a u,m' a=some u→m a=some u∨w.heap.size≤a.block)∧Rep m' noBk c (.tup [V.s r.1,V.i r.2]):=fun A k cap hc hk hs=>by
  subst hc
  refine (frameJoin_c A k cap l w hml hk (by omega) hs r hr).mono ?_
  rintro e w' ⟨rfl,hb⟩
  refine ⟨_,m,rfl,hb,fun a u h=>(hb.cell (cell_lt (hmem a u h))).trans (hmem a u h),fun _ _ h=>h,fun _ _ h=>.inl h,.tup rfl fun j h1 h2=>?_⟩
  have:j=0∨j=1:=by simp at h1;omega
  rcases this with rfl | rfl
  ·exact .lit rfl
  ·exact .lit rfl
 cases l with
 | nil =>
  cases h0 with
  | sl hn hc hf hes h1 hm h=>exact fin _ _ _ rfl (by simpa using hn) fun j h=>absurd h (Nat.not_lt_zero _)
  | slnil hf=>exact fin _ _ _ rfl rfl fun j h=>absurd h (Nat.not_lt_zero _)
 | cons x l =>
  generalize hL:x :: l=L at *
  have hfl:=flat_s L
  have hlen:(List.map V.s L).length=L.length:=List.length_map ..
  generalize hX:List.map V.s L=X at *
  cases h0 with
  | slnil hf=>exfalso;rw [← hL] at hlen;cases hlen
  | @sl _ b o k cap es full xs us hn hc hf hes h1 hm h =>
   refine fin _ _ _ rfl (hn.trans hlen) fun j hj=>⟨b,o,rfl,?_⟩
   have hj2:j < (X.flatMap V.cells).length:=by rw [hfl,hlen];exact hj
   have e1:=hm j hj2
   have e2:=h j hj2
   have e3:(X.flatMap V.cells)[j]=V.s L[j]:=by
    rw [List.getElem_of_eq hfl hj2]
    subst hX
    simp
   rw [e3] at e2
   have e4:=e2.int
   rw [e4] at e1
   exact hmem _ _ e1
end Go.Proofs.YtmmmcpeickfolaaGreat

namespace Go.Proofs.YtmmmcpeickfolaaGreat
open Go.RowKit
def p_deframe_Check (a0:DeframeState):Option (Int) :=
 bif (a0.Bad != (0:Int)) then
  bif (a0.Buf.toList == (⟨#[]⟩ : ByteArray).toList) then
   (p_frame_Get a0.Buf).bind fun v3 =>
   bif (v3.2.2 != (3:Int)) then
    some (5:Int)
   else
   bif (decide (a0.Seen < (0:Int))) then
    some (8:Int)
   else
   some (0:Int)
  else
  some (4:Int)
 else
 (p_frame_Get a0.Buf).bind fun v6 =>
 bif (v6.2.2 != (3:Int)) then
  some (5:Int)
 else
 bif (decide (a0.Seen < (0:Int))) then
  some (8:Int)
 else
 some (0:Int)
def p_deframe_State_deaf (a0:DeframeState):Option (Bool) :=
 bif (a0.Bad != (0:Int)) then
  some true
 else
 (p_deframe_Check a0).bind fun v2 =>
 some (v2 != (0:Int))
def p_deframe_Texts_l1:Nat→(List ByteArray)→DeframeState→Option ((DeframeState × (List ByteArray)))
 | 0,_,_=>none
 | n + 1,y8,y9 =>
  (p_frame_Get y9.Buf).bind fun v11 =>
  bif (v11.2.2 == (3:Int)) then
   some (y9,y8)
  else
  bif (v11.2.2 != (0:Int)) then
   some ((DeframeState.mk (⟨#[]⟩ : ByteArray) v11.2.2 y9.Seen),y8)
  else
  (app? y8 [v11.1]).bind fun l14 =>
  (sub? y9.Buf (some v11.2.1) none).bind fun s15 =>
  p_deframe_Texts_l1 n l14 (DeframeState.mk s15 y9.Bad (w64 (y9.Seen + (1:Int))))
def p_deframe_Texts (a0:DeframeState) (a1:ByteArray):Option (DeframeState × (List ByteArray)) :=
 (p_deframe_State_deaf a0).bind fun v1 =>
 bif v1 then
  some (a0,[])
 else
 (cat? a0.Buf a1).bind fun s3 =>
 (p_deframe_Texts_l1 fuel [] (DeframeState.mk s3 a0.Bad a0.Seen)).bind fun q17 =>
 some q17
def p_deframe_items_l1 (z7:List ByteArray) (z8:Int):Nat→(List DeframeItem)→Int→Option (((List DeframeItem) × Int))
 | 0,_,_=>none
 | n + 1,y6,y9 =>
  bif (decide (y9 < z8)) then
   (at? z7 y9).bind fun x11 =>
   (p_stanza_Read x11).bind fun v12 =>
   (app? y6 [(DeframeItem.mk v12.1 v12.2)]).bind fun l13 =>
   p_deframe_items_l1 z7 z8 n l13 (w64 (y9 + (1:Int)))
  else
  some (y6,y9)
def p_deframe_items (a0:List ByteArray):Option ((List DeframeItem)) :=
 (p_deframe_items_l1 a0 (a0.length:Int) fuel [] (0:Int)).bind fun q15 =>
 some q15.1
def p_deframe_Feed (a0:DeframeState) (a1:ByteArray):Option (DeframeState × (List DeframeItem)) :=
 (p_deframe_Texts a0 a1).bind fun v1 =>
 (p_deframe_items v1.2).bind fun v2 =>
 some (v1.1,v2)
def p_deframe_Encode_l1 (z8:List StanzaStanza) (z9:Int):Nat→(List ByteArray)→Int→Option ((ByteArray × Int) ⊕ ((List ByteArray) × Int))
 | 0,_,_=>none
 | n + 1,y7,y10 =>
  bif (decide (y10 < z9)) then
   (at? z8 y10).bind fun x12 =>
   (p_stanza_Put x12).bind fun v13 =>
   bif (v13.2 != (0:Int)) then
    some (.inl ((⟨#[]⟩ : ByteArray),v13.2))
   else
   (app? y7 [v13.1]).bind fun l15 =>
   p_deframe_Encode_l1 z8 z9 n l15 (w64 (y10 + (1:Int)))
  else
  some (.inr (y7,y10))
def p_deframe_Encode (a0:List StanzaStanza):Option (ByteArray × Int) :=
 (p_deframe_Encode_l1 a0 (a0.length:Int) fuel [] (0:Int)).bind fun o16=>match o16 with
 | .inl q17 =>
  some q17
 | .inr q18 =>
  (p_frame_Join q18.1).bind fun v19 =>
  some (v19.1,v19.2)
def p_deframe_Need (a0:DeframeState):Option (Int) :=
 (p_deframe_State_deaf a0).bind fun v1 =>
 bif v1 then
  some (0:Int)
 else
 bif (decide ((2:Int)≤(a0.Buf.size:Int))) then
  (byte? a0.Buf (0:Int)).bind fun c4 =>
  (byte? a0.Buf (1:Int)).bind fun c5 =>
  some (w64 (w64 ((2:Int) + (orI .i64 (shlI .i64 (w64 c4) (8:Int)) (w64 c5))) - (a0.Buf.size:Int)))
 else
 some (w64 ((2:Int) - (a0.Buf.size:Int)))
def p_law12_awake:Option (Bool) :=
 (p_deframe_Feed (DeframeState.mk (⟨#[]⟩ : ByteArray) (0:Int) (0:Int)) (⟨#[0,1]⟩ : ByteArray)).bind fun v1 =>
 (p_deframe_Feed v1.1 (⟨#[2,0,2,16,120,0]⟩ : ByteArray)).bind fun v2 =>
 (p_deframe_Feed v2.1 (⟨#[0,120]⟩ : ByteArray)).bind fun v3 =>
 (p_deframe_Texts v3.1 (⟨#[0,1,2]⟩ : ByteArray)).bind fun v4 =>
 (p_deframe_Encode [(StanzaStanza.mk (2:Int) (⟨#[]⟩ : ByteArray) (⟨#[]⟩ : ByteArray) (⟨#[]⟩ : ByteArray) (0:Int) (0:Int) (0:Int) (0:Int)),(StanzaStanza.mk (15:Int) (⟨#[]⟩ : ByteArray) (⟨#[]⟩ : ByteArray) (⟨#[]⟩ : ByteArray) (0:Int) (0:Int) (0:Int) (1:Int))]).bind fun v5 =>
 (p_deframe_Encode [(StanzaStanza.mk (0:Int) (⟨#[]⟩ : ByteArray) (⟨#[]⟩ : ByteArray) (⟨#[]⟩ : ByteArray) (0:Int) (0:Int) (0:Int) (0:Int))]).bind fun v6 =>
 bif ((v1.2.length:Int) == (0:Int)) then
  (p_deframe_Need v1.1).bind fun v8 =>
  bif (v8 == (1:Int)) then
   bif ((v2.2.length:Int) == (2:Int)) then
    (at? v2.2 (0:Int)).bind fun x11 =>
    bif (x11.S.Kind == (2:Int)) then
     (at? v2.2 (0:Int)).bind fun x13 =>
     bif (x13.E == (0:Int)) then
      (at? v2.2 (1:Int)).bind fun x15 =>
      bif (x15.E == (12:Int)) then
       bif (v2.1.Buf.toList == (⟨#[0]⟩ : ByteArray).toList) then
        bif (v2.1.Seen == (2:Int)) then
         (p_deframe_Need v2.1).bind fun v19 =>
         bif (v19 == (1:Int)) then
          bif (v3.1.Bad == (4:Int)) then
           bif ((v3.2.length:Int) == (0:Int)) then
            bif ((v4.1.Buf.toList == v3.1.Buf.toList) && ((v4.1.Bad == v3.1.Bad) && ((v4.1.Seen == v3.1.Seen) && true))) then
             bif ((v4.2.length:Int) == (0:Int)) then
              bif (v5.1.toList == (⟨#[0,1,2,0,7,15,0,0,0,0,0,1]⟩ : ByteArray).toList) then
               bif (v5.2 == (0:Int)) then
                bif (v6.2 == (12:Int)) then
                 (p_deframe_Check v2.1).bind fun v28 =>
                 bif (v28 == (0:Int)) then
                  (p_deframe_Check (DeframeState.mk (⟨#[]⟩ : ByteArray) (0:Int) (-1:Int))).bind fun v30 =>
                  bif (v30 == (8:Int)) then
                   some true
                  else
                  some false
                 else
                 some false
                else
                some false
               else
               some false
              else
              some false
             else
             some false
            else
            some false
           else
           some false
          else
          some false
         else
         some false
        else
        some false
       else
       some false
      else
      some false
     else
     some false
    else
    some false
   else
   some false
  else
  some false
 else
 some false
def p_ref11_Get (a0:ByteArray):Option (ByteArray × Int × Int) :=
 bif (decide ((a0.size:Int) < (2:Int))) then
  some ((⟨#[]⟩ : ByteArray),(0:Int),(3:Int))
 else
 (byte? a0 (0:Int)).bind fun c2 =>
 (byte? a0 (1:Int)).bind fun c3 =>
 bif (w64 (w64 ((256:Int) * w64 c2) + w64 c3) == (0:Int)) then
  some ((⟨#[]⟩ : ByteArray),(0:Int),(4:Int))
 else
 bif (decide ((128:Int) < w64 (w64 ((256:Int) * w64 c2) + w64 c3))) then
  some ((⟨#[]⟩ : ByteArray),(0:Int),(5:Int))
 else
 bif (decide (w64 ((a0.size:Int) - (2:Int)) < w64 (w64 ((256:Int) * w64 c2) + w64 c3))) then
  some ((⟨#[]⟩ : ByteArray),(0:Int),(3:Int))
 else
 (sub? a0 (some (2:Int)) (some (w64 ((2:Int) + w64 (w64 ((256:Int) * w64 c2) + w64 c3))))).bind fun s7 =>
 some (s7,w64 ((2:Int) + w64 (w64 ((256:Int) * w64 c2) + w64 c3)),(0:Int))
def p_ref12_Check (a0:DeframeState):Option (Int) :=
 (p_ref11_Get a0.Buf).bind fun v1 =>
 bif (a0.Bad != (0:Int)) then
  bif (a0.Buf.toList == (⟨#[]⟩ : ByteArray).toList) then
   bif (v1.2.2 != (3:Int)) then
    some (5:Int)
   else
   bif (decide (a0.Seen < (0:Int))) then
    some (8:Int)
   else
   some (0:Int)
  else
  some (4:Int)
 else
 bif (v1.2.2 != (3:Int)) then
  some (5:Int)
 else
 bif (decide (a0.Seen < (0:Int))) then
  some (8:Int)
 else
 some (0:Int)
def p_ref12_Texts_l1 (z12:ByteArray):Nat→ByteArray→(List ByteArray)→Int→DeframeState→Option ((ByteArray × (List ByteArray) × Int × DeframeState) ⊕ (DeframeState × (List ByteArray)))
 | 0,_,_,_,_=>none
 | n + 1,y13,y14,y15,y16 =>
  bif (decide (y15≤(z12.size:Int))) then
   (p_ref11_Get y13).bind fun v19 =>
   bif (v19.2.2 == (3:Int)) then
    some (.inl (y13,y14,y15,y16))
   else
   bif (v19.2.2 != (0:Int)) then
    some (.inr ((DeframeState.mk (⟨#[]⟩ : ByteArray) v19.2.2 y16.Seen),y14))
   else
   (app? y14 [v19.1]).bind fun l22 =>
   (sub? y13 (some v19.2.1) none).bind fun s23 =>
   p_ref12_Texts_l1 z12 n s23 l22 (w64 (y15 + (1:Int))) (DeframeState.mk y16.Buf y16.Bad (w64 (y16.Seen + (1:Int))))
  else
  some (.inl (y13,y14,y15,y16))
def p_ref12_Texts (a0:DeframeState) (a1:ByteArray):Option (DeframeState × (List ByteArray)) :=
 bif (a0.Bad != (0:Int)) then
  some (a0,[])
 else
 (p_ref12_Check a0).bind fun v2 =>
 bif (v2 != (0:Int)) then
  some (a0,[])
 else
 (cat? a0.Buf a1).bind fun s4 =>
 (p_ref12_Texts_l1 a1 fuel s4 [] (0:Int) a0).bind fun o24=>match o24 with
 | .inl q25 =>
  some ((DeframeState.mk q25.1 q25.2.2.2.Bad q25.2.2.2.Seen),q25.2.1)
 | .inr q26 =>
  some q26
def p_ref10_known (a0:Int):Option (Bool) :=
 bif (decide ((1:Int)≤a0)) then
  bif (decide (a0≤(15:Int))) then
   some true
  else
  bif (decide ((32:Int)≤a0)) then
   some (decide (a0≤(41:Int)))
  else
  some false
 else
 bif (decide ((32:Int)≤a0)) then
  some (decide (a0≤(41:Int)))
 else
 some false
def p_ref01_Open (a0:ByteArray):Option (OctetRead) :=
 some (OctetRead.mk a0 (0:Int) (0:Int))
def p_ref10_Has (a0:Int):Option (ByteArray) :=
 bif (a0 == (1:Int)) then
  some (⟨#[117,114]⟩ : ByteArray)
 else
 bif (a0 == (3:Int)) then
  some (⟨#[115,112]⟩ : ByteArray)
 else
 bif (a0 == (5:Int)) then
  some (⟨#[117,115,112]⟩ : ByteArray)
 else
 bif (a0 == (6:Int)) then
  some (⟨#[117]⟩ : ByteArray)
 else
 bif (a0 == (7:Int)) then
  some (⟨#[117]⟩ : ByteArray)
 else
 bif (a0 == (8:Int)) then
  some (⟨#[117]⟩ : ByteArray)
 else
 bif (a0 == (9:Int)) then
  some (⟨#[117]⟩ : ByteArray)
 else
 bif (a0 == (10:Int)) then
  some (⟨#[117]⟩ : ByteArray)
 else
 bif (a0 == (11:Int)) then
  some (⟨#[117]⟩ : ByteArray)
 else
 bif (a0 == (14:Int)) then
  some (⟨#[117]⟩ : ByteArray)
 else
 bif (a0 == (12:Int)) then
  some (⟨#[110]⟩ : ByteArray)
 else
 bif (a0 == (15:Int)) then
  some (⟨#[110]⟩ : ByteArray)
 else
 bif (a0 == (36:Int)) then
  some (⟨#[110]⟩ : ByteArray)
 else
 bif (a0 == (41:Int)) then
  some (⟨#[110]⟩ : ByteArray)
 else
 bif (a0 == (13:Int)) then
  some (⟨#[117,109]⟩ : ByteArray)
 else
 bif (a0 == (32:Int)) then
  some (⟨#[99,110]⟩ : ByteArray)
 else
 bif (a0 == (33:Int)) then
  some (⟨#[99,115,110]⟩ : ByteArray)
 else
 bif (a0 == (34:Int)) then
  some (⟨#[117,114,115,112,110]⟩ : ByteArray)
 else
 bif (a0 == (35:Int)) then
  some (⟨#[117,114,110]⟩ : ByteArray)
 else
 bif (a0 == (38:Int)) then
  some (⟨#[117,109,115,110]⟩ : ByteArray)
 else
 bif (a0 == (39:Int)) then
  some (⟨#[117,110]⟩ : ByteArray)
 else
 bif (a0 == (40:Int)) then
  some (⟨#[117,99]⟩ : ByteArray)
 else
 some (⟨#[]⟩ : ByteArray)
def p_ref01_bad (a0:OctetRead):Option (Int) :=
 bif (a0.Bad == (0:Int)) then
  bif (decide (a0.At < (0:Int))) then
   some (2:Int)
  else
  bif (decide ((a0.S.size:Int) < a0.At)) then
   some (2:Int)
  else
  some a0.Bad
 else
 some a0.Bad
def p_ref01_with (a0:OctetRead) (a1:Int):Option (OctetRead) :=
 some (OctetRead.mk a0.S a0.At a1)
def p_ref01_wide (a0:Int):Option (Bool) :=
 bif (a0 == (1:Int)) then
  some true
 else
 bif (a0 == (2:Int)) then
  some true
 else
 bif (a0 == (4:Int)) then
  some true
 else
 some (a0 == (6:Int))
def p_ref01_Left (a0:OctetRead):Option (Int) :=
 (p_ref01_bad a0).bind fun v1 =>
 bif (v1 != (0:Int)) then
  some (0:Int)
 else
 some (w64 ((a0.S.size:Int) - a0.At))
def p_ref01_Num_l1 (z16:Int):Nat→Int→Int→OctetRead→Option ((Int × Int × OctetRead))
 | 0,_,_,_=>none
 | n + 1,y17,y18,y19 =>
  bif (decide (y18 < z16)) then
   (byte? y19.S y19.At).bind fun c22 =>
   p_ref01_Num_l1 z16 n (w64 (w64 ((256:Int) * y17) + w64 c22)) (w64 (y18 + (1:Int))) (OctetRead.mk y19.S (w64 (y19.At + (1:Int))) y19.Bad)
  else
  some (y17,y18,y19)
def p_ref01_Num (a0:OctetRead) (a1:Int):Option (OctetRead × Int) :=
 (p_ref01_bad a0).bind fun v1 =>
 bif (v1 != (0:Int)) then
  (p_ref01_bad a0).bind fun v3 =>
  (p_ref01_with a0 v3).bind fun v4 =>
  some (v4,(0:Int))
 else
 (p_ref01_wide a1).bind fun v5 =>
 bif v5 then
  (p_ref01_Left a0).bind fun v7 =>
  bif (decide (v7 < a1)) then
   (p_ref01_with a0 (3:Int)).bind fun v9 =>
   some (v9,(0:Int))
  else
  (p_ref01_Num_l1 a1 fuel (0:Int) (0:Int) a0).bind fun q24 =>
  some (q24.2.2,q24.1)
 else
 (p_ref01_with a0 (2:Int)).bind fun v25 =>
 some (v25,(0:Int))
def p_ref01_Text (a0:OctetRead) (a1:Int):Option (OctetRead × ByteArray) :=
 (p_ref01_Num a0 (1:Int)).bind fun v1 =>
 bif (v1.1.Bad != (0:Int)) then
  some (v1.1,(⟨#[]⟩ : ByteArray))
 else
 bif (decide (a1 < v1.2)) then
  (p_ref01_with a0 (5:Int)).bind fun v4 =>
  some (v4,(⟨#[]⟩ : ByteArray))
 else
 (p_ref01_Left v1.1).bind fun v5 =>
 bif (decide (v5 < v1.2)) then
  (p_ref01_with a0 (3:Int)).bind fun v7 =>
  some (v7,(⟨#[]⟩ : ByteArray))
 else
 (sub? v1.1.S (some v1.1.At) (some (w64 (v1.1.At + v1.2)))).bind fun s8 =>
 some ((OctetRead.mk v1.1.S (w64 (v1.1.At + v1.2)) v1.1.Bad),s8)
def p_ref01_Done (a0:OctetRead):Option (Int) :=
 (p_ref01_bad a0).bind fun v1 =>
 bif (v1 == (0:Int)) then
  (p_ref01_Left a0).bind fun v3 =>
  bif (decide ((0:Int) < v3)) then
   some (4:Int)
  else
  (p_ref01_bad a0).bind fun v5 =>
  some v5
 else
 (p_ref01_bad a0).bind fun v6 =>
 some v6
def p_ref10_Read_l1 (z16:ByteArray):Nat→Int→StanzaStanza→OctetRead→Option ((Int × StanzaStanza × OctetRead))
 | 0,_,_,_=>none
 | n + 1,y17,y19,y20 =>
  bif (decide (y17 < (z16.size:Int))) then
   (byte? z16 y17).bind fun c22 =>
   bif (c22 == (117:Int)) then
    (p_ref01_Text y20 (33:Int)).bind fun v24 =>
    p_ref10_Read_l1 z16 n (w64 (y17 + (1:Int))) (StanzaStanza.mk y19.Kind v24.2 y19.Res y19.Name y19.Show y19.Prio y19.Code y19.N) v24.1
   else
   bif (c22 == (114:Int)) then
    (p_ref01_Text y20 (12:Int)).bind fun v26 =>
    p_ref10_Read_l1 z16 n (w64 (y17 + (1:Int))) (StanzaStanza.mk y19.Kind y19.User v26.2 y19.Name y19.Show y19.Prio y19.Code y19.N) v26.1
   else
   bif (c22 == (109:Int)) then
    (p_ref01_Text y20 (24:Int)).bind fun v28 =>
    p_ref10_Read_l1 z16 n (w64 (y17 + (1:Int))) (StanzaStanza.mk y19.Kind y19.User y19.Res v28.2 y19.Show y19.Prio y19.Code y19.N) v28.1
   else
   bif (c22 == (115:Int)) then
    (p_ref01_Num y20 (1:Int)).bind fun v30 =>
    p_ref10_Read_l1 z16 n (w64 (y17 + (1:Int))) (StanzaStanza.mk y19.Kind y19.User y19.Res y19.Name v30.2 y19.Prio y19.Code y19.N) v30.1
   else
   bif (c22 == (112:Int)) then
    (p_ref01_Num y20 (1:Int)).bind fun v32 =>
    p_ref10_Read_l1 z16 n (w64 (y17 + (1:Int))) (StanzaStanza.mk y19.Kind y19.User y19.Res y19.Name y19.Show (w64 (v32.2 - (128:Int))) y19.Code y19.N) v32.1
   else
   bif (c22 == (99:Int)) then
    (p_ref01_Num y20 (1:Int)).bind fun v34 =>
    p_ref10_Read_l1 z16 n (w64 (y17 + (1:Int))) (StanzaStanza.mk y19.Kind y19.User y19.Res y19.Name y19.Show y19.Prio v34.2 y19.N) v34.1
   else
   (p_ref01_Num y20 (6:Int)).bind fun v35 =>
   p_ref10_Read_l1 z16 n (w64 (y17 + (1:Int))) (StanzaStanza.mk y19.Kind y19.User y19.Res y19.Name y19.Show y19.Prio y19.Code v35.2) v35.1
  else
  some (y17,y19,y20)
def p_ref10_Read (a0:ByteArray):Option (StanzaStanza × Int) :=
 bif (a0.toList == (⟨#[]⟩ : ByteArray).toList) then
  some ((StanzaStanza.mk (0:Int) (⟨#[]⟩ : ByteArray) (⟨#[]⟩ : ByteArray) (⟨#[]⟩ : ByteArray) (0:Int) (0:Int) (0:Int) (0:Int)),(3:Int))
 else
 (byte? a0 (0:Int)).bind fun c2 =>
 (p_ref10_known c2).bind fun v3 =>
 bif v3 then
  (byte? a0 (0:Int)).bind fun c5 =>
  (sub? a0 (some (1:Int)) none).bind fun s6 =>
  (p_ref01_Open s6).bind fun v7 =>
  (byte? a0 (0:Int)).bind fun c8 =>
  (p_ref10_Has c8).bind fun v9 =>
  (p_ref10_Read_l1 v9 fuel (0:Int) (StanzaStanza.mk c5 (⟨#[]⟩ : ByteArray) (⟨#[]⟩ : ByteArray) (⟨#[]⟩ : ByteArray) (0:Int) (0:Int) (0:Int) (0:Int)) v7).bind fun q37 =>
  (p_ref01_Done q37.2.2).bind fun v38 =>
  bif (v38 == (0:Int)) then
   (p_ref10_Check q37.2.1).bind fun v40 =>
   bif (v40 != (0:Int)) then
    some ((StanzaStanza.mk (0:Int) (⟨#[]⟩ : ByteArray) (⟨#[]⟩ : ByteArray) (⟨#[]⟩ : ByteArray) (0:Int) (0:Int) (0:Int) (0:Int)),v40)
   else
   some (q37.2.1,(0:Int))
  else
  bif (v38 != (0:Int)) then
   some ((StanzaStanza.mk (0:Int) (⟨#[]⟩ : ByteArray) (⟨#[]⟩ : ByteArray) (⟨#[]⟩ : ByteArray) (0:Int) (0:Int) (0:Int) (0:Int)),v38)
  else
  some (q37.2.1,(0:Int))
 else
 some ((StanzaStanza.mk (0:Int) (⟨#[]⟩ : ByteArray) (⟨#[]⟩ : ByteArray) (⟨#[]⟩ : ByteArray) (0:Int) (0:Int) (0:Int) (0:Int)),(12:Int))
def p_ref12_Feed_l1 (z8:List ByteArray):Nat→(List DeframeItem)→Int→Option (((List DeframeItem) × Int))
 | 0,_,_=>none
 | n + 1,y9,y10 =>
  bif (decide (y10 < (z8.length:Int))) then
   (at? z8 y10).bind fun x14 =>
   (p_ref10_Read x14).bind fun v15 =>
   (app? y9 [(DeframeItem.mk v15.1 v15.2)]).bind fun l16 =>
   p_ref12_Feed_l1 z8 n l16 (w64 (y10 + (1:Int)))
  else
  some (y9,y10)
def p_ref12_Feed (a0:DeframeState) (a1:ByteArray):Option (DeframeState × (List DeframeItem)) :=
 (p_ref12_Texts a0 a1).bind fun v1 =>
 (p_ref12_Feed_l1 v1.2 fuel [] (0:Int)).bind fun q18 =>
 some (v1.1,q18.1)
def p_law12_back (a0:DeframeState):Option (DeframeState) :=
 some a0
def p_law12_Items_l1 (z5:List DeframeItem):Nat→(List DeframeItem)→Int→Option (((List DeframeItem) × Int))
 | 0,_,_=>none
 | n + 1,y6,y7 =>
  bif (decide (y7 < (z5.length:Int))) then
   (at? z5 y7).bind fun x9 =>
   (at? z5 y7).bind fun x10 =>
   (app? y6 [(DeframeItem.mk x9.S x10.E)]).bind fun l11 =>
   p_law12_Items_l1 z5 n l11 (w64 (y7 + (1:Int)))
  else
  some (y6,y7)
def p_law12_Items (a0:List DeframeItem):Option ((List DeframeItem)) :=
 (p_law12_Items_l1 a0 fuel [] (0:Int)).bind fun q13 =>
 some q13.1
def p_ref12_SameItems_l1 (z6:List DeframeItem) (z7:List DeframeItem):Nat→Int→Option (Bool ⊕ Int)
 | 0,_=>none
 | n + 1,y8 =>
  bif (decide (y8 < (z6.length:Int))) then
   (at? z6 y8).bind fun x10 =>
   (at? z7 y8).bind fun x11 =>
   bif ((x10.S.Kind == x11.S.Kind) && ((x10.S.User.toList == x11.S.User.toList) && ((x10.S.Res.toList == x11.S.Res.toList) && ((x10.S.Name.toList == x11.S.Name.toList) && ((x10.S.Show == x11.S.Show) && ((x10.S.Prio == x11.S.Prio) && ((x10.S.Code == x11.S.Code) && ((x10.S.N == x11.S.N) && ((x10.E == x11.E) && true))))))))) then
    p_ref12_SameItems_l1 z6 z7 n (w64 (y8 + (1:Int)))
   else
   some (.inl false)
  else
  some (.inr y8)
def p_ref12_SameItems (a0:List DeframeItem) (a1:List DeframeItem):Option (Bool) :=
 bif ((a0.length:Int) != (a1.length:Int)) then
  some false
 else
 (p_ref12_SameItems_l1 a0 a1 fuel (0:Int)).bind fun o13=>match o13 with
 | .inl q14 =>
  some q14
 | .inr q15 =>
  some true
def p_ref01_SameTexts_l1 (z6:List ByteArray) (z7:List ByteArray):Nat→Int→Option (Bool ⊕ Int)
 | 0,_=>none
 | n + 1,y8 =>
  bif (decide (y8 < (z6.length:Int))) then
   (at? z6 y8).bind fun x10 =>
   (at? z7 y8).bind fun x11 =>
   bif (x10.toList == x11.toList) then
    p_ref01_SameTexts_l1 z6 z7 n (w64 (y8 + (1:Int)))
   else
   some (.inl false)
  else
  some (.inr y8)
def p_ref01_SameTexts (a0:List ByteArray) (a1:List ByteArray):Option (Bool) :=
 bif ((a0.length:Int) != (a1.length:Int)) then
  some false
 else
 (p_ref01_SameTexts_l1 a0 a1 fuel (0:Int)).bind fun o13=>match o13 with
 | .inl q14 =>
  some q14
 | .inr q15 =>
  some true
def p_ref12_Need (a0:DeframeState):Option (Int) :=
 bif (a0.Bad != (0:Int)) then
  some (0:Int)
 else
 (p_ref12_Check a0).bind fun v2 =>
 bif (v2 != (0:Int)) then
  some (0:Int)
 else
 bif (decide ((a0.Buf.size:Int) < (2:Int))) then
  some (w64 ((2:Int) - (a0.Buf.size:Int)))
 else
 (byte? a0.Buf (0:Int)).bind fun c5 =>
 (byte? a0.Buf (1:Int)).bind fun c6 =>
 some (w64 (w64 (w64 ((2:Int) + w64 ((256:Int) * w64 c5)) + w64 c6) - (a0.Buf.size:Int)))
def p_law12_DeframeFeeds (a0:DeframeState) (a1:ByteArray):Option (Bool) :=
 bif (decide ((300:Int) < (a0.Buf.size:Int))) then
  (p_law12_awake).bind fun v2 =>
  some v2
 else
 bif (decide ((300:Int) < (a1.size:Int))) then
  (p_law12_awake).bind fun v4 =>
  some v4
 else
 (p_deframe_Feed a0 a1).bind fun v5 =>
 (p_ref12_Feed a0 a1).bind fun v6 =>
 (p_deframe_Texts a0 a1).bind fun v7 =>
 (p_ref12_Texts a0 a1).bind fun v8 =>
 (p_law12_back v5.1).bind fun v9 =>
 bif ((v9.Buf.toList == v6.1.Buf.toList) && ((v9.Bad == v6.1.Bad) && ((v9.Seen == v6.1.Seen) && true))) then
  (p_law12_Items v5.2).bind fun v11 =>
  (p_ref12_SameItems v11 v6.2).bind fun v12 =>
  bif v12 then
   (p_law12_back v7.1).bind fun v14 =>
   bif ((v14.Buf.toList == v8.1.Buf.toList) && ((v14.Bad == v8.1.Bad) && ((v14.Seen == v8.1.Seen) && true))) then
    (p_ref01_SameTexts v7.2 v8.2).bind fun v16 =>
    bif v16 then
     (p_deframe_Check a0).bind fun v18 =>
     (p_ref12_Check a0).bind fun v19 =>
     bif (v18 == v19) then
      (p_deframe_Need a0).bind fun v21 =>
      (p_ref12_Need a0).bind fun v22 =>
      bif (v21 == v22) then
       (p_deframe_Need v5.1).bind fun v24 =>
       (p_ref12_Need v6.1).bind fun v25 =>
       bif (v24 == v25) then
        (p_law12_awake).bind fun v27 =>
        some v27
       else
       some false
      else
      some false
     else
     some false
    else
    some false
   else
   some false
  else
  some false
 else
 some false
end Go.Proofs.YtmmmcpeickfolaaGreat

namespace Go.Proofs.YtmmmcpeickfolaaGreat
open Go.ChangeShapes Go.WideShapes Go.ChangeAt Go.RowKit Go.Joins Go.Deep
structure DeframeState.Wf (x:DeframeState):Prop where
 Bad:(Lit.int .i64 x.Bad).wf=true
 Seen:(Lit.int .i64 x.Seen).wf=true
set_option maxRecDepth 100000 in
theorem rd_T60 {H:Type} {enc:TypeId × Value→H} {W:World} {spare:Nat→Bool} {held:Bool} {fuel:Nat} {cs:List Value} {y:DataW H × List MemPlace} (h:DataW.trod enc Tryz.prog W 0 spare held fuel 60 cs=some y):∃ x:DeframeState,DeframeState.Wf x∧RepL (MW W) noBk cs [.s x.Buf,.i x.Bad,.i x.Seen]:=by
 obtain ⟨xs,n,_,_,hl,hx,hall⟩:=DataW.trod_struct Tryz.underlying60 h
 have hce:Tryz.prog.cellsOf 60=3:=by kernel_rfl
 rw [hce] at hl
 match cs,hl,hall with
 | [c0,c1,c2],_,hall =>
  obtain ⟨y0,hy0⟩:=get_some hx (show 0 < 3 by omega)
  have g0:DataW.trod enc Tryz.prog W 0 spare held n 9 [c0]=some y0:=by
   have hz:Tryz.prog.cellsOf 9=1:=by kernel_rfl
   have g:DataW.trod enc Tryz.prog W 0 spare held n 9 (([c0,c1,c2].drop 0).take (Tryz.prog.cellsOf 9))=some y0:=(hall 0 _ rfl).trans hy0
   rw [hz] at g;exact g
  obtain ⟨x0,r0⟩:=rd_string Tryz.underlying9 g0
  obtain ⟨y1,hy1⟩:=get_some hx (show 1 < 3 by omega)
  have g1:DataW.trod enc Tryz.prog W 0 spare held n 3 [c1]=some y1:=by
   have hz:Tryz.prog.cellsOf 3=1:=by kernel_rfl
   have g:DataW.trod enc Tryz.prog W 0 spare held n 3 (([c0,c1,c2].drop 1).take (Tryz.prog.cellsOf 3))=some y1:=(hall 1 _ rfl).trans hy1
   rw [hz] at g;exact g
  obtain ⟨x1,w1,r1⟩:=rd_int Tryz.underlying3 g1
  obtain ⟨y2,hy2⟩:=get_some hx (show 2 < 3 by omega)
  have g2:DataW.trod enc Tryz.prog W 0 spare held n 3 [c2]=some y2:=by
   have hz:Tryz.prog.cellsOf 3=1:=by kernel_rfl
   have g:DataW.trod enc Tryz.prog W 0 spare held n 3 (([c0,c1,c2].drop 2).take (Tryz.prog.cellsOf 3))=some y2:=(hall 2 _ rfl).trans hy2
   rw [hz] at g;exact g
  obtain ⟨x2,w2,r2⟩:=rd_int Tryz.underlying3 g2
  exact ⟨⟨x0,x1,x2⟩,⟨w1,w2⟩,repL_app r0 (repL_app r1 (repL_app r2 (repL_nil)))⟩
end Go.Proofs.YtmmmcpeickfolaaGreat

namespace Go.Proofs.YtmmmcpeickfolaaGreat
open Go.RowKit
theorem at_nat {α:Type} (l:List α) (k:Nat):at? l (k:Int)=l[k]?:=by
 unfold at?;rw [if_pos (Int.natCast_nonneg k)];rfl
theorem at_lt {α:Type} {l:List α} {k:Nat} (h:k < l.length):at? l (k:Int)=some l[k]:=by rw [at_nat,List.getElem?_eq_getElem h]
theorem w64_id {r:Int} (h:-9223372036854775808≤r∧r≤9223372036854775807):w64 r=r:=wrap_ok h
theorem w64_succ {k:Nat} (h:k≤1000000):w64 ((k:Int) + 1)=((k + 1:Nat):Int):=by rw [w64_id (by omega)];rfl
theorem lt_tt {a b:Nat} (h:a < b):decide ((a:Int) < (b:Int))=true:=by simpa using h
theorem lt_ff {a b:Nat} (h:b≤a):decide ((a:Int) < (b:Int))=false:=by simpa using h
theorem drop_at {α:Type} {l:List α} {k:Nat} (h:k < l.length):l.drop k=l[k] :: l.drop (k + 1):=List.drop_eq_getElem_cons h
theorem fuel_pos:(1000000:Nat) < fuel:=by decide
theorem app_ok {α:Type} {a b:List α} (h:a.length + b.length≤1000000):app? a b=some (a++b):=if_pos h
theorem byte_at {s:ByteArray} {k:Nat} (h:k < s.size):byte? s (k:Int)=some (s[k].toNat:Int):=by
 unfold byte?
 rw [dif_pos ⟨Int.natCast_nonneg k,h⟩];rfl
theorem tl_data (s:ByteArray):s.toList=s.data.toList:=by rw [ByteArray.toList_eq]
def eqT (a b:ByteArray):Bool:=a.toList == b.toList
theorem eqT_refl (a:ByteArray):(a.toList == a.toList)=true:=by simp
theorem eqT_iff {a b:ByteArray}:(a.toList == b.toList)=true ↔ a=b:=by
 rw [beq_iff_eq,tl_data,tl_data]
 exact ⟨fun h=>by cases a;cases b;congr 1;exact Array.ext' h,fun h=>by rw [h]⟩
end Go.Proofs.YtmmmcpeickfolaaGreat

