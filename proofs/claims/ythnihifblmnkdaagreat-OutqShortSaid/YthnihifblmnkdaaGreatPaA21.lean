/- A part of the proof: 3 texts joined. -/
import Derived.Test.YthnihifblmnkdaaGreatPaA18
import Derived.Test.YthnihifblmnkdaaGreatPaA16
import Derived.Test.YthnihifblmnkdaaGreatPaA17
import Derived.Test.YthnihifblmnkdaaGreatPaA12
import Derived.KernelRfl
set_option linter.all false
namespace Go.Proofs.YthnihifblmnkdaaGreat
open Go.RowKit
set_option maxRecDepth 100000
set_option maxHeartbeats 4000000
def gc90:BCode:=(.seq (R_ 0 [O_ 2 (.mv (.const (.string ⟨#[]⟩))) 0,O_ 3 (.mv (.const (.string ⟨#[]⟩))) 0,O_ 4 (.mv (i_ 0)) 0]) (.seq (R_ 0 [O_ 10 (.mv (t_ 0)) 0,O_ 11 (.cl 107 [(t_ 10),(.const (.string ⟨#[32]⟩))]) 0,O_ 9 (.mv (t_ 11)) 0,O_ 12 (.ex (t_ 9) 0) 0,O_ 13 (.ex (t_ 9) 1) 0,O_ 14 (.ex (t_ 9) 2) 0,O_ 5 (.mv (t_ 12)) 0,O_ 6 (.mv (t_ 13)) 0,O_ 7 (.mv (t_ 14)) 0]) (.seq (.seq (R_ 0 [O_ 15 (.mv (t_ 7)) 0,O_ 16 (.un .not (t_ 15)) 0]) (.cond (t_ 16) (.seq (R_ 0 [O_ 2 (.mv (.const (.string ⟨#[]⟩))) 0,O_ 3 (.mv (.const (.string ⟨#[]⟩))) 0,O_ 4 (.mv (i_ 4)) 0]) .ret) .skip)) (.seq (.seq (R_ 0 [O_ 17 (.mv (t_ 5)) 0,O_ 18 (.cl 86 [(t_ 17)]) 0,O_ 19 (.un .not (t_ 18)) 0]) (.cond (t_ 19) (.seq (R_ 0 [O_ 2 (.mv (.const (.string ⟨#[]⟩))) 0,O_ 3 (.mv (.const (.string ⟨#[]⟩))) 0,O_ 4 (.mv (i_ 11)) 0]) .ret) .skip)) (.seq (.seq (R_ 0 [O_ 20 (.mv (t_ 6)) 0,O_ 21 (.cl 85 [(t_ 20)]) 0,O_ 8 (.mv (t_ 21)) 0]) (.seq (R_ 0 [O_ 22 (.mv (t_ 8)) 0,O_ 23 (.bin .neq (t_ 22) (i_ 0)) 0]) (.cond (t_ 23) (.seq (R_ 0 [O_ 24 (.mv (t_ 8)) 0,O_ 2 (.mv (.const (.string ⟨#[]⟩))) 0,O_ 3 (.mv (.const (.string ⟨#[]⟩))) 0,O_ 4 (.mv (t_ 24)) 0]) .ret) .skip))) (.seq (R_ 0 [O_ 25 (.mv (t_ 5)) 0,O_ 26 (.mv (t_ 6)) 0,O_ 2 (.mv (t_ 25)) 0,O_ 3 (.mv (t_ 26)) 0,O_ 4 (.mv (i_ 0)) 0]) .ret))))))
theorem gc90_ok:compF Tryz.prog Tryz.f90=some (gc90.er,27,[.tmp 2,.tmp 3,.tmp 4]):=by unfold gc90;kernel_rfl
theorem p_pres_Split_v (a0:ByteArray):CallsO Tryz.prog 90 [.s a0] (fun r:ByteArray × ByteArray × Int=>.tup [V.s r.1,V.s r.2.1,V.i r.2.2]) (p_pres_Split a0):=by
 refine callsO_comp mix Tryz.func90 gc90_ok fun r H=>?_
 rw [p_pres_Split] at H
 conv=>whnf
 refine ask_c (p_strings_Cut_v _ _) H rfl rfl (fun v1 H=>?_);conv=>whnf
 refine Tst.not ?_
 refine tst_d H (fun b2 H=>?_) (fun b2 H=>?_)
 ·conv=>whnf
  exact fin0_c (enc:=(fun r:ByteArray × ByteArray × Int=>.tup [V.s r.1,V.s r.2.1,V.i r.2.2])) H (.inr rfl) (.cons (.tmp rfl) (.cons (.tmp rfl) (.cons (.tmp rfl) (.nil)))) rfl rfl
 conv=>whnf
 refine ask_c (p_addr_IsBare_v _) H rfl rfl (fun v3 H=>?_);conv=>whnf
 refine Tst.not ?_
 refine tst_d H (fun b4 H=>?_) (fun b4 H=>?_)
 ·conv=>whnf
  exact fin0_c (enc:=(fun r:ByteArray × ByteArray × Int=>.tup [V.s r.1,V.s r.2.1,V.i r.2.2])) H (.inr rfl) (.cons (.tmp rfl) (.cons (.tmp rfl) (.cons (.tmp rfl) (.nil)))) rfl rfl
 conv=>whnf
 refine ask_c (p_addr_Resource_v _) H rfl rfl (fun v5 H=>?_);conv=>whnf
 refine tst_c H (fun b6 H=>?_) (fun b6 H=>?_)
 ·conv=>whnf
  exact fin0_c (enc:=(fun r:ByteArray × ByteArray × Int=>.tup [V.s r.1,V.s r.2.1,V.i r.2.2])) H (.inr rfl) (.cons (.tmp rfl) (.cons (.tmp rfl) (.cons (.tmp rfl) (.nil)))) rfl rfl
 conv=>whnf
 exact fin0_c (enc:=(fun r:ByteArray × ByteArray × Int=>.tup [V.s r.1,V.s r.2.1,V.i r.2.2])) H (.inr rfl) (.cons (.tmp rfl) (.cons (.tmp rfl) (.cons (.tmp rfl) (.nil)))) rfl rfl
def gc59:BCode:=(.seq (R_ 0 [O_ 2 (.mv (b_ false)) 0]) (.seq (R_ 0 [O_ 7 (.mv (t_ 0)) 0,O_ 8 (.cl 90 [(t_ 7)]) 0,O_ 6 (.mv (t_ 8)) 0,O_ 9 (.ex (t_ 6) 0) 0,O_ 10 (.ex (t_ 6) 1) 0,O_ 11 (.ex (t_ 6) 2) 0,O_ 3 (.mv (t_ 9)) 0,O_ 4 (.mv (t_ 10)) 0,O_ 5 (.mv (t_ 11)) 0]) (.seq (R_ 0 [O_ 12 (.mv (t_ 5)) 0,O_ 13 (.bin .eql (t_ 12) (i_ 0)) 0,O_ 2 (.mv (t_ 13)) 0]) .ret)))
theorem gc59_ok:compF Tryz.prog Tryz.f59=some (gc59.er,14,[.tmp 2]):=by unfold gc59;kernel_rfl
theorem p_mail_key_v (a0:ByteArray):CallsO Tryz.prog 59 [.s a0] V.b (p_mail_key a0):=by
 refine callsO_comp mix Tryz.func59 gc59_ok fun r H=>?_
 rw [p_mail_key] at H
 conv=>whnf
 refine ask_c (p_pres_Split_v _) H rfl rfl (fun v1 H=>?_);conv=>whnf
 exact fb_ H
def gc63:BCode:=(.seq (R_ 0 [O_ 2 (.mv (i_ 0)) 0]) (.seq (R_ 0 [O_ 3 (.mv (i_ 0)) 0]) (.seq (.seq (R_ 0 [O_ 6 (.mv (t_ 0)) 0,O_ 7 (.lens (t_ 6)) 0,O_ 8 (.mv (i_ 0)) 0]) (.block 0 (.loop (.seq (R_ 0 [O_ 9 (.bin .lss (t_ 8) (t_ 7)) 0]) (.seq (.cond (t_ 9) .skip (.exit 0)) (.seq (.block 1 (.seq (R_ 1 [O_ 10 (.ixs 5 (t_ 6) (t_ 8)) 0,O_ 11 (.ld 5 true (t_ 10)) 0,O_ 5 (.al (.agg [(.lit (.string ⟨#[]⟩)),(.lit (.bool false)),(.lit (.int .i64 0)),(.lit (.int .i64 0)),(.lit (.int .i64 0))])) 0,U_ (.st 5 (t_ 5) (t_ 11)) 1]) (.seq (R_ 0 [O_ 12 (.fa 1 (t_ 5)) 0,O_ 13 (.fa 0 (t_ 12)) 0,O_ 14 (.ld 1 false (t_ 13)) 0,O_ 15 (.un .not (t_ 14)) 0]) (.cond (t_ 15) (R_ 0 [O_ 16 (.mv (t_ 3)) 0,O_ 17 (.bin .add (t_ 16) (i_ 1)) 0,O_ 3 (.mv (t_ 17)) 0]) .skip)))) (R_ 0 [O_ 18 (.bin .add (t_ 8) (i_ 1)) 0,O_ 8 (.mv (t_ 18)) 0]))))))) (.seq (R_ 0 [O_ 19 (.mv (t_ 3)) 0,O_ 2 (.mv (t_ 19)) 0]) .ret))))
theorem gc63_ok:compF Tryz.prog Tryz.f63=some (gc63.er,20,[.tmp 2]):=by unfold gc63;kernel_rfl
theorem p_mail_Off_v {u1:Bool} (a0:List MailEntry):CallsO Tryz.prog 63 [.sl (List.map MailEntry.v a0) u1] V.i (p_mail_Off a0):=by
 refine callsO_comp mix Tryz.func63 gc63_ok fun r H=>?_
 rw [p_mail_Off] at H
 conv=>whnf
 refine LenQ.M ?_;conv=>whnf
 obtain ⟨o2,HL3,HQ4⟩:=bind_c H
 refine loop_c [3,8] [5,9,10,11,12,13,14,15,16,17,18] [5,9,10,11,12,13,14,15,16,17,18] (fun n vals st=>(∃ y6 y7,p_mail_Off_l1  a0 (a0.length:Int) n y6 y7=some o2∧vals=[.i y6,.i y7]∧st=[])) fuel 0 [] (⟨_,_,HL3,rfl,rfl⟩) (Nat.zero_le _) rfl (by kernel_rfl) (by kernel_rfl) rfl trivial ?_
 rintro (_ | n5) _ _ (⟨y6,y7,H,rfl,rfl⟩)
 ·rw [p_mail_Off_l1] at H;cases H
 rw [p_mail_Off_l1] at H
 conv=>whnf
 refine tst_d H (fun b8 H=>?_) (fun b8 H=>?_)
 ·conv=>whnf
  obtain rfl:=Option.some.inj H
  have H:=HQ4
  try dsimp only at H
  exact fi_ H
 conv=>whnf
 refine ixs_c (f:=MailEntry.v) H (fun _=>rfl) (fun x9 H=>?_);conv=>whnf
 refine lq_ ?_;conv=>whnf
 refine Tst.not ?_
 refine tst_c H (fun b10 H=>?_) (fun b10 H=>?_)
 ·conv=>whnf
  refine Ari.w ?_;conv=>whnf
  exact again_c [5,9,10,11,12,13,14,15,16,17,18] n5 0 [] (⟨_,_,H,rfl,rfl⟩) (Nat.lt_succ_self _) (Nat.zero_le _) rfl (by kernel_rfl) (by kernel_rfl) rfl trivial
 conv=>whnf
 iterate 2 (refine Ari.w ?_;conv=>whnf)
 exact again_c [5,9,10,11,12,13,14,15,16,17,18] n5 0 [] (⟨_,_,H,rfl,rfl⟩) (Nat.lt_succ_self _) (Nat.zero_le _) rfl (by kernel_rfl) (by kernel_rfl) rfl trivial
def gc60:BCode:=(.seq (R_ 0 [O_ 4 (.mv (i_ 0)) 0]) (.seq (R_ 0 [O_ 5 (.mv (.const (.int .i64 (-1)))) 0]) (.seq .skip (.seq (.seq (R_ 0 [O_ 8 (.mv (t_ 0)) 0,O_ 9 (.lens (t_ 8)) 0,O_ 10 (.mv (i_ 0)) 0]) (.block 0 (.loop (.seq (R_ 0 [O_ 11 (.bin .lss (t_ 10) (t_ 9)) 0]) (.seq (.cond (t_ 11) .skip (.exit 0)) (.seq (.block 1 (.seq (R_ 1 [O_ 12 (.mv (t_ 10)) 0,O_ 13 (.ixs 5 (t_ 8) (t_ 10)) 0,O_ 14 (.ld 5 true (t_ 13)) 0,O_ 7 (.al (.agg [(.lit (.string ⟨#[]⟩)),(.lit (.bool false)),(.lit (.int .i64 0)),(.lit (.int .i64 0)),(.lit (.int .i64 0))])) 0,O_ 6 (.mv (t_ 12)) 1,U_ (.st 5 (t_ 7) (t_ 14)) 1]) (.seq (R_ 0 [O_ 15 (.fa 0 (t_ 7)) 0,O_ 16 (.ld 1 false (t_ 15)) 0,O_ 17 (.mv (t_ 1)) 0,O_ 18 (.bin .eql (t_ 16) (t_ 17)) 0]) (.cond (t_ 18) (.seq (R_ 0 [O_ 19 (.mv (t_ 6)) 0,O_ 5 (.mv (t_ 19)) 0]) (.exit 0)) .skip)))) (R_ 0 [O_ 20 (.bin .add (t_ 10) (i_ 1)) 0,O_ 10 (.mv (t_ 20)) 0]))))))) (.seq (R_ 0 [O_ 21 (.mv (t_ 5)) 0,O_ 4 (.mv (t_ 21)) 0]) .ret)))))
theorem gc60_ok:compF Tryz.prog Tryz.f60=some (gc60.er,22,[.tmp 4]):=by unfold gc60;kernel_rfl
theorem p_mail_Find_v {u1:Bool} (a0:List MailEntry) (a1:ByteArray):CallsO Tryz.prog 60 [.sl (List.map MailEntry.v a0) u1,.s a1] V.i (p_mail_Find a0 a1):=by
 refine callsO_comp mix Tryz.func60 gc60_ok fun r H=>?_
 rw [p_mail_Find] at H
 conv=>whnf
 refine LenQ.M ?_;conv=>whnf
 obtain ⟨o2,HL3,HQ4⟩:=bind_c H
 refine loop_c [5,10] [6,7,11,12,13,14,15,16,17,18,19,20] [6,7,11,12,13,14,15,16,17,18,19,20] (fun n vals st=>(∃ y6 y7,p_mail_Find_l1  a1 a0 (a0.length:Int) n y6 y7=some o2∧vals=[.i y6,.i y7]∧st=[])) fuel 0 [] (⟨_,_,HL3,rfl,rfl⟩) (Nat.zero_le _) rfl (by kernel_rfl) (by kernel_rfl) rfl trivial ?_
 rintro (_ | n5) _ _ (⟨y6,y7,H,rfl,rfl⟩)
 ·rw [p_mail_Find_l1] at H;cases H
 rw [p_mail_Find_l1] at H
 conv=>whnf
 refine tst_d H (fun b8 H=>?_) (fun b8 H=>?_)
 ·conv=>whnf
  obtain rfl:=Option.some.inj H
  have H:=HQ4
  try dsimp only at H
  exact fi_ H
 conv=>whnf
 refine ixs_c (f:=MailEntry.v) H (fun _=>rfl) (fun x9 H=>?_);conv=>whnf
 refine lq_ ?_;conv=>whnf
 refine tst_c H (fun b10 H=>?_) (fun b10 H=>?_)
 ·conv=>whnf
  obtain rfl:=Option.some.inj H
  have H:=HQ4
  try dsimp only at H
  exact fi_ H
 conv=>whnf
 refine Ari.w ?_;conv=>whnf
 exact again_c [6,7,11,12,13,14,15,16,17,18,19,20] n5 0 [] (⟨_,_,H,rfl,rfl⟩) (Nat.lt_succ_self _) (Nat.zero_le _) rfl (by kernel_rfl) (by kernel_rfl) rfl trivial
def gc75:BCode:=(.seq (R_ 0 [O_ 2 (.mv (b_ false)) 0]) (.seq (R_ 0 [O_ 6 (.mv (t_ 0)) 0,O_ 7 (.cl 63 [(t_ 6)]) 0,O_ 3 (.mv (t_ 7)) 0]) (.seq (.seq (R_ 0 [O_ 8 (.mv (t_ 0)) 0,O_ 9 (.lens (t_ 8)) 0,O_ 10 (.mv (i_ 0)) 0]) (.block 0 (.loop (.seq (R_ 0 [O_ 11 (.bin .lss (t_ 10) (t_ 9)) 0]) (.seq (.cond (t_ 11) .skip (.exit 0)) (.seq (.block 1 (.seq (R_ 1 [O_ 12 (.mv (t_ 10)) 0,O_ 13 (.ixs 5 (t_ 8) (t_ 10)) 0,O_ 14 (.ld 5 true (t_ 13)) 0,O_ 5 (.al (.agg [(.lit (.string ⟨#[]⟩)),(.lit (.bool false)),(.lit (.int .i64 0)),(.lit (.int .i64 0)),(.lit (.int .i64 0))])) 0,O_ 4 (.mv (t_ 12)) 1,U_ (.st 5 (t_ 5) (t_ 14)) 1]) (.seq (R_ 0 [O_ 15 (.fa 1 (t_ 5)) 0,O_ 16 (.fa 0 (t_ 15)) 0,O_ 17 (.ld 1 false (t_ 16)) 0,O_ 18 (.mv (t_ 4)) 0,O_ 19 (.mv (t_ 3)) 0,O_ 20 (.bin .geq (t_ 18) (t_ 19)) 0,O_ 21 (.binb true (t_ 17) (t_ 20)) 0,O_ 22 (.mv (t_ 21)) 0,⟨(some 23),.mv (t_ 0),(some (22,false)),0⟩,⟨(some 24),.fa 0 (t_ 5),(some (22,false)),0⟩,⟨(some 25),.ld 1 false (t_ 24),(some (22,false)),0⟩,⟨(some 26),.cl 60 [(t_ 23),(t_ 25)],(some (22,false)),0⟩,⟨(some 27),.mv (t_ 4),(some (22,false)),0⟩,⟨(some 28),.bin .neq (t_ 26) (t_ 27),(some (22,false)),0⟩,O_ 29 (.pick (t_ 22) (b_ true) (t_ 28)) 0]) (.cond (t_ 29) (.seq (R_ 0 [O_ 2 (.mv (b_ false)) 0]) .ret) .skip)))) (R_ 0 [O_ 30 (.bin .add (t_ 10) (i_ 1)) 0,O_ 10 (.mv (t_ 30)) 0]))))))) (.seq (R_ 0 [O_ 2 (.mv (b_ true)) 0]) .ret))))
theorem gc75_ok:compF Tryz.prog Tryz.f75=some (gc75.er,31,[.tmp 2]):=by unfold gc75;kernel_rfl
theorem p_mail_State_ordered_v {u1:Bool} (a0:List MailEntry):CallsO Tryz.prog 75 [.sl (List.map MailEntry.v a0) u1] V.b (p_mail_State_ordered a0):=by
 refine callsO_comp mix Tryz.func75 gc75_ok fun r H=>?_
 rw [p_mail_State_ordered] at H
 conv=>whnf
 refine ask_c (p_mail_Off_v _) H rfl rfl (fun v1 H=>?_);conv=>whnf
 refine LenQ.M ?_;conv=>whnf
 obtain ⟨o3,HL4,HQ5⟩:=bind_c H
 refine loop_c [2,10] [4,5,11,12,13,14,15,16,17,18,19,20,21,22,23,24,25,26,27,28,29,30] [4,5,11,12,13,14,15,16,17,18,19,20,21,22,23,24,25,26,27,28,29,30] (fun n vals st=>(∃ y7,p_mail_State_ordered_l1  a0 v1 a0 (a0.length:Int) n y7=some o3∧vals=[.b false,.i y7]∧st=[])) fuel 0 [] (⟨_,HL4,rfl,rfl⟩) (Nat.zero_le _) rfl (by kernel_rfl) (by kernel_rfl) rfl trivial ?_
 rintro (_ | n6) _ _ (⟨y7,H,rfl,rfl⟩)
 ·rw [p_mail_State_ordered_l1] at H;cases H
 rw [p_mail_State_ordered_l1] at H
 conv=>whnf
 refine tst_d H (fun b8 H=>?_) (fun b8 H=>?_)
 ·conv=>whnf
  obtain rfl:=Option.some.inj H
  have H:=HQ5
  try dsimp only at H
  exact fb_ H
 conv=>whnf
 refine ixs_c (f:=MailEntry.v) H (fun _=>rfl) (fun x9 H=>?_);conv=>whnf
 refine lq_ ?_;conv=>whnf
 refine tst_c H (fun b10 H=>?_) (fun b10 H=>?_)
 ·conv=>whnf
  iterate 7 (refine Tst.T ?_;conv=>whnf)
  obtain rfl:=Option.some.inj H
  have H:=HQ5
  try dsimp only at H
  exact fb_ H
 conv=>whnf
 iterate 3 (refine Tst.F ?_;conv=>whnf)
 refine ask_c (p_mail_Find_v _ _) H rfl rfl (fun v11 H=>?_);conv=>whnf
 iterate 3 (refine Tst.F ?_;conv=>whnf)
 refine tst_c H (fun b12 H=>?_) (fun b12 H=>?_)
 ·conv=>whnf
  obtain rfl:=Option.some.inj H
  have H:=HQ5
  try dsimp only at H
  exact fb_ H
 conv=>whnf
 refine Ari.w ?_;conv=>whnf
 exact again_c [4,5,11,12,13,14,15,16,17,18,19,20,21,22,23,24,25,26,27,28,29,30] n6 0 [] (⟨_,H,rfl,rfl⟩) (Nat.lt_succ_self _) (Nat.zero_le _) rfl (by kernel_rfl) (by kernel_rfl) rfl trivial
def gc43:BCode:=(.seq (R_ 0 [O_ 2 (.mv (i_ 0)) 0]) (.seq (.seq (R_ 0 [O_ 8 (.mv (t_ 0)) 0,O_ 9 (.lens (t_ 8)) 0,O_ 10 (.bin .gtr (t_ 9) (i_ 16)) 0]) (.cond (t_ 10) (.seq (R_ 0 [O_ 2 (.mv (i_ 5)) 0]) .ret) .skip)) (.seq (.seq (R_ 0 [O_ 11 (.mv (t_ 0)) 0,O_ 12 (.lens (t_ 11)) 0,O_ 13 (.mv (i_ 0)) 0]) (.block 0 (.loop (.seq (R_ 0 [O_ 14 (.bin .lss (t_ 13) (t_ 12)) 0]) (.seq (.cond (t_ 14) .skip (.exit 0)) (.seq (.block 1 (.seq (R_ 1 [O_ 15 (.ixs 5 (t_ 11) (t_ 13)) 0,O_ 16 (.ld 5 true (t_ 15)) 0,O_ 4 (.al (.agg [(.lit (.string ⟨#[]⟩)),(.lit (.bool false)),(.lit (.int .i64 0)),(.lit (.int .i64 0)),(.lit (.int .i64 0))])) 0,U_ (.st 5 (t_ 4) (t_ 16)) 1]) (.seq (R_ 0 [O_ 17 (.fa 0 (t_ 4)) 0,O_ 18 (.ld 1 false (t_ 17)) 0,O_ 19 (.cl 59 [(t_ 18)]) 0,O_ 20 (.un .not (t_ 19)) 0]) (.cond (t_ 20) (.seq (R_ 0 [O_ 2 (.mv (i_ 11)) 0]) .ret) .skip)))) (R_ 0 [O_ 21 (.bin .add (t_ 13) (i_ 1)) 0,O_ 13 (.mv (t_ 21)) 0]))))))) (.seq (.seq (R_ 0 [O_ 22 (.mv (t_ 0)) 0,O_ 23 (.lens (t_ 22)) 0,O_ 24 (.mv (i_ 0)) 0]) (.block 2 (.loop (.seq (R_ 0 [O_ 25 (.bin .lss (t_ 24) (t_ 23)) 0]) (.seq (.cond (t_ 25) .skip (.exit 2)) (.seq (.block 3 (.seq (R_ 1 [O_ 26 (.ixs 5 (t_ 22) (t_ 24)) 0,O_ 27 (.ld 5 true (t_ 26)) 0,O_ 6 (.al (.agg [(.lit (.string ⟨#[]⟩)),(.lit (.bool false)),(.lit (.int .i64 0)),(.lit (.int .i64 0)),(.lit (.int .i64 0))])) 0,U_ (.st 5 (t_ 6) (t_ 27)) 1]) (.seq (R_ 0 [O_ 28 (.fa 1 (t_ 6)) 0,O_ 29 (.ld 4 true (t_ 28)) 0,O_ 30 (.cl 51 [(t_ 29)]) 0,O_ 7 (.mv (t_ 30)) 0]) (.seq (R_ 0 [O_ 31 (.mv (t_ 7)) 0,O_ 32 (.bin .neq (t_ 31) (i_ 0)) 0]) (.cond (t_ 32) (.seq (R_ 0 [O_ 33 (.mv (t_ 7)) 0,O_ 2 (.mv (t_ 33)) 0]) .ret) .skip))))) (R_ 0 [O_ 34 (.bin .add (t_ 24) (i_ 1)) 0,O_ 24 (.mv (t_ 34)) 0]))))))) (.seq (.seq (R_ 0 [O_ 35 (.mv (t_ 0)) 0,O_ 36 (.cl 75 [(t_ 35)]) 0,O_ 37 (.un .not (t_ 36)) 0]) (.cond (t_ 37) (.seq (R_ 0 [O_ 2 (.mv (i_ 10)) 0]) .ret) .skip)) (.seq (R_ 0 [O_ 2 (.mv (i_ 0)) 0]) .ret))))))
theorem gc43_ok:compF Tryz.prog Tryz.f43=some (gc43.er,38,[.tmp 2]):=by unfold gc43;kernel_rfl
theorem p_mail_Check_v {u1:Bool} (a0:List MailEntry):CallsO Tryz.prog 43 [.sl (List.map MailEntry.v a0) u1] V.i (p_mail_Check a0):=by
 refine callsO_comp mix Tryz.func43 gc43_ok fun r H=>?_
 rw [p_mail_Check] at H
 conv=>whnf
 refine LenQ.M ?_;conv=>whnf
 refine tst_c H (fun b1 H=>?_) (fun b1 H=>?_)
 ·conv=>whnf
  exact fi_ H
 conv=>whnf
 refine LenQ.M ?_;conv=>whnf
 obtain ⟨o3,HL4,HQ5⟩:=bind_c H
 refine loop_c [2,13] [4,14,15,16,17,18,19,20,21] [4,14,15,16,17,18,19,20,21] (fun n vals st=>(∃ y7,p_mail_Check_l1  a0 (a0.length:Int) n y7=some o3∧vals=[.i (0:Int),.i y7]∧st=[])) fuel 0 [] (⟨_,HL4,rfl,rfl⟩) (Nat.zero_le _) rfl (by kernel_rfl) (by kernel_rfl) rfl trivial ?_
 rintro (_ | n6) _ _ (⟨y7,H,rfl,rfl⟩)
 ·rw [p_mail_Check_l1] at H;cases H
 rw [p_mail_Check_l1] at H
 conv=>whnf
 refine tst_c H (fun b8 H=>?_) (fun b8 H=>?_)
 ·conv=>whnf
  refine ixs_c (f:=MailEntry.v) H (fun _=>rfl) (fun x9 H=>?_);conv=>whnf
  refine lq_ ?_;conv=>whnf
  refine ask_c (p_mail_key_v _) H rfl rfl (fun v10 H=>?_);conv=>whnf
  refine Tst.not ?_
  refine tst_d H (fun b11 H=>?_) (fun b11 H=>?_)
  ·conv=>whnf
   obtain rfl:=Option.some.inj H
   have H:=HQ5
   try dsimp only at H
   exact fi_ H
  conv=>whnf
  refine Ari.w ?_;conv=>whnf
  exact again_c [4,14,15,16,17,18,19,20,21] n6 0 [] (⟨_,H,rfl,rfl⟩) (Nat.lt_succ_self _) (Nat.zero_le _) rfl (by kernel_rfl) (by kernel_rfl) rfl trivial
 conv=>whnf
 obtain rfl:=Option.some.inj H
 have H:=HQ5
 try dsimp only at H
 refine LenQ.M ?_;conv=>whnf
 obtain ⟨o13,HL14,HQ15⟩:=bind_c H
 refine loop_c [2,24] [6,7,25,26,27,28,29,30,31,32,33,34] [6,7,25,26,27,28,29,30,31,32,33,34] (fun n vals st=>(∃ y17,p_mail_Check_l2  a0 (a0.length:Int) n y17=some o13∧vals=[.i (0:Int),.i y17]∧st=[])) fuel 0 [] (⟨_,HL14,rfl,rfl⟩) (Nat.zero_le _) rfl (by kernel_rfl) (by kernel_rfl) rfl trivial ?_
 rintro (_ | n16) _ _ (⟨y17,H,rfl,rfl⟩)
 ·rw [p_mail_Check_l2] at H;cases H
 rw [p_mail_Check_l2] at H
 conv=>whnf
 refine tst_d H (fun b18 H=>?_) (fun b18 H=>?_)
 ·conv=>whnf
  obtain rfl:=Option.some.inj H
  have H:=HQ15
  try dsimp only at H
  refine ask_c (p_mail_State_ordered_v _) H rfl rfl (fun v22 H=>?_);conv=>whnf
  refine Tst.not ?_
  refine tst_c H (fun b23 H=>?_) (fun b23 H=>?_)
  ·conv=>whnf
   exact fi_ H
  conv=>whnf
  exact fi_ H
 conv=>whnf
 refine ixs_c (f:=MailEntry.v) H (fun _=>rfl) (fun x19 H=>?_);conv=>whnf
 refine lq_ ?_;conv=>whnf
 refine ask_c (p_pres_Check_v _) H rfl rfl (fun v20 H=>?_);conv=>whnf
 refine tst_c H (fun b21 H=>?_) (fun b21 H=>?_)
 ·conv=>whnf
  obtain rfl:=Option.some.inj H
  have H:=HQ15
  try dsimp only at H
  exact fi_ H
 conv=>whnf
 refine Ari.w ?_;conv=>whnf
 exact again_c [6,7,25,26,27,28,29,30,31,32,33,34] n16 0 [] (⟨_,H,rfl,rfl⟩) (Nat.lt_succ_self _) (Nat.zero_le _) rfl (by kernel_rfl) (by kernel_rfl) rfl trivial
def gc45:BCode:=(.seq (R_ 0 [O_ 2 (.mv (b_ false)) 0]) (.seq (R_ 0 [O_ 3 (.mv (t_ 0)) 0,O_ 4 (.bin .geq (t_ 3) (i_ 0)) 0,O_ 5 (.mv (t_ 4)) 0,⟨(some 6),.mv (t_ 0),(some (5,true)),0⟩,⟨(some 7),.bin .leq (t_ 6) (i_ 1099511627776),(some (5,true)),0⟩,O_ 8 (.pick (t_ 5) (t_ 7) (b_ false)) 0,O_ 2 (.mv (t_ 8)) 0]) .ret))
theorem gc45_ok:compF Tryz.prog Tryz.f45=some (gc45.er,9,[.tmp 2]):=by unfold gc45;kernel_rfl
theorem p_outq_in_v (a0:Int):CallsO Tryz.prog 45 [.i a0] V.b (p_outq_in a0):=by
 refine callsO_comp mix Tryz.func45 gc45_ok fun r H=>?_
 rw [p_outq_in] at H
 conv=>whnf
 refine tst_c H (fun b1 H=>?_) (fun b1 H=>?_)
 ·conv=>whnf
  iterate 2 (refine Tst.T ?_;conv=>whnf)
  exact fb_ H
 conv=>whnf
 iterate 2 (refine Tst.F ?_;conv=>whnf)
 exact fb_ H
def gc17:BCode:=(.seq (R_ 1 [O_ 1 (.bx (t_ 0)) 0,O_ 2 (.mv (i_ 0)) 1]) (.seq (.seq (R_ 0 [O_ 5 (.fa 0 (t_ 1)) 0,O_ 6 (.ld 1 false (t_ 5)) 0,O_ 7 (.cl 43 [(t_ 6)]) 0,O_ 3 (.mv (t_ 7)) 0]) (.seq (R_ 0 [O_ 8 (.mv (t_ 3)) 0,O_ 9 (.bin .neq (t_ 8) (i_ 0)) 0]) (.cond (t_ 9) (.seq (R_ 0 [O_ 10 (.mv (t_ 3)) 0,O_ 2 (.mv (t_ 10)) 0]) .ret) .skip))) (.seq (.seq (R_ 0 [O_ 11 (.fa 1 (t_ 1)) 0,O_ 12 (.ld 4 true (t_ 11)) 0,O_ 13 (.cl 44 [(t_ 12)]) 0,O_ 4 (.mv (t_ 13)) 0]) (.seq (R_ 0 [O_ 14 (.mv (t_ 4)) 0,O_ 15 (.bin .neq (t_ 14) (i_ 0)) 0]) (.cond (t_ 15) (.seq (R_ 0 [O_ 16 (.mv (t_ 4)) 0,O_ 2 (.mv (t_ 16)) 0]) .ret) .skip))) (.seq (.seq (R_ 0 [O_ 17 (.fa 5 (t_ 1)) 0,O_ 18 (.ld 1 false (t_ 17)) 0,O_ 19 (.cl 45 [(t_ 18)]) 0,O_ 20 (.un .not (t_ 19)) 0,O_ 21 (.mv (t_ 20)) 0,⟨(some 22),.fa 6 (t_ 1),(some (21,false)),0⟩,⟨(some 23),.ld 1 false (t_ 22),(some (21,false)),0⟩,⟨(some 24),.cl 45 [(t_ 23)],(some (21,false)),0⟩,⟨(some 25),.un .not (t_ 24),(some (21,false)),0⟩,O_ 26 (.pick (t_ 21) (b_ true) (t_ 25)) 0]) (.cond (t_ 26) (.seq (R_ 0 [O_ 2 (.mv (i_ 8)) 0]) .ret) .skip)) (.seq (R_ 0 [O_ 2 (.mv (i_ 0)) 0]) .ret)))))
theorem gc17_ok:compF Tryz.prog Tryz.f17=some (gc17.er,27,[.tmp 2]):=by unfold gc17;kernel_rfl
theorem p_outq_Check_v {u1:Bool} (a0:Ref27State):CallsO Tryz.prog 17 [.agg [.sl (List.map MailEntry.v a0.Mail) u1,.b a0.Snap.On,.b a0.Snap.Begun,.s a0.Snap.After,.i a0.Snap.Told,.i a0.Sent,.i a0.Lost]] V.i (p_outq_Check a0):=by
 refine callsO_comp mix Tryz.func17 gc17_ok fun r H=>?_
 rw [p_outq_Check] at H
 conv=>whnf
 refine ask_c (p_mail_Check_v _) H rfl rfl (fun v1 H=>?_);conv=>whnf
 refine tst_c H (fun b2 H=>?_) (fun b2 H=>?_)
 ·conv=>whnf
  exact fi_ H
 conv=>whnf
 refine ask_c (p_snap_Check_v _) H rfl rfl (fun v3 H=>?_);conv=>whnf
 refine tst_c H (fun b4 H=>?_) (fun b4 H=>?_)
 ·conv=>whnf
  exact fi_ H
 conv=>whnf
 refine ask_c (p_outq_in_v _) H rfl rfl (fun v5 H=>?_);conv=>whnf
 refine Tst.not ?_
 refine tst_d H (fun b6 H=>?_) (fun b6 H=>?_)
 ·conv=>whnf
  iterate 5 (refine Tst.T ?_;conv=>whnf)
  exact fi_ H
 conv=>whnf
 iterate 2 (refine Tst.F ?_;conv=>whnf)
 refine ask_c (p_outq_in_v _) H rfl rfl (fun v7 H=>?_);conv=>whnf
 iterate 2 (refine Tst.F ?_;conv=>whnf)
 refine Tst.not ?_
 refine tst_c H (fun b8 H=>?_) (fun b8 H=>?_)
 ·conv=>whnf
  exact fi_ H
 conv=>whnf
 exact fi_ H
end Go.Proofs.YthnihifblmnkdaaGreat

namespace Go.Proofs.YthnihifblmnkdaaGreat
open Go.RowKit
set_option maxRecDepth 100000
set_option maxHeartbeats 4000000
def gc88:BCode:=(R_ 0 [O_ 2 (.mv (t_ 0)) 0,O_ 3 (.mv (t_ 0)) 0,O_ 4 (.nc (t_ 3)) 0,O_ 5 (.fa 0 (t_ 4)) 0,O_ 6 (.ld 1 false (t_ 5)) 0,O_ 7 (.bin .add (t_ 6) (i_ 1)) 0,O_ 8 (.mn false (t_ 7) (i_ 1099511627776)) 0,O_ 9 (.nc (t_ 2)) 0,O_ 10 (.fa 0 (t_ 9)) 0,U_ (.st 1 (t_ 10) (t_ 8)) 0])
theorem gc88_ok:compF Tryz.prog Tryz.f88=some (gc88.er,11,[]):=by unfold gc88;kernel_rfl
theorem p_outq_counter_told_p5_1 {u1 u2 u3 u4:Bool} {X0:Slot} (hX0:X0.okN 5=true) {X2:Slot} (hX2:X2.okN 5=true) {X3:Slot} (hX3:X3.okN 5=true) {X4:Slot} (hX4:X4.okN 5=true) (a0:OutqTeller) (r:OutqTeller) (H:p_outq_counter_told a0=some r):CallsS Tryz.prog 88 [.ptr 1 0] [X0,.live [.i a0.counter.sent,.sl (List.map MailEntry.v a0.st.Mail) u1,.b a0.st.Snap.On,.b a0.st.Snap.Begun,.s a0.st.Snap.After,.i a0.st.Snap.Told,.i a0.st.Sent,.i a0.st.Lost,.sl (List.map V.s a0.eyes.Users) u2,.sl (List.map V.s a0.eyes.Keys) u3,.i a0.book.Seq,.sl (List.map BookRow.v a0.book.Rows) u4] 0,X2,X3,X4] ((fun _:OutqTeller=>V.tup []) r) [X0,.live ((fun r:OutqTeller=>[.i r.counter.sent,.sl (List.map MailEntry.v r.st.Mail) false,.b r.st.Snap.On,.b r.st.Snap.Begun,.s r.st.Snap.After,.i r.st.Snap.Told,.i r.st.Sent,.i r.st.Lost,.sl (List.map V.s r.eyes.Users) false,.sl (List.map V.s r.eyes.Keys) false,.i r.book.Seq,.sl (List.map BookRow.v r.book.Rows) false]) r) 0,X2,X3,X4]:=by
 refine callsR_c (n0:=5) mix Tryz.func88 gc88_ok rfl ?_
 rw [p_outq_counter_told] at H
 conv=>whnf
 refine Ari.w ?_;conv=>whnf
 refine lq_ ?_;conv=>whnf
 refine finP_c (enc:=(fun _:OutqTeller=>V.tup [])) (T:=(fun r:OutqTeller=>[.i r.counter.sent,.sl (List.map MailEntry.v r.st.Mail) false,.b r.st.Snap.On,.b r.st.Snap.Begun,.s r.st.Snap.After,.i r.st.Snap.Told,.i r.st.Sent,.i r.st.Lost,.sl (List.map V.s r.eyes.Users) false,.sl (List.map V.s r.eyes.Keys) false,.i r.book.Seq,.sl (List.map BookRow.v r.book.Rows) false])) (i:=1) [] (.inl rfl) H (Nat.le_of_ble_eq_true rfl) ?_;conv=>whnf
 exact ⟨⟨⟨rfl,hX0⟩,⟨⟨rfl,hX2⟩,⟨⟨rfl,hX3⟩,⟨⟨rfl,hX4⟩,trivial⟩⟩⟩⟩,⟨_,_,rfl,.cons (.id rfl) (.cons (.slw) (.cons (.id rfl) (.cons (.id rfl) (.cons (.id rfl) (.cons (.id rfl) (.cons (.id rfl) (.cons (.id rfl) (.cons (.slw) (.cons (.slw) (.cons (.id rfl) (.cons (.slw) (.nil)))))))))))),rfl⟩,⟨rfl,rfl⟩⟩
theorem p_outq_counter_told_p6_1 {u1 u2 u3 u4:Bool} {X0:Slot} (hX0:X0.okN 6=true) {X2:Slot} (hX2:X2.okN 6=true) {X3:Slot} (hX3:X3.okN 6=true) {X4:Slot} (hX4:X4.okN 6=true) {X5:Slot} (hX5:X5.okN 6=true) (a0:OutqTeller) (r:OutqTeller) (H:p_outq_counter_told a0=some r):CallsS Tryz.prog 88 [.ptr 1 0] [X0,.live [.i a0.counter.sent,.sl (List.map MailEntry.v a0.st.Mail) u1,.b a0.st.Snap.On,.b a0.st.Snap.Begun,.s a0.st.Snap.After,.i a0.st.Snap.Told,.i a0.st.Sent,.i a0.st.Lost,.sl (List.map V.s a0.eyes.Users) u2,.sl (List.map V.s a0.eyes.Keys) u3,.i a0.book.Seq,.sl (List.map BookRow.v a0.book.Rows) u4] 0,X2,X3,X4,X5] ((fun _:OutqTeller=>V.tup []) r) [X0,.live ((fun r:OutqTeller=>[.i r.counter.sent,.sl (List.map MailEntry.v r.st.Mail) false,.b r.st.Snap.On,.b r.st.Snap.Begun,.s r.st.Snap.After,.i r.st.Snap.Told,.i r.st.Sent,.i r.st.Lost,.sl (List.map V.s r.eyes.Users) false,.sl (List.map V.s r.eyes.Keys) false,.i r.book.Seq,.sl (List.map BookRow.v r.book.Rows) false]) r) 0,X2,X3,X4,X5]:=by
 refine callsR_c (n0:=6) mix Tryz.func88 gc88_ok rfl ?_
 rw [p_outq_counter_told] at H
 conv=>whnf
 refine Ari.w ?_;conv=>whnf
 refine lq_ ?_;conv=>whnf
 refine finP_c (enc:=(fun _:OutqTeller=>V.tup [])) (T:=(fun r:OutqTeller=>[.i r.counter.sent,.sl (List.map MailEntry.v r.st.Mail) false,.b r.st.Snap.On,.b r.st.Snap.Begun,.s r.st.Snap.After,.i r.st.Snap.Told,.i r.st.Sent,.i r.st.Lost,.sl (List.map V.s r.eyes.Users) false,.sl (List.map V.s r.eyes.Keys) false,.i r.book.Seq,.sl (List.map BookRow.v r.book.Rows) false])) (i:=1) [] (.inl rfl) H (Nat.le_of_ble_eq_true rfl) ?_;conv=>whnf
 exact ⟨⟨⟨rfl,hX0⟩,⟨⟨rfl,hX2⟩,⟨⟨rfl,hX3⟩,⟨⟨rfl,hX4⟩,⟨⟨rfl,hX5⟩,trivial⟩⟩⟩⟩⟩,⟨_,_,rfl,.cons (.id rfl) (.cons (.slw) (.cons (.id rfl) (.cons (.id rfl) (.cons (.id rfl) (.cons (.id rfl) (.cons (.id rfl) (.cons (.id rfl) (.cons (.slw) (.cons (.slw) (.cons (.id rfl) (.cons (.slw) (.nil)))))))))))),rfl⟩,⟨rfl,rfl⟩⟩
theorem p_outq_counter_told_p7_1 {u1 u2 u3 u4:Bool} {X0:Slot} (hX0:X0.okN 7=true) {X2:Slot} (hX2:X2.okN 7=true) {X3:Slot} (hX3:X3.okN 7=true) {X4:Slot} (hX4:X4.okN 7=true) {X5:Slot} (hX5:X5.okN 7=true) {X6:Slot} (hX6:X6.okN 7=true) (a0:OutqTeller) (r:OutqTeller) (H:p_outq_counter_told a0=some r):CallsS Tryz.prog 88 [.ptr 1 0] [X0,.live [.i a0.counter.sent,.sl (List.map MailEntry.v a0.st.Mail) u1,.b a0.st.Snap.On,.b a0.st.Snap.Begun,.s a0.st.Snap.After,.i a0.st.Snap.Told,.i a0.st.Sent,.i a0.st.Lost,.sl (List.map V.s a0.eyes.Users) u2,.sl (List.map V.s a0.eyes.Keys) u3,.i a0.book.Seq,.sl (List.map BookRow.v a0.book.Rows) u4] 0,X2,X3,X4,X5,X6] ((fun _:OutqTeller=>V.tup []) r) [X0,.live ((fun r:OutqTeller=>[.i r.counter.sent,.sl (List.map MailEntry.v r.st.Mail) false,.b r.st.Snap.On,.b r.st.Snap.Begun,.s r.st.Snap.After,.i r.st.Snap.Told,.i r.st.Sent,.i r.st.Lost,.sl (List.map V.s r.eyes.Users) false,.sl (List.map V.s r.eyes.Keys) false,.i r.book.Seq,.sl (List.map BookRow.v r.book.Rows) false]) r) 0,X2,X3,X4,X5,X6]:=by
 refine callsR_c (n0:=7) mix Tryz.func88 gc88_ok rfl ?_
 rw [p_outq_counter_told] at H
 conv=>whnf
 refine Ari.w ?_;conv=>whnf
 refine lq_ ?_;conv=>whnf
 refine finP_c (enc:=(fun _:OutqTeller=>V.tup [])) (T:=(fun r:OutqTeller=>[.i r.counter.sent,.sl (List.map MailEntry.v r.st.Mail) false,.b r.st.Snap.On,.b r.st.Snap.Begun,.s r.st.Snap.After,.i r.st.Snap.Told,.i r.st.Sent,.i r.st.Lost,.sl (List.map V.s r.eyes.Users) false,.sl (List.map V.s r.eyes.Keys) false,.i r.book.Seq,.sl (List.map BookRow.v r.book.Rows) false])) (i:=1) [] (.inl rfl) H (Nat.le_of_ble_eq_true rfl) ?_;conv=>whnf
 exact ⟨⟨⟨rfl,hX0⟩,⟨⟨rfl,hX2⟩,⟨⟨rfl,hX3⟩,⟨⟨rfl,hX4⟩,⟨⟨rfl,hX5⟩,⟨⟨rfl,hX6⟩,trivial⟩⟩⟩⟩⟩⟩,⟨_,_,rfl,.cons (.id rfl) (.cons (.slw) (.cons (.id rfl) (.cons (.id rfl) (.cons (.id rfl) (.cons (.id rfl) (.cons (.id rfl) (.cons (.id rfl) (.cons (.slw) (.cons (.slw) (.cons (.id rfl) (.cons (.slw) (.nil)))))))))))),rfl⟩,⟨rfl,rfl⟩⟩
def gc89:BCode:=(.seq (R_ 1 [O_ 2 (.mv (.const (.slice none 0 0))) 0,O_ 3 (.al (.agg [(.lit (.string ⟨#[]⟩)),(.lit (.bool false)),(.lit (.int .i64 0)),(.lit (.int .i64 0)),(.lit (.int .i64 0))])) 0,O_ 4 (.mv (b_ false)) 1]) (.seq (.seq (R_ 0 [O_ 5 (.mv (t_ 0)) 0,O_ 6 (.lens (t_ 5)) 0,O_ 7 (.bin .eql (t_ 6) (i_ 0)) 0,O_ 8 (.mv (t_ 7)) 0,⟨(some 9),.mv (t_ 0),(some (8,false)),0⟩,⟨(some 10),.cl 43 [(t_ 9)],(some (8,false)),0⟩,⟨(some 11),.bin .neq (t_ 10) (i_ 0),(some (8,false)),0⟩,O_ 12 (.pick (t_ 8) (b_ true) (t_ 11)) 0]) (.cond (t_ 12) (.seq (R_ 0 [O_ 13 (.mv (t_ 0)) 0,O_ 14 (.bd [(.lit (.string ⟨#[]⟩)),(.lit (.bool false)),(.lit (.int .i64 0)),(.lit (.int .i64 0)),(.lit (.int .i64 0))] []) 0,O_ 2 (.mv (t_ 13)) 0,U_ (.st 5 (t_ 3) (t_ 14)) 0,O_ 4 (.mv (b_ false)) 0]) .ret) .skip)) (.seq (.reg 0 [O_ 15 (.mv (t_ 0)) 0,O_ 16 (.sls 5 (t_ 15) (some (i_ 1)) none none) 0,O_ 17 (.mv (t_ 0)) 0,O_ 18 (.ixs 5 (t_ 17) (i_ 0)) 0,O_ 19 (.ld 5 true (t_ 18)) 0,O_ 2 (.mv (t_ 16)) 0,U_ (.st 5 (t_ 3) (t_ 19)) 0,O_ 4 (.mv (b_ true)) 0] (some [[],[0],[],[2],[2,3],[0,1],[1,0,5,3,2,4],[4,2,3,5,0,1,6]]) 0 []) .ret)))
theorem gc89_ok:compF Tryz.prog Tryz.f89=some (gc89.er,20,[.tmp 2,.cell 3 5 true,.tmp 4]):=by unfold gc89;kernel_rfl
theorem p_mail_Take_v {u1:Bool} (a0:List MailEntry):CallsO Tryz.prog 89 [.sl (List.map MailEntry.v a0) u1] (fun r:(List MailEntry) × MailEntry × Bool=>.tup [(fun l:List MailEntry=>V.sl (l.map MailEntry.v) false) r.1,MailEntry.v r.2.1,V.b r.2.2]) (p_mail_Take a0):=by
 refine callsO_comp mix Tryz.func89 gc89_ok fun r H=>?_
 rw [p_mail_Take] at H
 conv=>whnf
 refine LenQ.M ?_;conv=>whnf
 refine tst_c H (fun b1 H=>?_) (fun b1 H=>?_)
 ·conv=>whnf
  iterate 4 (refine Tst.T ?_;conv=>whnf)
  refine lq_ ?_;conv=>whnf
  refine finR_c (enc:=(fun r:(List MailEntry) × MailEntry × Bool=>.tup [(fun l:List MailEntry=>V.sl (l.map MailEntry.v) false) r.1,MailEntry.v r.2.1,V.b r.2.2])) H ?_;conv=>whnf
  exact ⟨_,.tup (.cons (.c (.slw)) (.cons (fzagg (.cons (.id rfl) (.cons (.id rfl) (.cons (.id rfl) (.cons (.id rfl) (.cons (.id rfl) (.nil)))))) rfl) (.cons (.c (.id rfl)) (.nil))))⟩
 conv=>whnf
 refine Tst.F ?_;conv=>whnf
 refine ask_c (p_mail_Check_v _) H rfl rfl (fun v2 H=>?_);conv=>whnf
 iterate 2 (refine Tst.F ?_;conv=>whnf)
 refine tst_c H (fun b3 H=>?_) (fun b3 H=>?_)
 ·conv=>whnf
  refine lq_ ?_;conv=>whnf
  refine finR_c (enc:=(fun r:(List MailEntry) × MailEntry × Bool=>.tup [(fun l:List MailEntry=>V.sl (l.map MailEntry.v) false) r.1,MailEntry.v r.2.1,V.b r.2.2])) H ?_;conv=>whnf
  exact ⟨_,.tup (.cons (.c (.slw)) (.cons (fzagg (.cons (.id rfl) (.cons (.id rfl) (.cons (.id rfl) (.cons (.id rfl) (.cons (.id rfl) (.nil)))))) rfl) (.cons (.c (.id rfl)) (.nil))))⟩
 conv=>whnf
 refine slsE_c (f:=MailEntry.v) H (fun _=>rfl) (fun x4 H=>?_);conv=>whnf
 refine ixs_c (f:=MailEntry.v) H (fun _=>rfl) (fun x5 H=>?_);conv=>whnf
 refine lq_ ?_;conv=>whnf
 refine FootQ.mk ⟨rfl,?_⟩;conv=>whnf
 refine finR_c (enc:=(fun r:(List MailEntry) × MailEntry × Bool=>.tup [(fun l:List MailEntry=>V.sl (l.map MailEntry.v) false) r.1,MailEntry.v r.2.1,V.b r.2.2])) H ?_;conv=>whnf
 exact ⟨_,.tup (.cons (.c (.slw)) (.cons (fzagg (.cons (.id rfl) (.cons (.id rfl) (.cons (.id rfl) (.cons (.id rfl) (.cons (.id rfl) (.nil)))))) rfl) (.cons (.c (.id rfl)) (.nil))))⟩
def gc54:BCode:=(.seq (R_ 1 [O_ 2 (.al (.agg [(.lit (.int .u8 0)),(.lit (.string ⟨#[]⟩)),(.lit (.string ⟨#[]⟩)),(.lit (.string ⟨#[]⟩)),(.lit (.int .i64 0)),(.lit (.int .i64 0)),(.lit (.int .i64 0)),(.lit (.int .i64 0))])) 0,O_ 3 (.mv (b_ false)) 1]) (.seq (.seq (R_ 0 [O_ 13 (.mv (t_ 0)) 0,O_ 14 (.nc (t_ 13)) 0,O_ 15 (.fa 1 (t_ 14)) 0,O_ 16 (.fa 1 (t_ 15)) 0,O_ 17 (.fa 0 (t_ 16)) 0,O_ 18 (.ld 1 false (t_ 17)) 0]) (.cond (t_ 18) (.seq (.reg 2 [O_ 20 (.mv (t_ 0)) 0,O_ 21 (.nc (t_ 20)) 0,O_ 22 (.fa 1 (t_ 21)) 0,O_ 23 (.fa 1 (t_ 22)) 0,O_ 24 (.ld 4 true (t_ 23)) 0,O_ 25 (.mv (t_ 0)) 0,O_ 26 (.nc (t_ 25)) 0,O_ 27 (.fa 8 (t_ 26)) 0,O_ 28 (.ld 2 true (t_ 27)) 0,O_ 29 (.mv (t_ 0)) 0,O_ 30 (.nc (t_ 29)) 0,O_ 31 (.fa 10 (t_ 30)) 0,O_ 32 (.ld 2 true (t_ 31)) 0,O_ 33 (.cl 87 [(t_ 24),(t_ 28),(t_ 32)]) 0,O_ 19 (.mv (t_ 33)) 0,O_ 34 (.ex (t_ 19) 0) 0,O_ 35 (.ex (t_ 19) 1) 0,O_ 36 (.ex (t_ 19) 2) 0,O_ 4 (.al (.agg [(.lit (.bool false)),(.lit (.bool false)),(.lit (.string ⟨#[]⟩)),(.lit (.int .i64 0))])) 0,O_ 5 (.al (.agg [(.lit (.int .u8 0)),(.lit (.string ⟨#[]⟩)),(.lit (.string ⟨#[]⟩)),(.lit (.string ⟨#[]⟩)),(.lit (.int .i64 0)),(.lit (.int .i64 0)),(.lit (.int .i64 0)),(.lit (.int .i64 0))])) 1,U_ (.st 4 (t_ 4) (t_ 34)) 2,U_ (.st 8 (t_ 5) (t_ 35)) 2,O_ 6 (.mv (t_ 36)) 2] (some [[],[0],[0,1],[1,0,2],[2,0,1,3],[],[5],[5,6],[6,5,7],[],[9],[9,10],[10,9,11],[11,9,10,12,7,5,6,8,3,1,0,2,4],[4,2,0,1,3,8,6,5,7,12,10,9,11,13],[13,11,9,10,12,7,5,6,8,3,1,0,2,4,14],[13,11,9,10,12,7,5,6,8,3,1,0,2,4,14],[13,11,9,10,12,7,5,6,8,3,1,0,2,4,14],[],[],[19,14,4,2,0,1,3,8,6,5,7,12,10,9,11,13,15,18],[18,15,20,14,4,2,0,1,3,8,6,5,7,12,10,9,11,13,16,19],[19,16,20,15,18,21,14,4,2,0,1,3,8,6,5,7,12,10,9,11,13,17]]) 0 []) (.seq (.seq (R_ 0 [O_ 37 (.mv (t_ 6)) 0]) (.cond (t_ 37) (.seq (R_ 0 [O_ 38 (.mv (t_ 0)) 0,O_ 39 (.ld 4 true (t_ 4)) 0,O_ 40 (.nc (t_ 38)) 0,O_ 41 (.fa 1 (t_ 40)) 0,O_ 42 (.fa 1 (t_ 41)) 0,U_ (.st 4 (t_ 42) (t_ 39)) 0]) (R_ 0 [O_ 43 (.mv (t_ 0)) 0,O_ 44 (.nc (t_ 43)) 0,O_ 45 (.fa 0 (t_ 44)) 0,O_ 46 (.cl 88 [(t_ 45)]) 0])) .skip)) (.seq (R_ 0 [O_ 47 (.ld 8 true (t_ 5)) 0,O_ 48 (.mv (t_ 6)) 0,U_ (.st 8 (t_ 2) (t_ 47)) 0,O_ 3 (.mv (t_ 48)) 0]) .ret))) .skip)) (.seq (R_ 1 [O_ 50 (.mv (t_ 0)) 0,O_ 51 (.nc (t_ 50)) 0,O_ 52 (.fa 1 (t_ 51)) 0,O_ 53 (.fa 0 (t_ 52)) 0,O_ 54 (.ld 1 false (t_ 53)) 0,O_ 55 (.cl 89 [(t_ 54)]) 0,O_ 49 (.mv (t_ 55)) 0,O_ 56 (.ex (t_ 49) 0) 0,O_ 57 (.ex (t_ 49) 1) 0,O_ 58 (.ex (t_ 49) 2) 0,O_ 8 (.al (.agg [(.lit (.string ⟨#[]⟩)),(.lit (.bool false)),(.lit (.int .i64 0)),(.lit (.int .i64 0)),(.lit (.int .i64 0))])) 0,O_ 7 (.mv (t_ 56)) 1,U_ (.st 5 (t_ 8) (t_ 57)) 1,O_ 9 (.mv (t_ 58)) 1]) (.seq (.seq (R_ 0 [O_ 59 (.mv (t_ 9)) 0,O_ 60 (.un .not (t_ 59)) 0]) (.cond (t_ 60) (.seq (R_ 0 [O_ 61 (.bd [(.lit (.int .u8 0)),(.lit (.string ⟨#[]⟩)),(.lit (.string ⟨#[]⟩)),(.lit (.string ⟨#[]⟩)),(.lit (.int .i64 0)),(.lit (.int .i64 0)),(.lit (.int .i64 0)),(.lit (.int .i64 0))] []) 0,U_ (.st 8 (t_ 2) (t_ 61)) 0,O_ 3 (.mv (b_ false)) 0]) .ret) .skip)) (.seq (R_ 0 [O_ 62 (.mv (t_ 0)) 0,O_ 63 (.mv (t_ 7)) 0,O_ 64 (.nc (t_ 62)) 0,O_ 65 (.fa 1 (t_ 64)) 0,O_ 66 (.fa 0 (t_ 65)) 0,U_ (.st 1 (t_ 66) (t_ 63)) 0]) (.seq (R_ 0 [O_ 67 (.mv (t_ 0)) 0,O_ 68 (.nc (t_ 67)) 0,O_ 69 (.fa 0 (t_ 68)) 0,O_ 70 (.cl 88 [(t_ 69)]) 0]) (.seq (R_ 0 [O_ 72 (.fa 0 (t_ 8)) 0,O_ 73 (.ld 1 false (t_ 72)) 0,O_ 74 (.cl 90 [(t_ 73)]) 0,O_ 71 (.mv (t_ 74)) 0,O_ 75 (.ex (t_ 71) 0) 0,O_ 76 (.ex (t_ 71) 1) 0,O_ 77 (.ex (t_ 71) 2) 0,O_ 10 (.mv (t_ 75)) 0,O_ 11 (.mv (t_ 76)) 0,O_ 12 (.mv (t_ 77)) 0]) (.seq (R_ 0 [O_ 78 (.mv (t_ 10)) 0,O_ 79 (.mv (t_ 11)) 0,O_ 80 (.fa 1 (t_ 8)) 0,O_ 81 (.ld 4 true (t_ 80)) 0,O_ 82 (.cl 91 [(t_ 78),(t_ 79),(t_ 81)]) 0,U_ (.st 8 (t_ 2) (t_ 82)) 0,O_ 3 (.mv (b_ true)) 0]) .ret))))))))
theorem gc54_ok:compF Tryz.prog Tryz.f54=some (gc54.er,83,[.cell 2 8 true,.tmp 3]):=by unfold gc54;kernel_rfl
theorem p_outq_teller_next_p3_1 {u1 u2 u3 u4:Bool} {X0:Slot} (hX0:X0.okN 3=true) {X2:Slot} (hX2:X2.okN 3=true) (a0:OutqTeller) (r:OutqTeller × StanzaStanza × Bool) (H:p_outq_teller_next a0=some r):CallsS Tryz.prog 54 [.ptr 1 0] [X0,.live [.i a0.counter.sent,.sl (List.map MailEntry.v a0.st.Mail) u1,.b a0.st.Snap.On,.b a0.st.Snap.Begun,.s a0.st.Snap.After,.i a0.st.Snap.Told,.i a0.st.Sent,.i a0.st.Lost,.sl (List.map V.s a0.eyes.Users) u2,.sl (List.map V.s a0.eyes.Keys) u3,.i a0.book.Seq,.sl (List.map BookRow.v a0.book.Rows) u4] 0,X2] ((fun r:OutqTeller × StanzaStanza × Bool=>.tup [StanzaStanza.v r.2.1,V.b r.2.2]) r) [X0,.live ((fun r:OutqTeller × StanzaStanza × Bool=>[.i r.1.counter.sent,.sl (List.map MailEntry.v r.1.st.Mail) false,.b r.1.st.Snap.On,.b r.1.st.Snap.Begun,.s r.1.st.Snap.After,.i r.1.st.Snap.Told,.i r.1.st.Sent,.i r.1.st.Lost,.sl (List.map V.s r.1.eyes.Users) false,.sl (List.map V.s r.1.eyes.Keys) false,.i r.1.book.Seq,.sl (List.map BookRow.v r.1.book.Rows) false]) r) 0,X2]:=by
 refine callsR_c (n0:=3) mix Tryz.func54 gc54_ok rfl ?_
 rw [p_outq_teller_next] at H
 conv=>whnf
 refine tst_c H (fun b1 H=>?_) (fun b1 H=>?_)
 ·conv=>whnf
  refine ask_c (p_snap_Next_v _ _ _) H rfl rfl (fun v2 H=>?_);conv=>whnf
  refine lq_ ?_;conv=>whnf
  refine lq_ ?_;conv=>whnf
  refine FootQ.mk ⟨rfl,?_⟩;conv=>whnf
  refine tst_d H (fun b3 H=>?_) (fun b3 H=>?_)
  ·conv=>whnf
   refine lq_ ?_;conv=>whnf
   refine finP_c (enc:=(fun r:OutqTeller × StanzaStanza × Bool=>.tup [StanzaStanza.v r.2.1,V.b r.2.2])) (T:=(fun r:OutqTeller × StanzaStanza × Bool=>[.i r.1.counter.sent,.sl (List.map MailEntry.v r.1.st.Mail) false,.b r.1.st.Snap.On,.b r.1.st.Snap.Begun,.s r.1.st.Snap.After,.i r.1.st.Snap.Told,.i r.1.st.Sent,.i r.1.st.Lost,.sl (List.map V.s r.1.eyes.Users) false,.sl (List.map V.s r.1.eyes.Keys) false,.i r.1.book.Seq,.sl (List.map BookRow.v r.1.book.Rows) false])) (i:=1) [] (.inr rfl) H (Nat.le_of_ble_eq_true rfl) ?_;conv=>whnf
   exact ⟨⟨⟨rfl,hX0⟩,⟨⟨rfl,hX2⟩,trivial⟩⟩,⟨_,_,rfl,.cons (.id rfl) (.cons (.slw) (.cons (.id rfl) (.cons (.id rfl) (.cons (.id rfl) (.cons (.id rfl) (.cons (.id rfl) (.cons (.id rfl) (.cons (.slw) (.cons (.slw) (.cons (.id rfl) (.cons (.slw) (.nil)))))))))))),rfl⟩,⟨rfl,rfl⟩⟩
  conv=>whnf
  refine lq_ ?_;conv=>whnf
  refine askP_c (fun s hs=>p_outq_counter_told_p6_1 (okN_mo hX0 (Nat.le_of_ble_eq_true rfl)) (okN_mo hX2 (Nat.le_of_ble_eq_true rfl)) rfl rfl rfl _ s hs) H rfl rfl (fun _=>rfl) (fun v4 H=>?_);conv=>whnf
  refine lq_ ?_;conv=>whnf
  refine finP_c (enc:=(fun r:OutqTeller × StanzaStanza × Bool=>.tup [StanzaStanza.v r.2.1,V.b r.2.2])) (T:=(fun r:OutqTeller × StanzaStanza × Bool=>[.i r.1.counter.sent,.sl (List.map MailEntry.v r.1.st.Mail) false,.b r.1.st.Snap.On,.b r.1.st.Snap.Begun,.s r.1.st.Snap.After,.i r.1.st.Snap.Told,.i r.1.st.Sent,.i r.1.st.Lost,.sl (List.map V.s r.1.eyes.Users) false,.sl (List.map V.s r.1.eyes.Keys) false,.i r.1.book.Seq,.sl (List.map BookRow.v r.1.book.Rows) false])) (i:=1) [] (.inr rfl) H (Nat.le_of_ble_eq_true rfl) ?_;conv=>whnf
  exact ⟨⟨⟨rfl,hX0⟩,⟨⟨rfl,hX2⟩,trivial⟩⟩,⟨_,_,rfl,.cons (.id rfl) (.cons (.id rfl) (.cons (.id rfl) (.cons (.id rfl) (.cons (.id rfl) (.cons (.id rfl) (.cons (.id rfl) (.cons (.id rfl) (.cons (.id rfl) (.cons (.id rfl) (.cons (.id rfl) (.cons (.id rfl) (.nil)))))))))))),rfl⟩,⟨rfl,rfl⟩⟩
 conv=>whnf
 refine ask_c (p_mail_Take_v _) H rfl rfl (fun v5 H=>?_);conv=>whnf
 refine lq_ ?_;conv=>whnf
 refine Tst.not ?_
 refine tst_d H (fun b6 H=>?_) (fun b6 H=>?_)
 ·conv=>whnf
  refine lq_ ?_;conv=>whnf
  refine finP_c (enc:=(fun r:OutqTeller × StanzaStanza × Bool=>.tup [StanzaStanza.v r.2.1,V.b r.2.2])) (T:=(fun r:OutqTeller × StanzaStanza × Bool=>[.i r.1.counter.sent,.sl (List.map MailEntry.v r.1.st.Mail) false,.b r.1.st.Snap.On,.b r.1.st.Snap.Begun,.s r.1.st.Snap.After,.i r.1.st.Snap.Told,.i r.1.st.Sent,.i r.1.st.Lost,.sl (List.map V.s r.1.eyes.Users) false,.sl (List.map V.s r.1.eyes.Keys) false,.i r.1.book.Seq,.sl (List.map BookRow.v r.1.book.Rows) false])) (i:=1) [] (.inr rfl) H (Nat.le_of_ble_eq_true rfl) ?_;conv=>whnf
  exact ⟨⟨⟨rfl,hX0⟩,⟨⟨rfl,hX2⟩,trivial⟩⟩,⟨_,_,rfl,.cons (.id rfl) (.cons (.slw) (.cons (.id rfl) (.cons (.id rfl) (.cons (.id rfl) (.cons (.id rfl) (.cons (.id rfl) (.cons (.id rfl) (.cons (.slw) (.cons (.slw) (.cons (.id rfl) (.cons (.slw) (.nil)))))))))))),rfl⟩,⟨rfl,rfl⟩⟩
 conv=>whnf
 refine lq_ ?_;conv=>whnf
 refine askP_c (fun s hs=>p_outq_counter_told_p5_1 (okN_mo hX0 (Nat.le_of_ble_eq_true rfl)) (okN_mo hX2 (Nat.le_of_ble_eq_true rfl)) rfl rfl _ s hs) H rfl rfl (fun _=>rfl) (fun v7 H=>?_);conv=>whnf
 refine ask_c (p_pres_Split_v _) H rfl rfl (fun v8 H=>?_);conv=>whnf
 refine ask_c (p_pres_Say_v _ _ _) H rfl rfl (fun v9 H=>?_);conv=>whnf
 refine lq_ ?_;conv=>whnf
 refine finP_c (enc:=(fun r:OutqTeller × StanzaStanza × Bool=>.tup [StanzaStanza.v r.2.1,V.b r.2.2])) (T:=(fun r:OutqTeller × StanzaStanza × Bool=>[.i r.1.counter.sent,.sl (List.map MailEntry.v r.1.st.Mail) false,.b r.1.st.Snap.On,.b r.1.st.Snap.Begun,.s r.1.st.Snap.After,.i r.1.st.Snap.Told,.i r.1.st.Sent,.i r.1.st.Lost,.sl (List.map V.s r.1.eyes.Users) false,.sl (List.map V.s r.1.eyes.Keys) false,.i r.1.book.Seq,.sl (List.map BookRow.v r.1.book.Rows) false])) (i:=1) [] (.inr rfl) H (Nat.le_of_ble_eq_true rfl) ?_;conv=>whnf
 exact ⟨⟨⟨rfl,hX0⟩,⟨⟨rfl,hX2⟩,trivial⟩⟩,⟨_,_,rfl,.cons (.id rfl) (.cons (.id rfl) (.cons (.id rfl) (.cons (.id rfl) (.cons (.id rfl) (.cons (.id rfl) (.cons (.id rfl) (.cons (.id rfl) (.cons (.id rfl) (.cons (.id rfl) (.cons (.id rfl) (.cons (.id rfl) (.nil)))))))))))),rfl⟩,⟨rfl,rfl⟩⟩
theorem p_outq_teller_next_p4_1 {u1 u2 u3 u4:Bool} {X0:Slot} (hX0:X0.okN 4=true) {X2:Slot} (hX2:X2.okN 4=true) {X3:Slot} (hX3:X3.okN 4=true) (a0:OutqTeller) (r:OutqTeller × StanzaStanza × Bool) (H:p_outq_teller_next a0=some r):CallsS Tryz.prog 54 [.ptr 1 0] [X0,.live [.i a0.counter.sent,.sl (List.map MailEntry.v a0.st.Mail) u1,.b a0.st.Snap.On,.b a0.st.Snap.Begun,.s a0.st.Snap.After,.i a0.st.Snap.Told,.i a0.st.Sent,.i a0.st.Lost,.sl (List.map V.s a0.eyes.Users) u2,.sl (List.map V.s a0.eyes.Keys) u3,.i a0.book.Seq,.sl (List.map BookRow.v a0.book.Rows) u4] 0,X2,X3] ((fun r:OutqTeller × StanzaStanza × Bool=>.tup [StanzaStanza.v r.2.1,V.b r.2.2]) r) [X0,.live ((fun r:OutqTeller × StanzaStanza × Bool=>[.i r.1.counter.sent,.sl (List.map MailEntry.v r.1.st.Mail) false,.b r.1.st.Snap.On,.b r.1.st.Snap.Begun,.s r.1.st.Snap.After,.i r.1.st.Snap.Told,.i r.1.st.Sent,.i r.1.st.Lost,.sl (List.map V.s r.1.eyes.Users) false,.sl (List.map V.s r.1.eyes.Keys) false,.i r.1.book.Seq,.sl (List.map BookRow.v r.1.book.Rows) false]) r) 0,X2,X3]:=by
 refine callsR_c (n0:=4) mix Tryz.func54 gc54_ok rfl ?_
 rw [p_outq_teller_next] at H
 conv=>whnf
 refine tst_c H (fun b1 H=>?_) (fun b1 H=>?_)
 ·conv=>whnf
  refine ask_c (p_snap_Next_v _ _ _) H rfl rfl (fun v2 H=>?_);conv=>whnf
  refine lq_ ?_;conv=>whnf
  refine lq_ ?_;conv=>whnf
  refine FootQ.mk ⟨rfl,?_⟩;conv=>whnf
  refine tst_d H (fun b3 H=>?_) (fun b3 H=>?_)
  ·conv=>whnf
   refine lq_ ?_;conv=>whnf
   refine finP_c (enc:=(fun r:OutqTeller × StanzaStanza × Bool=>.tup [StanzaStanza.v r.2.1,V.b r.2.2])) (T:=(fun r:OutqTeller × StanzaStanza × Bool=>[.i r.1.counter.sent,.sl (List.map MailEntry.v r.1.st.Mail) false,.b r.1.st.Snap.On,.b r.1.st.Snap.Begun,.s r.1.st.Snap.After,.i r.1.st.Snap.Told,.i r.1.st.Sent,.i r.1.st.Lost,.sl (List.map V.s r.1.eyes.Users) false,.sl (List.map V.s r.1.eyes.Keys) false,.i r.1.book.Seq,.sl (List.map BookRow.v r.1.book.Rows) false])) (i:=1) [] (.inr rfl) H (Nat.le_of_ble_eq_true rfl) ?_;conv=>whnf
   exact ⟨⟨⟨rfl,hX0⟩,⟨⟨rfl,hX2⟩,⟨⟨rfl,hX3⟩,trivial⟩⟩⟩,⟨_,_,rfl,.cons (.id rfl) (.cons (.slw) (.cons (.id rfl) (.cons (.id rfl) (.cons (.id rfl) (.cons (.id rfl) (.cons (.id rfl) (.cons (.id rfl) (.cons (.slw) (.cons (.slw) (.cons (.id rfl) (.cons (.slw) (.nil)))))))))))),rfl⟩,⟨rfl,rfl⟩⟩
  conv=>whnf
  refine lq_ ?_;conv=>whnf
  refine askP_c (fun s hs=>p_outq_counter_told_p7_1 (okN_mo hX0 (Nat.le_of_ble_eq_true rfl)) (okN_mo hX2 (Nat.le_of_ble_eq_true rfl)) (okN_mo hX3 (Nat.le_of_ble_eq_true rfl)) rfl rfl rfl _ s hs) H rfl rfl (fun _=>rfl) (fun v4 H=>?_);conv=>whnf
  refine lq_ ?_;conv=>whnf
  refine finP_c (enc:=(fun r:OutqTeller × StanzaStanza × Bool=>.tup [StanzaStanza.v r.2.1,V.b r.2.2])) (T:=(fun r:OutqTeller × StanzaStanza × Bool=>[.i r.1.counter.sent,.sl (List.map MailEntry.v r.1.st.Mail) false,.b r.1.st.Snap.On,.b r.1.st.Snap.Begun,.s r.1.st.Snap.After,.i r.1.st.Snap.Told,.i r.1.st.Sent,.i r.1.st.Lost,.sl (List.map V.s r.1.eyes.Users) false,.sl (List.map V.s r.1.eyes.Keys) false,.i r.1.book.Seq,.sl (List.map BookRow.v r.1.book.Rows) false])) (i:=1) [] (.inr rfl) H (Nat.le_of_ble_eq_true rfl) ?_;conv=>whnf
  exact ⟨⟨⟨rfl,hX0⟩,⟨⟨rfl,hX2⟩,⟨⟨rfl,hX3⟩,trivial⟩⟩⟩,⟨_,_,rfl,.cons (.id rfl) (.cons (.id rfl) (.cons (.id rfl) (.cons (.id rfl) (.cons (.id rfl) (.cons (.id rfl) (.cons (.id rfl) (.cons (.id rfl) (.cons (.id rfl) (.cons (.id rfl) (.cons (.id rfl) (.cons (.id rfl) (.nil)))))))))))),rfl⟩,⟨rfl,rfl⟩⟩
 conv=>whnf
 refine ask_c (p_mail_Take_v _) H rfl rfl (fun v5 H=>?_);conv=>whnf
 refine lq_ ?_;conv=>whnf
 refine Tst.not ?_
 refine tst_d H (fun b6 H=>?_) (fun b6 H=>?_)
 ·conv=>whnf
  refine lq_ ?_;conv=>whnf
  refine finP_c (enc:=(fun r:OutqTeller × StanzaStanza × Bool=>.tup [StanzaStanza.v r.2.1,V.b r.2.2])) (T:=(fun r:OutqTeller × StanzaStanza × Bool=>[.i r.1.counter.sent,.sl (List.map MailEntry.v r.1.st.Mail) false,.b r.1.st.Snap.On,.b r.1.st.Snap.Begun,.s r.1.st.Snap.After,.i r.1.st.Snap.Told,.i r.1.st.Sent,.i r.1.st.Lost,.sl (List.map V.s r.1.eyes.Users) false,.sl (List.map V.s r.1.eyes.Keys) false,.i r.1.book.Seq,.sl (List.map BookRow.v r.1.book.Rows) false])) (i:=1) [] (.inr rfl) H (Nat.le_of_ble_eq_true rfl) ?_;conv=>whnf
  exact ⟨⟨⟨rfl,hX0⟩,⟨⟨rfl,hX2⟩,⟨⟨rfl,hX3⟩,trivial⟩⟩⟩,⟨_,_,rfl,.cons (.id rfl) (.cons (.slw) (.cons (.id rfl) (.cons (.id rfl) (.cons (.id rfl) (.cons (.id rfl) (.cons (.id rfl) (.cons (.id rfl) (.cons (.slw) (.cons (.slw) (.cons (.id rfl) (.cons (.slw) (.nil)))))))))))),rfl⟩,⟨rfl,rfl⟩⟩
 conv=>whnf
 refine lq_ ?_;conv=>whnf
 refine askP_c (fun s hs=>p_outq_counter_told_p6_1 (okN_mo hX0 (Nat.le_of_ble_eq_true rfl)) (okN_mo hX2 (Nat.le_of_ble_eq_true rfl)) (okN_mo hX3 (Nat.le_of_ble_eq_true rfl)) rfl rfl _ s hs) H rfl rfl (fun _=>rfl) (fun v7 H=>?_);conv=>whnf
 refine ask_c (p_pres_Split_v _) H rfl rfl (fun v8 H=>?_);conv=>whnf
 refine ask_c (p_pres_Say_v _ _ _) H rfl rfl (fun v9 H=>?_);conv=>whnf
 refine lq_ ?_;conv=>whnf
 refine finP_c (enc:=(fun r:OutqTeller × StanzaStanza × Bool=>.tup [StanzaStanza.v r.2.1,V.b r.2.2])) (T:=(fun r:OutqTeller × StanzaStanza × Bool=>[.i r.1.counter.sent,.sl (List.map MailEntry.v r.1.st.Mail) false,.b r.1.st.Snap.On,.b r.1.st.Snap.Begun,.s r.1.st.Snap.After,.i r.1.st.Snap.Told,.i r.1.st.Sent,.i r.1.st.Lost,.sl (List.map V.s r.1.eyes.Users) false,.sl (List.map V.s r.1.eyes.Keys) false,.i r.1.book.Seq,.sl (List.map BookRow.v r.1.book.Rows) false])) (i:=1) [] (.inr rfl) H (Nat.le_of_ble_eq_true rfl) ?_;conv=>whnf
 exact ⟨⟨⟨rfl,hX0⟩,⟨⟨rfl,hX2⟩,⟨⟨rfl,hX3⟩,trivial⟩⟩⟩,⟨_,_,rfl,.cons (.id rfl) (.cons (.id rfl) (.cons (.id rfl) (.cons (.id rfl) (.cons (.id rfl) (.cons (.id rfl) (.cons (.id rfl) (.cons (.id rfl) (.cons (.id rfl) (.cons (.id rfl) (.cons (.id rfl) (.cons (.id rfl) (.nil)))))))))))),rfl⟩,⟨rfl,rfl⟩⟩
end Go.Proofs.YthnihifblmnkdaaGreat

namespace Go.Proofs.YthnihifblmnkdaaGreat
open Go.RowKit
set_option maxRecDepth 100000
set_option maxHeartbeats 4000000
def gc27:BCode:=(.seq (R_ 4 [O_ 4 (.bx (t_ 0)) 0,O_ 5 (.bx (t_ 1)) 1,O_ 6 (.bx (t_ 2)) 2,O_ 8 (.al (.agg [(.sl [] true),(.lit (.bool false)),(.lit (.bool false)),(.lit (.string ⟨#[]⟩)),(.lit (.int .i64 0)),(.lit (.int .i64 0)),(.lit (.int .i64 0))])) 3,O_ 9 (.mv (.const (.slice none 0 0))) 4]) (.seq (.seq (R_ 0 [O_ 14 (.ld 7 true (t_ 4)) 0,O_ 15 (.cl 17 [(t_ 14)]) 0,O_ 16 (.bin .neq (t_ 15) (i_ 0)) 0]) (.cond (t_ 16) (.seq (R_ 0 [O_ 17 (.ld 7 true (t_ 4)) 0,U_ (.st 7 (t_ 8) (t_ 17)) 0,O_ 9 (.mv (.const (.slice none 0 0))) 0]) .ret) .skip)) (.seq (R_ 1 [O_ 18 (.fa 5 (t_ 4)) 0,O_ 19 (.ld 1 false (t_ 18)) 0,O_ 20 (.bd [(.lit (.int .i64 0))] [(0,1,(t_ 19))]) 0,O_ 21 (.ld 7 true (t_ 4)) 0,O_ 22 (.ld 2 true (t_ 5)) 0,O_ 23 (.ld 2 true (t_ 6)) 0,O_ 24 (.bd [(.lit (.int .i64 0)),(.sl [] true),(.lit (.bool false)),(.lit (.bool false)),(.lit (.string ⟨#[]⟩)),(.lit (.int .i64 0)),(.lit (.int .i64 0)),(.lit (.int .i64 0)),(.sl [] true),(.sl [] true),(.lit (.int .i64 0)),(.sl [] true)] [(0,1,(t_ 20)),(1,7,(t_ 21)),(8,2,(t_ 22)),(10,2,(t_ 23))]) 0,O_ 25 (.bx (t_ 24)) 0,O_ 10 (.mv (t_ 25)) 1]) (.seq (R_ 0 [O_ 11 (.mv (.const (.slice none 0 0))) 0]) (.seq (.block 0 (.loop (.seq (.seq (R_ 0 [O_ 26 (.mv (t_ 11)) 0,O_ 27 (.lens (t_ 26)) 0,O_ 28 (.mv (t_ 3)) 0,O_ 29 (.mn false (t_ 28) (i_ 1000)) 0,O_ 30 (.bin .lss (t_ 27) (t_ 29)) 0]) (.cond (t_ 30) .skip (.exit 0))) (.block 1 (.seq (R_ 1 [O_ 32 (.mv (t_ 10)) 0,O_ 33 (.cl 54 [(t_ 32)]) 0,O_ 31 (.mv (t_ 33)) 0,O_ 34 (.ex (t_ 31) 0) 0,O_ 35 (.ex (t_ 31) 1) 0,O_ 12 (.al (.agg [(.lit (.int .u8 0)),(.lit (.string ⟨#[]⟩)),(.lit (.string ⟨#[]⟩)),(.lit (.string ⟨#[]⟩)),(.lit (.int .i64 0)),(.lit (.int .i64 0)),(.lit (.int .i64 0)),(.lit (.int .i64 0))])) 0,U_ (.st 8 (t_ 12) (t_ 34)) 1,O_ 13 (.mv (t_ 35)) 1]) (.seq (.seq (R_ 0 [O_ 36 (.mv (t_ 13)) 0,O_ 37 (.un .not (t_ 36)) 0]) (.cond (t_ 37) (.exit 0) .skip)) (R_ 2 [O_ 38 (.mv (t_ 11)) 0,O_ 39 (.ld 8 true (t_ 12)) 0,O_ 40 (.bs 8 1 [(.lit (.int .u8 0)),(.lit (.string ⟨#[]⟩)),(.lit (.string ⟨#[]⟩)),(.lit (.string ⟨#[]⟩)),(.lit (.int .i64 0)),(.lit (.int .i64 0)),(.lit (.int .i64 0)),(.lit (.int .i64 0))] [(0,(t_ 39))]) 0,O_ 41 (.ap 8 88 (t_ 38) (t_ 40)) 1,O_ 11 (.mv (t_ 41)) 2]))))))) (.seq (R_ 0 [O_ 42 (.mv (t_ 10)) 0,O_ 43 (.mv (t_ 10)) 0,O_ 44 (.nc (t_ 43)) 0,O_ 45 (.fa 0 (t_ 44)) 0,O_ 46 (.fa 0 (t_ 45)) 0,O_ 47 (.ld 1 false (t_ 46)) 0,O_ 48 (.nc (t_ 42)) 0,O_ 49 (.fa 1 (t_ 48)) 0,O_ 50 (.fa 5 (t_ 49)) 0,U_ (.st 1 (t_ 50) (t_ 47)) 0]) (.seq (R_ 0 [O_ 51 (.mv (t_ 10)) 0,O_ 52 (.nc (t_ 51)) 0,O_ 53 (.fa 1 (t_ 52)) 0,O_ 54 (.ld 7 true (t_ 53)) 0,O_ 55 (.mv (t_ 11)) 0,U_ (.st 7 (t_ 8) (t_ 54)) 0,O_ 9 (.mv (t_ 55)) 0]) .ret)))))))
theorem gc27_ok:compF Tryz.prog Tryz.f27=some (gc27.er,56,[.cell 8 7 true,.tmp 9]):=by unfold gc27;kernel_rfl
theorem p_outq_Flush_v {u1 u2 u3 u4:Bool} (a0:Ref27State) (a1:SnapEyes) (a2:BookState) (a3:Int):CallsO Tryz.prog 27 [.agg [.sl (List.map MailEntry.v a0.Mail) u1,.b a0.Snap.On,.b a0.Snap.Begun,.s a0.Snap.After,.i a0.Snap.Told,.i a0.Sent,.i a0.Lost],.agg [.sl (List.map V.s a1.Users) u2,.sl (List.map V.s a1.Keys) u3],.agg [.i a2.Seq,.sl (List.map BookRow.v a2.Rows) u4],.i a3] (fun r:Ref27State × (List StanzaStanza)=>.tup [Ref27State.v r.1,(fun l:List StanzaStanza=>V.sl (l.map StanzaStanza.v) false) r.2]) (p_outq_Flush a0 a1 a2 a3):=by
 refine callsO_comp mix Tryz.func27 gc27_ok fun r H=>?_
 rw [p_outq_Flush] at H
 conv=>whnf
 refine ask_c (p_outq_Check_v _) H rfl rfl (fun v1 H=>?_);conv=>whnf
 refine tst_c H (fun b2 H=>?_) (fun b2 H=>?_)
 ·conv=>whnf
  refine lq_ ?_;conv=>whnf
  refine finR_c (enc:=(fun r:Ref27State × (List StanzaStanza)=>.tup [Ref27State.v r.1,(fun l:List StanzaStanza=>V.sl (l.map StanzaStanza.v) false) r.2])) H ?_;conv=>whnf
  exact ⟨_,.tup (.cons (fzagg (.cons (.slw) (.cons (.id rfl) (.cons (.id rfl) (.cons (.id rfl) (.cons (.id rfl) (.cons (.id rfl) (.cons (.id rfl) (.nil)))))))) rfl) (.cons (.c (.slw)) (.nil)))⟩
 conv=>whnf
 obtain ⟨o4,HL5,HQ6⟩:=bind_c H
 refine loop_c [11,8,10] [12,13,26,27,28,29,30,31,32,33,34,35,36,37,38,39,40,41,4,5,6,18,25] [12,13,26,27,28,29,30,31,32,33,34,35,36,37,38,39,40,41,4,5,6,18,25] (fun n vals st=>(∃ y8,p_outq_Flush_l1  a3 n [] y8=some o4∧vals=[.sl (List.map StanzaStanza.v []) true,.ptr 0 0,.ptr 1 0]∧st=[.live [.sl (List.map MailEntry.v []) true,.b false,.b false,.s (⟨#[]⟩ : ByteArray),.i (0:Int),.i (0:Int),.i (0:Int)] 0,.live [.i y8.counter.sent,.sl (List.map MailEntry.v y8.st.Mail) u1,.b y8.st.Snap.On,.b y8.st.Snap.Begun,.s y8.st.Snap.After,.i y8.st.Snap.Told,.i y8.st.Sent,.i y8.st.Lost,.sl (List.map V.s y8.eyes.Users) u2,.sl (List.map V.s y8.eyes.Keys) u3,.i y8.book.Seq,.sl (List.map BookRow.v y8.book.Rows) u4] 0])∨(∃ y13 y14,p_outq_Flush_l1  a3 n y13 y14=some o4∧vals=[.osl 2 0 (List.length y13) 8 false,.ptr 0 0,.ptr 1 0]∧st=[.live [.sl (List.map MailEntry.v []) true,.b false,.b false,.s (⟨#[]⟩ : ByteArray),.i (0:Int),.i (0:Int),.i (0:Int)] 0,.live [.i y14.counter.sent,.sl (List.map MailEntry.v y14.st.Mail) false,.b y14.st.Snap.On,.b y14.st.Snap.Begun,.s y14.st.Snap.After,.i y14.st.Snap.Told,.i y14.st.Sent,.i y14.st.Lost,.sl (List.map V.s y14.eyes.Users) false,.sl (List.map V.s y14.eyes.Keys) false,.i y14.book.Seq,.sl (List.map BookRow.v y14.book.Rows) false] 0,.live (cellsM StanzaStanza.v y13) (cellsM StanzaStanza.v y13).length])) fuel 2 [3,4] (.inl (⟨_,HL5,rfl,rfl⟩)) (Nat.zero_le _) rfl (by kernel_rfl) (by kernel_rfl) rfl ⟨⟨rfl,rfl,rfl⟩,⟨⟨rfl,rfl,rfl⟩,trivial⟩⟩ ?_
 rintro (_ | n7) _ _ (⟨y8,H,rfl,rfl⟩ | ⟨y13,y14,H,rfl,rfl⟩)
 ·rw [p_outq_Flush_l1] at H;cases H
 ·rw [p_outq_Flush_l1] at H;cases H
 ·rw [p_outq_Flush_l1] at H
  conv=>whnf
  refine LenQ.ok ?_;conv=>whnf
  refine tst_d H (fun b9 H=>?_) (fun b9 H=>?_)
  ·conv=>whnf
   obtain rfl:=Option.some.inj H
   have H:=HQ6
   try dsimp only at H
   refine lq_ ?_;conv=>whnf
   refine lq_ ?_;conv=>whnf
   refine finR_c (enc:=(fun r:Ref27State × (List StanzaStanza)=>.tup [Ref27State.v r.1,(fun l:List StanzaStanza=>V.sl (l.map StanzaStanza.v) false) r.2])) H ?_;conv=>whnf
   exact ⟨_,.tup (.cons (fzagg (.cons (.slw) (.cons (.id rfl) (.cons (.id rfl) (.cons (.id rfl) (.cons (.id rfl) (.cons (.id rfl) (.cons (.id rfl) (.nil)))))))) rfl) (.cons (.c (.slw)) (.nil)))⟩
  conv=>whnf
  refine askP_c (fun s hs=>p_outq_teller_next_p3_1 rfl rfl _ s hs) H rfl rfl (fun _=>rfl) (fun v10 H=>?_);conv=>whnf
  refine lq_ ?_;conv=>whnf
  refine Tst.not ?_
  refine tst_d H (fun b11 H=>?_) (fun b11 H=>?_)
  ·conv=>whnf
   obtain rfl:=Option.some.inj H
   have H:=HQ6
   try dsimp only at H
   refine lq_ ?_;conv=>whnf
   refine lq_ ?_;conv=>whnf
   refine finR_c (enc:=(fun r:Ref27State × (List StanzaStanza)=>.tup [Ref27State.v r.1,(fun l:List StanzaStanza=>V.sl (l.map StanzaStanza.v) false) r.2])) H ?_;conv=>whnf
   exact ⟨_,.tup (.cons (fzagg (.cons (.id rfl) (.cons (.id rfl) (.cons (.id rfl) (.cons (.id rfl) (.cons (.id rfl) (.cons (.id rfl) (.cons (.id rfl) (.nil)))))))) rfl) (.cons (.c (.slw)) (.nil)))⟩
  conv=>whnf
  refine appN_c (f:=StanzaStanza.v) H (fun _=>rfl) (srcM (f:=StanzaStanza.v) (fun _=>rfl) [] true) rfl (.v (srcOwn (f:=StanzaStanza.v) (l:=[v10.2.1]) (fun _=>rfl) rfl rfl rfl)) (by decide) rfl (by simp) (fun l12 H=>?_);conv=>whnf
  exact again_c [12,13,26,27,28,29,30,31,32,33,34,35,36,37,38,39,40,41,4,5,6,18,25] n7 3 [0,1,4] (.inr (⟨_,_,H,rfl,rfl⟩)) (Nat.lt_succ_self _) (Nat.zero_le _) rfl (by kernel_rfl) (by kernel_rfl) rfl ⟨⟨rfl,rfl,rfl⟩,⟨⟨rfl,rfl,rfl⟩,wkB_live0 rfl (cellsM_idlt (f:=StanzaStanza.v) (fun _=>rfl) _) rfl trivial⟩⟩
 rw [p_outq_Flush_l1] at H
 conv=>whnf
 refine tst_d H (fun b15 H=>?_) (fun b15 H=>?_)
 ·conv=>whnf
  obtain rfl:=Option.some.inj H
  have H:=HQ6
  try dsimp only at H
  refine lq_ ?_;conv=>whnf
  refine lq_ ?_;conv=>whnf
  refine finR_c (enc:=(fun r:Ref27State × (List StanzaStanza)=>.tup [Ref27State.v r.1,(fun l:List StanzaStanza=>V.sl (l.map StanzaStanza.v) false) r.2])) H ?_;conv=>whnf
  exact ⟨_,.tup (.cons (fzagg (.cons (.id rfl) (.cons (.id rfl) (.cons (.id rfl) (.cons (.id rfl) (.cons (.id rfl) (.cons (.id rfl) (.cons (.id rfl) (.nil)))))))) rfl) (.cons (.c (fzown (f:=StanzaStanza.v) (l:=y13) rfl rfl (fun _=>rfl) (fun _=>rfl))) (.nil)))⟩
 conv=>whnf
 refine askP_c (fun s hs=>p_outq_teller_next_p4_1 rfl (okN_M (cellsM_idlt (f:=StanzaStanza.v) (fun _=>rfl) _)) rfl _ s hs) H rfl rfl (fun _=>rfl) (fun v16 H=>?_);conv=>whnf
 refine lq_ ?_;conv=>whnf
 refine Tst.not ?_
 refine tst_c H (fun b17 H=>?_) (fun b17 H=>?_)
 ·conv=>whnf
  refine appO_c (f:=StanzaStanza.v) H (fun _=>rfl) rfl (Nat.le_refl _) (.v (srcOwn (f:=StanzaStanza.v) (l:=[v16.2.1]) (fun _=>rfl) rfl rfl rfl)) (by decide) rfl (by simp) (fun l18 H=>?_);conv=>whnf
  exact again_c [12,13,26,27,28,29,30,31,32,33,34,35,36,37,38,39,40,41,4,5,6,18,25] n7 3 [0,1,5] (.inr (⟨_,_,H,rfl,rfl⟩)) (Nat.lt_succ_self _) (Nat.zero_le _) rfl (by kernel_rfl) (by kernel_rfl) rfl ⟨⟨rfl,rfl,rfl⟩,⟨⟨rfl,rfl,rfl⟩,wkB_live0 rfl (cellsM_idlt (f:=StanzaStanza.v) (fun _=>rfl) _) rfl trivial⟩⟩
 conv=>whnf
 obtain rfl:=Option.some.inj H
 have H:=HQ6
 try dsimp only at H
 refine lq_ ?_;conv=>whnf
 refine lq_ ?_;conv=>whnf
 refine finR_c (enc:=(fun r:Ref27State × (List StanzaStanza)=>.tup [Ref27State.v r.1,(fun l:List StanzaStanza=>V.sl (l.map StanzaStanza.v) false) r.2])) H ?_;conv=>whnf
 exact ⟨_,.tup (.cons (fzagg (.cons (.id rfl) (.cons (.id rfl) (.cons (.id rfl) (.cons (.id rfl) (.cons (.id rfl) (.cons (.id rfl) (.cons (.id rfl) (.nil)))))))) rfl) (.cons (.c (fzown (f:=StanzaStanza.v) (l:=y13) rfl rfl (fun _=>rfl) (fun _=>rfl))) (.nil)))⟩
def gc31:BCode:=(.seq (R_ 5 [O_ 3 (.bx (t_ 0)) 0,O_ 4 (.bx (t_ 1)) 1,O_ 5 (.bx (t_ 2)) 2,O_ 6 (.al (.agg [(.sl [] true),(.lit (.bool false)),(.lit (.bool false)),(.lit (.string ⟨#[]⟩)),(.lit (.int .i64 0)),(.lit (.int .i64 0)),(.lit (.int .i64 0))])) 3,O_ 7 (.al (.agg [(.lit (.int .u8 0)),(.lit (.string ⟨#[]⟩)),(.lit (.string ⟨#[]⟩)),(.lit (.string ⟨#[]⟩)),(.lit (.int .i64 0)),(.lit (.int .i64 0)),(.lit (.int .i64 0)),(.lit (.int .i64 0))])) 4,O_ 8 (.mv (b_ false)) 5]) (.seq (R_ 1 [O_ 12 (.ld 7 true (t_ 3)) 0,O_ 13 (.ld 2 true (t_ 4)) 0,O_ 14 (.ld 2 true (t_ 5)) 0,O_ 15 (.cl 27 [(t_ 12),(t_ 13),(t_ 14),(i_ 1)]) 0,O_ 11 (.mv (t_ 15)) 0,O_ 16 (.ex (t_ 11) 0) 0,O_ 17 (.ex (t_ 11) 1) 0,O_ 9 (.al (.agg [(.sl [] true),(.lit (.bool false)),(.lit (.bool false)),(.lit (.string ⟨#[]⟩)),(.lit (.int .i64 0)),(.lit (.int .i64 0)),(.lit (.int .i64 0))])) 0,U_ (.st 7 (t_ 9) (t_ 16)) 1,O_ 10 (.mv (t_ 17)) 1]) (.seq (.seq (R_ 0 [O_ 18 (.mv (t_ 10)) 0,O_ 19 (.lens (t_ 18)) 0,O_ 20 (.bin .eql (t_ 19) (i_ 0)) 0]) (.cond (t_ 20) (.seq (R_ 0 [O_ 21 (.ld 7 true (t_ 3)) 0,O_ 22 (.bd [(.lit (.int .u8 0)),(.lit (.string ⟨#[]⟩)),(.lit (.string ⟨#[]⟩)),(.lit (.string ⟨#[]⟩)),(.lit (.int .i64 0)),(.lit (.int .i64 0)),(.lit (.int .i64 0)),(.lit (.int .i64 0))] []) 0,U_ (.st 7 (t_ 6) (t_ 21)) 0,U_ (.st 8 (t_ 7) (t_ 22)) 0,O_ 8 (.mv (b_ false)) 0]) .ret) .skip)) (.seq (.reg 0 [O_ 23 (.ld 7 true (t_ 9)) 0,O_ 24 (.mv (t_ 10)) 0,O_ 25 (.ixs 8 (t_ 24) (i_ 0)) 0,O_ 26 (.ld 8 true (t_ 25)) 0,U_ (.st 7 (t_ 6) (t_ 23)) 0,U_ (.st 8 (t_ 7) (t_ 26)) 0,O_ 8 (.mv (b_ true)) 0] (some [[],[],[1],[1,2],[0],[0,4,2,1,3],[3,1,2,4,0,5]]) 0 []) .ret))))
theorem gc31_ok:compF Tryz.prog Tryz.f31=some (gc31.er,27,[.cell 6 7 true,.cell 7 8 true,.tmp 8]):=by unfold gc31;kernel_rfl
theorem p_outq_Next_v {u1 u2 u3 u4:Bool} (a0:Ref27State) (a1:SnapEyes) (a2:BookState):CallsO Tryz.prog 31 [.agg [.sl (List.map MailEntry.v a0.Mail) u1,.b a0.Snap.On,.b a0.Snap.Begun,.s a0.Snap.After,.i a0.Snap.Told,.i a0.Sent,.i a0.Lost],.agg [.sl (List.map V.s a1.Users) u2,.sl (List.map V.s a1.Keys) u3],.agg [.i a2.Seq,.sl (List.map BookRow.v a2.Rows) u4]] (fun r:Ref27State × StanzaStanza × Bool=>.tup [Ref27State.v r.1,StanzaStanza.v r.2.1,V.b r.2.2]) (p_outq_Next a0 a1 a2):=by
 refine callsO_comp mix Tryz.func31 gc31_ok fun r H=>?_
 rw [p_outq_Next] at H
 conv=>whnf
 refine ask_c (p_outq_Flush_v _ _ _ _) H rfl rfl (fun v1 H=>?_);conv=>whnf
 refine lq_ ?_;conv=>whnf
 refine LenQ.M ?_;conv=>whnf
 refine tst_d H (fun b2 H=>?_) (fun b2 H=>?_)
 ·conv=>whnf
  refine ixs_c (f:=StanzaStanza.v) H (fun _=>rfl) (fun x3 H=>?_);conv=>whnf
  refine lq_ ?_;conv=>whnf
  refine lq_ ?_;conv=>whnf
  refine FootQ.mk ⟨rfl,?_⟩;conv=>whnf
  exact fin0_c (enc:=(fun r:Ref27State × StanzaStanza × Bool=>.tup [Ref27State.v r.1,StanzaStanza.v r.2.1,V.b r.2.2])) H (.inr rfl) (.cons (.cell rfl rfl (Nat.le_of_ble_eq_true rfl)) (.cons (.cell rfl rfl (Nat.le_of_ble_eq_true rfl)) (.cons (.tmp rfl) (.nil)))) rfl rfl
 conv=>whnf
 refine lq_ ?_;conv=>whnf
 refine lq_ ?_;conv=>whnf
 refine finR_c (enc:=(fun r:Ref27State × StanzaStanza × Bool=>.tup [Ref27State.v r.1,StanzaStanza.v r.2.1,V.b r.2.2])) H ?_;conv=>whnf
 exact ⟨_,.tup (.cons (fzagg (.cons (.slw) (.cons (.id rfl) (.cons (.id rfl) (.cons (.id rfl) (.cons (.id rfl) (.cons (.id rfl) (.cons (.id rfl) (.nil)))))))) rfl) (.cons (fzagg (.cons (.id rfl) (.cons (.id rfl) (.cons (.id rfl) (.cons (.id rfl) (.cons (.id rfl) (.cons (.id rfl) (.cons (.id rfl) (.cons (.id rfl) (.nil))))))))) rfl) (.cons (.c (.id rfl)) (.nil))))⟩
def gc61:BCode:=(.seq (R_ 2 [O_ 2 (.bx (t_ 0)) 0,O_ 3 (.bx (t_ 1)) 1,O_ 4 (.mv (b_ false)) 2]) (.seq (R_ 0 [O_ 5 (.fa 3 (t_ 3)) 0,O_ 6 (.ld 1 false (t_ 5)) 0,O_ 7 (.fa 3 (t_ 2)) 0,O_ 8 (.ld 1 false (t_ 7)) 0,O_ 9 (.bin .lss (t_ 6) (t_ 8)) 0,O_ 4 (.mv (t_ 9)) 0]) .ret))
theorem gc61_ok:compF Tryz.prog Tryz.f61=some (gc61.er,10,[.tmp 4]):=by unfold gc61;kernel_rfl
theorem p_pres_Newer_v (a0:PresPres) (a1:PresPres):CallsO Tryz.prog 61 [.agg [.b a0.On,.i a0.Show,.i a0.Prio,.i a0.Seq],.agg [.b a1.On,.i a1.Show,.i a1.Prio,.i a1.Seq]] V.b (p_pres_Newer a0 a1):=by
 refine callsO_comp mix Tryz.func61 gc61_ok fun r H=>?_
 rw [p_pres_Newer] at H
 conv=>whnf
 exact fb_ H
end Go.Proofs.YthnihifblmnkdaaGreat

