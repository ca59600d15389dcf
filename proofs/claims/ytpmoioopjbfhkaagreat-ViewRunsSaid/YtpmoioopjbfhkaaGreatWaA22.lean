/- ViewRuns: for every input the call returns true, and its arguments read as they did. -/
import Derived.Test.YtpmoioopjbfhkaaGreatWaA15
import Derived.Test.YtpmoioopjbfhkaaGreatWaA17
import Derived.Test.YtpmoioopjbfhkaaGreatWaA18
import Derived.Test.YtpmoioopjbfhkaaGreatWaA21
import Derived.Test.YtpmoioopjbfhkaaGreatWaA11
import Derived.KernelRfl
import Derived.Test.YtpmoioopjbfhkaaGreatWaA14
import Derived.Test.YtpmoioopjbfhkaaGreatWaA19
import Derived.Test.YtpmoioopjbfhkaaGreatWaA12
import Derived.Test.YtpmoioopjbfhkaaGreatRows
import Derived.Test.YtpmoioopjbfhkaaGreatWaA16
set_option linter.all false
/- That the program's functions yield what the plain ones tell (written by a program of mine). -/
namespace Go.Proofs.YtpmoioopjbfhkaaGreat
open Go.RowKit
set_option maxRecDepth 100000
set_option maxHeartbeats 4000000
def gc124:BCode:=(.seq (.reg 3 [⟨(some 2),.bx (.tmp 0),none,0⟩,⟨(some 3),.bx (.tmp 1),none,1⟩,⟨(some 4),.al (.agg [(.sl [] true),(.sl [] true),(.lit (.bool false)),(.sl [] true),(.sl [] true),(.lit (.int .i64 0)),(.lit (.int .i64 0))]),none,2⟩] none 0 []) (.seq (.seq (.reg 0 [⟨(some 5),.ld 7 true (.tmp 2),none,0⟩,⟨(some 6),.cl 196 [(.tmp 5)],none,0⟩,⟨(some 7),.bin .neq (.tmp 6) (.const (.int .i64 0)),none,0⟩] none 0 []) (.cond (.tmp 7) (.seq (.reg 0 [⟨(some 8),.ld 7 true (.tmp 2),none,0⟩,⟨none,.st 7 (.tmp 4) (.tmp 8),none,0⟩] none 0 []) .ret) .skip)) (.seq (.reg 0 [⟨(some 9),.fa 6 (.tmp 2),none,0⟩,⟨(some 10),.ld 1 false (.tmp 9),none,0⟩,⟨(some 11),.bin .add (.tmp 10) (.const (.int .i64 1)),none,0⟩,⟨(some 12),.mn false (.const (.int .i64 1099511627776)) (.tmp 11),none,0⟩,⟨(some 13),.fa 6 (.tmp 2),none,0⟩,⟨none,.st 1 (.tmp 13) (.tmp 12),none,0⟩] none 0 []) (.seq (.seq (.reg 0 [⟨(some 14),.fa 0 (.tmp 3),none,0⟩,⟨(some 15),.ld 1 false (.tmp 14),none,0⟩] none 0 []) (.block 0 (.seq (.reg 0 [⟨(some 17),.bin .eql (.tmp 15) (.const (.int .u8 36)),none,0⟩,⟨(some 16),.mv (.tmp 17),none,0⟩] none 0 []) (.cond (.tmp 16) (.reg 0 [⟨(some 18),.fa 2 (.tmp 2),none,0⟩,⟨none,.st 1 (.tmp 18) (.const (.bool true)),none,0⟩,⟨(some 19),.fa 3 (.tmp 2),none,0⟩,⟨none,.st 1 (.tmp 19) (.const (.slice none 0 0)),none,0⟩] none 0 []) (.seq (.reg 0 [⟨(some 21),.bin .eql (.tmp 15) (.const (.int .u8 37)),none,0⟩,⟨(some 20),.mv (.tmp 21),none,0⟩] none 0 []) (.cond (.tmp 20) (.seq (.reg 0 [⟨(some 22),.ld 7 true (.tmp 2),none,0⟩,⟨(some 23),.cl 197 [(.tmp 22)],none,0⟩,⟨none,.st 7 (.tmp 4) (.tmp 23),none,0⟩] none 0 []) .ret) (.seq (.seq (.reg 0 [⟨(some 25),.bin .eql (.tmp 15) (.const (.int .u8 34)),none,0⟩,⟨(some 24),.mv (.tmp 25),none,0⟩] none 0 []) (.cond (.tmp 24) .skip (.reg 0 [⟨(some 26),.bin .eql (.tmp 15) (.const (.int .u8 35)),none,0⟩,⟨(some 24),.mv (.tmp 26),none,0⟩] none 0 []))) (.cond (.tmp 24) (.seq (.reg 0 [⟨(some 27),.ld 7 true (.tmp 2),none,0⟩,⟨(some 28),.ld 8 true (.tmp 3),none,0⟩,⟨(some 29),.cl 198 [(.tmp 27),(.tmp 28)],none,0⟩,⟨none,.st 7 (.tmp 4) (.tmp 29),none,0⟩] none 0 []) .ret) (.seq (.seq (.reg 0 [⟨(some 31),.bin .eql (.tmp 15) (.const (.int .u8 38)),none,0⟩,⟨(some 30),.mv (.tmp 31),none,0⟩] none 0 []) (.cond (.tmp 30) .skip (.reg 0 [⟨(some 32),.bin .eql (.tmp 15) (.const (.int .u8 39)),none,0⟩,⟨(some 30),.mv (.tmp 32),none,0⟩] none 0 []))) (.cond (.tmp 30) (.seq (.reg 0 [⟨(some 33),.ld 7 true (.tmp 2),none,0⟩,⟨(some 34),.ld 8 true (.tmp 3),none,0⟩,⟨(some 35),.cl 199 [(.tmp 33),(.tmp 34)],none,0⟩,⟨none,.st 7 (.tmp 4) (.tmp 35),none,0⟩] none 0 []) .ret) .skip)))))))))) (.seq (.reg 0 [⟨(some 36),.ld 7 true (.tmp 2),none,0⟩,⟨none,.st 7 (.tmp 4) (.tmp 36),none,0⟩] none 0 []) .ret)))))
theorem gc124_ok:compF Tryz.prog Tryz.f124=some (gc124.er,37,[.cell 4 7 true]):=by unfold gc124;kernel_rfl
theorem p_ref35_Tell_v {u1 u2 u3 u4:Bool} (a0:Ref35State) (a1:StanzaStanza):CallsO Tryz.prog 124 [.agg [.sl (List.map MailEntry.v a0.Rows) u1,.sl (List.map MailEntry.v a0.Last) u2,.b a0.Anew,.sl (List.map V.s a0.Seen) u3,.sl (List.map Ref35Contact.v a0.List) u4,.i a0.Odd,.i a0.Told],.agg [.y8 a1.Kind,.s a1.User,.s a1.Res,.s a1.Name,.i a1.Show,.i a1.Prio,.i a1.Code,.i a1.N]] Ref35State.v (p_ref35_Tell a0 a1):=by
 refine callsO_comp mix Tryz.func124 gc124_ok fun r H=>?_
 rw [p_ref35_Tell] at H
 conv=>whnf
 refine ask_c (p_ref35_Check_v _) H rfl rfl (fun v1 H=>?_);conv=>whnf
 refine tst_c H (fun b2 H=>?_) (fun b2 H=>?_)
 ·conv=>whnf
  refine ⟨Nat.le_of_ble_eq_true rfl,?_⟩;conv=>whnf
  refine finR_c (enc:=Ref35State.v) H ?_;conv=>whnf
  exact ⟨_,.v (fzagg (.cons (.slw) (.cons (.slw) (.cons (.id rfl) (.cons (.slw) (.cons (.slw) (.cons (.id rfl) (.cons (.id rfl) (.nil)))))))) rfl)⟩
 conv=>whnf
 refine Ari.w ?_;conv=>whnf
 refine ⟨Nat.le_of_ble_eq_true rfl,?_⟩;conv=>whnf
 refine tst_c H (fun b3 H=>?_) (fun b3 H=>?_)
 ·conv=>whnf
  refine ⟨Nat.le_of_ble_eq_true rfl,?_⟩;conv=>whnf
  refine ⟨Nat.le_of_ble_eq_true rfl,?_⟩;conv=>whnf
  refine ⟨Nat.le_of_ble_eq_true rfl,?_⟩;conv=>whnf
  refine finR_c (enc:=Ref35State.v) H ?_;conv=>whnf
  exact ⟨_,.v (fzagg (.cons (.slw) (.cons (.slw) (.cons (.id rfl) (.cons (.slw) (.cons (.slw) (.cons (.id rfl) (.cons (.id rfl) (.nil)))))))) rfl)⟩
 conv=>whnf
 refine tst_c H (fun b4 H=>?_) (fun b4 H=>?_)
 ·conv=>whnf
  refine ask_c (p_ref35_done_v _) H rfl rfl (fun v5 H=>?_);conv=>whnf
  refine ⟨Nat.le_of_ble_eq_true rfl,?_⟩;conv=>whnf
  exact fin0_c (enc:=Ref35State.v) H (.inr rfl) (.cons (.cell rfl rfl (Nat.le_of_ble_eq_true rfl)) (.nil)) rfl rfl
 conv=>whnf
 refine tst_c H (fun b6 H=>?_) (fun b6 H=>?_)
 ·conv=>whnf
  refine Tst.T ?_;conv=>whnf
  refine ask_c (p_ref35_row_v _ _) H rfl rfl (fun v7 H=>?_);conv=>whnf
  refine ⟨Nat.le_of_ble_eq_true rfl,?_⟩;conv=>whnf
  exact fin0_c (enc:=Ref35State.v) H (.inr rfl) (.cons (.cell rfl rfl (Nat.le_of_ble_eq_true rfl)) (.nil)) rfl rfl
 conv=>whnf
 refine tst_c H (fun b8 H=>?_) (fun b8 H=>?_)
 ·conv=>whnf
  refine ask_c (p_ref35_row_v _ _) H rfl rfl (fun v9 H=>?_);conv=>whnf
  refine ⟨Nat.le_of_ble_eq_true rfl,?_⟩;conv=>whnf
  exact fin0_c (enc:=Ref35State.v) H (.inr rfl) (.cons (.cell rfl rfl (Nat.le_of_ble_eq_true rfl)) (.nil)) rfl rfl
 conv=>whnf
 refine tst_c H (fun b10 H=>?_) (fun b10 H=>?_)
 ·conv=>whnf
  refine Tst.T ?_;conv=>whnf
  refine ask_c (p_ref35_list_v _ _) H rfl rfl (fun v11 H=>?_);conv=>whnf
  refine ⟨Nat.le_of_ble_eq_true rfl,?_⟩;conv=>whnf
  exact fin0_c (enc:=Ref35State.v) H (.inr rfl) (.cons (.cell rfl rfl (Nat.le_of_ble_eq_true rfl)) (.nil)) rfl rfl
 conv=>whnf
 refine tst_c H (fun b12 H=>?_) (fun b12 H=>?_)
 ·conv=>whnf
  refine ask_c (p_ref35_list_v _ _) H rfl rfl (fun v13 H=>?_);conv=>whnf
  refine ⟨Nat.le_of_ble_eq_true rfl,?_⟩;conv=>whnf
  exact fin0_c (enc:=Ref35State.v) H (.inr rfl) (.cons (.cell rfl rfl (Nat.le_of_ble_eq_true rfl)) (.nil)) rfl rfl
 conv=>whnf
 refine ⟨Nat.le_of_ble_eq_true rfl,?_⟩;conv=>whnf
 refine finR_c (enc:=Ref35State.v) H ?_;conv=>whnf
 exact ⟨_,.v (fzagg (.cons (.slw) (.cons (.slw) (.cons (.id rfl) (.cons (.slw) (.cons (.slw) (.cons (.id rfl) (.cons (.id rfl) (.nil)))))))) rfl)⟩
def gc52:BCode:=(.seq (.reg 2 [⟨(some 2),.bx (.tmp 0),none,0⟩,⟨(some 4),.al (.agg [(.sl [] true),(.sl [] true),(.lit (.bool false)),(.sl [] true),(.sl [] true),(.lit (.int .i64 0)),(.lit (.int .i64 0))]),none,1⟩] none 0 []) (.seq (.seq (.reg 0 [⟨(some 5),.mv (.const (.int .i64 0)),none,0⟩] none 0 []) (.block 0 (.loop (.seq (.seq (.reg 0 [⟨(some 6),.mv (.tmp 5),none,0⟩,⟨(some 7),.mv (.tmp 1),none,0⟩,⟨(some 8),.lens (.tmp 7),none,0⟩,⟨(some 9),.bin .lss (.tmp 6) (.tmp 8),none,0⟩] none 0 []) (.cond (.tmp 9) .skip (.exit 0))) (.seq (.block 1 (.reg 0 [⟨(some 12),.ld 7 true (.tmp 2),none,0⟩,⟨(some 13),.mv (.tmp 1),none,0⟩,⟨(some 14),.mv (.tmp 5),none,0⟩,⟨(some 15),.ixs 8 (.tmp 13) (.tmp 14),none,0⟩,⟨(some 16),.ld 8 true (.tmp 15),none,0⟩,⟨(some 17),.cl 124 [(.tmp 12),(.tmp 16)],none,0⟩,⟨none,.st 7 (.tmp 2) (.tmp 17),none,0⟩] (some [[],[],[],[2,1],[1,2,3],[3,2,1,4,0],[0,4,1,2,3,5]]) 0 [])) (.reg 0 [⟨(some 10),.mv (.tmp 5),none,0⟩,⟨(some 11),.bin .add (.tmp 10) (.const (.int .i64 1)),none,0⟩,⟨(some 5),.mv (.tmp 11),none,0⟩] none 0 [])))))) (.seq (.reg 0 [⟨(some 18),.ld 7 true (.tmp 2),none,0⟩,⟨none,.st 7 (.tmp 4) (.tmp 18),none,0⟩] none 0 []) .ret)))
theorem gc52_ok:compF Tryz.prog Tryz.f52=some (gc52.er,19,[.cell 4 7 true]):=by unfold gc52;kernel_rfl
theorem p_ref35_Run_v {u1 u2 u3 u4 u5:Bool} (a0:Ref35State) (a1:List StanzaStanza):CallsO Tryz.prog 52 [.agg [.sl (List.map MailEntry.v a0.Rows) u1,.sl (List.map MailEntry.v a0.Last) u2,.b a0.Anew,.sl (List.map V.s a0.Seen) u3,.sl (List.map Ref35Contact.v a0.List) u4,.i a0.Odd,.i a0.Told],.sl (List.map StanzaStanza.v a1) u5] Ref35State.v (p_ref35_Run a0 a1):=by
 refine callsO_comp mix Tryz.func52 gc52_ok fun r H=>?_
 rw [p_ref35_Run] at H
 conv=>whnf
 obtain ⟨o2,HL3,HQ4⟩:=bind_c H
 refine loop_c [5] [6,7,8,9,10,11,12,13,14,15,16,17] [6,7,8,9,10,11,12,13,14,15,16,17] (fun n vals st=>(∃ y6 y7,p_ref35_Run_l1  a1 n y6 y7=some o2∧vals=[.i y6]∧st=[.live [.sl (List.map MailEntry.v y7.Rows) u1,.sl (List.map MailEntry.v y7.Last) u2,.b y7.Anew,.sl (List.map V.s y7.Seen) u3,.sl (List.map Ref35Contact.v y7.List) u4,.i y7.Odd,.i y7.Told] 0,.live [.sl (List.map MailEntry.v []) true,.sl (List.map MailEntry.v []) true,.b false,.sl (List.map V.s []) true,.sl (List.map Ref35Contact.v []) true,.i (0:Int),.i (0:Int)] 0])∨(∃ y11 y12,p_ref35_Run_l1  a1 n y11 y12=some o2∧vals=[.i y11]∧st=[.live [.sl (List.map MailEntry.v y12.Rows) false,.sl (List.map MailEntry.v y12.Last) false,.b y12.Anew,.sl (List.map V.s y12.Seen) false,.sl (List.map Ref35Contact.v y12.List) false,.i y12.Odd,.i y12.Told] 0,.live [.sl (List.map MailEntry.v []) true,.sl (List.map MailEntry.v []) true,.b false,.sl (List.map V.s []) true,.sl (List.map Ref35Contact.v []) true,.i (0:Int),.i (0:Int)] 0])) fuel 2 [] (.inl (⟨_,_,HL3,rfl,rfl⟩)) (Nat.zero_le _) rfl (by kernel_rfl) (by kernel_rfl) rfl ⟨⟨rfl,rfl,rfl⟩,⟨⟨rfl,rfl,rfl⟩,trivial⟩⟩ ?_
 rintro (_ | n5) _ _ (⟨y6,y7,H,rfl,rfl⟩ | ⟨y11,y12,H,rfl,rfl⟩)
 ·rw [p_ref35_Run_l1] at H;cases H
 ·rw [p_ref35_Run_l1] at H;cases H
 ·rw [p_ref35_Run_l1] at H
  conv=>whnf
  refine LenQ.M ?_;conv=>whnf
  refine tst_d H (fun b8 H=>?_) (fun b8 H=>?_)
  ·conv=>whnf
   obtain rfl:=Option.some.inj H
   have H:=HQ4
   try dsimp only at H
   refine ⟨Nat.le_of_ble_eq_true rfl,?_⟩;conv=>whnf
   refine finR_c (enc:=Ref35State.v) H ?_;conv=>whnf
   exact ⟨_,.v (fzagg (.cons (.slw) (.cons (.slw) (.cons (.id rfl) (.cons (.slw) (.cons (.slw) (.cons (.id rfl) (.cons (.id rfl) (.nil)))))))) rfl)⟩
  conv=>whnf
  refine ixs_c (f:=StanzaStanza.v) H (fun _=>rfl) (fun x9 H=>?_);conv=>whnf
  refine ask_c (p_ref35_Tell_v _ _) H rfl rfl (fun v10 H=>?_);conv=>whnf
  refine ⟨Nat.le_of_ble_eq_true rfl,?_⟩;conv=>whnf
  refine FootQ.mk ⟨rfl,?_⟩;conv=>whnf
  refine Ari.w ?_;conv=>whnf
  exact again_c [6,7,8,9,10,11,12,13,14,15,16,17] n5 2 [] (.inr (⟨_,_,H,rfl,rfl⟩)) (Nat.lt_succ_self _) (Nat.zero_le _) rfl (by kernel_rfl) (by kernel_rfl) rfl ⟨⟨rfl,rfl,rfl⟩,⟨⟨rfl,rfl,rfl⟩,trivial⟩⟩
 rw [p_ref35_Run_l1] at H
 conv=>whnf
 refine LenQ.M ?_;conv=>whnf
 refine tst_d H (fun b13 H=>?_) (fun b13 H=>?_)
 ·conv=>whnf
  obtain rfl:=Option.some.inj H
  have H:=HQ4
  try dsimp only at H
  refine ⟨Nat.le_of_ble_eq_true rfl,?_⟩;conv=>whnf
  exact fin0_c (enc:=Ref35State.v) H (.inr rfl) (.cons (.cell rfl rfl (Nat.le_of_ble_eq_true rfl)) (.nil)) rfl rfl
 conv=>whnf
 refine ixs_c (f:=StanzaStanza.v) H (fun _=>rfl) (fun x14 H=>?_);conv=>whnf
 refine ask_c (p_ref35_Tell_v _ _) H rfl rfl (fun v15 H=>?_);conv=>whnf
 refine ⟨Nat.le_of_ble_eq_true rfl,?_⟩;conv=>whnf
 refine FootQ.mk ⟨rfl,?_⟩;conv=>whnf
 refine Ari.w ?_;conv=>whnf
 exact again_c [6,7,8,9,10,11,12,13,14,15,16,17] n5 2 [] (.inr (⟨_,_,H,rfl,rfl⟩)) (Nat.lt_succ_self _) (Nat.zero_le _) rfl (by kernel_rfl) (by kernel_rfl) rfl ⟨⟨rfl,rfl,rfl⟩,⟨⟨rfl,rfl,rfl⟩,trivial⟩⟩
def gc122:BCode:=(.seq (.reg 0 [⟨(some 4),.mv (.const (.bool false)),none,0⟩] none 0 []) (.seq (.seq (.reg 0 [⟨(some 6),.mv (.tmp 0),none,0⟩,⟨(some 7),.lens (.tmp 6),none,0⟩,⟨(some 8),.mv (.tmp 1),none,0⟩,⟨(some 9),.lens (.tmp 8),none,0⟩,⟨(some 10),.bin .neq (.tmp 7) (.tmp 9),none,0⟩] none 0 []) (.cond (.tmp 10) (.seq (.reg 0 [⟨(some 4),.mv (.const (.bool false)),none,0⟩] none 0 []) .ret) .skip)) (.seq (.seq (.reg 0 [⟨(some 5),.mv (.const (.int .i64 0)),none,0⟩] none 0 []) (.block 0 (.loop (.seq (.seq (.reg 0 [⟨(some 11),.mv (.tmp 5),none,0⟩,⟨(some 12),.mv (.tmp 0),none,0⟩,⟨(some 13),.lens (.tmp 12),none,0⟩,⟨(some 14),.bin .lss (.tmp 11) (.tmp 13),none,0⟩] none 0 []) (.cond (.tmp 14) .skip (.exit 0))) (.seq (.block 1 (.seq (.reg 0 [⟨(some 17),.mv (.tmp 0),none,0⟩,⟨(some 18),.mv (.tmp 5),none,0⟩,⟨(some 19),.ixs 5 (.tmp 17) (.tmp 18),none,0⟩,⟨(some 20),.ld 5 true (.tmp 19),none,0⟩,⟨(some 21),.mv (.tmp 1),none,0⟩,⟨(some 22),.mv (.tmp 5),none,0⟩,⟨(some 23),.ixs 5 (.tmp 21) (.tmp 22),none,0⟩,⟨(some 24),.ld 5 true (.tmp 23),none,0⟩,⟨(some 25),.eqa true [2,0,1,1,1] (.tmp 20) (.tmp 24),none,0⟩] (some [[],[],[1,0],[0,1,2],[],[],[5,4],[4,5,6],[6,5,4,7,2,1,0,3]]) 0 []) (.cond (.tmp 25) (.seq (.reg 0 [⟨(some 4),.mv (.const (.bool false)),none,0⟩] none 0 []) .ret) .skip))) (.reg 0 [⟨(some 15),.mv (.tmp 5),none,0⟩,⟨(some 16),.bin .add (.tmp 15) (.const (.int .i64 1)),none,0⟩,⟨(some 5),.mv (.tmp 16),none,0⟩] none 0 [])))))) (.seq (.reg 0 [⟨(some 4),.mv (.const (.bool true)),none,0⟩] none 0 []) .ret))))
theorem gc122_ok:compF Tryz.prog Tryz.f122=some (gc122.er,26,[.tmp 4]):=by unfold gc122;kernel_rfl
theorem p_ref35_sameRows_v {u1 u2:Bool} (a0:List MailEntry) (a1:List MailEntry):CallsO Tryz.prog 122 [.sl (List.map MailEntry.v a0) u1,.sl (List.map MailEntry.v a1) u2] V.b (p_ref35_sameRows a0 a1):=by
 refine callsO_comp mix Tryz.func122 gc122_ok fun r H=>?_
 rw [p_ref35_sameRows] at H
 conv=>whnf
 iterate 2 (refine LenQ.M ?_;conv=>whnf)
 refine tst_c H (fun b1 H=>?_) (fun b1 H=>?_)
 ·conv=>whnf
  exact fb_ H
 conv=>whnf
 obtain ⟨o3,HL4,HQ5⟩:=bind_c H
 refine loop_c [4,5] [11,12,13,14,15,16,17,18,19,20,21,22,23,24,25] [11,12,13,14,15,16,17,18,19,20,21,22,23,24,25] (fun n vals st=>(∃ y7,p_ref35_sameRows_l1  a0 a1 n y7=some o3∧vals=[.b false,.i y7]∧st=[])) fuel 0 [] (⟨_,HL4,rfl,rfl⟩) (Nat.zero_le _) rfl (by kernel_rfl) (by kernel_rfl) rfl trivial ?_
 rintro (_ | n6) _ _ (⟨y7,H,rfl,rfl⟩)
 ·rw [p_ref35_sameRows_l1] at H;cases H
 rw [p_ref35_sameRows_l1] at H
 conv=>whnf
 refine LenQ.M ?_;conv=>whnf
 refine tst_d H (fun b8 H=>?_) (fun b8 H=>?_)
 ·conv=>whnf
  obtain rfl:=Option.some.inj H
  have H:=HQ5
  try dsimp only at H
  exact fb_ H
 conv=>whnf
 refine ixs_c (f:=MailEntry.v) H (fun _=>rfl) (fun x9 H=>?_);conv=>whnf
 refine ixs_c (f:=MailEntry.v) H (fun _=>rfl) (fun x10 H=>?_);conv=>whnf
 refine FootQ.mk ⟨rfl,?_⟩;conv=>whnf
 refine Tst.not ?_
 refine tst_d H (fun b11 H=>?_) (fun b11 H=>?_)
 ·conv=>whnf
  obtain rfl:=Option.some.inj H
  have H:=HQ5
  try dsimp only at H
  exact fb_ H
 conv=>whnf
 refine Ari.w ?_;conv=>whnf
 exact again_c [11,12,13,14,15,16,17,18,19,20,21,22,23,24,25] n6 0 [] (⟨_,H,rfl,rfl⟩) (Nat.lt_succ_self _) (Nat.zero_le _) rfl (by kernel_rfl) (by kernel_rfl) rfl trivial
def gc49:BCode:=(.seq (.reg 2 [⟨(some 2),.bx (.tmp 0),none,0⟩,⟨(some 3),.bx (.tmp 1),none,1⟩,⟨(some 4),.mv (.const (.bool false)),none,2⟩] none 0 []) (.seq (.seq (.reg 0 [⟨(some 6),.fa 2 (.tmp 2),none,0⟩,⟨(some 7),.ld 1 false (.tmp 6),none,0⟩,⟨(some 8),.fa 2 (.tmp 3),none,0⟩,⟨(some 9),.ld 1 false (.tmp 8),none,0⟩,⟨(some 10),.binb true (.tmp 7) (.tmp 9),none,0⟩,⟨(some 11),.mv (.tmp 10),none,0⟩,⟨(some 12),.fa 5 (.tmp 2),(some (11,false)),0⟩,⟨(some 13),.ld 1 false (.tmp 12),(some (11,false)),0⟩,⟨(some 14),.fa 5 (.tmp 3),(some (11,false)),0⟩,⟨(some 15),.ld 1 false (.tmp 14),(some (11,false)),0⟩,⟨(some 16),.bin .neq (.tmp 13) (.tmp 15),(some (11,false)),0⟩,⟨(some 17),.pick (.tmp 11) (.const (.bool true)) (.tmp 16),none,0⟩,⟨(some 18),.mv (.tmp 17),none,0⟩,⟨(some 19),.fa 6 (.tmp 2),(some (18,false)),0⟩,⟨(some 20),.ld 1 false (.tmp 19),(some (18,false)),0⟩,⟨(some 21),.fa 6 (.tmp 3),(some (18,false)),0⟩,⟨(some 22),.ld 1 false (.tmp 21),(some (18,false)),0⟩,⟨(some 23),.bin .neq (.tmp 20) (.tmp 22),(some (18,false)),0⟩,⟨(some 24),.pick (.tmp 18) (.const (.bool true)) (.tmp 23),none,0⟩,⟨(some 25),.mv (.tmp 24),none,0⟩,⟨(some 26),.fa 4 (.tmp 2),(some (25,false)),0⟩,⟨(some 27),.ld 1 false (.tmp 26),(some (25,false)),0⟩,⟨(some 28),.lens (.tmp 27),(some (25,false)),0⟩,⟨(some 29),.fa 4 (.tmp 3),(some (25,false)),0⟩,⟨(some 30),.ld 1 false (.tmp 29),(some (25,false)),0⟩,⟨(some 31),.lens (.tmp 30),(some (25,false)),0⟩,⟨(some 32),.bin .neq (.tmp 28) (.tmp 31),(some (25,false)),0⟩,⟨(some 33),.pick (.tmp 25) (.const (.bool true)) (.tmp 32),none,0⟩] none 0 []) (.cond (.tmp 33) (.seq (.reg 0 [⟨(some 4),.mv (.const (.bool false)),none,0⟩] none 0 []) .ret) .skip)) (.seq (.seq (.reg 0 [⟨(some 5),.mv (.const (.int .i64 0)),none,0⟩] none 0 []) (.block 0 (.loop (.seq (.seq (.reg 0 [⟨(some 34),.mv (.tmp 5),none,0⟩,⟨(some 35),.fa 4 (.tmp 2),none,0⟩,⟨(some 36),.ld 1 false (.tmp 35),none,0⟩,⟨(some 37),.lens (.tmp 36),none,0⟩,⟨(some 38),.bin .lss (.tmp 34) (.tmp 37),none,0⟩] none 0 []) (.cond (.tmp 38) .skip (.exit 0))) (.seq (.block 1 (.seq (.reg 0 [⟨(some 41),.fa 4 (.tmp 2),none,0⟩,⟨(some 42),.ld 1 false (.tmp 41),none,0⟩,⟨(some 43),.mv (.tmp 5),none,0⟩,⟨(some 44),.ixs 4 (.tmp 42) (.tmp 43),none,0⟩,⟨(some 45),.ld 4 true (.tmp 44),none,0⟩,⟨(some 46),.fa 4 (.tmp 3),none,0⟩,⟨(some 47),.ld 1 false (.tmp 46),none,0⟩,⟨(some 48),.mv (.tmp 5),none,0⟩,⟨(some 49),.ixs 4 (.tmp 47) (.tmp 48),none,0⟩,⟨(some 50),.ld 4 true (.tmp 49),none,0⟩,⟨(some 51),.eqa true [2,2,1,1] (.tmp 45) (.tmp 50),none,0⟩] (some [[],[0],[],[2,0,1],[1,0,2,3],[],[5],[],[7,5,6],[6,5,7,8],[8,7,5,6,9,3,2,0,1,4]]) 0 []) (.cond (.tmp 51) (.seq (.reg 0 [⟨(some 4),.mv (.const (.bool false)),none,0⟩] none 0 []) .ret) .skip))) (.reg 0 [⟨(some 39),.mv (.tmp 5),none,0⟩,⟨(some 40),.bin .add (.tmp 39) (.const (.int .i64 1)),none,0⟩,⟨(some 5),.mv (.tmp 40),none,0⟩] none 0 [])))))) (.seq (.reg 0 [⟨(some 52),.fa 0 (.tmp 2),none,0⟩,⟨(some 53),.ld 1 false (.tmp 52),none,0⟩,⟨(some 54),.fa 0 (.tmp 3),none,0⟩,⟨(some 55),.ld 1 false (.tmp 54),none,0⟩,⟨(some 56),.cl 122 [(.tmp 53),(.tmp 55)],none,0⟩,⟨(some 57),.mv (.tmp 56),none,0⟩,⟨(some 58),.fa 1 (.tmp 2),(some (57,true)),0⟩,⟨(some 59),.ld 1 false (.tmp 58),(some (57,true)),0⟩,⟨(some 60),.fa 1 (.tmp 3),(some (57,true)),0⟩,⟨(some 61),.ld 1 false (.tmp 60),(some (57,true)),0⟩,⟨(some 62),.cl 122 [(.tmp 59),(.tmp 61)],(some (57,true)),0⟩,⟨(some 63),.pick (.tmp 57) (.tmp 62) (.const (.bool false)),none,0⟩,⟨(some 64),.mv (.tmp 63),none,0⟩,⟨(some 65),.fa 3 (.tmp 2),(some (64,true)),0⟩,⟨(some 66),.ld 1 false (.tmp 65),(some (64,true)),0⟩,⟨(some 67),.fa 3 (.tmp 3),(some (64,true)),0⟩,⟨(some 68),.ld 1 false (.tmp 67),(some (64,true)),0⟩,⟨(some 69),.cl 104 [(.tmp 66),(.tmp 68)],(some (64,true)),0⟩,⟨(some 70),.pick (.tmp 64) (.tmp 69) (.const (.bool false)),none,0⟩,⟨(some 4),.mv (.tmp 70),none,0⟩] none 0 []) .ret))))
theorem gc49_ok:compF Tryz.prog Tryz.f49=some (gc49.er,71,[.tmp 4]):=by unfold gc49;kernel_rfl
theorem p_ref35_Same_v {u1 u2 u3 u4 u5 u6 u7 u8:Bool} (a0:Ref35State) (a1:Ref35State):CallsO Tryz.prog 49 [.agg [.sl (List.map MailEntry.v a0.Rows) u1,.sl (List.map MailEntry.v a0.Last) u2,.b a0.Anew,.sl (List.map V.s a0.Seen) u3,.sl (List.map Ref35Contact.v a0.List) u4,.i a0.Odd,.i a0.Told],.agg [.sl (List.map MailEntry.v a1.Rows) u5,.sl (List.map MailEntry.v a1.Last) u6,.b a1.Anew,.sl (List.map V.s a1.Seen) u7,.sl (List.map Ref35Contact.v a1.List) u8,.i a1.Odd,.i a1.Told]] V.b (p_ref35_Same a0 a1):=by
 refine callsO_comp mix Tryz.func49 gc49_ok fun r H=>?_
 rw [p_ref35_Same] at H
 conv=>whnf
 refine tst_c H (fun b1 H=>?_) (fun b1 H=>?_)
 ·conv=>whnf
  iterate 20 (refine Tst.T ?_;conv=>whnf)
  exact fb_ H
 conv=>whnf
 iterate 5 (refine Tst.F ?_;conv=>whnf)
 refine tst_c H (fun b2 H=>?_) (fun b2 H=>?_)
 ·conv=>whnf
  iterate 14 (refine Tst.T ?_;conv=>whnf)
  exact fb_ H
 conv=>whnf
 iterate 5 (refine Tst.F ?_;conv=>whnf)
 refine tst_c H (fun b3 H=>?_) (fun b3 H=>?_)
 ·conv=>whnf
  iterate 8 (refine Tst.T ?_;conv=>whnf)
  exact fb_ H
 conv=>whnf
 iterate 2 (refine Tst.F ?_;conv=>whnf)
 refine LenQ.M ?_;conv=>whnf
 iterate 3 (refine Tst.F ?_;conv=>whnf)
 refine LenQ.M ?_;conv=>whnf
 iterate 2 (refine Tst.F ?_;conv=>whnf)
 refine tst_c H (fun b4 H=>?_) (fun b4 H=>?_)
 ·conv=>whnf
  exact fb_ H
 conv=>whnf
 obtain ⟨o6,HL7,HQ8⟩:=bind_c H
 refine loop_c [4,5] [34,35,36,37,38,39,40,41,42,43,44,45,46,47,48,49,50,51,6,8,12,14,19,21,26,29] [34,35,36,37,38,39,40,41,42,43,44,45,46,47,48,49,50,51,6,8,12,14,19,21,26,29] (fun n vals st=>(∃ y10,p_ref35_Same_l1  a0 a1 n y10=some o6∧vals=[.b false,.i y10]∧st=[.live [.sl (List.map MailEntry.v a0.Rows) u1,.sl (List.map MailEntry.v a0.Last) u2,.b a0.Anew,.sl (List.map V.s a0.Seen) u3,.sl (List.map Ref35Contact.v a0.List) u4,.i a0.Odd,.i a0.Told] 0,.live [.sl (List.map MailEntry.v a1.Rows) u5,.sl (List.map MailEntry.v a1.Last) u6,.b a1.Anew,.sl (List.map V.s a1.Seen) u7,.sl (List.map Ref35Contact.v a1.List) u8,.i a1.Odd,.i a1.Told] 0])) fuel 2 [] (⟨_,HL7,rfl,rfl⟩) (Nat.zero_le _) rfl (by kernel_rfl) (by kernel_rfl) rfl ⟨⟨rfl,rfl,rfl⟩,⟨⟨rfl,rfl,rfl⟩,trivial⟩⟩ ?_
 rintro (_ | n9) _ _ (⟨y10,H,rfl,rfl⟩)
 ·rw [p_ref35_Same_l1] at H;cases H
 rw [p_ref35_Same_l1] at H
 conv=>whnf
 refine LenQ.M ?_;conv=>whnf
 refine tst_c H (fun b11 H=>?_) (fun b11 H=>?_)
 ·conv=>whnf
  refine ixs_c (f:=Ref35Contact.v) H (fun _=>rfl) (fun x12 H=>?_);conv=>whnf
  refine ixs_c (f:=Ref35Contact.v) H (fun _=>rfl) (fun x13 H=>?_);conv=>whnf
  refine FootQ.mk ⟨rfl,?_⟩;conv=>whnf
  refine Tst.not ?_
  refine tst_d H (fun b14 H=>?_) (fun b14 H=>?_)
  ·conv=>whnf
   obtain rfl:=Option.some.inj H
   have H:=HQ8
   try dsimp only at H
   exact fb_ H
  conv=>whnf
  refine Ari.w ?_;conv=>whnf
  exact again_c [34,35,36,37,38,39,40,41,42,43,44,45,46,47,48,49,50,51,6,8,12,14,19,21,26,29] n9 2 [] (⟨_,H,rfl,rfl⟩) (Nat.lt_succ_self _) (Nat.zero_le _) rfl (by kernel_rfl) (by kernel_rfl) rfl ⟨⟨rfl,rfl,rfl⟩,⟨⟨rfl,rfl,rfl⟩,trivial⟩⟩
 conv=>whnf
 obtain rfl:=Option.some.inj H
 have H:=HQ8
 try dsimp only at H
 refine ask_c (p_ref35_sameRows_v _ _) H rfl rfl (fun v15 H=>?_);conv=>whnf
 refine tst_d H (fun b16 H=>?_) (fun b16 H=>?_)
 ·conv=>whnf
  iterate 11 (refine Tst.F ?_;conv=>whnf)
  exact fb_ H
 conv=>whnf
 iterate 4 (refine Tst.T ?_;conv=>whnf)
 refine ask_c (p_ref35_sameRows_v _ _) H rfl rfl (fun v17 H=>?_);conv=>whnf
 refine Tst.T ?_;conv=>whnf
 refine tst_d H (fun b18 H=>?_) (fun b18 H=>?_)
 ·conv=>whnf
  iterate 5 (refine Tst.F ?_;conv=>whnf)
  exact fb_ H
 conv=>whnf
 iterate 4 (refine Tst.T ?_;conv=>whnf)
 refine ask_c (p_ref01_SameTexts_v _ _) H rfl rfl (fun v19 H=>?_);conv=>whnf
 refine Tst.T ?_;conv=>whnf
 exact fb_ H
end Go.Proofs.YtpmoioopjbfhkaaGreat

/- That the program's functions yield what the plain ones tell (written by a program of mine). -/
namespace Go.Proofs.YtpmoioopjbfhkaaGreat
open Go.RowKit
set_option maxRecDepth 100000
set_option maxHeartbeats 4000000
def gc123:BCode:=(.seq (.reg 0 [⟨(some 2),.mv (.const (.slice none 0 0)),none,0⟩] none 0 []) (.seq (.reg 0 [⟨(some 3),.mv (.const (.slice none 0 0)),none,0⟩] none 0 []) (.seq (.seq (.reg 0 [⟨(some 4),.mv (.const (.int .i64 0)),none,0⟩] none 0 []) (.block 0 (.loop (.seq (.seq (.reg 0 [⟨(some 5),.mv (.tmp 4),none,0⟩,⟨(some 6),.mv (.tmp 0),none,0⟩,⟨(some 7),.lens (.tmp 6),none,0⟩,⟨(some 8),.bin .lss (.tmp 5) (.tmp 7),none,0⟩] none 0 []) (.cond (.tmp 8) .skip (.exit 0))) (.seq (.block 1 (.reg 2 [⟨(some 11),.mv (.tmp 3),none,0⟩,⟨(some 12),.mv (.tmp 0),none,0⟩,⟨(some 13),.mv (.tmp 4),none,0⟩,⟨(some 14),.ixs 5 (.tmp 12) (.tmp 13),none,0⟩,⟨(some 15),.fa 0 (.tmp 14),none,0⟩,⟨(some 16),.ld 1 false (.tmp 15),none,0⟩,⟨(some 17),.mv (.tmp 0),none,0⟩,⟨(some 18),.mv (.tmp 4),none,0⟩,⟨(some 19),.ixs 5 (.tmp 17) (.tmp 18),none,0⟩,⟨(some 20),.fa 1 (.tmp 19),none,0⟩,⟨(some 21),.ld 4 true (.tmp 20),none,0⟩,⟨(some 22),.bd [(.lit (.string ⟨#[]⟩)),(.lit (.bool false)),(.lit (.int .i64 0)),(.lit (.int .i64 0)),(.lit (.int .i64 0))] [(0,1,(.tmp 16)),(1,4,(.tmp 21))],none,0⟩,⟨(some 23),.bs 5 1 [(.lit (.string ⟨#[]⟩)),(.lit (.bool false)),(.lit (.int .i64 0)),(.lit (.int .i64 0)),(.lit (.int .i64 0))] [(0,(.tmp 22))],none,0⟩,⟨(some 24),.ap 5 48 (.tmp 11) (.tmp 23),none,1⟩,⟨(some 3),.mv (.tmp 24),none,2⟩] (some [[],[],[],[2,1],[1,2,3],[3,2,1,4],[],[],[7,6],[6,7,8],[8,7,6,9],[9,6,7,8,10,4,1,2,3,5],[5,3,2,1,4,10,8,7,6,9,11],[11,9,6,7,8,10,4,1,2,3,5,12,0],[0,12,5,3,2,1,4,10,8,7,6,9,11,13]]) 0 [])) (.reg 0 [⟨(some 9),.mv (.tmp 4),none,0⟩,⟨(some 10),.bin .add (.tmp 9) (.const (.int .i64 1)),none,0⟩,⟨(some 4),.mv (.tmp 10),none,0⟩] none 0 [])))))) (.seq (.reg 0 [⟨(some 25),.mv (.tmp 3),none,0⟩,⟨(some 2),.mv (.tmp 25),none,0⟩] none 0 []) .ret))))
theorem gc123_ok:compF Tryz.prog Tryz.f123=some (gc123.er,26,[.tmp 2]):=by unfold gc123;kernel_rfl
theorem p_law35_theirs_v {u1:Bool} (a0:List MailEntry):CallsO Tryz.prog 123 [.sl (List.map MailEntry.v a0) u1] (fun l:List MailEntry=>V.sl (l.map MailEntry.v) false) (p_law35_theirs a0):=by
 refine callsO_comp mix Tryz.func123 gc123_ok fun r H=>?_
 rw [p_law35_theirs] at H
 conv=>whnf
 obtain ⟨o2,HL3,HQ4⟩:=bind_c H
 refine loop_c [3,4] [5,6,7,8,9,10,11,12,13,14,15,16,17,18,19,20,21,22,23,24] [5,6,7,8,9,10,11,12,13,14,15,16,17,18,19,20,21,22,23,24] (fun n vals st=>(∃ y6,p_law35_theirs_l1  a0 n [] y6=some o2∧vals=[.sl (List.map MailEntry.v []) true,.i y6]∧st=[])∨(∃ y11 y12,p_law35_theirs_l1  a0 n y11 y12=some o2∧vals=[.osl 0 0 (List.length y11) 5 false,.i y12]∧st=[.live (cellsM MailEntry.v y11) (cellsM MailEntry.v y11).length])) fuel 0 [] (.inl (⟨_,HL3,rfl,rfl⟩)) (Nat.zero_le _) rfl (by kernel_rfl) (by kernel_rfl) rfl trivial ?_
 rintro (_ | n5) _ _ (⟨y6,H,rfl,rfl⟩ | ⟨y11,y12,H,rfl,rfl⟩)
 ·rw [p_law35_theirs_l1] at H;cases H
 ·rw [p_law35_theirs_l1] at H;cases H
 ·rw [p_law35_theirs_l1] at H
  conv=>whnf
  refine LenQ.M ?_;conv=>whnf
  refine tst_d H (fun b7 H=>?_) (fun b7 H=>?_)
  ·conv=>whnf
   obtain rfl:=Option.some.inj H
   have H:=HQ4
   try dsimp only at H
   refine finR_c (enc:=(fun l:List MailEntry=>V.sl (l.map MailEntry.v) false)) H ?_;conv=>whnf
   exact ⟨_,.v (.c (.slw))⟩
  conv=>whnf
  refine ixs_c (f:=MailEntry.v) H (fun _=>rfl) (fun x8 H=>?_);conv=>whnf
  refine ⟨Nat.le_of_ble_eq_true rfl,?_⟩;conv=>whnf
  refine ixs_c (f:=MailEntry.v) H (fun _=>rfl) (fun x9 H=>?_);conv=>whnf
  refine ⟨Nat.le_of_ble_eq_true rfl,?_⟩;conv=>whnf
  refine appN_c (f:=MailEntry.v) H (fun _=>rfl) (srcM (f:=MailEntry.v) (fun _=>rfl) _ _) rfl (.v (srcOwn (f:=MailEntry.v) (l:=[(MailEntry.mk x8.Key x9.P)]) (fun _=>rfl) rfl rfl rfl)) (by decide) rfl (by simp) (fun l10 H=>?_);conv=>whnf
  refine FootQ.mk ⟨rfl,?_⟩;conv=>whnf
  refine Ari.w ?_;conv=>whnf
  exact again_c [5,6,7,8,9,10,11,12,13,14,15,16,17,18,19,20,21,22,23,24] n5 1 [1] (.inr (⟨_,_,H,rfl,rfl⟩)) (Nat.lt_succ_self _) (Nat.zero_le _) rfl (by kernel_rfl) (by kernel_rfl) rfl (wkB_live0 rfl (cellsM_idlt (f:=MailEntry.v) (fun _=>rfl) _) rfl trivial)
 rw [p_law35_theirs_l1] at H
 conv=>whnf
 refine LenQ.M ?_;conv=>whnf
 refine tst_d H (fun b13 H=>?_) (fun b13 H=>?_)
 ·conv=>whnf
  obtain rfl:=Option.some.inj H
  have H:=HQ4
  try dsimp only at H
  refine finR_c (enc:=(fun l:List MailEntry=>V.sl (l.map MailEntry.v) false)) H ?_;conv=>whnf
  exact ⟨_,.v (.c (fzown (f:=MailEntry.v) (l:=y11) rfl rfl (fun _=>rfl) (fun _=>rfl)))⟩
 conv=>whnf
 refine ixs_c (f:=MailEntry.v) H (fun _=>rfl) (fun x14 H=>?_);conv=>whnf
 refine ⟨Nat.le_of_ble_eq_true rfl,?_⟩;conv=>whnf
 refine ixs_c (f:=MailEntry.v) H (fun _=>rfl) (fun x15 H=>?_);conv=>whnf
 refine ⟨Nat.le_of_ble_eq_true rfl,?_⟩;conv=>whnf
 refine appO_c (f:=MailEntry.v) H (fun _=>rfl) rfl (Nat.le_refl _) (.v (srcOwn (f:=MailEntry.v) (l:=[(MailEntry.mk x14.Key x15.P)]) (fun _=>rfl) rfl rfl rfl)) (by decide) rfl (by simp) (fun l16 H=>?_);conv=>whnf
 refine FootQ.mk ⟨rfl,?_⟩;conv=>whnf
 refine Ari.w ?_;conv=>whnf
 exact again_c [5,6,7,8,9,10,11,12,13,14,15,16,17,18,19,20,21,22,23,24] n5 1 [2] (.inr (⟨_,_,H,rfl,rfl⟩)) (Nat.lt_succ_self _) (Nat.zero_le _) rfl (by kernel_rfl) (by kernel_rfl) rfl (wkB_live0 rfl (cellsM_idlt (f:=MailEntry.v) (fun _=>rfl) _) rfl trivial)
def gc50:BCode:=(.seq (.reg 2 [⟨(some 1),.bx (.tmp 0),none,0⟩,⟨(some 2),.al (.agg [(.sl [] true),(.sl [] true),(.lit (.bool false)),(.sl [] true),(.sl [] true),(.lit (.int .i64 0)),(.lit (.int .i64 0))]),none,1⟩] none 0 []) (.seq (.reg 1 [⟨(some 5),.fa 0 (.tmp 1),none,0⟩,⟨(some 6),.ld 1 false (.tmp 5),none,0⟩,⟨(some 7),.cl 123 [(.tmp 6)],none,0⟩,⟨(some 8),.fa 1 (.tmp 1),none,0⟩,⟨(some 9),.ld 1 false (.tmp 8),none,0⟩,⟨(some 10),.cl 123 [(.tmp 9)],none,0⟩,⟨(some 11),.fa 2 (.tmp 1),none,0⟩,⟨(some 12),.ld 1 false (.tmp 11),none,0⟩,⟨(some 13),.fa 3 (.tmp 1),none,0⟩,⟨(some 14),.ld 1 false (.tmp 13),none,0⟩,⟨(some 15),.fa 5 (.tmp 1),none,0⟩,⟨(some 16),.ld 1 false (.tmp 15),none,0⟩,⟨(some 17),.fa 6 (.tmp 1),none,0⟩,⟨(some 18),.ld 1 false (.tmp 17),none,0⟩,⟨(some 19),.bd [(.sl [] true),(.sl [] true),(.lit (.bool false)),(.sl [] true),(.sl [] true),(.lit (.int .i64 0)),(.lit (.int .i64 0))] [(0,1,(.tmp 7)),(1,1,(.tmp 10)),(2,1,(.tmp 12)),(3,1,(.tmp 14)),(5,1,(.tmp 16)),(6,1,(.tmp 18))],none,0⟩,⟨(some 3),.al (.agg [(.sl [] true),(.sl [] true),(.lit (.bool false)),(.sl [] true),(.sl [] true),(.lit (.int .i64 0)),(.lit (.int .i64 0))]),none,0⟩,⟨none,.st 7 (.tmp 3) (.tmp 19),none,1⟩] (some [[],[0],[0,1],[],[3],[1,0,2,3,4],[],[6],[],[8],[],[10],[],[12],[12,13,10,11,8,9,6,7,4,3,5,1,0,2],[],[2,0,1,5,3,4,7,6,9,8,11,10,13,12,14,15]]) 0 []) (.seq (.seq (.reg 0 [⟨(some 4),.mv (.const (.int .i64 0)),none,0⟩] none 0 []) (.block 0 (.loop (.seq (.seq (.reg 0 [⟨(some 20),.mv (.tmp 4),none,0⟩,⟨(some 21),.fa 4 (.tmp 1),none,0⟩,⟨(some 22),.ld 1 false (.tmp 21),none,0⟩,⟨(some 23),.lens (.tmp 22),none,0⟩,⟨(some 24),.bin .lss (.tmp 20) (.tmp 23),none,0⟩] none 0 []) (.cond (.tmp 24) .skip (.exit 0))) (.seq (.block 1 (.reg 2 [⟨(some 27),.fa 4 (.tmp 3),none,0⟩,⟨(some 28),.ld 1 false (.tmp 27),none,0⟩,⟨(some 29),.fa 4 (.tmp 1),none,0⟩,⟨(some 30),.ld 1 false (.tmp 29),none,0⟩,⟨(some 31),.mv (.tmp 4),none,0⟩,⟨(some 32),.ixs 4 (.tmp 30) (.tmp 31),none,0⟩,⟨(some 33),.ld 4 true (.tmp 32),none,0⟩,⟨(some 34),.bs 4 1 [(.lit (.string ⟨#[]⟩)),(.lit (.string ⟨#[]⟩)),(.lit (.int .i64 0)),(.lit (.int .i64 0))] [(0,(.tmp 33))],none,0⟩,⟨(some 35),.ap 4 48 (.tmp 28) (.tmp 34),none,1⟩,⟨(some 36),.fa 4 (.tmp 3),none,2⟩,⟨none,.st 1 (.tmp 36) (.tmp 35),none,2⟩] (some [[],[0],[],[2],[],[4,2,3],[3,2,4,5],[5,4,2,3,6],[6,3,2,4,5,7,0,1],[8,7,6,5,4,3,2,1,0],[0,1,2,3,4,5,6,7,8,9]]) 0 [])) (.reg 0 [⟨(some 25),.mv (.tmp 4),none,0⟩,⟨(some 26),.bin .add (.tmp 25) (.const (.int .i64 1)),none,0⟩,⟨(some 4),.mv (.tmp 26),none,0⟩] none 0 [])))))) (.seq (.reg 0 [⟨(some 37),.ld 7 true (.tmp 3),none,0⟩,⟨none,.st 7 (.tmp 2) (.tmp 37),none,0⟩] none 0 []) .ret))))
theorem gc50_ok:compF Tryz.prog Tryz.f50=some (gc50.er,38,[.cell 2 7 true]):=by unfold gc50;kernel_rfl
theorem p_law35_back_v {u1 u2 u3 u4:Bool} (a0:Ref35State):CallsO Tryz.prog 50 [.agg [.sl (List.map MailEntry.v a0.Rows) u1,.sl (List.map MailEntry.v a0.Last) u2,.b a0.Anew,.sl (List.map V.s a0.Seen) u3,.sl (List.map Ref35Contact.v a0.List) u4,.i a0.Odd,.i a0.Told]] Ref35State.v (p_law35_back a0):=by
 refine callsO_comp mix Tryz.func50 gc50_ok fun r H=>?_
 rw [p_law35_back] at H
 conv=>whnf
 refine ask_c (p_law35_theirs_v _) H rfl rfl (fun v1 H=>?_);conv=>whnf
 refine ask_c (p_law35_theirs_v _) H rfl rfl (fun v2 H=>?_);conv=>whnf
 refine ⟨Nat.le_of_ble_eq_true rfl,?_⟩;conv=>whnf
 refine FootQ.mk ⟨rfl,?_⟩;conv=>whnf
 obtain ⟨o4,HL5,HQ6⟩:=bind_c H
 refine loop_c [4] [20,21,22,23,24,25,26,27,28,29,30,31,32,33,34,35,36,5,8,11,13,15,17] [20,21,22,23,24,25,26,27,28,29,30,31,32,33,34,35,36,5,8,11,13,15,17] (fun n vals st=>(∃ y8 y9,p_law35_back_l1  a0 n y8 y9=some o4∧vals=[.i y8]∧st=[.live [.sl (List.map MailEntry.v a0.Rows) u1,.sl (List.map MailEntry.v a0.Last) u2,.b a0.Anew,.sl (List.map V.s a0.Seen) u3,.sl (List.map Ref35Contact.v a0.List) u4,.i a0.Odd,.i a0.Told] 0,.live [.sl (List.map MailEntry.v []) true,.sl (List.map MailEntry.v []) true,.b false,.sl (List.map V.s []) true,.sl (List.map Ref35Contact.v []) true,.i (0:Int),.i (0:Int)] 0,.live [.sl (List.map MailEntry.v y9.Rows) false,.sl (List.map MailEntry.v y9.Last) false,.b y9.Anew,.sl (List.map V.s y9.Seen) u3,.sl (List.map Ref35Contact.v y9.List) true,.i y9.Odd,.i y9.Told] 0])∨(∃ y13 y14,p_law35_back_l1  a0 n y13 y14=some o4∧vals=[.i y13]∧st=[.live [.sl (List.map MailEntry.v a0.Rows) u1,.sl (List.map MailEntry.v a0.Last) u2,.b a0.Anew,.sl (List.map V.s a0.Seen) u3,.sl (List.map Ref35Contact.v a0.List) u4,.i a0.Odd,.i a0.Told] 0,.live [.sl (List.map MailEntry.v []) true,.sl (List.map MailEntry.v []) true,.b false,.sl (List.map V.s []) true,.sl (List.map Ref35Contact.v []) true,.i (0:Int),.i (0:Int)] 0,.live [.sl (List.map MailEntry.v y14.Rows) false,.sl (List.map MailEntry.v y14.Last) false,.b y14.Anew,.sl (List.map V.s y14.Seen) u3,.osl 3 0 (List.length y14.List) 4 false,.i y14.Odd,.i y14.Told] 0,.live (cellsM Ref35Contact.v y14.List) (cellsM Ref35Contact.v y14.List).length])) fuel 3 [] (.inl (⟨_,_,HL5,rfl,rfl⟩)) (Nat.zero_le _) rfl (by kernel_rfl) (by kernel_rfl) rfl ⟨⟨rfl,rfl,rfl⟩,⟨⟨rfl,rfl,rfl⟩,⟨⟨rfl,rfl,rfl⟩,trivial⟩⟩⟩ ?_
 rintro (_ | n7) _ _ (⟨y8,y9,H,rfl,rfl⟩ | ⟨y13,y14,H,rfl,rfl⟩)
 ·rw [p_law35_back_l1] at H;cases H
 ·rw [p_law35_back_l1] at H;cases H
 ·rw [p_law35_back_l1] at H
  conv=>whnf
  refine LenQ.M ?_;conv=>whnf
  refine tst_d H (fun b10 H=>?_) (fun b10 H=>?_)
  ·conv=>whnf
   obtain rfl:=Option.some.inj H
   have H:=HQ6
   try dsimp only at H
   refine ⟨Nat.le_of_ble_eq_true rfl,?_⟩;conv=>whnf
   refine finR_c (enc:=Ref35State.v) H ?_;conv=>whnf
   exact ⟨_,.v (fzagg (.cons (.id rfl) (.cons (.id rfl) (.cons (.id rfl) (.cons (.slw) (.cons (.slw) (.cons (.id rfl) (.cons (.id rfl) (.nil)))))))) rfl)⟩
  conv=>whnf
  refine ixs_c (f:=Ref35Contact.v) H (fun _=>rfl) (fun x11 H=>?_);conv=>whnf
  refine appN_c (f:=Ref35Contact.v) H (fun _=>rfl) (srcM (f:=Ref35Contact.v) (fun _=>rfl) _ _) rfl (.v (srcOwn (f:=Ref35Contact.v) (l:=[x11]) (fun _=>rfl) rfl rfl rfl)) (by decide) rfl (by simp) (fun l12 H=>?_);conv=>whnf
  refine ⟨Nat.le_of_ble_eq_true rfl,?_⟩;conv=>whnf
  refine FootQ.mk ⟨rfl,?_⟩;conv=>whnf
  refine Ari.w ?_;conv=>whnf
  exact again_c [20,21,22,23,24,25,26,27,28,29,30,31,32,33,34,35,36,5,8,11,13,15,17] n7 4 [0,1,2,4] (.inr (⟨_,_,H,rfl,rfl⟩)) (Nat.lt_succ_self _) (Nat.zero_le _) rfl (by kernel_rfl) (by kernel_rfl) rfl ⟨⟨rfl,rfl,rfl⟩,⟨⟨rfl,rfl,rfl⟩,⟨⟨rfl,rfl,rfl⟩,wkB_live0 rfl (cellsM_idlt (f:=Ref35Contact.v) (fun _=>rfl) _) rfl trivial⟩⟩⟩
 rw [p_law35_back_l1] at H
 conv=>whnf
 refine LenQ.M ?_;conv=>whnf
 refine tst_d H (fun b15 H=>?_) (fun b15 H=>?_)
 ·conv=>whnf
  obtain rfl:=Option.some.inj H
  have H:=HQ6
  try dsimp only at H
  refine ⟨Nat.le_of_ble_eq_true rfl,?_⟩;conv=>whnf
  refine finR_c (enc:=Ref35State.v) H ?_;conv=>whnf
  exact ⟨_,.v (fzagg (.cons (.id rfl) (.cons (.id rfl) (.cons (.id rfl) (.cons (.slw) (.cons (fzown (f:=Ref35Contact.v) (l:=y14.List) rfl rfl (fun _=>rfl) (fun _=>rfl)) (.cons (.id rfl) (.cons (.id rfl) (.nil)))))))) rfl)⟩
 conv=>whnf
 refine ixs_c (f:=Ref35Contact.v) H (fun _=>rfl) (fun x16 H=>?_);conv=>whnf
 refine appO_c (f:=Ref35Contact.v) H (fun _=>rfl) rfl (Nat.le_refl _) (.v (srcOwn (f:=Ref35Contact.v) (l:=[x16]) (fun _=>rfl) rfl rfl rfl)) (by decide) rfl (by simp) (fun l17 H=>?_);conv=>whnf
 refine ⟨Nat.le_of_ble_eq_true rfl,?_⟩;conv=>whnf
 refine FootQ.mk ⟨rfl,?_⟩;conv=>whnf
 refine Ari.w ?_;conv=>whnf
 exact again_c [20,21,22,23,24,25,26,27,28,29,30,31,32,33,34,35,36,5,8,11,13,15,17] n7 4 [0,1,2,5] (.inr (⟨_,_,H,rfl,rfl⟩)) (Nat.lt_succ_self _) (Nat.zero_le _) rfl (by kernel_rfl) (by kernel_rfl) rfl ⟨⟨rfl,rfl,rfl⟩,⟨⟨rfl,rfl,rfl⟩,⟨⟨rfl,rfl,rfl⟩,wkB_live0 rfl (cellsM_idlt (f:=Ref35Contact.v) (fun _=>rfl) _) rfl trivial⟩⟩⟩
end Go.Proofs.YtpmoioopjbfhkaaGreat

/- That the program's functions yield what the plain ones tell (written by a program of mine). -/
namespace Go.Proofs.YtpmoioopjbfhkaaGreat
open Go.RowKit
set_option maxRecDepth 1000000
set_option maxHeartbeats 4000000
def gc121:BCode:=(.seq (.reg 2 [⟨(some 2),.bx (.tmp 0),none,0⟩,⟨(some 3),.bx (.tmp 1),none,1⟩,⟨(some 4),.mv (.const (.bool false)),none,2⟩] none 0 []) (.seq (.reg 0 [⟨(some 5),.fa 0 (.tmp 2),none,0⟩,⟨(some 6),.ld 1 false (.tmp 5),none,0⟩,⟨(some 7),.fa 0 (.tmp 3),none,0⟩,⟨(some 8),.ld 1 false (.tmp 7),none,0⟩,⟨(some 9),.cl 193 [(.tmp 6),(.tmp 8)],none,0⟩,⟨(some 10),.mv (.tmp 9),none,0⟩,⟨(some 11),.fa 1 (.tmp 2),(some (10,true)),0⟩,⟨(some 12),.ld 1 false (.tmp 11),(some (10,true)),0⟩,⟨(some 13),.fa 1 (.tmp 3),(some (10,true)),0⟩,⟨(some 14),.ld 1 false (.tmp 13),(some (10,true)),0⟩,⟨(some 15),.cl 193 [(.tmp 12),(.tmp 14)],(some (10,true)),0⟩,⟨(some 16),.pick (.tmp 10) (.tmp 15) (.const (.bool false)),none,0⟩,⟨(some 17),.mv (.tmp 16),none,0⟩,⟨(some 18),.fa 2 (.tmp 2),(some (17,true)),0⟩,⟨(some 19),.ld 1 false (.tmp 18),(some (17,true)),0⟩,⟨(some 20),.fa 2 (.tmp 3),(some (17,true)),0⟩,⟨(some 21),.ld 1 false (.tmp 20),(some (17,true)),0⟩,⟨(some 22),.binb false (.tmp 19) (.tmp 21),(some (17,true)),0⟩,⟨(some 23),.pick (.tmp 17) (.tmp 22) (.const (.bool false)),none,0⟩,⟨(some 24),.mv (.tmp 23),none,0⟩,⟨(some 25),.fa 3 (.tmp 2),(some (24,true)),0⟩,⟨(some 26),.ld 1 false (.tmp 25),(some (24,true)),0⟩,⟨(some 27),.fa 3 (.tmp 3),(some (24,true)),0⟩,⟨(some 28),.ld 1 false (.tmp 27),(some (24,true)),0⟩,⟨(some 29),.cl 194 [(.tmp 26),(.tmp 28)],(some (24,true)),0⟩,⟨(some 30),.pick (.tmp 24) (.tmp 29) (.const (.bool false)),none,0⟩,⟨(some 31),.mv (.tmp 30),none,0⟩,⟨(some 32),.fa 4 (.tmp 2),(some (31,true)),0⟩,⟨(some 33),.ld 1 false (.tmp 32),(some (31,true)),0⟩,⟨(some 34),.fa 4 (.tmp 3),(some (31,true)),0⟩,⟨(some 35),.ld 1 false (.tmp 34),(some (31,true)),0⟩,⟨(some 36),.cl 195 [(.tmp 33),(.tmp 35)],(some (31,true)),0⟩,⟨(some 37),.pick (.tmp 31) (.tmp 36) (.const (.bool false)),none,0⟩,⟨(some 38),.mv (.tmp 37),none,0⟩,⟨(some 39),.fa 5 (.tmp 2),(some (38,true)),0⟩,⟨(some 40),.ld 1 false (.tmp 39),(some (38,true)),0⟩,⟨(some 41),.fa 5 (.tmp 3),(some (38,true)),0⟩,⟨(some 42),.ld 1 false (.tmp 41),(some (38,true)),0⟩,⟨(some 43),.bin .eql (.tmp 40) (.tmp 42),(some (38,true)),0⟩,⟨(some 44),.pick (.tmp 38) (.tmp 43) (.const (.bool false)),none,0⟩,⟨(some 45),.mv (.tmp 44),none,0⟩,⟨(some 46),.fa 6 (.tmp 2),(some (45,true)),0⟩,⟨(some 47),.ld 1 false (.tmp 46),(some (45,true)),0⟩,⟨(some 48),.fa 6 (.tmp 3),(some (45,true)),0⟩,⟨(some 49),.ld 1 false (.tmp 48),(some (45,true)),0⟩,⟨(some 50),.bin .eql (.tmp 47) (.tmp 49),(some (45,true)),0⟩,⟨(some 51),.pick (.tmp 45) (.tmp 50) (.const (.bool false)),none,0⟩,⟨(some 4),.mv (.tmp 51),none,0⟩] none 0 []) .ret))
theorem gc121_ok:compF Tryz.prog Tryz.f121=some (gc121.er,52,[.tmp 4]):=by unfold gc121;kernel_rfl
theorem p_view_Same_v {u1 u2 u3 u4 u5 u6 u7 u8:Bool} (a0:Ref35State) (a1:Ref35State):CallsO Tryz.prog 121 [.agg [.sl (List.map MailEntry.v a0.Rows) u1,.sl (List.map MailEntry.v a0.Last) u2,.b a0.Anew,.sl (List.map V.s a0.Seen) u3,.sl (List.map Ref35Contact.v a0.List) u4,.i a0.Odd,.i a0.Told],.agg [.sl (List.map MailEntry.v a1.Rows) u5,.sl (List.map MailEntry.v a1.Last) u6,.b a1.Anew,.sl (List.map V.s a1.Seen) u7,.sl (List.map Ref35Contact.v a1.List) u8,.i a1.Odd,.i a1.Told]] V.b (p_view_Same a0 a1):=by
 refine callsO_comp mix Tryz.func121 gc121_ok fun r H=>?_
 rw [p_view_Same] at H
 conv=>whnf
 refine ask_c (p_slices_Equal_view_Row_v _ _) H rfl rfl (fun v1 H=>?_);conv=>whnf
 refine tst_d H (fun b2 H=>?_) (fun b2 H=>?_)
 ·conv=>whnf
  iterate 35 (refine Tst.F ?_;conv=>whnf)
  exact fb_ H
 conv=>whnf
 iterate 4 (refine Tst.T ?_;conv=>whnf)
 refine ask_c (p_slices_Equal_view_Row_v _ _) H rfl rfl (fun v3 H=>?_);conv=>whnf
 refine Tst.T ?_;conv=>whnf
 refine tst_d H (fun b4 H=>?_) (fun b4 H=>?_)
 ·conv=>whnf
  iterate 29 (refine Tst.F ?_;conv=>whnf)
  exact fb_ H
 conv=>whnf
 iterate 5 (refine Tst.T ?_;conv=>whnf)
 refine tst_d H (fun b5 H=>?_) (fun b5 H=>?_)
 ·conv=>whnf
  iterate 23 (refine Tst.F ?_;conv=>whnf)
  exact fb_ H
 conv=>whnf
 iterate 4 (refine Tst.T ?_;conv=>whnf)
 refine ask_c (p_slices_Equal_string_v _ _) H rfl rfl (fun v6 H=>?_);conv=>whnf
 refine Tst.T ?_;conv=>whnf
 refine tst_d H (fun b7 H=>?_) (fun b7 H=>?_)
 ·conv=>whnf
  iterate 17 (refine Tst.F ?_;conv=>whnf)
  exact fb_ H
 conv=>whnf
 iterate 4 (refine Tst.T ?_;conv=>whnf)
 refine ask_c (p_slices_Equal_view_Contact_v _ _) H rfl rfl (fun v8 H=>?_);conv=>whnf
 refine Tst.T ?_;conv=>whnf
 refine tst_d H (fun b9 H=>?_) (fun b9 H=>?_)
 ·conv=>whnf
  iterate 11 (refine Tst.F ?_;conv=>whnf)
  exact fb_ H
 conv=>whnf
 iterate 5 (refine Tst.T ?_;conv=>whnf)
 refine tst_c H (fun b10 H=>?_) (fun b10 H=>?_)
 ·conv=>whnf
  iterate 5 (refine Tst.T ?_;conv=>whnf)
  exact fb_ H
 conv=>whnf
 iterate 5 (refine Tst.F ?_;conv=>whnf)
 exact fb_ H
def gc47:BCode:=(.seq (.reg 0 [⟨(some 0),.mv (.const (.bool false)),none,0⟩] none 0 []) (.seq (.reg 1 [⟨(some 9),.bd [(.lit (.int .u8 0)),(.lit (.string ⟨#[]⟩)),(.lit (.string ⟨#[]⟩)),(.lit (.string ⟨#[]⟩)),(.lit (.int .i64 0)),(.lit (.int .i64 0)),(.lit (.int .i64 0)),(.lit (.int .i64 0))] [(0,1,(.const (.int .u8 34))),(1,1,(.const (.string ⟨#[97,64,120]⟩))),(4,1,(.const (.int .i64 1))),(7,1,(.const (.int .i64 5)))],none,0⟩,⟨(some 1),.al (.agg [(.lit (.int .u8 0)),(.lit (.string ⟨#[]⟩)),(.lit (.string ⟨#[]⟩)),(.lit (.string ⟨#[]⟩)),(.lit (.int .i64 0)),(.lit (.int .i64 0)),(.lit (.int .i64 0)),(.lit (.int .i64 0))]),none,0⟩,⟨none,.st 8 (.tmp 1) (.tmp 9),none,1⟩] none 0 []) (.seq (.reg 2 [⟨(some 10),.bd [(.sl [] true),(.sl [] true),(.lit (.bool false)),(.sl [] true),(.sl [] true),(.lit (.int .i64 0)),(.lit (.int .i64 0))] [],none,0⟩,⟨(some 11),.bd [(.lit (.int .u8 0)),(.lit (.string ⟨#[]⟩)),(.lit (.string ⟨#[]⟩)),(.lit (.string ⟨#[]⟩)),(.lit (.int .i64 0)),(.lit (.int .i64 0)),(.lit (.int .i64 0)),(.lit (.int .i64 0))] [(0,1,(.const (.int .u8 36))),(7,1,(.const (.int .i64 1)))],none,0⟩,⟨(some 12),.ld 8 true (.tmp 1),none,0⟩,⟨(some 13),.bd [(.lit (.int .u8 0)),(.lit (.string ⟨#[]⟩)),(.lit (.string ⟨#[]⟩)),(.lit (.string ⟨#[]⟩)),(.lit (.int .i64 0)),(.lit (.int .i64 0)),(.lit (.int .i64 0)),(.lit (.int .i64 0))] [(0,1,(.const (.int .u8 37)))],none,0⟩,⟨(some 14),.ld 8 true (.tmp 1),none,0⟩,⟨(some 15),.bd [(.lit (.int .u8 0)),(.lit (.string ⟨#[]⟩)),(.lit (.string ⟨#[]⟩)),(.lit (.string ⟨#[]⟩)),(.lit (.int .i64 0)),(.lit (.int .i64 0)),(.lit (.int .i64 0)),(.lit (.int .i64 0))] [(0,1,(.const (.int .u8 38))),(1,1,(.const (.string ⟨#[97,64,120]⟩))),(3,1,(.const (.string ⟨#[65,110,110]⟩))),(4,1,(.const (.int .i64 1))),(7,1,(.const (.int .i64 2)))],none,0⟩,⟨(some 16),.bs 8 5 [(.lit (.int .u8 0)),(.lit (.string ⟨#[]⟩)),(.lit (.string ⟨#[]⟩)),(.lit (.string ⟨#[]⟩)),(.lit (.int .i64 0)),(.lit (.int .i64 0)),(.lit (.int .i64 0)),(.lit (.int .i64 0)),(.lit (.int .u8 0)),(.lit (.string ⟨#[]⟩)),(.lit (.string ⟨#[]⟩)),(.lit (.string ⟨#[]⟩)),(.lit (.int .i64 0)),(.lit (.int .i64 0)),(.lit (.int .i64 0)),(.lit (.int .i64 0)),(.lit (.int .u8 0)),(.lit (.string ⟨#[]⟩)),(.lit (.string ⟨#[]⟩)),(.lit (.string ⟨#[]⟩)),(.lit (.int .i64 0)),(.lit (.int .i64 0)),(.lit (.int .i64 0)),(.lit (.int .i64 0)),(.lit (.int .u8 0)),(.lit (.string ⟨#[]⟩)),(.lit (.string ⟨#[]⟩)),(.lit (.string ⟨#[]⟩)),(.lit (.int .i64 0)),(.lit (.int .i64 0)),(.lit (.int .i64 0)),(.lit (.int .i64 0)),(.lit (.int .u8 0)),(.lit (.string ⟨#[]⟩)),(.lit (.string ⟨#[]⟩)),(.lit (.string ⟨#[]⟩)),(.lit (.int .i64 0)),(.lit (.int .i64 0)),(.lit (.int .i64 0)),(.lit (.int .i64 0))] [(0,(.tmp 11)),(1,(.tmp 12)),(2,(.tmp 13)),(3,(.tmp 14)),(4,(.tmp 15))],none,0⟩,⟨(some 17),.cl 51 [(.tmp 10),(.tmp 16)],none,1⟩,⟨(some 2),.al (.agg [(.sl [] true),(.sl [] true),(.lit (.bool false)),(.sl [] true),(.sl [] true),(.lit (.int .i64 0)),(.lit (.int .i64 0))]),none,1⟩,⟨none,.st 7 (.tmp 2) (.tmp 17),none,2⟩] none 0 []) (.seq (.reg 1 [⟨(some 18),.ld 7 true (.tmp 2),none,0⟩,⟨(some 19),.bd [(.lit (.int .u8 0)),(.lit (.string ⟨#[]⟩)),(.lit (.string ⟨#[]⟩)),(.lit (.string ⟨#[]⟩)),(.lit (.int .i64 0)),(.lit (.int .i64 0)),(.lit (.int .i64 0)),(.lit (.int .i64 0))] [(0,1,(.const (.int .u8 35))),(1,1,(.const (.string ⟨#[97,64,120]⟩))),(7,1,(.const (.int .i64 6)))],none,0⟩,⟨(some 20),.cl 116 [(.tmp 18),(.tmp 19)],none,0⟩,⟨(some 3),.al (.agg [(.sl [] true),(.sl [] true),(.lit (.bool false)),(.sl [] true),(.sl [] true),(.lit (.int .i64 0)),(.lit (.int .i64 0))]),none,0⟩,⟨none,.st 7 (.tmp 3) (.tmp 20),none,1⟩] none 0 []) (.seq (.reg 2 [⟨(some 21),.ld 7 true (.tmp 2),none,0⟩,⟨(some 22),.bd [(.lit (.int .u8 0)),(.lit (.string ⟨#[]⟩)),(.lit (.string ⟨#[]⟩)),(.lit (.string ⟨#[]⟩)),(.lit (.int .i64 0)),(.lit (.int .i64 0)),(.lit (.int .i64 0)),(.lit (.int .i64 0))] [(0,1,(.const (.int .u8 36)))],none,0⟩,⟨(some 23),.bd [(.lit (.int .u8 0)),(.lit (.string ⟨#[]⟩)),(.lit (.string ⟨#[]⟩)),(.lit (.string ⟨#[]⟩)),(.lit (.int .i64 0)),(.lit (.int .i64 0)),(.lit (.int .i64 0)),(.lit (.int .i64 0))] [(0,1,(.const (.int .u8 37)))],none,0⟩,⟨(some 24),.bd [(.lit (.int .u8 0)),(.lit (.string ⟨#[]⟩)),(.lit (.string ⟨#[]⟩)),(.lit (.string ⟨#[]⟩)),(.lit (.int .i64 0)),(.lit (.int .i64 0)),(.lit (.int .i64 0)),(.lit (.int .i64 0))] [(0,1,(.const (.int .u8 39))),(1,1,(.const (.string ⟨#[97,64,120]⟩)))],none,0⟩,⟨(some 25),.bs 8 3 [(.lit (.int .u8 0)),(.lit (.string ⟨#[]⟩)),(.lit (.string ⟨#[]⟩)),(.lit (.string ⟨#[]⟩)),(.lit (.int .i64 0)),(.lit (.int .i64 0)),(.lit (.int .i64 0)),(.lit (.int .i64 0)),(.lit (.int .u8 0)),(.lit (.string ⟨#[]⟩)),(.lit (.string ⟨#[]⟩)),(.lit (.string ⟨#[]⟩)),(.lit (.int .i64 0)),(.lit (.int .i64 0)),(.lit (.int .i64 0)),(.lit (.int .i64 0)),(.lit (.int .u8 0)),(.lit (.string ⟨#[]⟩)),(.lit (.string ⟨#[]⟩)),(.lit (.string ⟨#[]⟩)),(.lit (.int .i64 0)),(.lit (.int .i64 0)),(.lit (.int .i64 0)),(.lit (.int .i64 0))] [(0,(.tmp 22)),(1,(.tmp 23)),(2,(.tmp 24))],none,0⟩,⟨(some 26),.cl 51 [(.tmp 21),(.tmp 25)],none,1⟩,⟨(some 4),.al (.agg [(.sl [] true),(.sl [] true),(.lit (.bool false)),(.sl [] true),(.sl [] true),(.lit (.int .i64 0)),(.lit (.int .i64 0))]),none,1⟩,⟨none,.st 7 (.tmp 4) (.tmp 26),none,2⟩] none 0 []) (.seq (.reg 1 [⟨(some 28),.ld 7 true (.tmp 2),none,0⟩,⟨(some 29),.cl 117 [(.tmp 28),(.const (.string ⟨#[97,64,120,32]⟩))],none,0⟩,⟨(some 27),.mv (.tmp 29),none,0⟩,⟨(some 30),.ex (.tmp 27) 0,none,0⟩,⟨(some 31),.ex (.tmp 27) 1,none,0⟩,⟨(some 5),.al (.agg [(.lit (.bool false)),(.lit (.int .i64 0)),(.lit (.int .i64 0)),(.lit (.int .i64 0))]),none,0⟩,⟨none,.st 4 (.tmp 5) (.tmp 30),none,1⟩,⟨(some 6),.mv (.tmp 31),none,1⟩] none 0 []) (.seq (.reg 1 [⟨(some 33),.ld 7 true (.tmp 3),none,0⟩,⟨(some 34),.cl 117 [(.tmp 33),(.const (.string ⟨#[97,64,120,32]⟩))],none,0⟩,⟨(some 32),.mv (.tmp 34),none,0⟩,⟨(some 35),.ex (.tmp 32) 0,none,0⟩,⟨(some 36),.ex (.tmp 32) 1,none,0⟩,⟨(some 7),.al (.agg [(.lit (.bool false)),(.lit (.int .i64 0)),(.lit (.int .i64 0)),(.lit (.int .i64 0))]),none,0⟩,⟨none,.st 4 (.tmp 7) (.tmp 35),none,1⟩,⟨(some 8),.mv (.tmp 36),none,1⟩] none 0 []) (.seq (.reg 4 [⟨(some 37),.ld 4 true (.tmp 5),none,0⟩,⟨(some 38),.bd [(.lit (.bool false)),(.lit (.int .i64 0)),(.lit (.int .i64 0)),(.lit (.int .i64 0))] [(0,1,(.const (.bool true))),(1,1,(.const (.int .i64 1))),(3,1,(.const (.int .i64 5)))],none,0⟩,⟨(some 39),.eqa false [0,1,1,1] (.tmp 37) (.tmp 38),none,0⟩,⟨(some 40),.mv (.tmp 39),none,0⟩,⟨(some 41),.mv (.tmp 6),(some (40,true)),0⟩,⟨(some 42),.pick (.tmp 40) (.tmp 41) (.const (.bool false)),none,0⟩,⟨(some 43),.mv (.tmp 42),none,0⟩,⟨(some 44),.mv (.tmp 8),(some (43,true)),0⟩,⟨(some 45),.un .not (.tmp 44),(some (43,true)),0⟩,⟨(some 46),.pick (.tmp 43) (.tmp 45) (.const (.bool false)),none,0⟩,⟨(some 47),.mv (.tmp 46),none,0⟩,⟨(some 48),.fa 5 (.tmp 2),(some (47,true)),0⟩,⟨(some 49),.ld 1 false (.tmp 48),(some (47,true)),0⟩,⟨(some 50),.bin .eql (.tmp 49) (.const (.int .i64 1)),(some (47,true)),0⟩,⟨(some 51),.pick (.tmp 47) (.tmp 50) (.const (.bool false)),none,0⟩,⟨(some 52),.mv (.tmp 51),none,0⟩,⟨(some 53),.fa 6 (.tmp 2),(some (52,true)),0⟩,⟨(some 54),.ld 1 false (.tmp 53),(some (52,true)),0⟩,⟨(some 55),.bin .eql (.tmp 54) (.const (.int .i64 5)),(some (52,true)),0⟩,⟨(some 56),.pick (.tmp 52) (.tmp 55) (.const (.bool false)),none,0⟩,⟨(some 57),.mv (.tmp 56),none,0⟩,⟨(some 58),.fa 0 (.tmp 3),(some (57,true)),0⟩,⟨(some 59),.ld 1 false (.tmp 58),(some (57,true)),0⟩,⟨(some 60),.lens (.tmp 59),(some (57,true)),0⟩,⟨(some 61),.bin .eql (.tmp 60) (.const (.int .i64 0)),(some (57,true)),0⟩,⟨(some 62),.pick (.tmp 57) (.tmp 61) (.const (.bool false)),none,0⟩,⟨(some 63),.mv (.tmp 62),none,0⟩,⟨(some 64),.fa 5 (.tmp 3),(some (63,true)),0⟩,⟨(some 65),.ld 1 false (.tmp 64),(some (63,true)),0⟩,⟨(some 66),.bin .eql (.tmp 65) (.const (.int .i64 1)),(some (63,true)),0⟩,⟨(some 67),.pick (.tmp 63) (.tmp 66) (.const (.bool false)),none,0⟩,⟨(some 68),.mv (.tmp 67),none,0⟩,⟨(some 69),.fa 0 (.tmp 4),(some (68,true)),0⟩,⟨(some 70),.ld 1 false (.tmp 69),(some (68,true)),0⟩,⟨(some 71),.lens (.tmp 70),(some (68,true)),0⟩,⟨(some 72),.bin .eql (.tmp 71) (.const (.int .i64 0)),(some (68,true)),0⟩,⟨(some 73),.pick (.tmp 68) (.tmp 72) (.const (.bool false)),none,0⟩,⟨(some 74),.mv (.tmp 73),none,0⟩,⟨(some 75),.fa 4 (.tmp 4),(some (74,true)),0⟩,⟨(some 76),.ld 1 false (.tmp 75),(some (74,true)),0⟩,⟨(some 77),.lens (.tmp 76),(some (74,true)),0⟩,⟨(some 78),.bin .eql (.tmp 77) (.const (.int .i64 0)),(some (74,true)),0⟩,⟨(some 79),.pick (.tmp 74) (.tmp 78) (.const (.bool false)),none,0⟩,⟨(some 80),.mv (.tmp 79),none,0⟩,⟨(some 81),.ld 7 true (.tmp 2),(some (80,true)),0⟩,⟨(some 82),.cl 118 [(.tmp 81)],(some (80,true)),0⟩,⟨(some 83),.bs 1 1 [(.lit (.string ⟨#[]⟩))] [(0,(.const (.string ⟨#[97,64,120]⟩)))],(some (80,true)),0⟩,⟨(some 84),.cl 104 [(.tmp 82),(.tmp 83)],(some (80,true)),1⟩,⟨(some 85),.pick (.tmp 80) (.tmp 84) (.const (.bool false)),none,1⟩,⟨(some 86),.mv (.tmp 85),none,1⟩,⟨(some 87),.ld 7 true (.tmp 2),(some (86,true)),1⟩,⟨(some 88),.ld 4 true (.tmp 5),(some (86,true)),1⟩,⟨(some 89),.bd [(.lit (.string ⟨#[]⟩)),(.lit (.string ⟨#[]⟩)),(.lit (.bool false)),(.lit (.int .i64 0)),(.lit (.int .i64 0)),(.lit (.int .i64 0))] [(0,1,(.const (.string ⟨#[97,64,120]⟩))),(2,4,(.tmp 88))],(some (86,true)),1⟩,⟨(some 90),.bs 6 1 [(.lit (.string ⟨#[]⟩)),(.lit (.string ⟨#[]⟩)),(.lit (.bool false)),(.lit (.int .i64 0)),(.lit (.int .i64 0)),(.lit (.int .i64 0))] [(0,(.tmp 89))],(some (86,true)),1⟩,⟨(some 91),.cl 119 [(.tmp 87),(.tmp 90)],(some (86,true)),2⟩,⟨(some 92),.pick (.tmp 86) (.tmp 91) (.const (.bool false)),none,2⟩,⟨(some 93),.mv (.tmp 92),none,2⟩,⟨(some 94),.ld 7 true (.tmp 3),(some (93,true)),2⟩,⟨(some 95),.ld 4 true (.tmp 5),(some (93,true)),2⟩,⟨(some 96),.bd [(.lit (.string ⟨#[]⟩)),(.lit (.string ⟨#[]⟩)),(.lit (.bool false)),(.lit (.int .i64 0)),(.lit (.int .i64 0)),(.lit (.int .i64 0))] [(0,1,(.const (.string ⟨#[97,64,120]⟩))),(2,4,(.tmp 95))],(some (93,true)),2⟩,⟨(some 97),.bs 6 1 [(.lit (.string ⟨#[]⟩)),(.lit (.string ⟨#[]⟩)),(.lit (.bool false)),(.lit (.int .i64 0)),(.lit (.int .i64 0)),(.lit (.int .i64 0))] [(0,(.tmp 96))],(some (93,true)),2⟩,⟨(some 98),.cl 119 [(.tmp 94),(.tmp 97)],(some (93,true)),3⟩,⟨(some 99),.un .not (.tmp 98),(some (93,true)),3⟩,⟨(some 100),.pick (.tmp 93) (.tmp 99) (.const (.bool false)),none,3⟩,⟨(some 101),.mv (.tmp 100),none,3⟩,⟨(some 102),.ld 7 true (.tmp 2),(some (101,true)),3⟩,⟨(some 103),.cl 120 [(.tmp 102)],(some (101,true)),3⟩,⟨(some 104),.bin .eql (.tmp 103) (.const (.int .i64 0)),(some (101,true)),3⟩,⟨(some 105),.pick (.tmp 101) (.tmp 104) (.const (.bool false)),none,3⟩,⟨(some 106),.mv (.tmp 105),none,3⟩,⟨(some 107),.bs 1 1 [(.lit (.string ⟨#[]⟩))] [(0,(.const (.string ⟨#[120]⟩)))],(some (106,true)),3⟩,⟨(some 108),.bd [(.sl [] true),(.sl [] true),(.lit (.bool false)),(.sl [] true),(.sl [] true),(.lit (.int .i64 0)),(.lit (.int .i64 0))] [(3,1,(.tmp 107))],(some (106,true)),4⟩,⟨(some 109),.cl 120 [(.tmp 108)],(some (106,true)),4⟩,⟨(some 110),.bin .eql (.tmp 109) (.const (.int .i64 9)),(some (106,true)),4⟩,⟨(some 111),.pick (.tmp 106) (.tmp 110) (.const (.bool false)),none,4⟩,⟨(some 112),.mv (.tmp 111),none,4⟩,⟨(some 113),.ld 7 true (.tmp 2),(some (112,true)),4⟩,⟨(some 114),.ld 7 true (.tmp 3),(some (112,true)),4⟩,⟨(some 115),.cl 121 [(.tmp 113),(.tmp 114)],(some (112,true)),4⟩,⟨(some 116),.un .not (.tmp 115),(some (112,true)),4⟩,⟨(some 117),.pick (.tmp 112) (.tmp 116) (.const (.bool false)),none,4⟩,⟨(some 118),.mv (.tmp 117),none,4⟩,⟨(some 119),.ld 7 true (.tmp 2),(some (118,true)),4⟩,⟨(some 120),.ld 7 true (.tmp 2),(some (118,true)),4⟩,⟨(some 121),.cl 121 [(.tmp 119),(.tmp 120)],(some (118,true)),4⟩,⟨(some 122),.pick (.tmp 118) (.tmp 121) (.const (.bool false)),none,4⟩,⟨(some 123),.mv (.tmp 122),none,4⟩,⟨(some 124),.pick (.tmp 123) (.const (.bool true)) (.const (.bool false)),none,4⟩,⟨(some 125),.mv (.tmp 124),none,4⟩,⟨(some 126),.pick (.tmp 125) (.const (.bool true)) (.const (.bool false)),none,4⟩,⟨(some 0),.mv (.tmp 126),none,4⟩] none 0 []) .ret))))))))
theorem gc47_ok:compF Tryz.prog Tryz.f47=some (gc47.er,127,[.tmp 0]):=by unfold gc47;kernel_rfl
theorem p_law35_awake_t:CallsO Tryz.prog 47 [] V.b (tru? (p_law35_awake)):=by
 refine callsO_comp mix Tryz.func47 gc47_ok fun r H=>?_
 have H1:=tru_of H
 clear H
 obtain ⟨rfl,H⟩:=H1
 rw [p_law35_awake] at H
 conv=>whnf
 refine ⟨Nat.le_of_ble_eq_true rfl,?_⟩;conv=>whnf
 refine askF_c (p_view_Run_v _ _) H (.cons (fzagg (.cons (.slw) (.cons (.slw) (.cons (.id rfl) (.cons (.slw) (.cons (.slw) (.cons (.id rfl) (.cons (.id rfl) (.nil)))))))) rfl) (.cons (.c (fzown (f:=StanzaStanza.v) (l:=[(StanzaStanza.mk (36:Int) (⟨#[]⟩ : ByteArray) (⟨#[]⟩ : ByteArray) (⟨#[]⟩ : ByteArray) (0:Int) (0:Int) (0:Int) (1:Int)),(StanzaStanza.mk (34:Int) (⟨#[97,64,120]⟩ : ByteArray) (⟨#[]⟩ : ByteArray) (⟨#[]⟩ : ByteArray) (1:Int) (0:Int) (0:Int) (5:Int)),(StanzaStanza.mk (37:Int) (⟨#[]⟩ : ByteArray) (⟨#[]⟩ : ByteArray) (⟨#[]⟩ : ByteArray) (0:Int) (0:Int) (0:Int) (0:Int)),(StanzaStanza.mk (34:Int) (⟨#[97,64,120]⟩ : ByteArray) (⟨#[]⟩ : ByteArray) (⟨#[]⟩ : ByteArray) (1:Int) (0:Int) (0:Int) (5:Int)),(StanzaStanza.mk (38:Int) (⟨#[97,64,120]⟩ : ByteArray) (⟨#[]⟩ : ByteArray) (⟨#[65,110,110]⟩ : ByteArray) (1:Int) (0:Int) (0:Int) (2:Int))]) rfl rfl (fun _=>rfl) (fun _=>rfl))) (.nil))) (fun v1 H=>?_);conv=>whnf
 refine ⟨Nat.le_of_ble_eq_true rfl,?_⟩;conv=>whnf
 refine ask_c (p_view_Tell_v _ _) H rfl rfl (fun v2 H=>?_);conv=>whnf
 refine ⟨Nat.le_of_ble_eq_true rfl,?_⟩;conv=>whnf
 refine askF_c (p_view_Run_v _ _) H (.cons (fzagg (.cons (.id rfl) (.cons (.id rfl) (.cons (.id rfl) (.cons (.id rfl) (.cons (.id rfl) (.cons (.id rfl) (.cons (.id rfl) (.nil)))))))) rfl) (.cons (.c (fzown (f:=StanzaStanza.v) (l:=[(StanzaStanza.mk (36:Int) (⟨#[]⟩ : ByteArray) (⟨#[]⟩ : ByteArray) (⟨#[]⟩ : ByteArray) (0:Int) (0:Int) (0:Int) (0:Int)),(StanzaStanza.mk (37:Int) (⟨#[]⟩ : ByteArray) (⟨#[]⟩ : ByteArray) (⟨#[]⟩ : ByteArray) (0:Int) (0:Int) (0:Int) (0:Int)),(StanzaStanza.mk (39:Int) (⟨#[97,64,120]⟩ : ByteArray) (⟨#[]⟩ : ByteArray) (⟨#[]⟩ : ByteArray) (0:Int) (0:Int) (0:Int) (0:Int))]) rfl rfl (fun _=>rfl) (fun _=>rfl))) (.nil))) (fun v3 H=>?_);conv=>whnf
 refine ⟨Nat.le_of_ble_eq_true rfl,?_⟩;conv=>whnf
 refine ask_c (p_view_Get_v _ _) H rfl rfl (fun v4 H=>?_);conv=>whnf
 refine ⟨Nat.le_of_ble_eq_true rfl,?_⟩;conv=>whnf
 refine ask_c (p_view_Get_v _ _) H rfl rfl (fun v5 H=>?_);conv=>whnf
 refine ⟨Nat.le_of_ble_eq_true rfl,?_⟩;conv=>whnf
 refine tstT_c H (fun b6 H=>?_);conv=>whnf
 refine Tst.T ?_;conv=>whnf
 refine tstT_c H (fun b7 H=>?_);conv=>whnf
 iterate 2 (refine Tst.T ?_;conv=>whnf)
 refine Tst.not ?_
 refine tstF_c H (fun b8 H=>?_);conv=>whnf
 iterate 3 (refine Tst.T ?_;conv=>whnf)
 refine tstT_c H (fun b9 H=>?_);conv=>whnf
 iterate 3 (refine Tst.T ?_;conv=>whnf)
 refine tstT_c H (fun b10 H=>?_);conv=>whnf
 iterate 2 (refine Tst.T ?_;conv=>whnf)
 refine LenQ.M ?_;conv=>whnf
 iterate 2 (refine Tst.T ?_;conv=>whnf)
 refine tstT_c H (fun b11 H=>?_);conv=>whnf
 iterate 3 (refine Tst.T ?_;conv=>whnf)
 refine tstT_c H (fun b12 H=>?_);conv=>whnf
 iterate 2 (refine Tst.T ?_;conv=>whnf)
 refine LenQ.M ?_;conv=>whnf
 iterate 2 (refine Tst.T ?_;conv=>whnf)
 refine tstT_c H (fun b13 H=>?_);conv=>whnf
 iterate 2 (refine Tst.T ?_;conv=>whnf)
 refine LenQ.M ?_;conv=>whnf
 iterate 2 (refine Tst.T ?_;conv=>whnf)
 refine tstT_c H (fun b14 H=>?_);conv=>whnf
 refine Tst.T ?_;conv=>whnf
 refine ask_c (p_view_Contacts_v _) H rfl rfl (fun v15 H=>?_);conv=>whnf
 iterate 2 (refine Tst.T ?_;conv=>whnf)
 refine askF_c (p_ref01_SameTexts_v _ _) H (.cons (.c (.id rfl)) (.cons (.c (fzown (f:=V.s) (l:=[(⟨#[97,64,120]⟩ : ByteArray)]) rfl rfl (fun _=>rfl) (fun _=>rfl))) (.nil))) (fun v16 H=>?_);conv=>whnf
 refine Tst.T ?_;conv=>whnf
 refine tstT_c H (fun b17 H=>?_);conv=>whnf
 iterate 4 (refine Tst.T ?_;conv=>whnf)
 refine askF_c (p_view_Fits_v _ _) H (.cons (fzagg (.cons (.id rfl) (.cons (.id rfl) (.cons (.id rfl) (.cons (.id rfl) (.cons (.id rfl) (.cons (.id rfl) (.cons (.id rfl) (.nil)))))))) rfl) (.cons (.c (fzown (f:=BookRow.v) (l:=[(BookRow.mk (⟨#[97,64,120]⟩ : ByteArray) (⟨#[]⟩ : ByteArray) v4.1)]) rfl rfl (fun _=>rfl) (fun _=>rfl))) (.nil))) (fun v18 H=>?_);conv=>whnf
 refine Tst.T ?_;conv=>whnf
 refine tstT_c H (fun b19 H=>?_);conv=>whnf
 iterate 4 (refine Tst.T ?_;conv=>whnf)
 refine askF_c (p_view_Fits_v _ _) H (.cons (fzagg (.cons (.id rfl) (.cons (.id rfl) (.cons (.id rfl) (.cons (.id rfl) (.cons (.id rfl) (.cons (.id rfl) (.cons (.id rfl) (.nil)))))))) rfl) (.cons (.c (fzown (f:=BookRow.v) (l:=[(BookRow.mk (⟨#[97,64,120]⟩ : ByteArray) (⟨#[]⟩ : ByteArray) v4.1)]) rfl rfl (fun _=>rfl) (fun _=>rfl))) (.nil))) (fun v20 H=>?_);conv=>whnf
 iterate 2 (refine Tst.T ?_;conv=>whnf)
 refine Tst.not ?_
 refine tstF_c H (fun b21 H=>?_);conv=>whnf
 refine Tst.T ?_;conv=>whnf
 refine ask_c (p_view_Check_v _) H rfl rfl (fun v22 H=>?_);conv=>whnf
 iterate 2 (refine Tst.T ?_;conv=>whnf)
 refine tstT_c H (fun b23 H=>?_);conv=>whnf
 iterate 2 (refine Tst.T ?_;conv=>whnf)
 refine askF_c (p_view_Check_v _) H (.cons (fzagg (.cons (.slw) (.cons (.slw) (.cons (.id rfl) (.cons (fzown (f:=V.s) (l:=[(⟨#[120]⟩ : ByteArray)]) rfl rfl (fun _=>rfl) (fun _=>rfl)) (.cons (.slw) (.cons (.id rfl) (.cons (.id rfl) (.nil)))))))) rfl) (.nil)) (fun v24 H=>?_);conv=>whnf
 iterate 2 (refine Tst.T ?_;conv=>whnf)
 refine tstT_c H (fun b25 H=>?_);conv=>whnf
 iterate 2 (refine Tst.T ?_;conv=>whnf)
 refine ask_c (p_view_Same_v _ _) H rfl rfl (fun v26 H=>?_);conv=>whnf
 iterate 2 (refine Tst.T ?_;conv=>whnf)
 refine Tst.not ?_
 refine tstF_c H (fun b27 H=>?_);conv=>whnf
 iterate 2 (refine Tst.T ?_;conv=>whnf)
 refine ask_c (p_view_Same_v _ _) H rfl rfl (fun v28 H=>?_);conv=>whnf
 refine Tst.T ?_;conv=>whnf
 refine tstT_c H (fun b29 H=>?_);conv=>whnf
 refine Tst.T ?_;conv=>whnf
 exact fb_ H
theorem p_law35_awake_true:p_law35_awake=some true:=by kernel_rfl
theorem p_law35_awake_v:CallsO Tryz.prog 47 [] V.b p_law35_awake:=tru_closed p_law35_awake_t p_law35_awake_true
def gc48:BCode:=(.seq (.reg 1 [⟨(some 1),.bx (.tmp 0),none,0⟩,⟨(some 2),.mv (.const (.bool false)),none,1⟩] none 0 []) (.seq (.reg 0 [⟨(some 3),.fa 1 (.tmp 1),none,0⟩,⟨(some 4),.ld 1 false (.tmp 3),none,0⟩,⟨(some 5),.lent (.tmp 4),none,0⟩,⟨(some 6),.bin .leq (.tmp 5) (.const (.int .i64 100)),none,0⟩,⟨(some 7),.mv (.tmp 6),none,0⟩,⟨(some 8),.fa 2 (.tmp 1),(some (7,true)),0⟩,⟨(some 9),.ld 1 false (.tmp 8),(some (7,true)),0⟩,⟨(some 10),.lent (.tmp 9),(some (7,true)),0⟩,⟨(some 11),.bin .leq (.tmp 10) (.const (.int .i64 100)),(some (7,true)),0⟩,⟨(some 12),.pick (.tmp 7) (.tmp 11) (.const (.bool false)),none,0⟩,⟨(some 13),.mv (.tmp 12),none,0⟩,⟨(some 14),.fa 3 (.tmp 1),(some (13,true)),0⟩,⟨(some 15),.ld 1 false (.tmp 14),(some (13,true)),0⟩,⟨(some 16),.lent (.tmp 15),(some (13,true)),0⟩,⟨(some 17),.bin .leq (.tmp 16) (.const (.int .i64 100)),(some (13,true)),0⟩,⟨(some 18),.pick (.tmp 13) (.tmp 17) (.const (.bool false)),none,0⟩,⟨(some 2),.mv (.tmp 18),none,0⟩] none 0 []) .ret))
theorem gc48_ok:compF Tryz.prog Tryz.f48=some (gc48.er,19,[.tmp 2]):=by unfold gc48;kernel_rfl
theorem p_ref10_Light_v (a0:StanzaStanza):CallsO Tryz.prog 48 [.agg [.y8 a0.Kind,.s a0.User,.s a0.Res,.s a0.Name,.i a0.Show,.i a0.Prio,.i a0.Code,.i a0.N]] V.b (p_ref10_Light a0):=by
 refine callsO_comp mix Tryz.func48 gc48_ok fun r H=>?_
 rw [p_ref10_Light] at H
 conv=>whnf
 refine tst_d H (fun b1 H=>?_) (fun b1 H=>?_)
 ·conv=>whnf
  iterate 9 (refine Tst.F ?_;conv=>whnf)
  exact fb_ H
 conv=>whnf
 iterate 4 (refine Tst.T ?_;conv=>whnf)
 refine tst_c H (fun b2 H=>?_) (fun b2 H=>?_)
 ·conv=>whnf
  iterate 4 (refine Tst.T ?_;conv=>whnf)
  exact fb_ H
 conv=>whnf
 iterate 4 (refine Tst.F ?_;conv=>whnf)
 exact fb_ H
end Go.Proofs.YtpmoioopjbfhkaaGreat

/- That the program's functions yield what the plain ones tell (written by a program of mine). -/
namespace Go.Proofs.YtpmoioopjbfhkaaGreat
open Go.RowKit
set_option maxRecDepth 100000
set_option maxHeartbeats 4000000
def gc6:BCode:=(.seq (.reg 0 [⟨(some 2),.mv (.const (.bool false)),none,0⟩] none 0 []) (.seq (.seq (.reg 0 [⟨(some 5),.mv (.tmp 0),none,0⟩,⟨(some 6),.lens (.tmp 5),none,0⟩,⟨(some 7),.bin .gtr (.tmp 6) (.const (.int .i64 60)),none,0⟩] none 0 []) (.cond (.tmp 7) (.seq (.reg 0 [⟨(some 8),.cl 47 [],none,0⟩,⟨(some 2),.mv (.tmp 8),none,0⟩] none 0 []) .ret) .skip)) (.seq (.reg 0 [⟨(some 3),.mv (.const (.slice none 0 0)),none,0⟩] none 0 []) (.seq (.seq (.reg 0 [⟨(some 4),.mv (.const (.int .i64 0)),none,0⟩] none 0 []) (.block 0 (.loop (.seq (.seq (.reg 0 [⟨(some 9),.mv (.tmp 4),none,0⟩,⟨(some 10),.mv (.tmp 0),none,0⟩,⟨(some 11),.lens (.tmp 10),none,0⟩,⟨(some 12),.bin .lss (.tmp 9) (.tmp 11),none,0⟩] none 0 []) (.cond (.tmp 12) .skip (.exit 0))) (.seq (.block 1 (.seq (.seq (.reg 0 [⟨(some 15),.mv (.tmp 0),none,0⟩,⟨(some 16),.mv (.tmp 4),none,0⟩,⟨(some 17),.ixs 8 (.tmp 15) (.tmp 16),none,0⟩,⟨(some 18),.ld 8 true (.tmp 17),none,0⟩,⟨(some 19),.cl 48 [(.tmp 18)],none,0⟩,⟨(some 20),.un .not (.tmp 19),none,0⟩] none 0 []) (.cond (.tmp 20) (.seq (.reg 0 [⟨(some 21),.cl 47 [],none,0⟩,⟨(some 2),.mv (.tmp 21),none,0⟩] none 0 []) .ret) .skip)) (.reg 2 [⟨(some 22),.mv (.tmp 3),none,0⟩,⟨(some 23),.mv (.tmp 0),none,0⟩,⟨(some 24),.mv (.tmp 4),none,0⟩,⟨(some 25),.ixs 8 (.tmp 23) (.tmp 24),none,0⟩,⟨(some 26),.ld 8 true (.tmp 25),none,0⟩,⟨(some 27),.bs 8 1 [(.lit (.int .u8 0)),(.lit (.string ⟨#[]⟩)),(.lit (.string ⟨#[]⟩)),(.lit (.string ⟨#[]⟩)),(.lit (.int .i64 0)),(.lit (.int .i64 0)),(.lit (.int .i64 0)),(.lit (.int .i64 0))] [(0,(.tmp 26))],none,0⟩,⟨(some 28),.ap 8 88 (.tmp 22) (.tmp 27),none,1⟩,⟨(some 3),.mv (.tmp 28),none,2⟩] none 0 []))) (.reg 0 [⟨(some 13),.mv (.tmp 4),none,0⟩,⟨(some 14),.bin .add (.tmp 13) (.const (.int .i64 1)),none,0⟩,⟨(some 4),.mv (.tmp 14),none,0⟩] none 0 [])))))) (.seq (.reg 0 [⟨(some 29),.bd [(.sl [] true),(.sl [] true),(.lit (.bool false)),(.sl [] true),(.sl [] true),(.lit (.int .i64 0)),(.lit (.int .i64 0))] [],none,0⟩,⟨(some 30),.mv (.tmp 3),none,0⟩,⟨(some 31),.cl 51 [(.tmp 29),(.tmp 30)],none,0⟩,⟨(some 32),.cl 50 [(.tmp 31)],none,0⟩,⟨(some 33),.bd [(.sl [] true),(.sl [] true),(.lit (.bool false)),(.sl [] true),(.sl [] true),(.lit (.int .i64 0)),(.lit (.int .i64 0))] [],none,0⟩,⟨(some 34),.mv (.tmp 0),none,0⟩,⟨(some 35),.cl 52 [(.tmp 33),(.tmp 34)],none,0⟩,⟨(some 36),.cl 49 [(.tmp 32),(.tmp 35)],none,0⟩,⟨(some 37),.mv (.tmp 36),none,0⟩,⟨(some 38),.cl 47 [],(some (37,true)),0⟩,⟨(some 39),.pick (.tmp 37) (.tmp 38) (.const (.bool false)),none,0⟩,⟨(some 2),.mv (.tmp 39),none,0⟩] none 0 []) .ret)))))
theorem gc6_ok:compF Tryz.prog Tryz.f6=some (gc6.er,40,[.tmp 2]):=by unfold gc6;kernel_rfl
theorem p_law35_ViewRuns_v {u1:Bool} (a0:List StanzaStanza):CallsO Tryz.prog 6 [.sl (List.map StanzaStanza.v a0) u1] V.b (tru? (p_law35_ViewRuns a0)):=by
 refine callsO_comp mix Tryz.func6 gc6_ok fun r H=>?_
 have H1:=tru_of H
 clear H
 obtain ⟨rfl,H⟩:=H1
 rw [p_law35_ViewRuns] at H
 conv=>whnf
 refine LenQ.M ?_;conv=>whnf
 refine tst_c H (fun b1 H=>?_) (fun b1 H=>?_)
 ·conv=>whnf
  refine ask_c (p_law35_awake_v) H rfl rfl (fun v2 H=>?_);conv=>whnf
  exact fb_ H
 conv=>whnf
 obtain ⟨o4,HL5,HQ6⟩:=bind_c H
 refine loop_c [2,3,4] [9,10,11,12,13,14,15,16,17,18,19,20,21,22,23,24,25,26,27,28] [9,10,11,12,13,14,15,16,17,18,19,20,21,22,23,24,25,26,27,28] (fun n vals st=>(∃ y8,p_law35_ViewRuns_l1  a0 n [] y8=some o4∧vals=[.b false,.sl (List.map StanzaStanza.v []) true,.i y8]∧st=[])∨(∃ y15 y16,p_law35_ViewRuns_l1  a0 n y15 y16=some o4∧vals=[.b false,.osl 0 0 (List.length y15) 8 false,.i y16]∧st=[.live (cellsM StanzaStanza.v y15) (cellsM StanzaStanza.v y15).length])) fuel 0 [] (.inl (⟨_,HL5,rfl,rfl⟩)) (Nat.zero_le _) rfl (by kernel_rfl) (by kernel_rfl) rfl trivial ?_
 rintro (_ | n7) _ _ (⟨y8,H,rfl,rfl⟩ | ⟨y15,y16,H,rfl,rfl⟩)
 ·rw [p_law35_ViewRuns_l1] at H;cases H
 ·rw [p_law35_ViewRuns_l1] at H;cases H
 ·rw [p_law35_ViewRuns_l1] at H
  conv=>whnf
  refine LenQ.M ?_;conv=>whnf
  refine tst_d H (fun b9 H=>?_) (fun b9 H=>?_)
  ·conv=>whnf
   obtain rfl:=Option.some.inj H
   have H:=HQ6
   try dsimp only at H
   refine ask_c (p_view_Run_v _ _) H rfl rfl (fun v18 H=>?_);conv=>whnf
   refine ask_c (p_law35_back_v _) H rfl rfl (fun v19 H=>?_);conv=>whnf
   refine ask_c (p_ref35_Run_v _ _) H rfl rfl (fun v20 H=>?_);conv=>whnf
   refine ask_c (p_ref35_Same_v _ _) H rfl rfl (fun v21 H=>?_);conv=>whnf
   refine tstT_c H (fun b22 H=>?_);conv=>whnf
   refine ask_c (p_law35_awake_v) H rfl rfl (fun v23 H=>?_);conv=>whnf
   refine Tst.T ?_;conv=>whnf
   exact fb_ H
  conv=>whnf
  refine ixs_c (f:=StanzaStanza.v) H (fun _=>rfl) (fun x10 H=>?_);conv=>whnf
  refine ask_c (p_ref10_Light_v _) H rfl rfl (fun v11 H=>?_);conv=>whnf
  refine Tst.not ?_
  refine tst_d H (fun b12 H=>?_) (fun b12 H=>?_)
  ·conv=>whnf
   refine ask_c (p_law35_awake_v) H rfl rfl (fun v17 H=>?_);conv=>whnf
   obtain rfl:=Option.some.inj H
   have H:=HQ6
   try dsimp only at H
   exact fb_ H
  conv=>whnf
  refine ixs_c (f:=StanzaStanza.v) H (fun _=>rfl) (fun x13 H=>?_);conv=>whnf
  refine appN_c (f:=StanzaStanza.v) H (fun _=>rfl) (srcM (f:=StanzaStanza.v) (fun _=>rfl) _ _) rfl (.v (srcOwn (f:=StanzaStanza.v) (l:=[x13]) (fun _=>rfl) rfl rfl rfl)) (by decide) rfl (by simp) (fun l14 H=>?_);conv=>whnf
  refine Ari.w ?_;conv=>whnf
  exact again_c [9,10,11,12,13,14,15,16,17,18,19,20,21,22,23,24,25,26,27,28] n7 1 [1] (.inr (⟨_,_,H,rfl,rfl⟩)) (Nat.lt_succ_self _) (Nat.zero_le _) rfl (by kernel_rfl) (by kernel_rfl) rfl (wkB_live0 rfl (cellsM_idlt (f:=StanzaStanza.v) (fun _=>rfl) _) rfl trivial)
 rw [p_law35_ViewRuns_l1] at H
 conv=>whnf
 refine LenQ.M ?_;conv=>whnf
 refine tst_d H (fun b24 H=>?_) (fun b24 H=>?_)
 ·conv=>whnf
  obtain rfl:=Option.some.inj H
  have H:=HQ6
  try dsimp only at H
  refine askF_c (p_view_Run_v _ _) H (.cons (fzagg (.cons (.slw) (.cons (.slw) (.cons (.id rfl) (.cons (.slw) (.cons (.slw) (.cons (.id rfl) (.cons (.id rfl) (.nil)))))))) rfl) (.cons (.c (fzown (f:=StanzaStanza.v) (l:=y15) rfl rfl (fun _=>rfl) (fun _=>rfl))) (.nil))) (fun v31 H=>?_);conv=>whnf
  refine ask_c (p_law35_back_v _) H rfl rfl (fun v32 H=>?_);conv=>whnf
  refine ask_c (p_ref35_Run_v _ _) H rfl rfl (fun v33 H=>?_);conv=>whnf
  refine ask_c (p_ref35_Same_v _ _) H rfl rfl (fun v34 H=>?_);conv=>whnf
  refine tstT_c H (fun b35 H=>?_);conv=>whnf
  refine ask_c (p_law35_awake_v) H rfl rfl (fun v36 H=>?_);conv=>whnf
  refine Tst.T ?_;conv=>whnf
  exact fb_ H
 conv=>whnf
 refine ixs_c (f:=StanzaStanza.v) H (fun _=>rfl) (fun x25 H=>?_);conv=>whnf
 refine ask_c (p_ref10_Light_v _) H rfl rfl (fun v26 H=>?_);conv=>whnf
 refine Tst.not ?_
 refine tst_d H (fun b27 H=>?_) (fun b27 H=>?_)
 ·conv=>whnf
  refine ask_c (p_law35_awake_v) H rfl rfl (fun v30 H=>?_);conv=>whnf
  obtain rfl:=Option.some.inj H
  have H:=HQ6
  try dsimp only at H
  exact fb_ H
 conv=>whnf
 refine ixs_c (f:=StanzaStanza.v) H (fun _=>rfl) (fun x28 H=>?_);conv=>whnf
 refine appO_c (f:=StanzaStanza.v) H (fun _=>rfl) rfl (Nat.le_refl _) (.v (srcOwn (f:=StanzaStanza.v) (l:=[x28]) (fun _=>rfl) rfl rfl rfl)) (by decide) rfl (by simp) (fun l29 H=>?_);conv=>whnf
 refine Ari.w ?_;conv=>whnf
 exact again_c [9,10,11,12,13,14,15,16,17,18,19,20,21,22,23,24,25,26,27,28] n7 1 [2] (.inr (⟨_,_,H,rfl,rfl⟩)) (Nat.lt_succ_self _) (Nat.zero_le _) rfl (by kernel_rfl) (by kernel_rfl) rfl (wkB_live0 rfl (cellsM_idlt (f:=StanzaStanza.v) (fun _=>rfl) _) rfl trivial)
end Go.Proofs.YtpmoioopjbfhkaaGreat

/- Closed facts of the statement ViewRuns. -/
namespace Go.Proofs.YtpmoioopjbfhkaaGreat
open Go.ChangeShapes Go.WideShapes Go.ChangeAt Go.RowKit Go.Joins Go.Deep
theorem viewRuns_named:Tryz.pinned.checked.prog.funcNamed Rows.viewRunsRow.func=some 6:=by kernel_rfl
theorem viewRuns_closed:joinedFacts Tryz.pinned.checked.prog 6 Tryz.f6 Rows.viewRunsSpec Rows.viewRunsRow=true:=by kernel_rfl
end Go.Proofs.YtpmoioopjbfhkaaGreat

/- ViewRuns: for every input the call returns true, and its arguments read as they did. -/
namespace Go.Proofs.YtpmoioopjbfhkaaGreat
open Go.ChangeShapes Go.WideShapes Go.ChangeAt Go.RowKit Go.Joins Go.Deep
set_option maxRecDepth 100000 in
theorem viewRuns_lifted (os:Os) (started:os.Started) (H:Type) (enc:TypeId × Value→H) :
  ReturnsInHanded {} Tryz.checked os 6 .any (Rows.viewRunsSpec.pre6 enc Tryz.prog Tryz.f6 Rows.viewRunsRow.domain false) (Rows.viewRunsSpec.post enc Tryz.prog Tryz.f6 false true false false):=by
 refine returnsInHanded_of_change_shaped (C:=Tryz.checked) own0 started (by kernel_rfl) Tryz.func6
  (ChangeSpec.witness6 (enc:=enc) (C:=Tryz.checked) false ⟨#[],#[.slice none 0 0],[]⟩ 8 (by kernel_rfl) (by kernel_rfl) (by kernel_rfl) (by kernel_rfl)) ?_
 intro W base args ds gs before hval0 hW hcnd _ hsh _
 have hval:∀ (j:Nat) t v,Tryz.f6.params[j]?=some t→args[j]?=some v→Value.okWide Tryz.prog W .any base t v:=hval0
 have hW':=hW
 obtain ⟨p,q,hA0,hV,rfl,hfz,hnd⟩:=hW
 have hA:DataW.TrodAll enc Tryz.prog W 0 (fun _=>true) true Tryz.f6.params.toList args.toList ds p:=hA0
 rw [Tryz.params6] at hA hval
 have hA2:=hA
 obtain ⟨v0,d0,rfl,rfl,h0⟩:=trodAll_one hA
 obtain ⟨rfl,rfl⟩:=trodVars_none hV
 obtain ⟨fu0,hf0⟩:=h0
 obtain ⟨q0,l0,k0,rfl⟩:=okWide_slice Tryz.underlying73 (hval 0 _ v0 rfl rfl)
 obtain ⟨a0,w0,r0⟩:=rd_T73 hf0
 have hx0:Rep (MW W) noBk _ _:=r0.2 0 (by simp [Value.cells]) (by simp)
 refine (rep_one (callsO_true (p_law35_ViewRuns_v a0) (tru_ok (viewRuns_pure a0))) (maxLen_cell W hsh) (repAr1 hx0)).mono ?_
 rintro e W' ⟨rfl,bel⟩
 refine ⟨_,rfl,_,_,_,[],p,[],hW',?_,?_,?_,?_,?_⟩
 ·exact trodAll_mk1 (shut_bool Tryz.underlying4 true)
 ·exact trodAll_below laid0 bel (by
   intro t ht
   simp at ht
   rcases ht with rfl <;> exact ⟨by kernel_rfl,of_decide_eq_true (by kernel_rfl)⟩) hA2
 ·rfl
 ·exact bel.frame _
 ·exact fun h=>by cases h
theorem viewRuns_holds:Rows.ViewRunsSaid :=
 OpenClaim.holds_of_wide 6 Tryz.f6 rfl rfl rfl rfl rfl rfl rfl ⟨rfl,rfl,rfl,rfl,rfl⟩ rfl rfl rfl rfl rfl viewRuns_named Tryz.func6 viewRuns_closed
  (of_decide_eq_true (by kernel_rfl)) (by unfold Func.isWrapper;first | (rw [if_pos (by decide +kernel)];kernel_rfl) | (rw [if_neg (by decide +kernel)];exact ⟨rfl,rfl⟩))
  (fun os started H enc _=>viewRuns_lifted os started H enc)
#print axioms viewRuns_holds
end Go.Proofs.YtpmoioopjbfhkaaGreat

