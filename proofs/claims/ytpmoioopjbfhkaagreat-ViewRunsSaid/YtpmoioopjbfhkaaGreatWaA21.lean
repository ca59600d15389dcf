/- A part of the proof: 3 texts joined. -/
import Derived.Test.YtpmoioopjbfhkaaGreatWaA14
import Derived.Test.YtpmoioopjbfhkaaGreatWaA12
import Derived.Test.YtpmoioopjbfhkaaGreatWaA19
import Derived.Test.YtpmoioopjbfhkaaGreatWaA20
import Derived.Test.YtpmoioopjbfhkaaGreatWaA11
import Derived.KernelRfl
import Derived.Test.YtpmoioopjbfhkaaGreatWaA18
set_option linter.all false
/- That the program's functions yield what the plain ones tell (written by a program of mine). -/
namespace Go.Proofs.YtpmoioopjbfhkaaGreat
open Go.RowKit
set_option maxRecDepth 100000
set_option maxHeartbeats 4000000
def gc179:BCode:=(.seq (.reg 3 [⟨(some 2),.bx (.tmp 0),none,0⟩,⟨(some 3),.bx (.tmp 1),none,1⟩,⟨(some 4),.al (.agg [(.sl [] true),(.sl [] true),(.lit (.bool false)),(.sl [] true),(.sl [] true),(.lit (.int .i64 0)),(.lit (.int .i64 0))]),none,2⟩] none 0 []) (.seq (.reg 1 [⟨(some 14),.ld 8 true (.tmp 3),none,0⟩,⟨(some 15),.cl 225 [(.tmp 14)],none,0⟩,⟨(some 13),.mv (.tmp 15),none,0⟩,⟨(some 16),.ex (.tmp 13) 0,none,0⟩,⟨(some 17),.ex (.tmp 13) 1,none,0⟩,⟨(some 18),.ex (.tmp 13) 2,none,0⟩,⟨(some 19),.ex (.tmp 13) 3,none,0⟩,⟨(some 7),.al (.agg [(.lit (.bool false)),(.lit (.int .i64 0)),(.lit (.int .i64 0)),(.lit (.int .i64 0))]),none,0⟩,⟨(some 5),.mv (.tmp 16),none,1⟩,⟨(some 6),.mv (.tmp 17),none,1⟩,⟨none,.st 4 (.tmp 7) (.tmp 18),none,1⟩,⟨(some 8),.mv (.tmp 19),none,1⟩] none 0 []) (.seq (.seq (.reg 0 [⟨(some 20),.mv (.tmp 8),none,0⟩,⟨(some 21),.bin .neq (.tmp 20) (.const (.int .i64 0)),none,0⟩] none 0 []) (.cond (.tmp 21) (.seq (.reg 0 [⟨(some 22),.ld 7 true (.tmp 2),none,0⟩,⟨none,.st 7 (.tmp 4) (.tmp 22),none,0⟩] none 0 []) .ret) .skip)) (.seq (.reg 1 [⟨(some 23),.mv (.tmp 5),none,0⟩,⟨(some 24),.mv (.tmp 6),none,0⟩,⟨(some 25),.cl 187 [(.tmp 23),(.tmp 24)],none,0⟩,⟨(some 26),.ld 4 true (.tmp 7),none,0⟩,⟨(some 27),.bd [(.lit (.string ⟨#[]⟩)),(.lit (.bool false)),(.lit (.int .i64 0)),(.lit (.int .i64 0)),(.lit (.int .i64 0))] [(0,1,(.tmp 25)),(1,4,(.tmp 26))],none,0⟩,⟨(some 9),.al (.agg [(.lit (.string ⟨#[]⟩)),(.lit (.bool false)),(.lit (.int .i64 0)),(.lit (.int .i64 0)),(.lit (.int .i64 0))]),none,0⟩,⟨none,.st 5 (.tmp 9) (.tmp 27),none,1⟩] (some [[],[],[1,0],[],[3,0,1,2],[],[2,1,0,3,4,5]]) 0 []) (.seq (.seq (.reg 0 [⟨(some 29),.fa 1 (.tmp 2),none,0⟩,⟨(some 30),.ld 1 false (.tmp 29),none,0⟩,⟨(some 31),.fa 0 (.tmp 9),none,0⟩,⟨(some 32),.ld 1 false (.tmp 31),none,0⟩,⟨(some 33),.cl 226 [(.tmp 30),(.tmp 32),(.func 189)],none,0⟩,⟨(some 28),.mv (.tmp 33),none,0⟩,⟨(some 34),.ex (.tmp 28) 0,none,0⟩,⟨(some 35),.ex (.tmp 28) 1,none,0⟩,⟨(some 10),.mv (.tmp 34),none,0⟩,⟨(some 11),.mv (.tmp 35),none,0⟩] none 0 []) (.seq (.reg 0 [⟨(some 36),.mv (.tmp 11),none,0⟩] none 0 []) (.cond (.tmp 36) (.seq (.reg 1 [⟨(some 37),.fa 1 (.tmp 2),none,0⟩,⟨(some 38),.ld 1 false (.tmp 37),none,0⟩,⟨(some 39),.mv (.tmp 10),none,0⟩,⟨(some 40),.ixs 5 (.tmp 38) (.tmp 39),none,0⟩,⟨(some 41),.fa 1 (.tmp 40),none,0⟩,⟨(some 42),.ld 4 true (.tmp 41),none,0⟩,⟨(some 12),.al (.agg [(.lit (.bool false)),(.lit (.int .i64 0)),(.lit (.int .i64 0)),(.lit (.int .i64 0))]),none,0⟩,⟨none,.st 4 (.tmp 12) (.tmp 42),none,1⟩] none 0 []) (.seq (.reg 0 [⟨(some 43),.ld 4 true (.tmp 12),none,0⟩,⟨(some 44),.ld 4 true (.tmp 7),none,0⟩,⟨(some 45),.cl 227 [(.tmp 43),(.tmp 44)],none,0⟩,⟨(some 46),.mv (.tmp 45),none,0⟩,⟨(some 47),.fa 3 (.tmp 12),(some (46,false)),0⟩,⟨(some 48),.ld 1 false (.tmp 47),(some (46,false)),0⟩,⟨(some 49),.fa 3 (.tmp 7),(some (46,false)),0⟩,⟨(some 50),.ld 1 false (.tmp 49),(some (46,false)),0⟩,⟨(some 51),.bin .eql (.tmp 48) (.tmp 50),(some (46,false)),0⟩,⟨(some 52),.mv (.tmp 51),(some (46,false)),0⟩,⟨(some 53),.fa 2 (.tmp 2),(some (52,true)),0⟩,⟨(some 54),.ld 1 false (.tmp 53),(some (52,true)),0⟩,⟨(some 55),.un .not (.tmp 54),(some (52,true)),0⟩,⟨(some 56),.pick (.tmp 52) (.tmp 55) (.const (.bool false)),(some (46,false)),0⟩,⟨(some 57),.pick (.tmp 46) (.const (.bool true)) (.tmp 56),none,0⟩] none 0 []) (.cond (.tmp 57) (.reg 0 [⟨(some 58),.fa 5 (.tmp 2),none,0⟩,⟨(some 59),.ld 1 false (.tmp 58),none,0⟩,⟨(some 60),.bin .add (.tmp 59) (.const (.int .i64 1)),none,0⟩,⟨(some 61),.mn false (.tmp 60) (.const (.int .i64 1099511627776)),none,0⟩,⟨(some 62),.fa 5 (.tmp 2),none,0⟩,⟨none,.st 1 (.tmp 62) (.tmp 61),none,0⟩] none 0 []) .skip))) .skip))) (.seq (.reg 0 [⟨(some 63),.fa 1 (.tmp 2),none,0⟩,⟨(some 64),.ld 1 false (.tmp 63),none,0⟩,⟨(some 65),.ld 5 true (.tmp 9),none,0⟩,⟨(some 66),.cl 228 [(.tmp 64),(.tmp 65),(.func 189)],none,0⟩,⟨(some 67),.fa 1 (.tmp 2),none,0⟩,⟨none,.st 1 (.tmp 67) (.tmp 66),none,0⟩] none 0 []) (.seq (.seq (.reg 0 [⟨(some 68),.fa 0 (.tmp 7),none,0⟩,⟨(some 69),.ld 1 false (.tmp 68),none,0⟩] none 0 []) (.cond (.tmp 69) (.reg 0 [⟨(some 70),.fa 0 (.tmp 2),none,0⟩,⟨(some 71),.ld 1 false (.tmp 70),none,0⟩,⟨(some 72),.ld 5 true (.tmp 9),none,0⟩,⟨(some 73),.cl 228 [(.tmp 71),(.tmp 72),(.func 189)],none,0⟩,⟨(some 74),.fa 0 (.tmp 2),none,0⟩,⟨none,.st 1 (.tmp 74) (.tmp 73),none,0⟩] none 0 []) (.reg 0 [⟨(some 75),.fa 0 (.tmp 2),none,0⟩,⟨(some 76),.ld 1 false (.tmp 75),none,0⟩,⟨(some 77),.fa 0 (.tmp 9),none,0⟩,⟨(some 78),.ld 1 false (.tmp 77),none,0⟩,⟨(some 79),.cl 229 [(.tmp 76),(.tmp 78),(.func 189)],none,0⟩,⟨(some 80),.fa 0 (.tmp 2),none,0⟩,⟨none,.st 1 (.tmp 80) (.tmp 79),none,0⟩] none 0 []))) (.seq (.seq (.reg 0 [⟨(some 81),.fa 2 (.tmp 2),none,0⟩,⟨(some 82),.ld 1 false (.tmp 81),none,0⟩] none 0 []) (.cond (.tmp 82) (.reg 0 [⟨(some 83),.fa 3 (.tmp 2),none,0⟩,⟨(some 84),.ld 1 false (.tmp 83),none,0⟩,⟨(some 85),.fa 0 (.tmp 9),none,0⟩,⟨(some 86),.ld 1 false (.tmp 85),none,0⟩,⟨(some 87),.cl 230 [(.tmp 84),(.tmp 86),(.func 191)],none,0⟩,⟨(some 88),.fa 3 (.tmp 2),none,0⟩,⟨none,.st 1 (.tmp 88) (.tmp 87),none,0⟩] none 0 []) .skip)) (.seq (.reg 0 [⟨(some 89),.ld 7 true (.tmp 2),none,0⟩,⟨none,.st 7 (.tmp 4) (.tmp 89),none,0⟩] none 0 []) .ret)))))))))
theorem gc179_ok:compF Tryz.prog Tryz.f179=some (gc179.er,90,[.cell 4 7 true]):=by unfold gc179;kernel_rfl
theorem p_view_State_row_v {u1 u2 u3 u4:Bool} (a0:Ref35State) (a1:StanzaStanza):CallsO Tryz.prog 179 [.agg [.sl (List.map MailEntry.v a0.Rows) u1,.sl (List.map MailEntry.v a0.Last) u2,.b a0.Anew,.sl (List.map V.s a0.Seen) u3,.sl (List.map Ref35Contact.v a0.List) u4,.i a0.Odd,.i a0.Told],.agg [.y8 a1.Kind,.s a1.User,.s a1.Res,.s a1.Name,.i a1.Show,.i a1.Prio,.i a1.Code,.i a1.N]] Ref35State.v (p_view_State_row a0 a1):=by
 refine callsO_comp mix Tryz.func179 gc179_ok fun r H=>?_
 rw [p_view_State_row] at H
 conv=>whnf
 refine ask_c (p_pres_Of_v _) H rfl rfl (fun v1 H=>?_);conv=>whnf
 refine ⟨Nat.le_of_ble_eq_true rfl,?_⟩;conv=>whnf
 refine tst_c H (fun b2 H=>?_) (fun b2 H=>?_)
 ·conv=>whnf
  refine ⟨Nat.le_of_ble_eq_true rfl,?_⟩;conv=>whnf
  refine finR_c (enc:=Ref35State.v) H ?_;conv=>whnf
  exact ⟨_,.v (fzagg (.cons (.slw) (.cons (.slw) (.cons (.id rfl) (.cons (.slw) (.cons (.slw) (.cons (.id rfl) (.cons (.id rfl) (.nil)))))))) rfl)⟩
 conv=>whnf
 refine ask_c (p_pres_Key_v _ _) H rfl rfl (fun v3 H=>?_);conv=>whnf
 refine ⟨Nat.le_of_ble_eq_true rfl,?_⟩;conv=>whnf
 refine FootQ.mk ⟨rfl,?_⟩;conv=>whnf
 refine askF_c (p_view_find_view_Row__v _ _ _ ⟨⟨_,Tryz.func189,by kernel_rfl,by kernel_rfl⟩,rfl,fun x0=>p_view_Row_key_v _⟩) H (.cons (.c (.slw)) (.cons (.c (.id rfl)) (.cons (.c (.clo (.nil))) (.nil)))) (fun v4 H=>?_);conv=>whnf
 refine tst_d H (fun b5 H=>?_) (fun b5 H=>?_)
 ·conv=>whnf
  refine askF_c (p_view_put_view_Row__v _ _ _ ⟨⟨_,Tryz.func189,by kernel_rfl,by kernel_rfl⟩,rfl,fun x0=>p_view_Row_key_v _⟩) H (.cons (.c (.slw)) (.cons (fzagg (.cons (.id rfl) (.cons (.id rfl) (.cons (.id rfl) (.cons (.id rfl) (.cons (.id rfl) (.nil)))))) rfl) (.cons (.c (.clo (.nil))) (.nil)))) (fun v37 H=>?_);conv=>whnf
  refine ⟨Nat.le_of_ble_eq_true rfl,?_⟩;conv=>whnf
  refine tst_d H (fun b38 H=>?_) (fun b38 H=>?_)
  ·conv=>whnf
   refine askF_c (p_view_cut_view_Row__v _ _ _ ⟨⟨_,Tryz.func189,by kernel_rfl,by kernel_rfl⟩,rfl,fun x0=>p_view_Row_key_v _⟩) H (.cons (.c (.slw)) (.cons (.c (.id rfl)) (.cons (.c (.clo (.nil))) (.nil)))) (fun v42 H=>?_);conv=>whnf
   refine ⟨Nat.le_of_ble_eq_true rfl,?_⟩;conv=>whnf
   refine tst_d H (fun b43 H=>?_) (fun b43 H=>?_)
   ·conv=>whnf
    refine ⟨Nat.le_of_ble_eq_true rfl,?_⟩;conv=>whnf
    refine finR_c (enc:=Ref35State.v) H ?_;conv=>whnf
    exact ⟨_,.v (fzagg (.cons (.id rfl) (.cons (.id rfl) (.cons (.id rfl) (.cons (.slw) (.cons (.slw) (.cons (.id rfl) (.cons (.id rfl) (.nil)))))))) rfl)⟩
   conv=>whnf
   refine askF_c (p_view_put_string__v _ _ _ ⟨⟨_,Tryz.func191,by kernel_rfl,by kernel_rfl⟩,rfl,fun x0=>p_view_itself_v _⟩) H (.cons (.c (.slw)) (.cons (.c (.id rfl)) (.cons (.c (.clo (.nil))) (.nil)))) (fun v44 H=>?_);conv=>whnf
   refine ⟨Nat.le_of_ble_eq_true rfl,?_⟩;conv=>whnf
   refine ⟨Nat.le_of_ble_eq_true rfl,?_⟩;conv=>whnf
   refine finR_c (enc:=Ref35State.v) H ?_;conv=>whnf
   exact ⟨_,.v (fzagg (.cons (.id rfl) (.cons (.id rfl) (.cons (.id rfl) (.cons (.id rfl) (.cons (.slw) (.cons (.id rfl) (.cons (.id rfl) (.nil)))))))) rfl)⟩
  conv=>whnf
  refine askF_c (p_view_put_view_Row__v _ _ _ ⟨⟨_,Tryz.func189,by kernel_rfl,by kernel_rfl⟩,rfl,fun x0=>p_view_Row_key_v _⟩) H (.cons (.c (.slw)) (.cons (fzagg (.cons (.id rfl) (.cons (.id rfl) (.cons (.id rfl) (.cons (.id rfl) (.cons (.id rfl) (.nil)))))) rfl) (.cons (.c (.clo (.nil))) (.nil)))) (fun v39 H=>?_);conv=>whnf
  refine ⟨Nat.le_of_ble_eq_true rfl,?_⟩;conv=>whnf
  refine tst_d H (fun b40 H=>?_) (fun b40 H=>?_)
  ·conv=>whnf
   refine ⟨Nat.le_of_ble_eq_true rfl,?_⟩;conv=>whnf
   refine finR_c (enc:=Ref35State.v) H ?_;conv=>whnf
   exact ⟨_,.v (fzagg (.cons (.id rfl) (.cons (.id rfl) (.cons (.id rfl) (.cons (.slw) (.cons (.slw) (.cons (.id rfl) (.cons (.id rfl) (.nil)))))))) rfl)⟩
  conv=>whnf
  refine askF_c (p_view_put_string__v _ _ _ ⟨⟨_,Tryz.func191,by kernel_rfl,by kernel_rfl⟩,rfl,fun x0=>p_view_itself_v _⟩) H (.cons (.c (.slw)) (.cons (.c (.id rfl)) (.cons (.c (.clo (.nil))) (.nil)))) (fun v41 H=>?_);conv=>whnf
  refine ⟨Nat.le_of_ble_eq_true rfl,?_⟩;conv=>whnf
  refine ⟨Nat.le_of_ble_eq_true rfl,?_⟩;conv=>whnf
  refine finR_c (enc:=Ref35State.v) H ?_;conv=>whnf
  exact ⟨_,.v (fzagg (.cons (.id rfl) (.cons (.id rfl) (.cons (.id rfl) (.cons (.id rfl) (.cons (.slw) (.cons (.id rfl) (.cons (.id rfl) (.nil)))))))) rfl)⟩
 conv=>whnf
 refine ixs_c (f:=MailEntry.v) H (fun _=>rfl) (fun x6 H=>?_);conv=>whnf
 refine ⟨Nat.le_of_ble_eq_true rfl,?_⟩;conv=>whnf
 refine ⟨Nat.le_of_ble_eq_true rfl,?_⟩;conv=>whnf
 refine ask_c (p_pres_Newer_v _ _) H rfl rfl (fun v7 H=>?_);conv=>whnf
 refine tst_c H (fun b8 H=>?_) (fun b8 H=>?_)
 ·conv=>whnf
  iterate 8 (refine Tst.T ?_;conv=>whnf)
  refine Ari.w ?_;conv=>whnf
  refine ⟨Nat.le_of_ble_eq_true rfl,?_⟩;conv=>whnf
  refine askF_c (p_view_put_view_Row__v _ _ _ ⟨⟨_,Tryz.func189,by kernel_rfl,by kernel_rfl⟩,rfl,fun x0=>p_view_Row_key_v _⟩) H (.cons (.c (.slw)) (.cons (fzagg (.cons (.id rfl) (.cons (.id rfl) (.cons (.id rfl) (.cons (.id rfl) (.cons (.id rfl) (.nil)))))) rfl) (.cons (.c (.clo (.nil))) (.nil)))) (fun v9 H=>?_);conv=>whnf
  refine ⟨Nat.le_of_ble_eq_true rfl,?_⟩;conv=>whnf
  refine tst_d H (fun b10 H=>?_) (fun b10 H=>?_)
  ·conv=>whnf
   refine askF_c (p_view_cut_view_Row__v _ _ _ ⟨⟨_,Tryz.func189,by kernel_rfl,by kernel_rfl⟩,rfl,fun x0=>p_view_Row_key_v _⟩) H (.cons (.c (.slw)) (.cons (.c (.id rfl)) (.cons (.c (.clo (.nil))) (.nil)))) (fun v14 H=>?_);conv=>whnf
   refine ⟨Nat.le_of_ble_eq_true rfl,?_⟩;conv=>whnf
   refine tst_d H (fun b15 H=>?_) (fun b15 H=>?_)
   ·conv=>whnf
    refine ⟨Nat.le_of_ble_eq_true rfl,?_⟩;conv=>whnf
    refine finR_c (enc:=Ref35State.v) H ?_;conv=>whnf
    exact ⟨_,.v (fzagg (.cons (.id rfl) (.cons (.id rfl) (.cons (.id rfl) (.cons (.slw) (.cons (.slw) (.cons (.id rfl) (.cons (.id rfl) (.nil)))))))) rfl)⟩
   conv=>whnf
   refine askF_c (p_view_put_string__v _ _ _ ⟨⟨_,Tryz.func191,by kernel_rfl,by kernel_rfl⟩,rfl,fun x0=>p_view_itself_v _⟩) H (.cons (.c (.slw)) (.cons (.c (.id rfl)) (.cons (.c (.clo (.nil))) (.nil)))) (fun v16 H=>?_);conv=>whnf
   refine ⟨Nat.le_of_ble_eq_true rfl,?_⟩;conv=>whnf
   refine ⟨Nat.le_of_ble_eq_true rfl,?_⟩;conv=>whnf
   refine finR_c (enc:=Ref35State.v) H ?_;conv=>whnf
   exact ⟨_,.v (fzagg (.cons (.id rfl) (.cons (.id rfl) (.cons (.id rfl) (.cons (.id rfl) (.cons (.slw) (.cons (.id rfl) (.cons (.id rfl) (.nil)))))))) rfl)⟩
  conv=>whnf
  refine askF_c (p_view_put_view_Row__v _ _ _ ⟨⟨_,Tryz.func189,by kernel_rfl,by kernel_rfl⟩,rfl,fun x0=>p_view_Row_key_v _⟩) H (.cons (.c (.slw)) (.cons (fzagg (.cons (.id rfl) (.cons (.id rfl) (.cons (.id rfl) (.cons (.id rfl) (.cons (.id rfl) (.nil)))))) rfl) (.cons (.c (.clo (.nil))) (.nil)))) (fun v11 H=>?_);conv=>whnf
  refine ⟨Nat.le_of_ble_eq_true rfl,?_⟩;conv=>whnf
  refine tst_d H (fun b12 H=>?_) (fun b12 H=>?_)
  ·conv=>whnf
   refine ⟨Nat.le_of_ble_eq_true rfl,?_⟩;conv=>whnf
   refine finR_c (enc:=Ref35State.v) H ?_;conv=>whnf
   exact ⟨_,.v (fzagg (.cons (.id rfl) (.cons (.id rfl) (.cons (.id rfl) (.cons (.slw) (.cons (.slw) (.cons (.id rfl) (.cons (.id rfl) (.nil)))))))) rfl)⟩
  conv=>whnf
  refine askF_c (p_view_put_string__v _ _ _ ⟨⟨_,Tryz.func191,by kernel_rfl,by kernel_rfl⟩,rfl,fun x0=>p_view_itself_v _⟩) H (.cons (.c (.slw)) (.cons (.c (.id rfl)) (.cons (.c (.clo (.nil))) (.nil)))) (fun v13 H=>?_);conv=>whnf
  refine ⟨Nat.le_of_ble_eq_true rfl,?_⟩;conv=>whnf
  refine ⟨Nat.le_of_ble_eq_true rfl,?_⟩;conv=>whnf
  refine finR_c (enc:=Ref35State.v) H ?_;conv=>whnf
  exact ⟨_,.v (fzagg (.cons (.id rfl) (.cons (.id rfl) (.cons (.id rfl) (.cons (.id rfl) (.cons (.slw) (.cons (.id rfl) (.cons (.id rfl) (.nil)))))))) rfl)⟩
 conv=>whnf
 iterate 5 (refine Tst.F ?_;conv=>whnf)
 refine tst_d H (fun b17 H=>?_) (fun b17 H=>?_)
 ·conv=>whnf
  iterate 6 (refine Tst.F ?_;conv=>whnf)
  refine askF_c (p_view_put_view_Row__v _ _ _ ⟨⟨_,Tryz.func189,by kernel_rfl,by kernel_rfl⟩,rfl,fun x0=>p_view_Row_key_v _⟩) H (.cons (.c (.slw)) (.cons (fzagg (.cons (.id rfl) (.cons (.id rfl) (.cons (.id rfl) (.cons (.id rfl) (.cons (.id rfl) (.nil)))))) rfl) (.cons (.c (.clo (.nil))) (.nil)))) (fun v29 H=>?_);conv=>whnf
  refine ⟨Nat.le_of_ble_eq_true rfl,?_⟩;conv=>whnf
  refine tst_d H (fun b30 H=>?_) (fun b30 H=>?_)
  ·conv=>whnf
   refine askF_c (p_view_cut_view_Row__v _ _ _ ⟨⟨_,Tryz.func189,by kernel_rfl,by kernel_rfl⟩,rfl,fun x0=>p_view_Row_key_v _⟩) H (.cons (.c (.slw)) (.cons (.c (.id rfl)) (.cons (.c (.clo (.nil))) (.nil)))) (fun v34 H=>?_);conv=>whnf
   refine ⟨Nat.le_of_ble_eq_true rfl,?_⟩;conv=>whnf
   refine tst_d H (fun b35 H=>?_) (fun b35 H=>?_)
   ·conv=>whnf
    refine ⟨Nat.le_of_ble_eq_true rfl,?_⟩;conv=>whnf
    refine finR_c (enc:=Ref35State.v) H ?_;conv=>whnf
    exact ⟨_,.v (fzagg (.cons (.id rfl) (.cons (.id rfl) (.cons (.id rfl) (.cons (.slw) (.cons (.slw) (.cons (.id rfl) (.cons (.id rfl) (.nil)))))))) rfl)⟩
   conv=>whnf
   refine askF_c (p_view_put_string__v _ _ _ ⟨⟨_,Tryz.func191,by kernel_rfl,by kernel_rfl⟩,rfl,fun x0=>p_view_itself_v _⟩) H (.cons (.c (.slw)) (.cons (.c (.id rfl)) (.cons (.c (.clo (.nil))) (.nil)))) (fun v36 H=>?_);conv=>whnf
   refine ⟨Nat.le_of_ble_eq_true rfl,?_⟩;conv=>whnf
   refine ⟨Nat.le_of_ble_eq_true rfl,?_⟩;conv=>whnf
   refine finR_c (enc:=Ref35State.v) H ?_;conv=>whnf
   exact ⟨_,.v (fzagg (.cons (.id rfl) (.cons (.id rfl) (.cons (.id rfl) (.cons (.id rfl) (.cons (.slw) (.cons (.id rfl) (.cons (.id rfl) (.nil)))))))) rfl)⟩
  conv=>whnf
  refine askF_c (p_view_put_view_Row__v _ _ _ ⟨⟨_,Tryz.func189,by kernel_rfl,by kernel_rfl⟩,rfl,fun x0=>p_view_Row_key_v _⟩) H (.cons (.c (.slw)) (.cons (fzagg (.cons (.id rfl) (.cons (.id rfl) (.cons (.id rfl) (.cons (.id rfl) (.cons (.id rfl) (.nil)))))) rfl) (.cons (.c (.clo (.nil))) (.nil)))) (fun v31 H=>?_);conv=>whnf
  refine ⟨Nat.le_of_ble_eq_true rfl,?_⟩;conv=>whnf
  refine tst_d H (fun b32 H=>?_) (fun b32 H=>?_)
  ·conv=>whnf
   refine ⟨Nat.le_of_ble_eq_true rfl,?_⟩;conv=>whnf
   refine finR_c (enc:=Ref35State.v) H ?_;conv=>whnf
   exact ⟨_,.v (fzagg (.cons (.id rfl) (.cons (.id rfl) (.cons (.id rfl) (.cons (.slw) (.cons (.slw) (.cons (.id rfl) (.cons (.id rfl) (.nil)))))))) rfl)⟩
  conv=>whnf
  refine askF_c (p_view_put_string__v _ _ _ ⟨⟨_,Tryz.func191,by kernel_rfl,by kernel_rfl⟩,rfl,fun x0=>p_view_itself_v _⟩) H (.cons (.c (.slw)) (.cons (.c (.id rfl)) (.cons (.c (.clo (.nil))) (.nil)))) (fun v33 H=>?_);conv=>whnf
  refine ⟨Nat.le_of_ble_eq_true rfl,?_⟩;conv=>whnf
  refine ⟨Nat.le_of_ble_eq_true rfl,?_⟩;conv=>whnf
  refine finR_c (enc:=Ref35State.v) H ?_;conv=>whnf
  exact ⟨_,.v (fzagg (.cons (.id rfl) (.cons (.id rfl) (.cons (.id rfl) (.cons (.id rfl) (.cons (.slw) (.cons (.id rfl) (.cons (.id rfl) (.nil)))))))) rfl)⟩
 conv=>whnf
 iterate 2 (refine Tst.T ?_;conv=>whnf)
 refine Tst.F ?_;conv=>whnf
 refine Tst.T ?_;conv=>whnf
 refine Tst.F ?_;conv=>whnf
 refine Tst.not ?_
 refine tst_d H (fun b18 H=>?_) (fun b18 H=>?_)
 ·conv=>whnf
  refine Ari.w ?_;conv=>whnf
  refine ⟨Nat.le_of_ble_eq_true rfl,?_⟩;conv=>whnf
  refine askF_c (p_view_put_view_Row__v _ _ _ ⟨⟨_,Tryz.func189,by kernel_rfl,by kernel_rfl⟩,rfl,fun x0=>p_view_Row_key_v _⟩) H (.cons (.c (.slw)) (.cons (fzagg (.cons (.id rfl) (.cons (.id rfl) (.cons (.id rfl) (.cons (.id rfl) (.cons (.id rfl) (.nil)))))) rfl) (.cons (.c (.clo (.nil))) (.nil)))) (fun v25 H=>?_);conv=>whnf
  refine ⟨Nat.le_of_ble_eq_true rfl,?_⟩;conv=>whnf
  refine tst_d H (fun b26 H=>?_) (fun b26 H=>?_)
  ·conv=>whnf
   refine askF_c (p_view_cut_view_Row__v _ _ _ ⟨⟨_,Tryz.func189,by kernel_rfl,by kernel_rfl⟩,rfl,fun x0=>p_view_Row_key_v _⟩) H (.cons (.c (.slw)) (.cons (.c (.id rfl)) (.cons (.c (.clo (.nil))) (.nil)))) (fun v28 H=>?_);conv=>whnf
   refine ⟨Nat.le_of_ble_eq_true rfl,?_⟩;conv=>whnf
   refine Tst.isF b18 ?_;conv=>whnf
   refine ⟨Nat.le_of_ble_eq_true rfl,?_⟩;conv=>whnf
   refine finR_c (enc:=Ref35State.v) H ?_;conv=>whnf
   exact ⟨_,.v (fzagg (.cons (.id rfl) (.cons (.id rfl) (.cons (.id rfl) (.cons (.slw) (.cons (.slw) (.cons (.id rfl) (.cons (.id rfl) (.nil)))))))) rfl)⟩
  conv=>whnf
  refine askF_c (p_view_put_view_Row__v _ _ _ ⟨⟨_,Tryz.func189,by kernel_rfl,by kernel_rfl⟩,rfl,fun x0=>p_view_Row_key_v _⟩) H (.cons (.c (.slw)) (.cons (fzagg (.cons (.id rfl) (.cons (.id rfl) (.cons (.id rfl) (.cons (.id rfl) (.cons (.id rfl) (.nil)))))) rfl) (.cons (.c (.clo (.nil))) (.nil)))) (fun v27 H=>?_);conv=>whnf
  refine ⟨Nat.le_of_ble_eq_true rfl,?_⟩;conv=>whnf
  refine Tst.isF b18 ?_;conv=>whnf
  refine ⟨Nat.le_of_ble_eq_true rfl,?_⟩;conv=>whnf
  refine finR_c (enc:=Ref35State.v) H ?_;conv=>whnf
  exact ⟨_,.v (fzagg (.cons (.id rfl) (.cons (.id rfl) (.cons (.id rfl) (.cons (.slw) (.cons (.slw) (.cons (.id rfl) (.cons (.id rfl) (.nil)))))))) rfl)⟩
 conv=>whnf
 refine askF_c (p_view_put_view_Row__v _ _ _ ⟨⟨_,Tryz.func189,by kernel_rfl,by kernel_rfl⟩,rfl,fun x0=>p_view_Row_key_v _⟩) H (.cons (.c (.slw)) (.cons (fzagg (.cons (.id rfl) (.cons (.id rfl) (.cons (.id rfl) (.cons (.id rfl) (.cons (.id rfl) (.nil)))))) rfl) (.cons (.c (.clo (.nil))) (.nil)))) (fun v19 H=>?_);conv=>whnf
 refine ⟨Nat.le_of_ble_eq_true rfl,?_⟩;conv=>whnf
 refine tst_d H (fun b20 H=>?_) (fun b20 H=>?_)
 ·conv=>whnf
  refine askF_c (p_view_cut_view_Row__v _ _ _ ⟨⟨_,Tryz.func189,by kernel_rfl,by kernel_rfl⟩,rfl,fun x0=>p_view_Row_key_v _⟩) H (.cons (.c (.slw)) (.cons (.c (.id rfl)) (.cons (.c (.clo (.nil))) (.nil)))) (fun v23 H=>?_);conv=>whnf
  refine ⟨Nat.le_of_ble_eq_true rfl,?_⟩;conv=>whnf
  refine Tst.isT b18 ?_;conv=>whnf
  refine askF_c (p_view_put_string__v _ _ _ ⟨⟨_,Tryz.func191,by kernel_rfl,by kernel_rfl⟩,rfl,fun x0=>p_view_itself_v _⟩) H (.cons (.c (.slw)) (.cons (.c (.id rfl)) (.cons (.c (.clo (.nil))) (.nil)))) (fun v24 H=>?_);conv=>whnf
  refine ⟨Nat.le_of_ble_eq_true rfl,?_⟩;conv=>whnf
  refine ⟨Nat.le_of_ble_eq_true rfl,?_⟩;conv=>whnf
  refine finR_c (enc:=Ref35State.v) H ?_;conv=>whnf
  exact ⟨_,.v (fzagg (.cons (.id rfl) (.cons (.id rfl) (.cons (.id rfl) (.cons (.id rfl) (.cons (.slw) (.cons (.id rfl) (.cons (.id rfl) (.nil)))))))) rfl)⟩
 conv=>whnf
 refine askF_c (p_view_put_view_Row__v _ _ _ ⟨⟨_,Tryz.func189,by kernel_rfl,by kernel_rfl⟩,rfl,fun x0=>p_view_Row_key_v _⟩) H (.cons (.c (.slw)) (.cons (fzagg (.cons (.id rfl) (.cons (.id rfl) (.cons (.id rfl) (.cons (.id rfl) (.cons (.id rfl) (.nil)))))) rfl) (.cons (.c (.clo (.nil))) (.nil)))) (fun v21 H=>?_);conv=>whnf
 refine ⟨Nat.le_of_ble_eq_true rfl,?_⟩;conv=>whnf
 refine Tst.isT b18 ?_;conv=>whnf
 refine askF_c (p_view_put_string__v _ _ _ ⟨⟨_,Tryz.func191,by kernel_rfl,by kernel_rfl⟩,rfl,fun x0=>p_view_itself_v _⟩) H (.cons (.c (.slw)) (.cons (.c (.id rfl)) (.cons (.c (.clo (.nil))) (.nil)))) (fun v22 H=>?_);conv=>whnf
 refine ⟨Nat.le_of_ble_eq_true rfl,?_⟩;conv=>whnf
 refine ⟨Nat.le_of_ble_eq_true rfl,?_⟩;conv=>whnf
 refine finR_c (enc:=Ref35State.v) H ?_;conv=>whnf
 exact ⟨_,.v (fzagg (.cons (.id rfl) (.cons (.id rfl) (.cons (.id rfl) (.cons (.id rfl) (.cons (.slw) (.cons (.id rfl) (.cons (.id rfl) (.nil)))))))) rfl)⟩
def gc271:BCode:=(.seq (.reg 1 [⟨(some 3),.bx (.tmp 0),none,0⟩,⟨(some 5),.mv (.const (.int .i64 0)),none,1⟩] none 0 []) (.seq (.reg 0 [⟨(some 6),.ld 1 false (.tmp 2),none,0⟩,⟨(some 7),.ld 4 true (.tmp 3),none,0⟩,⟨(some 8),.cv (.tmp 6) [(.tmp 7)],none,0⟩,⟨(some 9),.mv (.tmp 1),none,0⟩,⟨(some 10),.cl 158 [(.tmp 8),(.tmp 9)],none,0⟩,⟨(some 5),.mv (.tmp 10),none,0⟩] none 0 []) .ret))
theorem gc271_ok:compF Tryz.prog Tryz.f271=some (gc271.er,11,[.tmp 5]):=by unfold gc271;kernel_rfl
theorem p_view_find_view_Contact__1_v (a0:Ref35Contact) (a1:ByteArray) (c0:Ref35Contact→Option ByteArray) {c0_g:Nat} {c0_k:List V} (c0_h:Clo1 Tryz.prog c0_g c0_k Ref35Contact.v V.s c0):CallsO Tryz.prog 271 [.agg [.s a0.User,.s a0.Name,.i a0.Show,.i a0.Ver],.s a1,.eptr [.clo (.func c0_g) c0_k]] V.i (p_view_find_view_Contact__1 a0 a1 c0):=by
 refine callsO_comp mix Tryz.func271 gc271_ok fun r H=>?_
 rw [p_view_find_view_Contact__1] at H
 conv=>whnf
 refine askC_c c0_h H (.cons (fzagg (.cons (.id rfl) (.cons (.id rfl) (.cons (.id rfl) (.cons (.id rfl) (.nil))))) rfl) (.nil)) (fun v1 H=>?_);conv=>whnf
 refine ask_c (p_strings_Compare_v _ _) H rfl rfl (fun v2 H=>?_);conv=>whnf
 exact fi_ H
def gc270:BCode:=(.seq (.reg 0 [⟨(some 6),.mv (.const (.int .i64 0)),none,0⟩,⟨(some 7),.mv (.const (.bool false)),none,0⟩] none 0 []) (.seq (.reg 0 [⟨(some 12),.mv (.tmp 0),none,0⟩,⟨(some 13),.lens (.tmp 12),none,0⟩,⟨(some 8),.mv (.tmp 13),none,0⟩] none 0 []) (.seq (.reg 0 [⟨(some 14),.mv (.tmp 8),none,0⟩,⟨(some 9),.mv (.const (.int .i64 0)),none,0⟩,⟨(some 10),.mv (.tmp 14),none,0⟩] none 0 []) (.seq (.block 0 (.loop (.seq (.seq (.reg 0 [⟨(some 15),.mv (.tmp 9),none,0⟩,⟨(some 16),.mv (.tmp 10),none,0⟩,⟨(some 17),.bin .lss (.tmp 15) (.tmp 16),none,0⟩] none 0 []) (.cond (.tmp 17) .skip (.exit 0))) (.block 1 (.seq (.reg 0 [⟨(some 18),.mv (.tmp 9),none,0⟩,⟨(some 19),.mv (.tmp 10),none,0⟩,⟨(some 20),.bin .add (.tmp 18) (.tmp 19),none,0⟩,⟨(some 21),.cvi .u64 (.tmp 20),none,0⟩,⟨(some 22),.bin .shr (.tmp 21) (.const (.int .u64 1)),none,0⟩,⟨(some 23),.cvi .i64 (.tmp 22),none,0⟩,⟨(some 11),.mv (.tmp 23),none,0⟩] none 0 []) (.seq (.reg 0 [⟨(some 24),.mv (.tmp 2),none,0⟩,⟨(some 25),.mv (.tmp 0),none,0⟩,⟨(some 26),.mv (.tmp 11),none,0⟩,⟨(some 27),.ixs 4 (.tmp 25) (.tmp 26),none,0⟩,⟨(some 28),.ld 4 true (.tmp 27),none,0⟩,⟨(some 29),.mv (.tmp 1),none,0⟩,⟨(some 30),.cv (.tmp 24) [(.tmp 28),(.tmp 29)],none,0⟩,⟨(some 31),.bin .lss (.tmp 30) (.const (.int .i64 0)),none,0⟩] none 0 []) (.cond (.tmp 31) (.reg 0 [⟨(some 32),.mv (.tmp 11),none,0⟩,⟨(some 33),.bin .add (.tmp 32) (.const (.int .i64 1)),none,0⟩,⟨(some 9),.mv (.tmp 33),none,0⟩] none 0 []) (.reg 0 [⟨(some 34),.mv (.tmp 11),none,0⟩,⟨(some 10),.mv (.tmp 34),none,0⟩] none 0 [])))))))) (.seq (.reg 0 [⟨(some 35),.mv (.tmp 9),none,0⟩,⟨(some 36),.mv (.tmp 9),none,0⟩,⟨(some 37),.mv (.tmp 8),none,0⟩,⟨(some 38),.bin .lss (.tmp 36) (.tmp 37),none,0⟩,⟨(some 39),.mv (.tmp 38),none,0⟩,⟨(some 40),.mv (.tmp 2),(some (39,true)),0⟩,⟨(some 41),.mv (.tmp 0),(some (39,true)),0⟩,⟨(some 42),.mv (.tmp 9),(some (39,true)),0⟩,⟨(some 43),.ixs 4 (.tmp 41) (.tmp 42),(some (39,true)),0⟩,⟨(some 44),.ld 4 true (.tmp 43),(some (39,true)),0⟩,⟨(some 45),.mv (.tmp 1),(some (39,true)),0⟩,⟨(some 46),.cv (.tmp 40) [(.tmp 44),(.tmp 45)],(some (39,true)),0⟩,⟨(some 47),.bin .eql (.tmp 46) (.const (.int .i64 0)),(some (39,true)),0⟩,⟨(some 48),.pick (.tmp 39) (.tmp 47) (.const (.bool false)),none,0⟩,⟨(some 6),.mv (.tmp 35),none,0⟩,⟨(some 7),.mv (.tmp 48),none,0⟩] none 0 []) .ret)))))
theorem gc270_ok:compF Tryz.prog Tryz.f270=some (gc270.er,49,[.tmp 6,.tmp 7]):=by unfold gc270;kernel_rfl
theorem p_slices_BinarySearchFunc_view_Contact_v {u1:Bool} (a0:List Ref35Contact) (a1:ByteArray) (a2:Ref35Contact→ByteArray→Option Int) {a2_g:Nat} {a2_k:List V} (a2_h:Clo2 Tryz.prog a2_g a2_k Ref35Contact.v V.s V.i a2):CallsO Tryz.prog 270 [.sl (List.map Ref35Contact.v a0) u1,.s a1,.clo (.func a2_g) a2_k] (fun r:Int × Bool=>.tup [V.i r.1,V.b r.2]) (p_slices_BinarySearchFunc_view_Contact a0 a1 a2):=by
 refine callsO_comp mix Tryz.func270 gc270_ok fun r H=>?_
 rw [p_slices_BinarySearchFunc_view_Contact] at H
 conv=>whnf
 refine LenQ.M ?_;conv=>whnf
 obtain ⟨o2,HL3,HQ4⟩:=bind_c H
 refine loop_c [9,10] [11,15,16,17,18,19,20,21,22,23,24,25,26,27,28,29,30,31,32,33,34] [11,15,16,17,18,19,20,21,22,23,24,25,26,27,28,29,30,31,32,33,34] (fun n vals st=>(∃ y6 y7,p_slices_BinarySearchFunc_view_Contact_l1  a2 a0 a1 n y6 y7=some o2∧vals=[.i y6,.i y7]∧st=[])) fuel 0 [] (⟨_,_,HL3,rfl,rfl⟩) (Nat.zero_le _) rfl (by simp only [maskF,setF,List.set_cons_zero,List.set_cons_succ,V.ren.renL,V.ren,renL_id _ a2_h.own] <;> rfl) (by simp only [maskF,setF,List.set_cons_zero,List.set_cons_succ,V.idlt.belowL,V.idlt,fun n=>idltL_up (n:=n) _ a2_h.own] <;> rfl) rfl trivial ?_
 rintro (_ | n5) _ _ (⟨y6,y7,H,rfl,rfl⟩)
 ·rw [p_slices_BinarySearchFunc_view_Contact_l1] at H;cases H
 rw [p_slices_BinarySearchFunc_view_Contact_l1] at H
 conv=>whnf
 refine tst_d H (fun b8 H=>?_) (fun b8 H=>?_)
 ·conv=>whnf
  obtain rfl:=Option.some.inj H
  have H:=HQ4
  try dsimp only at H
  refine tst_d H (fun b12 H=>?_) (fun b12 H=>?_)
  ·conv=>whnf
   iterate 8 (refine Tst.F ?_;conv=>whnf)
   exact fin0_c (enc:=(fun r:Int × Bool=>.tup [V.i r.1,V.b r.2])) H (.inr rfl) (.cons (.tmp rfl) (.cons (.tmp rfl) (.nil))) rfl rfl
  conv=>whnf
  iterate 3 (refine Tst.T ?_;conv=>whnf)
  refine ixs_c (f:=Ref35Contact.v) H (fun _=>rfl) (fun x13 H=>?_);conv=>whnf
  iterate 3 (refine Tst.T ?_;conv=>whnf)
  refine askC2_c a2_h H (.cons (fzagg (.cons (.id rfl) (.cons (.id rfl) (.cons (.id rfl) (.cons (.id rfl) (.nil))))) rfl) (.cons (.c (.id rfl)) (.nil))) (fun v14 H=>?_);conv=>whnf
  iterate 2 (refine Tst.T ?_;conv=>whnf)
  exact fin0_c (enc:=(fun r:Int × Bool=>.tup [V.i r.1,V.b r.2])) H (.inr rfl) (.cons (.tmp rfl) (.cons (.tmp rfl) (.nil))) rfl rfl
 conv=>whnf
 iterate 2 (refine Ari.w ?_;conv=>whnf)
 refine Shr.ok (by decide) ?_;conv=>whnf
 refine Ari.w ?_;conv=>whnf
 refine ixs_c (f:=Ref35Contact.v) H (fun _=>rfl) (fun x9 H=>?_);conv=>whnf
 refine askC2_c a2_h H (.cons (fzagg (.cons (.id rfl) (.cons (.id rfl) (.cons (.id rfl) (.cons (.id rfl) (.nil))))) rfl) (.cons (.c (.id rfl)) (.nil))) (fun v10 H=>?_);conv=>whnf
 refine tst_d H (fun b11 H=>?_) (fun b11 H=>?_)
 ·conv=>whnf
  exact again_c [11,15,16,17,18,19,20,21,22,23,24,25,26,27,28,29,30,31,32,33,34] n5 0 [] (⟨_,_,H,rfl,rfl⟩) (Nat.lt_succ_self _) (Nat.zero_le _) rfl (by simp only [maskF,setF,List.set_cons_zero,List.set_cons_succ,V.ren.renL,V.ren,renL_id _ a2_h.own] <;> rfl) (by simp only [maskF,setF,List.set_cons_zero,List.set_cons_succ,V.idlt.belowL,V.idlt,fun n=>idltL_up (n:=n) _ a2_h.own] <;> rfl) rfl trivial
 conv=>whnf
 refine Ari.w ?_;conv=>whnf
 exact again_c [11,15,16,17,18,19,20,21,22,23,24,25,26,27,28,29,30,31,32,33,34] n5 0 [] (⟨_,_,H,rfl,rfl⟩) (Nat.lt_succ_self _) (Nat.zero_le _) rfl (by simp only [maskF,setF,List.set_cons_zero,List.set_cons_succ,V.ren.renL,V.ren,renL_id _ a2_h.own] <;> rfl) (by simp only [maskF,setF,List.set_cons_zero,List.set_cons_succ,V.idlt.belowL,V.idlt,fun n=>idltL_up (n:=n) _ a2_h.own] <;> rfl) rfl trivial
end Go.Proofs.YtpmoioopjbfhkaaGreat

/- That the program's functions yield what the plain ones tell (written by a program of mine). -/
namespace Go.Proofs.YtpmoioopjbfhkaaGreat
open Go.RowKit
set_option maxRecDepth 100000
set_option maxHeartbeats 4000000
def gc231:BCode:=(.seq (.reg 1 [⟨(some 5),.bx (.tmp 2),none,0⟩,⟨(some 6),.mv (.const (.int .i64 0)),none,1⟩,⟨(some 7),.mv (.const (.bool false)),none,1⟩] none 0 []) (.seq (.reg 0 [⟨(some 8),.mv (.tmp 0),none,0⟩,⟨(some 9),.mv (.tmp 1),none,0⟩,⟨(some 10),.mf (.func 271) [(.tmp 5)],none,0⟩,⟨(some 11),.cl 270 [(.tmp 8),(.tmp 9),(.tmp 10)],none,0⟩,⟨(some 12),.ex (.tmp 11) 0,none,0⟩,⟨(some 13),.ex (.tmp 11) 1,none,0⟩,⟨(some 6),.mv (.tmp 12),none,0⟩,⟨(some 7),.mv (.tmp 13),none,0⟩] none 0 [5]) .ret))
theorem gc231_ok:compF Tryz.prog Tryz.f231=some (gc231.er,14,[.tmp 6,.tmp 7]):=by unfold gc231;kernel_rfl
theorem p_view_find_view_Contact__v {u1:Bool} (a0:List Ref35Contact) (a1:ByteArray) (a2:Ref35Contact→Option ByteArray) {a2_g:Nat} {a2_k:List V} (a2_h:Clo1 Tryz.prog a2_g a2_k Ref35Contact.v V.s a2):CallsO Tryz.prog 231 [.sl (List.map Ref35Contact.v a0) u1,.s a1,.clo (.func a2_g) a2_k] (fun r:Int × Bool=>.tup [V.i r.1,V.b r.2]) (p_view_find_view_Contact_ a0 a1 a2):=by
 refine callsO_comp mix Tryz.func231 gc231_ok fun r H=>?_
 rw [p_view_find_view_Contact_] at H
 conv=>whnf
 refine ⟨Nat.zero_le _,?_⟩;conv=>whnf
 refine askF_c (p_slices_BinarySearchFunc_view_Contact_v _ _ _ ⟨⟨_,Tryz.func271,by kernel_rfl,by kernel_rfl⟩,(by simp only [V.idlt.belowL,V.idlt,a2_h.own] <;> rfl),fun x0 x1=>p_view_find_view_Contact__1_v _ _ _ a2_h⟩) H (.cons (.c (.slw)) (.cons (.c (.id rfl)) (.cons (.c (.clo (.cons (.ptr rfl (Nat.le_of_ble_eq_true rfl) (.cons (.id a2_h.own) (.nil))) (.nil)))) (.nil)))) (fun v1 H=>?_);conv=>whnf
 exact fin0_c (enc:=(fun r:Int × Bool=>.tup [V.i r.1,V.b r.2])) H (.inr rfl) (.cons (.tmp rfl) (.cons (.tmp rfl) (.nil))) rfl rfl
def gc180:BCode:=(.seq (.reg 1 [⟨(some 4),.bx (.tmp 1),none,0⟩,⟨(some 6),.mv (.const (.slice none 0 0)),none,1⟩] none 0 []) (.seq (.reg 0 [⟨(some 11),.mv (.tmp 0),none,0⟩,⟨(some 12),.mv (.tmp 2),none,0⟩,⟨(some 13),.ld 4 true (.tmp 4),none,0⟩,⟨(some 14),.cv (.tmp 12) [(.tmp 13)],none,0⟩,⟨(some 15),.mv (.tmp 2),none,0⟩,⟨(some 16),.cl 231 [(.tmp 11),(.tmp 14),(.tmp 15)],none,0⟩,⟨(some 10),.mv (.tmp 16),none,0⟩,⟨(some 17),.ex (.tmp 10) 0,none,0⟩,⟨(some 18),.ex (.tmp 10) 1,none,0⟩,⟨(some 7),.mv (.tmp 17),none,0⟩,⟨(some 8),.mv (.tmp 18),none,0⟩] none 0 []) (.seq (.reg 0 [⟨(some 19),.mv (.tmp 0),none,0⟩,⟨(some 20),.cl 232 [(.tmp 19)],none,0⟩,⟨(some 9),.mv (.tmp 20),none,0⟩] none 1 []) (.seq (.block 0 (.seq (.reg 0 [⟨(some 22),.mv (.tmp 8),none,0⟩,⟨(some 21),.mv (.tmp 22),none,0⟩] none 0 []) (.cond (.tmp 21) (.reg 0 [⟨(some 23),.mv (.tmp 9),none,0⟩,⟨(some 24),.mv (.tmp 7),none,0⟩,⟨(some 25),.ld 4 true (.tmp 4),none,0⟩,⟨(some 26),.ixs 4 (.tmp 23) (.tmp 24),none,0⟩,⟨none,.st 4 (.tmp 26) (.tmp 25),none,0⟩] none 0 []) (.seq (.reg 0 [⟨(some 28),.mv (.tmp 0),none,0⟩,⟨(some 29),.lens (.tmp 28),none,0⟩,⟨(some 30),.bin .lss (.tmp 29) (.const (.int .i64 64)),none,0⟩,⟨(some 27),.mv (.tmp 30),none,0⟩] none 0 []) (.cond (.tmp 27) (.reg 1 [⟨(some 31),.mv (.tmp 9),none,0⟩,⟨(some 32),.mv (.tmp 7),none,0⟩,⟨(some 33),.ld 4 true (.tmp 4),none,0⟩,⟨(some 34),.bs 4 1 [(.lit (.string ⟨#[]⟩)),(.lit (.string ⟨#[]⟩)),(.lit (.int .i64 0)),(.lit (.int .i64 0))] [(0,(.tmp 33))],none,0⟩,⟨(some 35),.cl 233 [(.tmp 31),(.tmp 32),(.tmp 34)],none,1⟩,⟨(some 9),.mv (.tmp 35),none,1⟩] none 0 []) .skip))))) (.seq (.reg 0 [⟨(some 36),.mv (.tmp 9),none,0⟩,⟨(some 6),.mv (.tmp 36),none,0⟩] none 0 []) .ret)))))
theorem gc180_ok:compF Tryz.prog Tryz.f180=some (gc180.er,37,[.tmp 6]):=by unfold gc180;kernel_rfl
theorem p_view_put_view_Contact__v {u1:Bool} (a0:List Ref35Contact) (a1:Ref35Contact) (a2:Ref35Contact→Option ByteArray) {a2_g:Nat} {a2_k:List V} (a2_h:Clo1 Tryz.prog a2_g a2_k Ref35Contact.v V.s a2):CallsO Tryz.prog 180 [.sl (List.map Ref35Contact.v a0) u1,.agg [.s a1.User,.s a1.Name,.i a1.Show,.i a1.Ver],.clo (.func a2_g) a2_k] (fun l:List Ref35Contact=>V.sl (l.map Ref35Contact.v) false) (p_view_put_view_Contact_ a0 a1 a2):=by
 refine callsO_comp mix Tryz.func180 gc180_ok fun r H=>?_
 rw [p_view_put_view_Contact_] at H
 conv=>whnf
 refine askC_c a2_h H (.cons (fzagg (.cons (.id rfl) (.cons (.id rfl) (.cons (.id rfl) (.cons (.id rfl) (.nil))))) rfl) (.nil)) (fun v1 H=>?_);conv=>whnf
 refine askF_c (p_view_find_view_Contact__v _ _ _ a2_h) H (.cons (.c (.slw)) (.cons (.c (.id rfl)) (.cons (.c (.id a2_h.own)) (.nil)))) (fun v2 H=>?_);conv=>whnf
 refine clone_c (f:=Ref35Contact.v) (id:=1) cloR232_v H (fun _=>rfl) (fun _=>rfl) rfl (fun H=>?_) (fun l3 H=>?_)
 ·conv=>whnf
  refine tst_c H (fun b9 H=>?_) (fun b9 H=>?_)
  ·conv=>whnf
   exact nil_at H
  conv=>whnf
  refine LenQ.M ?_;conv=>whnf
  refine tst_d H (fun b10 H=>?_) (fun b10 H=>?_)
  ·conv=>whnf
   refine finR_c (enc:=(fun l:List Ref35Contact=>V.sl (l.map Ref35Contact.v) false)) H ?_;conv=>whnf
   exact ⟨_,.v (.c (.slw))⟩
  conv=>whnf
  refine askF_c (insN_v (f:=Ref35Contact.v) insR233_v (by decide) (fun _=>rfl) (fun _=>rfl) (fun _=>rfl) _ _ _) H (.cons (.c (.id rfl)) (.cons (.c (.id rfl)) (.cons (.c (fzown (f:=Ref35Contact.v) (l:=[a1]) rfl rfl (fun _=>rfl) (fun _=>rfl))) .nil))) (fun v11 H=>?_);conv=>whnf
  exact fin0_c (enc:=(fun l:List Ref35Contact=>V.sl (l.map Ref35Contact.v) false)) H (.inr rfl) (.cons (.tmp rfl) (.nil)) rfl rfl
 conv=>whnf
 refine tst_c H (fun b4 H=>?_) (fun b4 H=>?_)
 ·conv=>whnf
  refine ⟨rfl,ixo_c H (fun x5 h6 H=>?_)⟩;conv=>whnf
  refine ⟨Nat.zero_le _,sto_c (f:=Ref35Contact.v) (es:=4) h6 (x':=a1) (fun _=>rfl) 0 (by omega) (Nat.le_of_ble_eq_true rfl) (by rfl) ?_⟩;conv=>whnf
  refine finRz_c (enc:=(fun l:List Ref35Contact=>V.sl (l.map Ref35Contact.v) false)) [1] H ?_;conv=>whnf
  refine ⟨Nat.zero_le _,?_⟩;conv=>whnf
  exact ⟨_,.v (.c (fzc_made (f:=Ref35Contact.v) (l:=(List.set l3 (Int.toNat v2.1) a1)) rfl rfl rfl (by simp) (fun _=>rfl) (fun _=>rfl)))⟩
 conv=>whnf
 refine LenQ.M ?_;conv=>whnf
 refine tst_d H (fun b7 H=>?_) (fun b7 H=>?_)
 ·conv=>whnf
  refine finRz_c (enc:=(fun l:List Ref35Contact=>V.sl (l.map Ref35Contact.v) false)) [1] H ?_;conv=>whnf
  refine ⟨Nat.zero_le _,?_⟩;conv=>whnf
  exact ⟨_,.v (.c (fzown (f:=Ref35Contact.v) (l:=l3) rfl rfl (fun _=>rfl) (fun _=>rfl)))⟩
 conv=>whnf
 refine insO_c (f:=Ref35Contact.v) insR233_v H (by decide) (fun _=>rfl) (fun _=>rfl) (fun _=>rfl) rfl rfl rfl (fun v8 H=>?_);conv=>whnf
 exact fin0_c (enc:=(fun l:List Ref35Contact=>V.sl (l.map Ref35Contact.v) false)) H (.inr rfl) (.cons (.tmp rfl) (.nil)) rfl rfl
def gc235:BCode:=(.seq (.reg 1 [⟨(some 3),.bx (.tmp 0),none,0⟩,⟨(some 4),.mv (.const (.bool false)),none,1⟩] none 0 []) (.seq (.reg 0 [⟨(some 5),.ld 1 false (.tmp 1),none,0⟩,⟨(some 6),.ld 4 true (.tmp 3),none,0⟩,⟨(some 7),.cv (.tmp 5) [(.tmp 6)],none,0⟩,⟨(some 8),.ld 1 false (.tmp 2),none,0⟩,⟨(some 9),.bin .eql (.tmp 7) (.tmp 8),none,0⟩,⟨(some 4),.mv (.tmp 9),none,0⟩] (some [[],[],[1,0],[],[3,0,1,2],[2,1,0,3,4]]) 0 []) .ret))
theorem gc235_ok:compF Tryz.prog Tryz.f235=some (gc235.er,10,[.tmp 4]):=by unfold gc235;kernel_rfl
theorem p_view_cut_view_Contact__1_v (a0:Ref35Contact) (c0:Ref35Contact→Option ByteArray) {c0_g:Nat} {c0_k:List V} (c0_h:Clo1 Tryz.prog c0_g c0_k Ref35Contact.v V.s c0) (c1:ByteArray):CallsO Tryz.prog 235 [.agg [.s a0.User,.s a0.Name,.i a0.Show,.i a0.Ver],.eptr [.clo (.func c0_g) c0_k],.eptr [.s c1]] V.b (p_view_cut_view_Contact__1 a0 c0 c1):=by
 refine callsO_comp mix Tryz.func235 gc235_ok fun r H=>?_
 rw [p_view_cut_view_Contact__1] at H
 conv=>whnf
 refine askC_c c0_h H (.cons (fzagg (.cons (.id rfl) (.cons (.id rfl) (.cons (.id rfl) (.cons (.id rfl) (.nil))))) rfl) (.nil)) (fun v1 H=>?_);conv=>whnf
 refine FootQ.mk ⟨rfl,?_⟩;conv=>whnf
 exact fb_ H
def gc182:BCode:=(.seq (.reg 2 [⟨(some 4),.bx (.tmp 1),none,0⟩,⟨(some 5),.bx (.tmp 2),none,1⟩,⟨(some 6),.mv (.const (.slice none 0 0)),none,2⟩] none 0 []) (.seq (.reg 0 [⟨(some 7),.mv (.tmp 0),none,0⟩,⟨(some 8),.cl 232 [(.tmp 7)],none,0⟩,⟨(some 9),.mf (.func 235) [(.tmp 5),(.tmp 4)],none,0⟩,⟨(some 10),.cl 234 [(.tmp 8),(.tmp 9)],none,0⟩,⟨(some 6),.mv (.tmp 10),none,0⟩] none 1 [5,4]) .ret))
theorem gc182_ok:compF Tryz.prog Tryz.f182=some (gc182.er,11,[.tmp 6]):=by unfold gc182;kernel_rfl
theorem p_view_cut_view_Contact__v {u1:Bool} (a0:List Ref35Contact) (a1:ByteArray) (a2:Ref35Contact→Option ByteArray) {a2_g:Nat} {a2_k:List V} (a2_h:Clo1 Tryz.prog a2_g a2_k Ref35Contact.v V.s a2):CallsO Tryz.prog 182 [.sl (List.map Ref35Contact.v a0) u1,.s a1,.clo (.func a2_g) a2_k] (fun l:List Ref35Contact=>V.sl (l.map Ref35Contact.v) false) (p_view_cut_view_Contact_ a0 a1 a2):=by
 refine callsO_comp mix Tryz.func182 gc182_ok fun r H=>?_
 rw [p_view_cut_view_Contact_] at H
 conv=>whnf
 refine ⟨Nat.zero_le _,?_⟩;conv=>whnf
 refine ⟨Nat.zero_le _,?_⟩;conv=>whnf
 refine clone_c (f:=Ref35Contact.v) (id:=2) cloR232_v H (fun _=>rfl) (fun _=>rfl) rfl (fun H=>?_) (fun l1 H=>?_)
 ·conv=>whnf
  refine dfN_c (f:=Ref35Contact.v) delF234_n H (⟨⟨_,Tryz.func235,by kernel_rfl,by kernel_rfl⟩,(by simp only [V.idlt.belowL,V.idlt,a2_h.own] <;> rfl),fun x0=>p_view_cut_view_Contact__1_v _ _ a2_h _⟩) (.clo (.cons (.ptr rfl (Nat.le_of_ble_eq_true rfl) (.cons (.id a2_h.own) (.nil))) (.cons (.ptr rfl (Nat.le_of_ble_eq_true rfl) (.cons (.id rfl) (.nil))) (.nil)))) (fun H=>?_);conv=>whnf
  refine finR_c (enc:=(fun l:List Ref35Contact=>V.sl (l.map Ref35Contact.v) false)) H ?_;conv=>whnf
  exact ⟨_,.v (.c (.slw))⟩
 conv=>whnf
 refine dfO_c (f:=Ref35Contact.v) delF234_v H (⟨⟨_,Tryz.func235,by kernel_rfl,by kernel_rfl⟩,(by simp only [V.idlt.belowL,V.idlt,a2_h.own] <;> rfl),fun x0=>p_view_cut_view_Contact__1_v _ _ a2_h _⟩) (.clo (.cons (.ptr rfl (Nat.le_of_ble_eq_true rfl) (.cons (.id a2_h.own) (.nil))) (.cons (.ptr rfl (Nat.le_of_ble_eq_true rfl) (.cons (.id rfl) (.nil))) (.nil)))) (fun _=>rfl) (fun _=>rfl) rfl rfl (fun v2 H=>?_);conv=>whnf
 refine finRz_c (enc:=(fun l:List Ref35Contact=>V.sl (l.map Ref35Contact.v) false)) [2] H ?_;conv=>whnf
 refine ⟨Nat.zero_le _,?_⟩;conv=>whnf
 exact ⟨_,.v (.c (fzown (f:=Ref35Contact.v) (l:=v2) rfl rfl (fun _=>rfl) (fun _=>rfl)))⟩
def gc116:BCode:=(.seq (.reg 3 [⟨(some 2),.bx (.tmp 0),none,0⟩,⟨(some 3),.bx (.tmp 1),none,1⟩,⟨(some 4),.al (.agg [(.sl [] true),(.sl [] true),(.lit (.bool false)),(.sl [] true),(.sl [] true),(.lit (.int .i64 0)),(.lit (.int .i64 0))]),none,2⟩] none 0 []) (.seq (.seq (.reg 0 [⟨(some 5),.ld 7 true (.tmp 2),none,0⟩,⟨(some 6),.cl 120 [(.tmp 5)],none,0⟩,⟨(some 7),.bin .neq (.tmp 6) (.const (.int .i64 0)),none,0⟩] none 0 []) (.cond (.tmp 7) (.seq (.reg 0 [⟨(some 8),.ld 7 true (.tmp 2),none,0⟩,⟨none,.st 7 (.tmp 4) (.tmp 8),none,0⟩] none 0 []) .ret) .skip)) (.seq (.reg 0 [⟨(some 9),.fa 6 (.tmp 2),none,0⟩,⟨(some 10),.ld 1 false (.tmp 9),none,0⟩,⟨(some 11),.bin .add (.tmp 10) (.const (.int .i64 1)),none,0⟩,⟨(some 12),.mn false (.tmp 11) (.const (.int .i64 1099511627776)),none,0⟩,⟨(some 13),.fa 6 (.tmp 2),none,0⟩,⟨none,.st 1 (.tmp 13) (.tmp 12),none,0⟩] none 0 []) (.seq (.seq (.reg 0 [⟨(some 14),.fa 0 (.tmp 3),none,0⟩,⟨(some 15),.ld 1 false (.tmp 14),none,0⟩] none 0 []) (.block 0 (.seq (.reg 0 [⟨(some 17),.bin .eql (.tmp 15) (.const (.int .u8 36)),none,0⟩,⟨(some 16),.mv (.tmp 17),none,0⟩] none 0 []) (.cond (.tmp 16) (.reg 0 [⟨(some 18),.fa 2 (.tmp 2),none,0⟩,⟨none,.st 1 (.tmp 18) (.const (.bool true)),none,0⟩,⟨(some 19),.fa 3 (.tmp 2),none,0⟩,⟨none,.st 1 (.tmp 19) (.const (.slice none 0 0)),none,0⟩] none 0 []) (.seq (.reg 0 [⟨(some 21),.bin .eql (.tmp 15) (.const (.int .u8 37)),none,0⟩,⟨(some 20),.mv (.tmp 21),none,0⟩] none 0 []) (.cond (.tmp 20) (.reg 0 [⟨(some 22),.ld 7 true (.tmp 2),none,0⟩,⟨(some 23),.cl 178 [(.tmp 22)],none,0⟩,⟨none,.st 7 (.tmp 2) (.tmp 23),none,0⟩] none 0 []) (.seq (.seq (.reg 0 [⟨(some 25),.bin .eql (.tmp 15) (.const (.int .u8 34)),none,0⟩,⟨(some 24),.mv (.tmp 25),none,0⟩] none 0 []) (.cond (.tmp 24) .skip (.reg 0 [⟨(some 26),.bin .eql (.tmp 15) (.const (.int .u8 35)),none,0⟩,⟨(some 24),.mv (.tmp 26),none,0⟩] none 0 []))) (.cond (.tmp 24) (.reg 0 [⟨(some 27),.ld 7 true (.tmp 2),none,0⟩,⟨(some 28),.ld 8 true (.tmp 3),none,0⟩,⟨(some 29),.cl 179 [(.tmp 27),(.tmp 28)],none,0⟩,⟨none,.st 7 (.tmp 2) (.tmp 29),none,0⟩] none 0 []) (.seq (.reg 0 [⟨(some 31),.bin .eql (.tmp 15) (.const (.int .u8 38)),none,0⟩,⟨(some 30),.mv (.tmp 31),none,0⟩] none 0 []) (.cond (.tmp 30) (.reg 0 [⟨(some 32),.fa 4 (.tmp 2),none,0⟩,⟨(some 33),.ld 1 false (.tmp 32),none,0⟩,⟨(some 34),.fa 1 (.tmp 3),none,0⟩,⟨(some 35),.ld 1 false (.tmp 34),none,0⟩,⟨(some 36),.fa 3 (.tmp 3),none,0⟩,⟨(some 37),.ld 1 false (.tmp 36),none,0⟩,⟨(some 38),.fa 4 (.tmp 3),none,0⟩,⟨(some 39),.ld 1 false (.tmp 38),none,0⟩,⟨(some 40),.fa 7 (.tmp 3),none,0⟩,⟨(some 41),.ld 1 false (.tmp 40),none,0⟩,⟨(some 42),.bd [(.lit (.string ⟨#[]⟩)),(.lit (.string ⟨#[]⟩)),(.lit (.int .i64 0)),(.lit (.int .i64 0))] [(0,1,(.tmp 35)),(1,1,(.tmp 37)),(2,1,(.tmp 39)),(3,1,(.tmp 41))],none,0⟩,⟨(some 43),.cl 180 [(.tmp 33),(.tmp 42),(.func 181)],none,0⟩,⟨(some 44),.fa 4 (.tmp 2),none,0⟩,⟨none,.st 1 (.tmp 44) (.tmp 43),none,0⟩] none 0 []) (.seq (.reg 0 [⟨(some 46),.bin .eql (.tmp 15) (.const (.int .u8 39)),none,0⟩,⟨(some 45),.mv (.tmp 46),none,0⟩] none 0 []) (.cond (.tmp 45) (.reg 0 [⟨(some 47),.fa 4 (.tmp 2),none,0⟩,⟨(some 48),.ld 1 false (.tmp 47),none,0⟩,⟨(some 49),.fa 1 (.tmp 3),none,0⟩,⟨(some 50),.ld 1 false (.tmp 49),none,0⟩,⟨(some 51),.cl 182 [(.tmp 48),(.tmp 50),(.func 181)],none,0⟩,⟨(some 52),.fa 4 (.tmp 2),none,0⟩,⟨none,.st 1 (.tmp 52) (.tmp 51),none,0⟩] none 0 []) .skip)))))))))))) (.seq (.reg 0 [⟨(some 53),.ld 7 true (.tmp 2),none,0⟩,⟨none,.st 7 (.tmp 4) (.tmp 53),none,0⟩] none 0 []) .ret)))))
theorem gc116_ok:compF Tryz.prog Tryz.f116=some (gc116.er,54,[.cell 4 7 true]):=by unfold gc116;kernel_rfl
theorem p_view_Tell_v {u1 u2 u3 u4:Bool} (a0:Ref35State) (a1:StanzaStanza):CallsO Tryz.prog 116 [.agg [.sl (List.map MailEntry.v a0.Rows) u1,.sl (List.map MailEntry.v a0.Last) u2,.b a0.Anew,.sl (List.map V.s a0.Seen) u3,.sl (List.map Ref35Contact.v a0.List) u4,.i a0.Odd,.i a0.Told],.agg [.y8 a1.Kind,.s a1.User,.s a1.Res,.s a1.Name,.i a1.Show,.i a1.Prio,.i a1.Code,.i a1.N]] Ref35State.v (p_view_Tell a0 a1):=by
 refine callsO_comp mix Tryz.func116 gc116_ok fun r H=>?_
 rw [p_view_Tell] at H
 conv=>whnf
 refine ask_c (p_view_Check_v _) H rfl rfl (fun v1 H=>?_);conv=>whnf
 refine tst_c H (fun b2 H=>?_) (fun b2 H=>?_)
 ·conv=>whnf
  refine ⟨Nat.le_of_ble_eq_true rfl,?_⟩;conv=>whnf
  refine finR_c (enc:=Ref35State.v) H ?_;conv=>whnf
  exact ⟨_,.v (fzagg (.cons (.slw) (.cons (.slw) (.cons (.id rfl) (.cons (.slw) (.cons (.slw) (.cons (.id rfl) (.cons (.id rfl) (.nil)))))))) rfl)⟩
 conv=>whnf
 refine Ari.w ?_;conv=>whnf
 refine ⟨Nat.le_of_ble_eq_true rfl,?_⟩;conv=>whnf
 refine tst_c H (fun b3 H=>?_) (fun b3 H=>?_)
 ·conv=>whnf
  refine ⟨Nat.le_of_ble_eq_true rfl,?_⟩;conv=>whnf
  refine ⟨Nat.le_of_ble_eq_true rfl,?_⟩;conv=>whnf
  refine ⟨Nat.le_of_ble_eq_true rfl,?_⟩;conv=>whnf
  refine finR_c (enc:=Ref35State.v) H ?_;conv=>whnf
  exact ⟨_,.v (fzagg (.cons (.slw) (.cons (.slw) (.cons (.id rfl) (.cons (.slw) (.cons (.slw) (.cons (.id rfl) (.cons (.id rfl) (.nil)))))))) rfl)⟩
 conv=>whnf
 refine tst_c H (fun b4 H=>?_) (fun b4 H=>?_)
 ·conv=>whnf
  refine ask_c (p_view_State_done_v _) H rfl rfl (fun v5 H=>?_);conv=>whnf
  refine ⟨Nat.le_of_ble_eq_true rfl,?_⟩;conv=>whnf
  refine ⟨Nat.le_of_ble_eq_true rfl,?_⟩;conv=>whnf
  exact fin0_c (enc:=Ref35State.v) H (.inr rfl) (.cons (.cell rfl rfl (Nat.le_of_ble_eq_true rfl)) (.nil)) rfl rfl
 conv=>whnf
 refine tst_c H (fun b6 H=>?_) (fun b6 H=>?_)
 ·conv=>whnf
  refine Tst.T ?_;conv=>whnf
  refine ask_c (p_view_State_row_v _ _) H rfl rfl (fun v7 H=>?_);conv=>whnf
  refine ⟨Nat.le_of_ble_eq_true rfl,?_⟩;conv=>whnf
  refine ⟨Nat.le_of_ble_eq_true rfl,?_⟩;conv=>whnf
  exact fin0_c (enc:=Ref35State.v) H (.inr rfl) (.cons (.cell rfl rfl (Nat.le_of_ble_eq_true rfl)) (.nil)) rfl rfl
 conv=>whnf
 refine tst_c H (fun b8 H=>?_) (fun b8 H=>?_)
 ·conv=>whnf
  refine ask_c (p_view_State_row_v _ _) H rfl rfl (fun v9 H=>?_);conv=>whnf
  refine ⟨Nat.le_of_ble_eq_true rfl,?_⟩;conv=>whnf
  refine ⟨Nat.le_of_ble_eq_true rfl,?_⟩;conv=>whnf
  exact fin0_c (enc:=Ref35State.v) H (.inr rfl) (.cons (.cell rfl rfl (Nat.le_of_ble_eq_true rfl)) (.nil)) rfl rfl
 conv=>whnf
 refine tst_c H (fun b10 H=>?_) (fun b10 H=>?_)
 ·conv=>whnf
  refine askF_c (p_view_put_view_Contact__v _ _ _ ⟨⟨_,Tryz.func181,by kernel_rfl,by kernel_rfl⟩,rfl,fun x0=>p_view_Contact_user_v _⟩) H (.cons (.c (.slw)) (.cons (fzagg (.cons (.id rfl) (.cons (.id rfl) (.cons (.id rfl) (.cons (.id rfl) (.nil))))) rfl) (.cons (.c (.clo (.nil))) (.nil)))) (fun v11 H=>?_);conv=>whnf
  refine ⟨Nat.le_of_ble_eq_true rfl,?_⟩;conv=>whnf
  refine ⟨Nat.le_of_ble_eq_true rfl,?_⟩;conv=>whnf
  refine finR_c (enc:=Ref35State.v) H ?_;conv=>whnf
  exact ⟨_,.v (fzagg (.cons (.slw) (.cons (.slw) (.cons (.id rfl) (.cons (.slw) (.cons (.id rfl) (.cons (.id rfl) (.cons (.id rfl) (.nil)))))))) rfl)⟩
 conv=>whnf
 refine tst_d H (fun b12 H=>?_) (fun b12 H=>?_)
 ·conv=>whnf
  refine ⟨Nat.le_of_ble_eq_true rfl,?_⟩;conv=>whnf
  refine finR_c (enc:=Ref35State.v) H ?_;conv=>whnf
  exact ⟨_,.v (fzagg (.cons (.slw) (.cons (.slw) (.cons (.id rfl) (.cons (.slw) (.cons (.slw) (.cons (.id rfl) (.cons (.id rfl) (.nil)))))))) rfl)⟩
 conv=>whnf
 refine askF_c (p_view_cut_view_Contact__v _ _ _ ⟨⟨_,Tryz.func181,by kernel_rfl,by kernel_rfl⟩,rfl,fun x0=>p_view_Contact_user_v _⟩) H (.cons (.c (.slw)) (.cons (.c (.id rfl)) (.cons (.c (.clo (.nil))) (.nil)))) (fun v13 H=>?_);conv=>whnf
 refine ⟨Nat.le_of_ble_eq_true rfl,?_⟩;conv=>whnf
 refine ⟨Nat.le_of_ble_eq_true rfl,?_⟩;conv=>whnf
 refine finR_c (enc:=Ref35State.v) H ?_;conv=>whnf
 exact ⟨_,.v (fzagg (.cons (.slw) (.cons (.slw) (.cons (.id rfl) (.cons (.slw) (.cons (.id rfl) (.cons (.id rfl) (.cons (.id rfl) (.nil)))))))) rfl)⟩
def gc186:BCode:=(.seq (.reg 2 [⟨(some 2),.bx (.tmp 0),none,0⟩,⟨(some 3),.bx (.tmp 1),none,1⟩,⟨(some 4),.mv (.const (.bool false)),none,2⟩] none 0 []) (.seq (.reg 0 [⟨(some 5),.fa 0 (.tmp 2),none,0⟩,⟨(some 6),.ld 1 false (.tmp 5),none,0⟩,⟨(some 7),.fa 0 (.tmp 3),none,0⟩,⟨(some 8),.ld 1 false (.tmp 7),none,0⟩,⟨(some 9),.fa 1 (.tmp 3),none,0⟩,⟨(some 10),.ld 1 false (.tmp 9),none,0⟩,⟨(some 11),.cl 187 [(.tmp 8),(.tmp 10)],none,0⟩,⟨(some 12),.bin .eql (.tmp 6) (.tmp 11),none,0⟩,⟨(some 13),.mv (.tmp 12),none,0⟩,⟨(some 14),.fa 1 (.tmp 2),(some (13,true)),0⟩,⟨(some 15),.ld 4 true (.tmp 14),(some (13,true)),0⟩,⟨(some 16),.fa 2 (.tmp 3),(some (13,true)),0⟩,⟨(some 17),.ld 4 true (.tmp 16),(some (13,true)),0⟩,⟨(some 18),.eqa false [0,1,1,1] (.tmp 15) (.tmp 17),(some (13,true)),0⟩,⟨(some 19),.pick (.tmp 13) (.tmp 18) (.const (.bool false)),none,0⟩,⟨(some 4),.mv (.tmp 19),none,0⟩] (some [[],[0],[],[2],[],[4],[4,5,2,3],[3,2,5,4,6,0,1],[1,0,6,4,5,2,3,7],[7,3,2,5,4,6,0,1,8],[8,1,0,6,4,5,2,3,7,9],[7,3,2,5,4,6,0,1,8],[8,1,0,6,4,5,2,3,7,11],[11,12,9,7,3,2,5,4,6,0,1,8,10],[10,9,12,11,13,7,3,2,5,4,6,0,1,8],[8,1,0,6,4,5,2,3,7,13,11,12,9,10,14]]) 0 []) .ret))
theorem gc186_ok:compF Tryz.prog Tryz.f186=some (gc186.er,20,[.tmp 4]):=by unfold gc186;kernel_rfl
theorem p_view_Fits_1_v (a0:MailEntry) (a1:BookRow):CallsO Tryz.prog 186 [.agg [.s a0.Key,.b a0.P.On,.i a0.P.Show,.i a0.P.Prio,.i a0.P.Seq],.agg [.s a1.User,.s a1.Res,.b a1.P.On,.i a1.P.Show,.i a1.P.Prio,.i a1.P.Seq]] V.b (p_view_Fits_1 a0 a1):=by
 refine callsO_comp mix Tryz.func186 gc186_ok fun r H=>?_
 rw [p_view_Fits_1] at H
 conv=>whnf
 refine ask_c (p_pres_Key_v _ _) H rfl rfl (fun v1 H=>?_);conv=>whnf
 refine tst_c H (fun b2 H=>?_) (fun b2 H=>?_)
 ·conv=>whnf
  iterate 5 (refine Tst.T ?_;conv=>whnf)
  refine FootQ.mk ⟨rfl,?_⟩;conv=>whnf
  exact fb_ H
 conv=>whnf
 iterate 5 (refine Tst.F ?_;conv=>whnf)
 refine FootQ.mk ⟨rfl,?_⟩;conv=>whnf
 exact fb_ H
def gc185:BCode:=(.seq (.reg 0 [⟨(some 6),.mv (.const (.bool false)),none,0⟩] none 0 []) (.seq (.seq (.reg 0 [⟨(some 10),.mv (.tmp 0),none,0⟩,⟨(some 11),.lens (.tmp 10),none,0⟩,⟨(some 12),.mv (.tmp 1),none,0⟩,⟨(some 13),.lens (.tmp 12),none,0⟩,⟨(some 14),.bin .neq (.tmp 11) (.tmp 13),none,0⟩] none 0 []) (.cond (.tmp 14) (.seq (.reg 0 [⟨(some 6),.mv (.const (.bool false)),none,0⟩] none 0 []) .ret) .skip)) (.seq (.seq (.reg 0 [⟨(some 15),.mv (.tmp 0),none,0⟩,⟨(some 16),.lens (.tmp 15),none,0⟩,⟨(some 17),.mv (.const (.int .i64 0)),none,0⟩] none 0 []) (.block 0 (.loop (.seq (.reg 0 [⟨(some 18),.bin .lss (.tmp 17) (.tmp 16),none,0⟩] none 0 []) (.seq (.cond (.tmp 18) .skip (.exit 0)) (.seq (.block 1 (.seq (.reg 1 [⟨(some 19),.mv (.tmp 17),none,0⟩,⟨(some 20),.ixs 5 (.tmp 15) (.tmp 17),none,0⟩,⟨(some 21),.ld 5 true (.tmp 20),none,0⟩,⟨(some 8),.al (.agg [(.lit (.string ⟨#[]⟩)),(.lit (.bool false)),(.lit (.int .i64 0)),(.lit (.int .i64 0)),(.lit (.int .i64 0))]),none,0⟩,⟨(some 7),.mv (.tmp 19),none,1⟩,⟨none,.st 5 (.tmp 8) (.tmp 21),none,1⟩] none 0 []) (.seq (.reg 1 [⟨(some 22),.mv (.tmp 1),none,0⟩,⟨(some 23),.mv (.tmp 7),none,0⟩,⟨(some 24),.ixs 6 (.tmp 22) (.tmp 23),none,0⟩,⟨(some 25),.ld 6 true (.tmp 24),none,0⟩,⟨(some 9),.al (.agg [(.lit (.string ⟨#[]⟩)),(.lit (.string ⟨#[]⟩)),(.lit (.bool false)),(.lit (.int .i64 0)),(.lit (.int .i64 0)),(.lit (.int .i64 0))]),none,0⟩,⟨none,.st 6 (.tmp 9) (.tmp 25),none,1⟩] none 0 []) (.seq (.reg 0 [⟨(some 26),.mv (.tmp 2),none,0⟩,⟨(some 27),.ld 5 true (.tmp 8),none,0⟩,⟨(some 28),.ld 6 true (.tmp 9),none,0⟩,⟨(some 29),.cv (.tmp 26) [(.tmp 27),(.tmp 28)],none,0⟩,⟨(some 30),.un .not (.tmp 29),none,0⟩] none 0 []) (.cond (.tmp 30) (.seq (.reg 0 [⟨(some 6),.mv (.const (.bool false)),none,0⟩] none 0 []) .ret) .skip))))) (.reg 0 [⟨(some 31),.bin .add (.tmp 17) (.const (.int .i64 1)),none,0⟩,⟨(some 17),.mv (.tmp 31),none,0⟩] none 0 []))))))) (.seq (.reg 0 [⟨(some 6),.mv (.const (.bool true)),none,0⟩] none 0 []) .ret))))
theorem gc185_ok:compF Tryz.prog Tryz.f185=some (gc185.er,32,[.tmp 6]):=by unfold gc185;kernel_rfl
theorem p_slices_EqualFunc_view_Row_v {u1 u2:Bool} (a0:List MailEntry) (a1:List BookRow) (a2:MailEntry→BookRow→Option Bool) {a2_g:Nat} {a2_k:List V} (a2_h:Clo2 Tryz.prog a2_g a2_k MailEntry.v BookRow.v V.b a2):CallsO Tryz.prog 185 [.sl (List.map MailEntry.v a0) u1,.sl (List.map BookRow.v a1) u2,.clo (.func a2_g) a2_k] V.b (p_slices_EqualFunc_view_Row a0 a1 a2):=by
 refine callsO_comp mix Tryz.func185 gc185_ok fun r H=>?_
 rw [p_slices_EqualFunc_view_Row] at H
 conv=>whnf
 iterate 2 (refine LenQ.M ?_;conv=>whnf)
 refine tst_c H (fun b1 H=>?_) (fun b1 H=>?_)
 ·conv=>whnf
  exact fb_ H
 conv=>whnf
 refine LenQ.M ?_;conv=>whnf
 obtain ⟨o3,HL4,HQ5⟩:=bind_c H
 refine loop_c [6,17] [7,8,9,18,19,20,21,22,23,24,25,26,27,28,29,30,31] [7,8,9,18,19,20,21,22,23,24,25,26,27,28,29,30,31] (fun n vals st=>(∃ y7,p_slices_EqualFunc_view_Row_l1  a2 a1 a0 (a0.length:Int) n y7=some o3∧vals=[.b false,.i y7]∧st=[])) fuel 0 [] (⟨_,HL4,rfl,rfl⟩) (Nat.zero_le _) rfl (by simp only [maskF,setF,List.set_cons_zero,List.set_cons_succ,V.ren.renL,V.ren,renL_id _ a2_h.own] <;> rfl) (by simp only [maskF,setF,List.set_cons_zero,List.set_cons_succ,V.idlt.belowL,V.idlt,fun n=>idltL_up (n:=n) _ a2_h.own] <;> rfl) rfl trivial ?_
 rintro (_ | n6) _ _ (⟨y7,H,rfl,rfl⟩)
 ·rw [p_slices_EqualFunc_view_Row_l1] at H;cases H
 rw [p_slices_EqualFunc_view_Row_l1] at H
 conv=>whnf
 refine tst_d H (fun b8 H=>?_) (fun b8 H=>?_)
 ·conv=>whnf
  obtain rfl:=Option.some.inj H
  have H:=HQ5
  try dsimp only at H
  exact fb_ H
 conv=>whnf
 refine ixs_c (f:=MailEntry.v) H (fun _=>rfl) (fun x9 H=>?_);conv=>whnf
 refine ⟨Nat.le_of_ble_eq_true rfl,?_⟩;conv=>whnf
 refine ixs_c (f:=BookRow.v) H (fun _=>rfl) (fun x10 H=>?_);conv=>whnf
 refine ⟨Nat.le_of_ble_eq_true rfl,?_⟩;conv=>whnf
 refine askC2_c a2_h H (.cons (fzagg (.cons (.id rfl) (.cons (.id rfl) (.cons (.id rfl) (.cons (.id rfl) (.cons (.id rfl) (.nil)))))) rfl) (.cons (fzagg (.cons (.id rfl) (.cons (.id rfl) (.cons (.id rfl) (.cons (.id rfl) (.cons (.id rfl) (.cons (.id rfl) (.nil))))))) rfl) (.nil))) (fun v11 H=>?_);conv=>whnf
 refine Tst.not ?_
 refine tst_d H (fun b12 H=>?_) (fun b12 H=>?_)
 ·conv=>whnf
  obtain rfl:=Option.some.inj H
  have H:=HQ5
  try dsimp only at H
  exact fb_ H
 conv=>whnf
 refine Ari.w ?_;conv=>whnf
 exact again_c [7,8,9,18,19,20,21,22,23,24,25,26,27,28,29,30,31] n6 0 [] (⟨_,H,rfl,rfl⟩) (Nat.lt_succ_self _) (Nat.zero_le _) rfl (by simp only [maskF,setF,List.set_cons_zero,List.set_cons_succ,V.ren.renL,V.ren,renL_id _ a2_h.own] <;> rfl) (by simp only [maskF,setF,List.set_cons_zero,List.set_cons_succ,V.idlt.belowL,V.idlt,fun n=>idltL_up (n:=n) _ a2_h.own] <;> rfl) rfl trivial
def gc119:BCode:=(.seq (.reg 1 [⟨(some 2),.bx (.tmp 0),none,0⟩,⟨(some 4),.mv (.const (.bool false)),none,1⟩] none 0 []) (.seq (.reg 0 [⟨(some 5),.fa 0 (.tmp 2),none,0⟩,⟨(some 6),.ld 1 false (.tmp 5),none,0⟩,⟨(some 7),.mv (.tmp 1),none,0⟩,⟨(some 8),.cl 185 [(.tmp 6),(.tmp 7),(.func 186)],none,0⟩,⟨(some 4),.mv (.tmp 8),none,0⟩] none 0 []) .ret))
theorem gc119_ok:compF Tryz.prog Tryz.f119=some (gc119.er,9,[.tmp 4]):=by unfold gc119;kernel_rfl
theorem p_view_Fits_v {u1 u2 u3 u4 u5:Bool} (a0:Ref35State) (a1:List BookRow):CallsO Tryz.prog 119 [.agg [.sl (List.map MailEntry.v a0.Rows) u1,.sl (List.map MailEntry.v a0.Last) u2,.b a0.Anew,.sl (List.map V.s a0.Seen) u3,.sl (List.map Ref35Contact.v a0.List) u4,.i a0.Odd,.i a0.Told],.sl (List.map BookRow.v a1) u5] V.b (p_view_Fits a0 a1):=by
 refine callsO_comp mix Tryz.func119 gc119_ok fun r H=>?_
 rw [p_view_Fits] at H
 conv=>whnf
 refine askF_c (p_slices_EqualFunc_view_Row_v _ _ _ ⟨⟨_,Tryz.func186,by kernel_rfl,by kernel_rfl⟩,rfl,fun x0 x1=>p_view_Fits_1_v _ _⟩) H (.cons (.c (.slw)) (.cons (.c (.slw)) (.cons (.c (.clo (.nil))) (.nil)))) (fun v1 H=>?_);conv=>whnf
 exact fb_ H
end Go.Proofs.YtpmoioopjbfhkaaGreat

/- That the program's functions yield what the plain ones tell (written by a program of mine). -/
namespace Go.Proofs.YtpmoioopjbfhkaaGreat
open Go.RowKit
set_option maxRecDepth 100000
set_option maxHeartbeats 4000000
def gc51:BCode:=(.seq (.reg 2 [⟨(some 2),.bx (.tmp 0),none,0⟩,⟨(some 4),.al (.agg [(.sl [] true),(.sl [] true),(.lit (.bool false)),(.sl [] true),(.sl [] true),(.lit (.int .i64 0)),(.lit (.int .i64 0))]),none,1⟩] none 0 []) (.seq (.seq (.reg 0 [⟨(some 7),.mv (.tmp 1),none,0⟩,⟨(some 8),.lens (.tmp 7),none,0⟩,⟨(some 9),.mv (.const (.int .i64 0)),none,0⟩] none 0 []) (.block 0 (.loop (.seq (.reg 0 [⟨(some 10),.bin .lss (.tmp 9) (.tmp 8),none,0⟩] none 0 []) (.seq (.cond (.tmp 10) .skip (.exit 0)) (.seq (.block 1 (.seq (.reg 1 [⟨(some 11),.ixs 8 (.tmp 7) (.tmp 9),none,0⟩,⟨(some 12),.ld 8 true (.tmp 11),none,0⟩,⟨(some 6),.al (.agg [(.lit (.int .u8 0)),(.lit (.string ⟨#[]⟩)),(.lit (.string ⟨#[]⟩)),(.lit (.string ⟨#[]⟩)),(.lit (.int .i64 0)),(.lit (.int .i64 0)),(.lit (.int .i64 0)),(.lit (.int .i64 0))]),none,0⟩,⟨none,.st 8 (.tmp 6) (.tmp 12),none,1⟩] none 0 []) (.reg 0 [⟨(some 13),.ld 7 true (.tmp 2),none,0⟩,⟨(some 14),.ld 8 true (.tmp 6),none,0⟩,⟨(some 15),.cl 116 [(.tmp 13),(.tmp 14)],none,0⟩,⟨none,.st 7 (.tmp 2) (.tmp 15),none,0⟩] none 0 []))) (.reg 0 [⟨(some 16),.bin .add (.tmp 9) (.const (.int .i64 1)),none,0⟩,⟨(some 9),.mv (.tmp 16),none,0⟩] none 0 []))))))) (.seq (.reg 0 [⟨(some 17),.ld 7 true (.tmp 2),none,0⟩,⟨none,.st 7 (.tmp 4) (.tmp 17),none,0⟩] none 0 []) .ret)))
theorem gc51_ok:compF Tryz.prog Tryz.f51=some (gc51.er,18,[.cell 4 7 true]):=by unfold gc51;kernel_rfl
theorem p_view_Run_v {u1 u2 u3 u4 u5:Bool} (a0:Ref35State) (a1:List StanzaStanza):CallsO Tryz.prog 51 [.agg [.sl (List.map MailEntry.v a0.Rows) u1,.sl (List.map MailEntry.v a0.Last) u2,.b a0.Anew,.sl (List.map V.s a0.Seen) u3,.sl (List.map Ref35Contact.v a0.List) u4,.i a0.Odd,.i a0.Told],.sl (List.map StanzaStanza.v a1) u5] Ref35State.v (p_view_Run a0 a1):=by
 refine callsO_comp mix Tryz.func51 gc51_ok fun r H=>?_
 rw [p_view_Run] at H
 conv=>whnf
 refine LenQ.M ?_;conv=>whnf
 obtain ⟨o2,HL3,HQ4⟩:=bind_c H
 refine loop_c [9] [6,10,11,12,13,14,15,16] [6,10,11,12,13,14,15,16] (fun n vals st=>(∃ y6 y7,p_view_Run_l1  a1 (a1.length:Int) n y6 y7=some o2∧vals=[.i y6]∧st=[.live [.sl (List.map MailEntry.v y7.Rows) u1,.sl (List.map MailEntry.v y7.Last) u2,.b y7.Anew,.sl (List.map V.s y7.Seen) u3,.sl (List.map Ref35Contact.v y7.List) u4,.i y7.Odd,.i y7.Told] 0,.live [.sl (List.map MailEntry.v []) true,.sl (List.map MailEntry.v []) true,.b false,.sl (List.map V.s []) true,.sl (List.map Ref35Contact.v []) true,.i (0:Int),.i (0:Int)] 0])∨(∃ y11 y12,p_view_Run_l1  a1 (a1.length:Int) n y11 y12=some o2∧vals=[.i y11]∧st=[.live [.sl (List.map MailEntry.v y12.Rows) false,.sl (List.map MailEntry.v y12.Last) false,.b y12.Anew,.sl (List.map V.s y12.Seen) false,.sl (List.map Ref35Contact.v y12.List) false,.i y12.Odd,.i y12.Told] 0,.live [.sl (List.map MailEntry.v []) true,.sl (List.map MailEntry.v []) true,.b false,.sl (List.map V.s []) true,.sl (List.map Ref35Contact.v []) true,.i (0:Int),.i (0:Int)] 0])) fuel 2 [] (.inl (⟨_,_,HL3,rfl,rfl⟩)) (Nat.zero_le _) rfl (by kernel_rfl) (by kernel_rfl) rfl ⟨⟨rfl,rfl,rfl⟩,⟨⟨rfl,rfl,rfl⟩,trivial⟩⟩ ?_
 rintro (_ | n5) _ _ (⟨y6,y7,H,rfl,rfl⟩ | ⟨y11,y12,H,rfl,rfl⟩)
 ·rw [p_view_Run_l1] at H;cases H
 ·rw [p_view_Run_l1] at H;cases H
 ·rw [p_view_Run_l1] at H
  conv=>whnf
  refine tst_d H (fun b8 H=>?_) (fun b8 H=>?_)
  ·conv=>whnf
   obtain rfl:=Option.some.inj H
   have H:=HQ4
   try dsimp only at H
   refine ⟨Nat.le_of_ble_eq_true rfl,?_⟩;conv=>whnf
   refine finR_c (enc:=Ref35State.v) H ?_;conv=>whnf
   exact ⟨_,.v (fzagg (.cons (.slw) (.cons (.slw) (.cons (.id rfl) (.cons (.slw) (.cons (.slw) (.cons (.id rfl) (.cons (.id rfl) (.nil)))))))) rfl)⟩
  conv=>whnf
  refine ixs_c (f:=StanzaStanza.v) H (fun _=>rfl) (fun x9 H=>?_);conv=>whnf
  refine ⟨Nat.le_of_ble_eq_true rfl,?_⟩;conv=>whnf
  refine ask_c (p_view_Tell_v _ _) H rfl rfl (fun v10 H=>?_);conv=>whnf
  refine ⟨Nat.le_of_ble_eq_true rfl,?_⟩;conv=>whnf
  refine Ari.w ?_;conv=>whnf
  exact again_c [6,10,11,12,13,14,15,16] n5 2 [] (.inr (⟨_,_,H,rfl,rfl⟩)) (Nat.lt_succ_self _) (Nat.zero_le _) rfl (by kernel_rfl) (by kernel_rfl) rfl ⟨⟨rfl,rfl,rfl⟩,⟨⟨rfl,rfl,rfl⟩,trivial⟩⟩
 rw [p_view_Run_l1] at H
 conv=>whnf
 refine tst_d H (fun b13 H=>?_) (fun b13 H=>?_)
 ·conv=>whnf
  obtain rfl:=Option.some.inj H
  have H:=HQ4
  try dsimp only at H
  refine ⟨Nat.le_of_ble_eq_true rfl,?_⟩;conv=>whnf
  exact fin0_c (enc:=Ref35State.v) H (.inr rfl) (.cons (.cell rfl rfl (Nat.le_of_ble_eq_true rfl)) (.nil)) rfl rfl
 conv=>whnf
 refine ixs_c (f:=StanzaStanza.v) H (fun _=>rfl) (fun x14 H=>?_);conv=>whnf
 refine ⟨Nat.le_of_ble_eq_true rfl,?_⟩;conv=>whnf
 refine ask_c (p_view_Tell_v _ _) H rfl rfl (fun v15 H=>?_);conv=>whnf
 refine ⟨Nat.le_of_ble_eq_true rfl,?_⟩;conv=>whnf
 refine Ari.w ?_;conv=>whnf
 exact again_c [6,10,11,12,13,14,15,16] n5 2 [] (.inr (⟨_,_,H,rfl,rfl⟩)) (Nat.lt_succ_self _) (Nat.zero_le _) rfl (by kernel_rfl) (by kernel_rfl) rfl ⟨⟨rfl,rfl,rfl⟩,⟨⟨rfl,rfl,rfl⟩,trivial⟩⟩
def gc184:BCode:=(.seq (.reg 1 [⟨(some 2),.bx (.tmp 0),none,0⟩,⟨(some 3),.mv (.const (.bool false)),none,1⟩] none 0 []) (.seq (.reg 0 [⟨(some 4),.fa 0 (.tmp 2),none,0⟩,⟨(some 5),.ld 1 false (.tmp 4),none,0⟩,⟨(some 6),.ld 1 false (.tmp 1),none,0⟩,⟨(some 7),.bin .eql (.tmp 5) (.tmp 6),none,0⟩,⟨(some 3),.mv (.tmp 7),none,0⟩] none 0 []) .ret))
theorem gc184_ok:compF Tryz.prog Tryz.f184=some (gc184.er,8,[.tmp 3]):=by unfold gc184;kernel_rfl
theorem p_view_Get_1_v (a0:MailEntry) (c0:ByteArray):CallsO Tryz.prog 184 [.agg [.s a0.Key,.b a0.P.On,.i a0.P.Show,.i a0.P.Prio,.i a0.P.Seq],.eptr [.s c0]] V.b (p_view_Get_1 a0 c0):=by
 refine callsO_comp mix Tryz.func184 gc184_ok fun r H=>?_
 rw [p_view_Get_1] at H
 conv=>whnf
 exact fb_ H
def gc117:BCode:=(.seq (.reg 3 [⟨(some 2),.bx (.tmp 0),none,0⟩,⟨(some 3),.bx (.tmp 1),none,1⟩,⟨(some 4),.al (.agg [(.lit (.bool false)),(.lit (.int .i64 0)),(.lit (.int .i64 0)),(.lit (.int .i64 0))]),none,2⟩,⟨(some 5),.mv (.const (.bool false)),none,3⟩] none 0 []) (.seq (.reg 0 [⟨(some 7),.fa 0 (.tmp 2),none,0⟩,⟨(some 8),.ld 1 false (.tmp 7),none,0⟩,⟨(some 9),.mf (.func 184) [(.tmp 3)],none,0⟩,⟨(some 10),.cl 183 [(.tmp 8),(.tmp 9)],none,0⟩,⟨(some 6),.mv (.tmp 10),none,0⟩] none 0 [3]) (.seq (.seq (.reg 0 [⟨(some 11),.mv (.tmp 6),none,0⟩,⟨(some 12),.bin .lss (.tmp 11) (.const (.int .i64 0)),none,0⟩] none 0 []) (.cond (.tmp 12) (.seq (.reg 0 [⟨(some 13),.bd [(.lit (.bool false)),(.lit (.int .i64 0)),(.lit (.int .i64 0)),(.lit (.int .i64 0))] [],none,0⟩,⟨none,.st 4 (.tmp 4) (.tmp 13),none,0⟩,⟨(some 5),.mv (.const (.bool false)),none,0⟩] none 0 []) .ret) .skip)) (.seq (.reg 0 [⟨(some 14),.fa 0 (.tmp 2),none,0⟩,⟨(some 15),.ld 1 false (.tmp 14),none,0⟩,⟨(some 16),.mv (.tmp 6),none,0⟩,⟨(some 17),.ixs 5 (.tmp 15) (.tmp 16),none,0⟩,⟨(some 18),.fa 1 (.tmp 17),none,0⟩,⟨(some 19),.ld 4 true (.tmp 18),none,0⟩,⟨none,.st 4 (.tmp 4) (.tmp 19),none,0⟩,⟨(some 5),.mv (.const (.bool true)),none,0⟩] none 0 []) .ret))))
theorem gc117_ok:compF Tryz.prog Tryz.f117=some (gc117.er,20,[.cell 4 4 true,.tmp 5]):=by unfold gc117;kernel_rfl
theorem p_view_Get_v {u1 u2 u3 u4:Bool} (a0:Ref35State) (a1:ByteArray):CallsO Tryz.prog 117 [.agg [.sl (List.map MailEntry.v a0.Rows) u1,.sl (List.map MailEntry.v a0.Last) u2,.b a0.Anew,.sl (List.map V.s a0.Seen) u3,.sl (List.map Ref35Contact.v a0.List) u4,.i a0.Odd,.i a0.Told],.s a1] (fun r:PresPres × Bool=>.tup [PresPres.v r.1,V.b r.2]) (p_view_Get a0 a1):=by
 refine callsO_comp mix Tryz.func117 gc117_ok fun r H=>?_
 rw [p_view_Get] at H
 conv=>whnf
 refine ⟨Nat.zero_le _,?_⟩;conv=>whnf
 refine askF_c (p_slices_IndexFunc_view_Row_v _ _ ⟨⟨_,Tryz.func184,by kernel_rfl,by kernel_rfl⟩,rfl,fun x0=>p_view_Get_1_v _ _⟩) H (.cons (.c (.slw)) (.cons (.c (.clo (.cons (.ptr rfl (Nat.le_of_ble_eq_true rfl) (.cons (.id rfl) (.nil))) (.nil)))) (.nil))) (fun v1 H=>?_);conv=>whnf
 refine tst_c H (fun b2 H=>?_) (fun b2 H=>?_)
 ·conv=>whnf
  refine ⟨Nat.le_of_ble_eq_true rfl,?_⟩;conv=>whnf
  exact fin0_c (enc:=(fun r:PresPres × Bool=>.tup [PresPres.v r.1,V.b r.2])) H (.inr rfl) (.cons (.cell rfl rfl (Nat.le_of_ble_eq_true rfl)) (.cons (.tmp rfl) (.nil))) rfl rfl
 conv=>whnf
 refine ixs_c (f:=MailEntry.v) H (fun _=>rfl) (fun x3 H=>?_);conv=>whnf
 refine ⟨Nat.le_of_ble_eq_true rfl,?_⟩;conv=>whnf
 refine ⟨Nat.le_of_ble_eq_true rfl,?_⟩;conv=>whnf
 exact fin0_c (enc:=(fun r:PresPres × Bool=>.tup [PresPres.v r.1,V.b r.2])) H (.inr rfl) (.cons (.cell rfl rfl (Nat.le_of_ble_eq_true rfl)) (.cons (.tmp rfl) (.nil))) rfl rfl
def gc118:BCode:=(.seq (.reg 1 [⟨(some 1),.bx (.tmp 0),none,0⟩,⟨(some 2),.mv (.const (.slice none 0 0)),none,1⟩] none 0 []) (.seq (.reg 0 [⟨(some 3),.mv (.const (.slice none 0 0)),none,0⟩] none 0 []) (.seq (.seq (.reg 0 [⟨(some 6),.fa 4 (.tmp 1),none,0⟩,⟨(some 7),.ld 1 false (.tmp 6),none,0⟩,⟨(some 8),.lens (.tmp 7),none,0⟩,⟨(some 9),.mv (.const (.int .i64 0)),none,0⟩] none 0 []) (.block 0 (.loop (.seq (.reg 0 [⟨(some 10),.bin .lss (.tmp 9) (.tmp 8),none,0⟩] none 0 []) (.seq (.cond (.tmp 10) .skip (.exit 0)) (.seq (.block 1 (.seq (.reg 1 [⟨(some 11),.ixs 4 (.tmp 7) (.tmp 9),none,0⟩,⟨(some 12),.ld 4 true (.tmp 11),none,0⟩,⟨(some 5),.al (.agg [(.lit (.string ⟨#[]⟩)),(.lit (.string ⟨#[]⟩)),(.lit (.int .i64 0)),(.lit (.int .i64 0))]),none,0⟩,⟨none,.st 4 (.tmp 5) (.tmp 12),none,1⟩] none 0 []) (.reg 2 [⟨(some 13),.mv (.tmp 3),none,0⟩,⟨(some 14),.fa 0 (.tmp 5),none,0⟩,⟨(some 15),.ld 1 false (.tmp 14),none,0⟩,⟨(some 16),.bs 1 1 [(.lit (.string ⟨#[]⟩))] [(0,(.tmp 15))],none,0⟩,⟨(some 17),.ap 1 16 (.tmp 13) (.tmp 16),none,1⟩,⟨(some 3),.mv (.tmp 17),none,2⟩] none 0 []))) (.reg 0 [⟨(some 18),.bin .add (.tmp 9) (.const (.int .i64 1)),none,0⟩,⟨(some 9),.mv (.tmp 18),none,0⟩] none 0 []))))))) (.seq (.reg 0 [⟨(some 19),.mv (.tmp 3),none,0⟩,⟨(some 2),.mv (.tmp 19),none,0⟩] none 0 []) .ret))))
theorem gc118_ok:compF Tryz.prog Tryz.f118=some (gc118.er,20,[.tmp 2]):=by unfold gc118;kernel_rfl
theorem p_view_Contacts_v {u1 u2 u3 u4:Bool} (a0:Ref35State):CallsO Tryz.prog 118 [.agg [.sl (List.map MailEntry.v a0.Rows) u1,.sl (List.map MailEntry.v a0.Last) u2,.b a0.Anew,.sl (List.map V.s a0.Seen) u3,.sl (List.map Ref35Contact.v a0.List) u4,.i a0.Odd,.i a0.Told]] (fun l:List ByteArray=>V.sl (l.map V.s) false) (p_view_Contacts a0):=by
 refine callsO_comp mix Tryz.func118 gc118_ok fun r H=>?_
 rw [p_view_Contacts] at H
 conv=>whnf
 refine LenQ.M ?_;conv=>whnf
 obtain ⟨o2,HL3,HQ4⟩:=bind_c H
 refine loop_c [3,9] [5,10,11,12,13,14,15,16,17,18,1,6] [5,10,11,12,13,14,15,16,17,18,1,6] (fun n vals st=>(∃ y6,p_view_Contacts_l1  a0.List (a0.List.length:Int) n [] y6=some o2∧vals=[.sl (List.map V.s []) true,.i y6]∧st=[])∨(∃ y10 y11,p_view_Contacts_l1  a0.List (a0.List.length:Int) n y10 y11=some o2∧vals=[.osl 0 0 (List.length y10) 1 false,.i y11]∧st=[.live (cellsM V.s y10) (cellsM V.s y10).length])) fuel 0 [] (.inl (⟨_,HL3,rfl,rfl⟩)) (Nat.zero_le _) rfl (by kernel_rfl) (by kernel_rfl) rfl trivial ?_
 rintro (_ | n5) _ _ (⟨y6,H,rfl,rfl⟩ | ⟨y10,y11,H,rfl,rfl⟩)
 ·rw [p_view_Contacts_l1] at H;cases H
 ·rw [p_view_Contacts_l1] at H;cases H
 ·rw [p_view_Contacts_l1] at H
  conv=>whnf
  refine tst_d H (fun b7 H=>?_) (fun b7 H=>?_)
  ·conv=>whnf
   obtain rfl:=Option.some.inj H
   have H:=HQ4
   try dsimp only at H
   refine finR_c (enc:=(fun l:List ByteArray=>V.sl (l.map V.s) false)) H ?_;conv=>whnf
   exact ⟨_,.v (.c (.slw))⟩
  conv=>whnf
  refine ixs_c (f:=Ref35Contact.v) H (fun _=>rfl) (fun x8 H=>?_);conv=>whnf
  refine ⟨Nat.le_of_ble_eq_true rfl,?_⟩;conv=>whnf
  refine appN_c (f:=V.s) H (fun _=>rfl) (srcM (f:=V.s) (fun _=>rfl) _ _) rfl (.v (srcOwn (f:=V.s) (l:=[x8.User]) (fun _=>rfl) rfl rfl rfl)) (by decide) rfl (by simp) (fun l9 H=>?_);conv=>whnf
  refine Ari.w ?_;conv=>whnf
  exact again_c [5,10,11,12,13,14,15,16,17,18,1,6] n5 1 [2] (.inr (⟨_,_,H,rfl,rfl⟩)) (Nat.lt_succ_self _) (Nat.zero_le _) rfl (by kernel_rfl) (by kernel_rfl) rfl (wkB_live0 rfl (cellsM_idlt (f:=V.s) (fun _=>rfl) _) rfl trivial)
 rw [p_view_Contacts_l1] at H
 conv=>whnf
 refine tst_d H (fun b12 H=>?_) (fun b12 H=>?_)
 ·conv=>whnf
  obtain rfl:=Option.some.inj H
  have H:=HQ4
  try dsimp only at H
  refine finR_c (enc:=(fun l:List ByteArray=>V.sl (l.map V.s) false)) H ?_;conv=>whnf
  exact ⟨_,.v (.c (fzown (f:=V.s) (l:=y10) rfl rfl (fun _=>rfl) (fun _=>rfl)))⟩
 conv=>whnf
 refine ixs_c (f:=Ref35Contact.v) H (fun _=>rfl) (fun x13 H=>?_);conv=>whnf
 refine ⟨Nat.le_of_ble_eq_true rfl,?_⟩;conv=>whnf
 refine appO_c (f:=V.s) H (fun _=>rfl) rfl (Nat.le_refl _) (.v (srcOwn (f:=V.s) (l:=[x13.User]) (fun _=>rfl) rfl rfl rfl)) (by decide) rfl (by simp) (fun l14 H=>?_);conv=>whnf
 refine Ari.w ?_;conv=>whnf
 exact again_c [5,10,11,12,13,14,15,16,17,18,1,6] n5 1 [3] (.inr (⟨_,_,H,rfl,rfl⟩)) (Nat.lt_succ_self _) (Nat.zero_le _) rfl (by kernel_rfl) (by kernel_rfl) rfl (wkB_live0 rfl (cellsM_idlt (f:=V.s) (fun _=>rfl) _) rfl trivial)
def gc104:BCode:=(.seq (.reg 0 [⟨(some 4),.mv (.const (.bool false)),none,0⟩] none 0 []) (.seq (.seq (.reg 0 [⟨(some 6),.mv (.tmp 0),none,0⟩,⟨(some 7),.lens (.tmp 6),none,0⟩,⟨(some 8),.mv (.tmp 1),none,0⟩,⟨(some 9),.lens (.tmp 8),none,0⟩,⟨(some 10),.bin .neq (.tmp 7) (.tmp 9),none,0⟩] none 0 []) (.cond (.tmp 10) (.seq (.reg 0 [⟨(some 4),.mv (.const (.bool false)),none,0⟩] none 0 []) .ret) .skip)) (.seq (.seq (.reg 0 [⟨(some 5),.mv (.const (.int .i64 0)),none,0⟩] none 0 []) (.block 0 (.loop (.seq (.seq (.reg 0 [⟨(some 11),.mv (.tmp 5),none,0⟩,⟨(some 12),.mv (.tmp 0),none,0⟩,⟨(some 13),.lens (.tmp 12),none,0⟩,⟨(some 14),.bin .lss (.tmp 11) (.tmp 13),none,0⟩] none 0 []) (.cond (.tmp 14) .skip (.exit 0))) (.seq (.block 1 (.seq (.reg 0 [⟨(some 17),.mv (.tmp 0),none,0⟩,⟨(some 18),.mv (.tmp 5),none,0⟩,⟨(some 19),.ixs 1 (.tmp 17) (.tmp 18),none,0⟩,⟨(some 20),.ld 1 false (.tmp 19),none,0⟩,⟨(some 21),.mv (.tmp 1),none,0⟩,⟨(some 22),.mv (.tmp 5),none,0⟩,⟨(some 23),.ixs 1 (.tmp 21) (.tmp 22),none,0⟩,⟨(some 24),.ld 1 false (.tmp 23),none,0⟩,⟨(some 25),.bin .neq (.tmp 20) (.tmp 24),none,0⟩] (some [[],[],[1,0],[0,1,2],[],[],[5,4],[4,5,6],[6,5,4,7,2,1,0,3]]) 0 []) (.cond (.tmp 25) (.seq (.reg 0 [⟨(some 4),.mv (.const (.bool false)),none,0⟩] none 0 []) .ret) .skip))) (.reg 0 [⟨(some 15),.mv (.tmp 5),none,0⟩,⟨(some 16),.bin .add (.tmp 15) (.const (.int .i64 1)),none,0⟩,⟨(some 5),.mv (.tmp 16),none,0⟩] none 0 [])))))) (.seq (.reg 0 [⟨(some 4),.mv (.const (.bool true)),none,0⟩] none 0 []) .ret))))
theorem gc104_ok:compF Tryz.prog Tryz.f104=some (gc104.er,26,[.tmp 4]):=by unfold gc104;kernel_rfl
theorem p_ref01_SameTexts_v {u1 u2:Bool} (a0:List ByteArray) (a1:List ByteArray):CallsO Tryz.prog 104 [.sl (List.map V.s a0) u1,.sl (List.map V.s a1) u2] V.b (p_ref01_SameTexts a0 a1):=by
 refine callsO_comp mix Tryz.func104 gc104_ok fun r H=>?_
 rw [p_ref01_SameTexts] at H
 conv=>whnf
 iterate 2 (refine LenQ.M ?_;conv=>whnf)
 refine tst_c H (fun b1 H=>?_) (fun b1 H=>?_)
 ·conv=>whnf
  exact fb_ H
 conv=>whnf
 obtain ⟨o3,HL4,HQ5⟩:=bind_c H
 refine loop_c [4,5] [11,12,13,14,15,16,17,18,19,20,21,22,23,24,25] [11,12,13,14,15,16,17,18,19,20,21,22,23,24,25] (fun n vals st=>(∃ y7,p_ref01_SameTexts_l1  a0 a1 n y7=some o3∧vals=[.b false,.i y7]∧st=[])) fuel 0 [] (⟨_,HL4,rfl,rfl⟩) (Nat.zero_le _) rfl (by kernel_rfl) (by kernel_rfl) rfl trivial ?_
 rintro (_ | n6) _ _ (⟨y7,H,rfl,rfl⟩)
 ·rw [p_ref01_SameTexts_l1] at H;cases H
 rw [p_ref01_SameTexts_l1] at H
 conv=>whnf
 refine LenQ.M ?_;conv=>whnf
 refine tst_d H (fun b8 H=>?_) (fun b8 H=>?_)
 ·conv=>whnf
  obtain rfl:=Option.some.inj H
  have H:=HQ5
  try dsimp only at H
  exact fb_ H
 conv=>whnf
 refine ixs_c (f:=V.s) H (fun _=>rfl) (fun x9 H=>?_);conv=>whnf
 refine ixs_c (f:=V.s) H (fun _=>rfl) (fun x10 H=>?_);conv=>whnf
 refine FootQ.mk ⟨rfl,?_⟩;conv=>whnf
 refine Tst.not ?_
 refine tst_d H (fun b11 H=>?_) (fun b11 H=>?_)
 ·conv=>whnf
  obtain rfl:=Option.some.inj H
  have H:=HQ5
  try dsimp only at H
  exact fb_ H
 conv=>whnf
 refine Ari.w ?_;conv=>whnf
 exact again_c [11,12,13,14,15,16,17,18,19,20,21,22,23,24,25] n6 0 [] (⟨_,H,rfl,rfl⟩) (Nat.lt_succ_self _) (Nat.zero_le _) rfl (by kernel_rfl) (by kernel_rfl) rfl trivial
def gc193:BCode:=(.seq (.reg 0 [⟨(some 4),.mv (.const (.bool false)),none,0⟩] none 0 []) (.seq (.seq (.reg 0 [⟨(some 6),.mv (.tmp 0),none,0⟩,⟨(some 7),.lens (.tmp 6),none,0⟩,⟨(some 8),.mv (.tmp 1),none,0⟩,⟨(some 9),.lens (.tmp 8),none,0⟩,⟨(some 10),.bin .neq (.tmp 7) (.tmp 9),none,0⟩] none 0 []) (.cond (.tmp 10) (.seq (.reg 0 [⟨(some 4),.mv (.const (.bool false)),none,0⟩] none 0 []) .ret) .skip)) (.seq (.seq (.reg 0 [⟨(some 11),.mv (.tmp 0),none,0⟩,⟨(some 12),.lens (.tmp 11),none,0⟩,⟨(some 13),.mv (.const (.int .i64 0)),none,0⟩] none 0 []) (.block 0 (.loop (.seq (.reg 0 [⟨(some 14),.bin .lss (.tmp 13) (.tmp 12),none,0⟩] none 0 []) (.seq (.cond (.tmp 14) .skip (.exit 0)) (.seq (.block 1 (.seq (.reg 0 [⟨(some 15),.mv (.tmp 13),none,0⟩,⟨(some 5),.mv (.tmp 15),none,0⟩] none 0 []) (.seq (.reg 0 [⟨(some 16),.mv (.tmp 0),none,0⟩,⟨(some 17),.mv (.tmp 5),none,0⟩,⟨(some 18),.ixs 5 (.tmp 16) (.tmp 17),none,0⟩,⟨(some 19),.ld 5 true (.tmp 18),none,0⟩,⟨(some 20),.mv (.tmp 1),none,0⟩,⟨(some 21),.mv (.tmp 5),none,0⟩,⟨(some 22),.ixs 5 (.tmp 20) (.tmp 21),none,0⟩,⟨(some 23),.ld 5 true (.tmp 22),none,0⟩,⟨(some 24),.eqa true [2,0,1,1,1] (.tmp 19) (.tmp 23),none,0⟩] (some [[],[],[1,0],[0,1,2],[],[],[5,4],[4,5,6],[6,5,4,7,2,1,0,3]]) 0 []) (.cond (.tmp 24) (.seq (.reg 0 [⟨(some 4),.mv (.const (.bool false)),none,0⟩] none 0 []) .ret) .skip)))) (.reg 0 [⟨(some 25),.bin .add (.tmp 13) (.const (.int .i64 1)),none,0⟩,⟨(some 13),.mv (.tmp 25),none,0⟩] none 0 []))))))) (.seq (.reg 0 [⟨(some 4),.mv (.const (.bool true)),none,0⟩] none 0 []) .ret))))
theorem gc193_ok:compF Tryz.prog Tryz.f193=some (gc193.er,26,[.tmp 4]):=by unfold gc193;kernel_rfl
theorem p_slices_Equal_view_Row_v {u1 u2:Bool} (a0:List MailEntry) (a1:List MailEntry):CallsO Tryz.prog 193 [.sl (List.map MailEntry.v a0) u1,.sl (List.map MailEntry.v a1) u2] V.b (p_slices_Equal_view_Row a0 a1):=by
 refine callsO_comp mix Tryz.func193 gc193_ok fun r H=>?_
 rw [p_slices_Equal_view_Row] at H
 conv=>whnf
 iterate 2 (refine LenQ.M ?_;conv=>whnf)
 refine tst_c H (fun b1 H=>?_) (fun b1 H=>?_)
 ·conv=>whnf
  exact fb_ H
 conv=>whnf
 refine LenQ.M ?_;conv=>whnf
 obtain ⟨o3,HL4,HQ5⟩:=bind_c H
 refine loop_c [4,13] [5,14,15,16,17,18,19,20,21,22,23,24,25] [5,14,15,16,17,18,19,20,21,22,23,24,25] (fun n vals st=>(∃ y7,p_slices_Equal_view_Row_l1  a0 a1 (a0.length:Int) n y7=some o3∧vals=[.b false,.i y7]∧st=[])) fuel 0 [] (⟨_,HL4,rfl,rfl⟩) (Nat.zero_le _) rfl (by kernel_rfl) (by kernel_rfl) rfl trivial ?_
 rintro (_ | n6) _ _ (⟨y7,H,rfl,rfl⟩)
 ·rw [p_slices_Equal_view_Row_l1] at H;cases H
 rw [p_slices_Equal_view_Row_l1] at H
 conv=>whnf
 refine tst_d H (fun b8 H=>?_) (fun b8 H=>?_)
 ·conv=>whnf
  obtain rfl:=Option.some.inj H
  have H:=HQ5
  try dsimp only at H
  exact fb_ H
 conv=>whnf
 refine ixs_c (f:=MailEntry.v) H (fun _=>rfl) (fun x9 H=>?_);conv=>whnf
 refine ixs_c (f:=MailEntry.v) H (fun _=>rfl) (fun x10 H=>?_);conv=>whnf
 refine FootQ.mk ⟨rfl,?_⟩;conv=>whnf
 refine Tst.not ?_
 refine tst_d H (fun b11 H=>?_) (fun b11 H=>?_)
 ·conv=>whnf
  obtain rfl:=Option.some.inj H
  have H:=HQ5
  try dsimp only at H
  exact fb_ H
 conv=>whnf
 refine Ari.w ?_;conv=>whnf
 exact again_c [5,14,15,16,17,18,19,20,21,22,23,24,25] n6 0 [] (⟨_,H,rfl,rfl⟩) (Nat.lt_succ_self _) (Nat.zero_le _) rfl (by kernel_rfl) (by kernel_rfl) rfl trivial
def gc194:BCode:=(.seq (.reg 0 [⟨(some 4),.mv (.const (.bool false)),none,0⟩] none 0 []) (.seq (.seq (.reg 0 [⟨(some 6),.mv (.tmp 0),none,0⟩,⟨(some 7),.lens (.tmp 6),none,0⟩,⟨(some 8),.mv (.tmp 1),none,0⟩,⟨(some 9),.lens (.tmp 8),none,0⟩,⟨(some 10),.bin .neq (.tmp 7) (.tmp 9),none,0⟩] none 0 []) (.cond (.tmp 10) (.seq (.reg 0 [⟨(some 4),.mv (.const (.bool false)),none,0⟩] none 0 []) .ret) .skip)) (.seq (.seq (.reg 0 [⟨(some 11),.mv (.tmp 0),none,0⟩,⟨(some 12),.lens (.tmp 11),none,0⟩,⟨(some 13),.mv (.const (.int .i64 0)),none,0⟩] none 0 []) (.block 0 (.loop (.seq (.reg 0 [⟨(some 14),.bin .lss (.tmp 13) (.tmp 12),none,0⟩] none 0 []) (.seq (.cond (.tmp 14) .skip (.exit 0)) (.seq (.block 1 (.seq (.reg 0 [⟨(some 15),.mv (.tmp 13),none,0⟩,⟨(some 5),.mv (.tmp 15),none,0⟩] none 0 []) (.seq (.reg 0 [⟨(some 16),.mv (.tmp 0),none,0⟩,⟨(some 17),.mv (.tmp 5),none,0⟩,⟨(some 18),.ixs 1 (.tmp 16) (.tmp 17),none,0⟩,⟨(some 19),.ld 1 false (.tmp 18),none,0⟩,⟨(some 20),.mv (.tmp 1),none,0⟩,⟨(some 21),.mv (.tmp 5),none,0⟩,⟨(some 22),.ixs 1 (.tmp 20) (.tmp 21),none,0⟩,⟨(some 23),.ld 1 false (.tmp 22),none,0⟩,⟨(some 24),.bin .neq (.tmp 19) (.tmp 23),none,0⟩] (some [[],[],[1,0],[0,1,2],[],[],[5,4],[4,5,6],[6,5,4,7,2,1,0,3]]) 0 []) (.cond (.tmp 24) (.seq (.reg 0 [⟨(some 4),.mv (.const (.bool false)),none,0⟩] none 0 []) .ret) .skip)))) (.reg 0 [⟨(some 25),.bin .add (.tmp 13) (.const (.int .i64 1)),none,0⟩,⟨(some 13),.mv (.tmp 25),none,0⟩] none 0 []))))))) (.seq (.reg 0 [⟨(some 4),.mv (.const (.bool true)),none,0⟩] none 0 []) .ret))))
theorem gc194_ok:compF Tryz.prog Tryz.f194=some (gc194.er,26,[.tmp 4]):=by unfold gc194;kernel_rfl
theorem p_slices_Equal_string_v {u1 u2:Bool} (a0:List ByteArray) (a1:List ByteArray):CallsO Tryz.prog 194 [.sl (List.map V.s a0) u1,.sl (List.map V.s a1) u2] V.b (p_slices_Equal_string a0 a1):=by
 refine callsO_comp mix Tryz.func194 gc194_ok fun r H=>?_
 rw [p_slices_Equal_string] at H
 conv=>whnf
 iterate 2 (refine LenQ.M ?_;conv=>whnf)
 refine tst_c H (fun b1 H=>?_) (fun b1 H=>?_)
 ·conv=>whnf
  exact fb_ H
 conv=>whnf
 refine LenQ.M ?_;conv=>whnf
 obtain ⟨o3,HL4,HQ5⟩:=bind_c H
 refine loop_c [4,13] [5,14,15,16,17,18,19,20,21,22,23,24,25] [5,14,15,16,17,18,19,20,21,22,23,24,25] (fun n vals st=>(∃ y7,p_slices_Equal_string_l1  a0 a1 (a0.length:Int) n y7=some o3∧vals=[.b false,.i y7]∧st=[])) fuel 0 [] (⟨_,HL4,rfl,rfl⟩) (Nat.zero_le _) rfl (by kernel_rfl) (by kernel_rfl) rfl trivial ?_
 rintro (_ | n6) _ _ (⟨y7,H,rfl,rfl⟩)
 ·rw [p_slices_Equal_string_l1] at H;cases H
 rw [p_slices_Equal_string_l1] at H
 conv=>whnf
 refine tst_d H (fun b8 H=>?_) (fun b8 H=>?_)
 ·conv=>whnf
  obtain rfl:=Option.some.inj H
  have H:=HQ5
  try dsimp only at H
  exact fb_ H
 conv=>whnf
 refine ixs_c (f:=V.s) H (fun _=>rfl) (fun x9 H=>?_);conv=>whnf
 refine ixs_c (f:=V.s) H (fun _=>rfl) (fun x10 H=>?_);conv=>whnf
 refine FootQ.mk ⟨rfl,?_⟩;conv=>whnf
 refine Tst.not ?_
 refine tst_d H (fun b11 H=>?_) (fun b11 H=>?_)
 ·conv=>whnf
  obtain rfl:=Option.some.inj H
  have H:=HQ5
  try dsimp only at H
  exact fb_ H
 conv=>whnf
 refine Ari.w ?_;conv=>whnf
 exact again_c [5,14,15,16,17,18,19,20,21,22,23,24,25] n6 0 [] (⟨_,H,rfl,rfl⟩) (Nat.lt_succ_self _) (Nat.zero_le _) rfl (by kernel_rfl) (by kernel_rfl) rfl trivial
def gc195:BCode:=(.seq (.reg 0 [⟨(some 4),.mv (.const (.bool false)),none,0⟩] none 0 []) (.seq (.seq (.reg 0 [⟨(some 6),.mv (.tmp 0),none,0⟩,⟨(some 7),.lens (.tmp 6),none,0⟩,⟨(some 8),.mv (.tmp 1),none,0⟩,⟨(some 9),.lens (.tmp 8),none,0⟩,⟨(some 10),.bin .neq (.tmp 7) (.tmp 9),none,0⟩] none 0 []) (.cond (.tmp 10) (.seq (.reg 0 [⟨(some 4),.mv (.const (.bool false)),none,0⟩] none 0 []) .ret) .skip)) (.seq (.seq (.reg 0 [⟨(some 11),.mv (.tmp 0),none,0⟩,⟨(some 12),.lens (.tmp 11),none,0⟩,⟨(some 13),.mv (.const (.int .i64 0)),none,0⟩] none 0 []) (.block 0 (.loop (.seq (.reg 0 [⟨(some 14),.bin .lss (.tmp 13) (.tmp 12),none,0⟩] none 0 []) (.seq (.cond (.tmp 14) .skip (.exit 0)) (.seq (.block 1 (.seq (.reg 0 [⟨(some 15),.mv (.tmp 13),none,0⟩,⟨(some 5),.mv (.tmp 15),none,0⟩] none 0 []) (.seq (.reg 0 [⟨(some 16),.mv (.tmp 0),none,0⟩,⟨(some 17),.mv (.tmp 5),none,0⟩,⟨(some 18),.ixs 4 (.tmp 16) (.tmp 17),none,0⟩,⟨(some 19),.ld 4 true (.tmp 18),none,0⟩,⟨(some 20),.mv (.tmp 1),none,0⟩,⟨(some 21),.mv (.tmp 5),none,0⟩,⟨(some 22),.ixs 4 (.tmp 20) (.tmp 21),none,0⟩,⟨(some 23),.ld 4 true (.tmp 22),none,0⟩,⟨(some 24),.eqa true [2,2,1,1] (.tmp 19) (.tmp 23),none,0⟩] (some [[],[],[1,0],[0,1,2],[],[],[5,4],[4,5,6],[6,5,4,7,2,1,0,3]]) 0 []) (.cond (.tmp 24) (.seq (.reg 0 [⟨(some 4),.mv (.const (.bool false)),none,0⟩] none 0 []) .ret) .skip)))) (.reg 0 [⟨(some 25),.bin .add (.tmp 13) (.const (.int .i64 1)),none,0⟩,⟨(some 13),.mv (.tmp 25),none,0⟩] none 0 []))))))) (.seq (.reg 0 [⟨(some 4),.mv (.const (.bool true)),none,0⟩] none 0 []) .ret))))
theorem gc195_ok:compF Tryz.prog Tryz.f195=some (gc195.er,26,[.tmp 4]):=by unfold gc195;kernel_rfl
theorem p_slices_Equal_view_Contact_v {u1 u2:Bool} (a0:List Ref35Contact) (a1:List Ref35Contact):CallsO Tryz.prog 195 [.sl (List.map Ref35Contact.v a0) u1,.sl (List.map Ref35Contact.v a1) u2] V.b (p_slices_Equal_view_Contact a0 a1):=by
 refine callsO_comp mix Tryz.func195 gc195_ok fun r H=>?_
 rw [p_slices_Equal_view_Contact] at H
 conv=>whnf
 iterate 2 (refine LenQ.M ?_;conv=>whnf)
 refine tst_c H (fun b1 H=>?_) (fun b1 H=>?_)
 ·conv=>whnf
  exact fb_ H
 conv=>whnf
 refine LenQ.M ?_;conv=>whnf
 obtain ⟨o3,HL4,HQ5⟩:=bind_c H
 refine loop_c [4,13] [5,14,15,16,17,18,19,20,21,22,23,24,25] [5,14,15,16,17,18,19,20,21,22,23,24,25] (fun n vals st=>(∃ y7,p_slices_Equal_view_Contact_l1  a0 a1 (a0.length:Int) n y7=some o3∧vals=[.b false,.i y7]∧st=[])) fuel 0 [] (⟨_,HL4,rfl,rfl⟩) (Nat.zero_le _) rfl (by kernel_rfl) (by kernel_rfl) rfl trivial ?_
 rintro (_ | n6) _ _ (⟨y7,H,rfl,rfl⟩)
 ·rw [p_slices_Equal_view_Contact_l1] at H;cases H
 rw [p_slices_Equal_view_Contact_l1] at H
 conv=>whnf
 refine tst_d H (fun b8 H=>?_) (fun b8 H=>?_)
 ·conv=>whnf
  obtain rfl:=Option.some.inj H
  have H:=HQ5
  try dsimp only at H
  exact fb_ H
 conv=>whnf
 refine ixs_c (f:=Ref35Contact.v) H (fun _=>rfl) (fun x9 H=>?_);conv=>whnf
 refine ixs_c (f:=Ref35Contact.v) H (fun _=>rfl) (fun x10 H=>?_);conv=>whnf
 refine FootQ.mk ⟨rfl,?_⟩;conv=>whnf
 refine Tst.not ?_
 refine tst_d H (fun b11 H=>?_) (fun b11 H=>?_)
 ·conv=>whnf
  obtain rfl:=Option.some.inj H
  have H:=HQ5
  try dsimp only at H
  exact fb_ H
 conv=>whnf
 refine Ari.w ?_;conv=>whnf
 exact again_c [5,14,15,16,17,18,19,20,21,22,23,24,25] n6 0 [] (⟨_,H,rfl,rfl⟩) (Nat.lt_succ_self _) (Nat.zero_le _) rfl (by kernel_rfl) (by kernel_rfl) rfl trivial
end Go.Proofs.YtpmoioopjbfhkaaGreat

