/- A part of the proof: 5 texts joined. -/
import Derived.Test.YtpmoioopjbfhkaaGreatWdA14
import Derived.Test.YtpmoioopjbfhkaaGreatWdA12
import Derived.Test.YtpmoioopjbfhkaaGreatWdA15
import Derived.Test.YtpmoioopjbfhkaaGreatWdA16
import Derived.Test.YtpmoioopjbfhkaaGreatWdA17
import Derived.Test.YtpmoioopjbfhkaaGreatWdA11
import Derived.KernelRfl
set_option linter.all false
/- That the program's functions yield what the plain ones tell (written by a program of mine). -/
namespace Go.Proofs.YtpmoioopjbfhkaaGreat
open Go.RowKit
set_option maxRecDepth 100000
set_option maxHeartbeats 4000000
def gc41:BCode:=(.seq (.reg 2 [⟨(some 3),.bx (.tmp 0),none,0⟩,⟨(some 6),.al (.agg [(.lit (.int .i64 0)),(.lit (.int .i64 0)),(.sl [] true),(.sl [] true)]),none,1⟩,⟨(some 7),.mv (.const (.int .i64 0)),none,2⟩] none 0 []) (.seq (.reg 1 [⟨(some 14),.ld 4 true (.tmp 3),none,0⟩,⟨(some 15),.cl 107 [(.tmp 14)],none,0⟩,⟨(some 8),.al (.agg [(.lit (.int .i64 0)),(.lit (.int .i64 0)),(.sl [] true),(.sl [] true)]),none,0⟩,⟨none,.st 4 (.tmp 8) (.tmp 15),none,1⟩] none 2 []) (.seq (.seq (.reg 0 [⟨(some 16),.ld 4 true (.tmp 3),none,0⟩,⟨(some 17),.cl 77 [(.tmp 16)],none,0⟩,⟨(some 9),.mv (.tmp 17),none,0⟩] none 0 []) (.seq (.reg 0 [⟨(some 18),.mv (.tmp 9),none,0⟩,⟨(some 19),.bin .neq (.tmp 18) (.const (.int .i64 0)),none,0⟩] none 0 []) (.cond (.tmp 19) (.seq (.reg 0 [⟨(some 20),.ld 4 true (.tmp 8),none,0⟩,⟨(some 21),.mv (.tmp 9),none,0⟩,⟨none,.st 4 (.tmp 6) (.tmp 20),none,0⟩,⟨(some 7),.mv (.tmp 21),none,0⟩] none 0 []) .ret) .skip))) (.seq (.seq (.reg 0 [⟨(some 22),.mv (.tmp 1),none,0⟩,⟨(some 23),.cl 84 [(.tmp 22)],none,0⟩,⟨(some 24),.un .not (.tmp 23),none,0⟩] none 0 []) (.cond (.tmp 24) (.seq (.reg 0 [⟨(some 25),.ld 4 true (.tmp 8),none,0⟩,⟨none,.st 4 (.tmp 6) (.tmp 25),none,0⟩,⟨(some 7),.mv (.const (.int .i64 11)),none,0⟩] none 0 []) .ret) .skip)) (.seq (.seq (.reg 0 [⟨(some 26),.mv (.tmp 2),none,0⟩,⟨(some 27),.cl 86 [(.tmp 26)],none,0⟩,⟨(some 10),.mv (.tmp 27),none,0⟩] none 0 []) (.seq (.reg 0 [⟨(some 28),.mv (.tmp 10),none,0⟩,⟨(some 29),.bin .neq (.tmp 28) (.const (.int .i64 0)),none,0⟩] none 0 []) (.cond (.tmp 29) (.seq (.reg 0 [⟨(some 30),.ld 4 true (.tmp 8),none,0⟩,⟨(some 31),.mv (.tmp 10),none,0⟩,⟨none,.st 4 (.tmp 6) (.tmp 30),none,0⟩,⟨(some 7),.mv (.tmp 31),none,0⟩] none 0 []) .ret) .skip))) (.seq (.reg 1 [⟨(some 33),.ld 4 true (.tmp 3),none,0⟩,⟨(some 34),.mv (.tmp 1),none,0⟩,⟨(some 35),.cl 103 [(.tmp 33),(.tmp 34)],none,0⟩,⟨(some 32),.mv (.tmp 35),none,0⟩,⟨(some 36),.ex (.tmp 32) 0,none,0⟩,⟨(some 37),.ex (.tmp 32) 1,none,0⟩,⟨(some 11),.al (.agg [(.lit (.string ⟨#[]⟩)),(.lit (.string ⟨#[]⟩)),(.lit (.int .i64 0)),(.lit (.int .i64 0)),(.lit (.bool false))]),none,0⟩,⟨none,.st 5 (.tmp 11) (.tmp 36),none,1⟩,⟨(some 12),.mv (.tmp 37),none,1⟩] none 0 []) (.seq (.seq (.reg 0 [⟨(some 38),.ld 4 true (.tmp 3),none,0⟩,⟨(some 39),.mv (.tmp 12),none,0⟩,⟨(some 40),.mv (.tmp 2),none,0⟩,⟨(some 41),.bin .neq (.tmp 40) (.const (.int .i64 0)),none,0⟩,⟨(some 42),.cl 108 [(.tmp 38),(.tmp 39),(.tmp 41)],none,0⟩,⟨(some 13),.mv (.tmp 42),none,0⟩] none 0 []) (.seq (.reg 0 [⟨(some 43),.mv (.tmp 13),none,0⟩,⟨(some 44),.bin .neq (.tmp 43) (.const (.int .i64 0)),none,0⟩] none 0 []) (.cond (.tmp 44) (.seq (.reg 0 [⟨(some 45),.ld 4 true (.tmp 8),none,0⟩,⟨(some 46),.mv (.tmp 13),none,0⟩,⟨none,.st 4 (.tmp 6) (.tmp 45),none,0⟩,⟨(some 7),.mv (.tmp 46),none,0⟩] none 0 []) .ret) .skip))) (.seq (.seq (.reg 0 [⟨(some 47),.fa 2 (.tmp 11),none,0⟩,⟨(some 48),.ld 1 false (.tmp 47),none,0⟩,⟨(some 49),.mv (.tmp 2),none,0⟩,⟨(some 50),.bin .eql (.tmp 48) (.tmp 49),none,0⟩] none 0 []) (.cond (.tmp 50) (.seq (.reg 0 [⟨(some 51),.ld 4 true (.tmp 8),none,0⟩,⟨none,.st 4 (.tmp 6) (.tmp 51),none,0⟩,⟨(some 7),.mv (.const (.int .i64 0)),none,0⟩] none 0 []) .ret) .skip)) (.join (.reg 0 [⟨(some 52),.mv (.tmp 1),none,0⟩,⟨(some 53),.mv (.tmp 2),none,0⟩,⟨(some 54),.fa 0 (.tmp 11),none,0⟩,⟨none,.st 1 (.tmp 54) (.tmp 52),none,0⟩,⟨(some 55),.fa 2 (.tmp 11),none,0⟩,⟨none,.st 1 (.tmp 55) (.tmp 53),none,0⟩] none 0 []) (.seq (.reg 0 [⟨(some 56),.ld 4 true (.tmp 8),none,0⟩,⟨(some 57),.ld 5 true (.tmp 11),none,0⟩,⟨(some 58),.cl 109 [(.tmp 56),(.tmp 57)],none,0⟩,⟨none,.st 4 (.tmp 6) (.tmp 58),none,0⟩,⟨(some 7),.mv (.const (.int .i64 0)),none,0⟩] none 0 []) .ret))))))))))
theorem gc41_ok:compF Tryz.prog Tryz.f41=some (gc41.er,59,[.cell 6 4 true,.tmp 7]):=by unfold gc41;kernel_rfl
theorem p_roster_Sub_v {u1 u2:Bool} (a0:RosterState) (a1:ByteArray) (a2:Int):CallsO Tryz.prog 41 [.agg [.i a0.Ver,.i a0.Floor,.sl (List.map ItemItem.v a0.Items) u1,.sl (List.map RosterGone.v a0.Gone) u2],.s a1,.i a2] (fun r:RosterState × Int=>.tup [RosterState.v r.1,V.i r.2]) (p_roster_Sub a0 a1 a2):=by
 refine callsO_comp mix Tryz.func41 gc41_ok fun r H=>?_
 rw [p_roster_Sub] at H
 conv=>whnf
 refine p_roster_State_own_c (i:=3) (j:=4) H (by decide) rfl rfl (fun H=>?_) (fun G H=>?_) (fun I H=>?_) (fun I G H=>?_)
 ·try dsimp only at H
  conv=>whnf
  refine ⟨Nat.le_of_ble_eq_true rfl,?_⟩;conv=>whnf
  refine ask_c (p_roster_Check_v _) H rfl rfl (fun v1 H=>?_);conv=>whnf
  refine tst_c H (fun b2 H=>?_) (fun b2 H=>?_)
  ·conv=>whnf
   refine ⟨Nat.le_of_ble_eq_true rfl,?_⟩;conv=>whnf
   refine finR_c (enc:=(fun r:RosterState × Int=>.tup [RosterState.v r.1,V.i r.2])) H ?_;conv=>whnf
   exact ⟨_,.tup (.cons (fzagg (.cons (.id rfl) (.cons (.id rfl) (.cons (.slw) (.cons (.slw) (.nil))))) rfl) (.cons (.c (.id rfl)) (.nil)))⟩
  conv=>whnf
  refine ask_c (p_addr_IsBare_v _) H rfl rfl (fun v3 H=>?_);conv=>whnf
  refine Tst.not ?_
  refine tst_d H (fun b4 H=>?_) (fun b4 H=>?_)
  ·conv=>whnf
   refine ⟨Nat.le_of_ble_eq_true rfl,?_⟩;conv=>whnf
   refine finR_c (enc:=(fun r:RosterState × Int=>.tup [RosterState.v r.1,V.i r.2])) H ?_;conv=>whnf
   exact ⟨_,.tup (.cons (fzagg (.cons (.id rfl) (.cons (.id rfl) (.cons (.slw) (.cons (.slw) (.nil))))) rfl) (.cons (.c (.id rfl)) (.nil)))⟩
  conv=>whnf
  refine ask_c (p_subs_Check_v _) H rfl rfl (fun v5 H=>?_);conv=>whnf
  refine tst_c H (fun b6 H=>?_) (fun b6 H=>?_)
  ·conv=>whnf
   refine ⟨Nat.le_of_ble_eq_true rfl,?_⟩;conv=>whnf
   refine finR_c (enc:=(fun r:RosterState × Int=>.tup [RosterState.v r.1,V.i r.2])) H ?_;conv=>whnf
   exact ⟨_,.tup (.cons (fzagg (.cons (.id rfl) (.cons (.id rfl) (.cons (.slw) (.cons (.slw) (.nil))))) rfl) (.cons (.c (.id rfl)) (.nil)))⟩
  conv=>whnf
  refine ask_c (p_roster_Find_v _ _) H rfl rfl (fun v7 H=>?_);conv=>whnf
  refine ⟨Nat.le_of_ble_eq_true rfl,?_⟩;conv=>whnf
  refine ask_c (p_roster_State_may_v _ _ _) H rfl rfl (fun v8 H=>?_);conv=>whnf
  refine tst_c H (fun b9 H=>?_) (fun b9 H=>?_)
  ·conv=>whnf
   refine ⟨Nat.le_of_ble_eq_true rfl,?_⟩;conv=>whnf
   refine finR_c (enc:=(fun r:RosterState × Int=>.tup [RosterState.v r.1,V.i r.2])) H ?_;conv=>whnf
   exact ⟨_,.tup (.cons (fzagg (.cons (.id rfl) (.cons (.id rfl) (.cons (.slw) (.cons (.slw) (.nil))))) rfl) (.cons (.c (.id rfl)) (.nil)))⟩
  conv=>whnf
  refine tst_c H (fun b10 H=>?_) (fun b10 H=>?_)
  ·conv=>whnf
   refine ⟨Nat.le_of_ble_eq_true rfl,?_⟩;conv=>whnf
   refine finR_c (enc:=(fun r:RosterState × Int=>.tup [RosterState.v r.1,V.i r.2])) H ?_;conv=>whnf
   exact ⟨_,.tup (.cons (fzagg (.cons (.id rfl) (.cons (.id rfl) (.cons (.slw) (.cons (.slw) (.nil))))) rfl) (.cons (.c (.id rfl)) (.nil)))⟩
  conv=>whnf
  obtain ⟨K11,hK12,o13,HL14,HQ15⟩:=join0_c H
  refine join_c [6,8,11] [52,53,54,55,3,47] (fun vals st=>(K11 ()=some r∧vals=[.ptr 0 0,.ptr 1 0,.ptr 4 0]∧st=[.live [.i (0:Int),.i (0:Int),.sl (List.map ItemItem.v []) true,.sl (List.map RosterGone.v []) true] 0,.live [.i a0.Ver,.i a0.Floor,.sl (List.map ItemItem.v []) true,.sl (List.map RosterGone.v []) true] 0,.dead,.dead,.live [.s a1,.s v7.1.Name,.i a2,.i v7.1.Ver,.b v7.1.Own] 0])) ?_ ?_
  ·have H:=HL14
   conv=>whnf
   refine ⟨Nat.le_of_ble_eq_true rfl,?_⟩;conv=>whnf
   refine ⟨Nat.le_of_ble_eq_true rfl,?_⟩;conv=>whnf
   obtain rfl:=Option.some.inj H
   exact arrive_c [52,53,54,55,3,47] 5 [1,2,0,0,5] (⟨HQ15,rfl,rfl⟩) (Nat.zero_le _) rfl (by kernel_rfl) (by kernel_rfl) rfl ⟨⟨rfl,rfl,rfl⟩,⟨⟨rfl,rfl,rfl⟩,⟨⟨rfl,rfl,rfl⟩,trivial⟩⟩⟩
  rintro _ _ (⟨H,rfl,rfl⟩)
  rw [hK12] at H
  try dsimp only at H
  conv=>whnf
  refine askW_c (fun s hs=>p_roster_State_change_nn _ _ _ rfl rfl rfl s hs) H rfl rfl rfl (fun v17 H=>?_);conv=>whnf
  refine ⟨Nat.le_of_ble_eq_true rfl,?_⟩;conv=>whnf
  exact fin0_c (enc:=(fun r:RosterState × Int=>.tup [RosterState.v r.1,V.i r.2])) H (.inr rfl) (.cons (.cell rfl rfl (Nat.le_of_ble_eq_true rfl)) (.cons (.tmp rfl) (.nil))) rfl rfl
 ·try dsimp only at H
  conv=>whnf
  refine ⟨Nat.le_of_ble_eq_true rfl,?_⟩;conv=>whnf
  refine ask_c (p_roster_Check_v _) H rfl rfl (fun v18 H=>?_);conv=>whnf
  refine tst_c H (fun b19 H=>?_) (fun b19 H=>?_)
  ·conv=>whnf
   refine ⟨Nat.le_of_ble_eq_true rfl,?_⟩;conv=>whnf
   refine finRz_c (enc:=(fun r:RosterState × Int=>.tup [RosterState.v r.1,V.i r.2])) [4] H ?_;conv=>whnf
   refine ⟨Nat.zero_le _,?_⟩;conv=>whnf
   exact ⟨_,.tup (.cons (fzagg (.cons (.id rfl) (.cons (.id rfl) (.cons (.slw) (.cons (fzown (f:=RosterGone.v) (l:=G) rfl rfl (fun _=>rfl) (fun _=>rfl)) (.nil))))) rfl) (.cons (.c (.id rfl)) (.nil)))⟩
  conv=>whnf
  refine ask_c (p_addr_IsBare_v _) H rfl rfl (fun v20 H=>?_);conv=>whnf
  refine Tst.not ?_
  refine tst_d H (fun b21 H=>?_) (fun b21 H=>?_)
  ·conv=>whnf
   refine ⟨Nat.le_of_ble_eq_true rfl,?_⟩;conv=>whnf
   refine finRz_c (enc:=(fun r:RosterState × Int=>.tup [RosterState.v r.1,V.i r.2])) [4] H ?_;conv=>whnf
   refine ⟨Nat.zero_le _,?_⟩;conv=>whnf
   exact ⟨_,.tup (.cons (fzagg (.cons (.id rfl) (.cons (.id rfl) (.cons (.slw) (.cons (fzown (f:=RosterGone.v) (l:=G) rfl rfl (fun _=>rfl) (fun _=>rfl)) (.nil))))) rfl) (.cons (.c (.id rfl)) (.nil)))⟩
  conv=>whnf
  refine ask_c (p_subs_Check_v _) H rfl rfl (fun v22 H=>?_);conv=>whnf
  refine tst_c H (fun b23 H=>?_) (fun b23 H=>?_)
  ·conv=>whnf
   refine ⟨Nat.le_of_ble_eq_true rfl,?_⟩;conv=>whnf
   refine finRz_c (enc:=(fun r:RosterState × Int=>.tup [RosterState.v r.1,V.i r.2])) [4] H ?_;conv=>whnf
   refine ⟨Nat.zero_le _,?_⟩;conv=>whnf
   exact ⟨_,.tup (.cons (fzagg (.cons (.id rfl) (.cons (.id rfl) (.cons (.slw) (.cons (fzown (f:=RosterGone.v) (l:=G) rfl rfl (fun _=>rfl) (fun _=>rfl)) (.nil))))) rfl) (.cons (.c (.id rfl)) (.nil)))⟩
  conv=>whnf
  refine ask_c (p_roster_Find_v _ _) H rfl rfl (fun v24 H=>?_);conv=>whnf
  refine ⟨Nat.le_of_ble_eq_true rfl,?_⟩;conv=>whnf
  refine ask_c (p_roster_State_may_v _ _ _) H rfl rfl (fun v25 H=>?_);conv=>whnf
  refine tst_c H (fun b26 H=>?_) (fun b26 H=>?_)
  ·conv=>whnf
   refine ⟨Nat.le_of_ble_eq_true rfl,?_⟩;conv=>whnf
   refine finRz_c (enc:=(fun r:RosterState × Int=>.tup [RosterState.v r.1,V.i r.2])) [4] H ?_;conv=>whnf
   refine ⟨Nat.zero_le _,?_⟩;conv=>whnf
   exact ⟨_,.tup (.cons (fzagg (.cons (.id rfl) (.cons (.id rfl) (.cons (.slw) (.cons (fzown (f:=RosterGone.v) (l:=G) rfl rfl (fun _=>rfl) (fun _=>rfl)) (.nil))))) rfl) (.cons (.c (.id rfl)) (.nil)))⟩
  conv=>whnf
  refine tst_c H (fun b27 H=>?_) (fun b27 H=>?_)
  ·conv=>whnf
   refine ⟨Nat.le_of_ble_eq_true rfl,?_⟩;conv=>whnf
   refine finRz_c (enc:=(fun r:RosterState × Int=>.tup [RosterState.v r.1,V.i r.2])) [4] H ?_;conv=>whnf
   refine ⟨Nat.zero_le _,?_⟩;conv=>whnf
   exact ⟨_,.tup (.cons (fzagg (.cons (.id rfl) (.cons (.id rfl) (.cons (.slw) (.cons (fzown (f:=RosterGone.v) (l:=G) rfl rfl (fun _=>rfl) (fun _=>rfl)) (.nil))))) rfl) (.cons (.c (.id rfl)) (.nil)))⟩
  conv=>whnf
  obtain ⟨K28,hK29,o30,HL31,HQ32⟩:=join0_c H
  refine join_c [6,8,11] [52,53,54,55,3,15,47] (fun vals st=>(K28 ()=some r∧vals=[.ptr 0 0,.ptr 1 0,.ptr 4 0]∧st=[.live [.i (0:Int),.i (0:Int),.sl (List.map ItemItem.v []) true,.sl (List.map RosterGone.v []) true] 0,.live [.i a0.Ver,.i a0.Floor,.sl (List.map ItemItem.v []) true,.osl 3 0 (List.length G) 2 false] 0,.dead,.live (cellsM RosterGone.v G) 0,.live [.s a1,.s v24.1.Name,.i a2,.i v24.1.Ver,.b v24.1.Own] 0])) ?_ ?_
  ·have H:=HL31
   conv=>whnf
   refine ⟨Nat.le_of_ble_eq_true rfl,?_⟩;conv=>whnf
   refine ⟨Nat.le_of_ble_eq_true rfl,?_⟩;conv=>whnf
   obtain rfl:=Option.some.inj H
   exact arrive_c [52,53,54,55,3,15,47] 5 [1,2,0,4,5] (⟨HQ32,rfl,rfl⟩) (Nat.zero_le _) rfl (by kernel_rfl) (by kernel_rfl) rfl ⟨⟨rfl,rfl,rfl⟩,⟨⟨rfl,rfl,rfl⟩,wkB_live0 rfl (cellsM_idlt (f:=RosterGone.v) (fun _=>rfl) _) rfl ⟨⟨rfl,rfl,rfl⟩,trivial⟩⟩⟩
  rintro _ _ (⟨H,rfl,rfl⟩)
  rw [hK29] at H
  try dsimp only at H
  conv=>whnf
  refine askW_c (fun s hs=>p_roster_State_change_no _ _ _ _ rfl rfl rfl s hs) H rfl rfl rfl (fun v34 H=>?_);conv=>whnf
  refine ⟨Nat.le_of_ble_eq_true rfl,?_⟩;conv=>whnf
  exact fin0_c (enc:=(fun r:RosterState × Int=>.tup [RosterState.v r.1,V.i r.2])) H (.inr rfl) (.cons (.cell rfl rfl (Nat.le_of_ble_eq_true rfl)) (.cons (.tmp rfl) (.nil))) rfl rfl
 ·try dsimp only at H
  conv=>whnf
  refine ⟨Nat.le_of_ble_eq_true rfl,?_⟩;conv=>whnf
  refine ask_c (p_roster_Check_v _) H rfl rfl (fun v35 H=>?_);conv=>whnf
  refine tst_c H (fun b36 H=>?_) (fun b36 H=>?_)
  ·conv=>whnf
   refine ⟨Nat.le_of_ble_eq_true rfl,?_⟩;conv=>whnf
   refine finRz_c (enc:=(fun r:RosterState × Int=>.tup [RosterState.v r.1,V.i r.2])) [3] H ?_;conv=>whnf
   refine ⟨Nat.zero_le _,?_⟩;conv=>whnf
   exact ⟨_,.tup (.cons (fzagg (.cons (.id rfl) (.cons (.id rfl) (.cons (fzown (f:=ItemItem.v) (l:=I) rfl rfl (fun _=>rfl) (fun _=>rfl)) (.cons (.slw) (.nil))))) rfl) (.cons (.c (.id rfl)) (.nil)))⟩
  conv=>whnf
  refine ask_c (p_addr_IsBare_v _) H rfl rfl (fun v37 H=>?_);conv=>whnf
  refine Tst.not ?_
  refine tst_d H (fun b38 H=>?_) (fun b38 H=>?_)
  ·conv=>whnf
   refine ⟨Nat.le_of_ble_eq_true rfl,?_⟩;conv=>whnf
   refine finRz_c (enc:=(fun r:RosterState × Int=>.tup [RosterState.v r.1,V.i r.2])) [3] H ?_;conv=>whnf
   refine ⟨Nat.zero_le _,?_⟩;conv=>whnf
   exact ⟨_,.tup (.cons (fzagg (.cons (.id rfl) (.cons (.id rfl) (.cons (fzown (f:=ItemItem.v) (l:=I) rfl rfl (fun _=>rfl) (fun _=>rfl)) (.cons (.slw) (.nil))))) rfl) (.cons (.c (.id rfl)) (.nil)))⟩
  conv=>whnf
  refine ask_c (p_subs_Check_v _) H rfl rfl (fun v39 H=>?_);conv=>whnf
  refine tst_c H (fun b40 H=>?_) (fun b40 H=>?_)
  ·conv=>whnf
   refine ⟨Nat.le_of_ble_eq_true rfl,?_⟩;conv=>whnf
   refine finRz_c (enc:=(fun r:RosterState × Int=>.tup [RosterState.v r.1,V.i r.2])) [3] H ?_;conv=>whnf
   refine ⟨Nat.zero_le _,?_⟩;conv=>whnf
   exact ⟨_,.tup (.cons (fzagg (.cons (.id rfl) (.cons (.id rfl) (.cons (fzown (f:=ItemItem.v) (l:=I) rfl rfl (fun _=>rfl) (fun _=>rfl)) (.cons (.slw) (.nil))))) rfl) (.cons (.c (.id rfl)) (.nil)))⟩
  conv=>whnf
  refine ask_c (p_roster_Find_v _ _) H rfl rfl (fun v41 H=>?_);conv=>whnf
  refine ⟨Nat.le_of_ble_eq_true rfl,?_⟩;conv=>whnf
  refine ask_c (p_roster_State_may_v _ _ _) H rfl rfl (fun v42 H=>?_);conv=>whnf
  refine tst_c H (fun b43 H=>?_) (fun b43 H=>?_)
  ·conv=>whnf
   refine ⟨Nat.le_of_ble_eq_true rfl,?_⟩;conv=>whnf
   refine finRz_c (enc:=(fun r:RosterState × Int=>.tup [RosterState.v r.1,V.i r.2])) [3] H ?_;conv=>whnf
   refine ⟨Nat.zero_le _,?_⟩;conv=>whnf
   exact ⟨_,.tup (.cons (fzagg (.cons (.id rfl) (.cons (.id rfl) (.cons (fzown (f:=ItemItem.v) (l:=I) rfl rfl (fun _=>rfl) (fun _=>rfl)) (.cons (.slw) (.nil))))) rfl) (.cons (.c (.id rfl)) (.nil)))⟩
  conv=>whnf
  refine tst_c H (fun b44 H=>?_) (fun b44 H=>?_)
  ·conv=>whnf
   refine ⟨Nat.le_of_ble_eq_true rfl,?_⟩;conv=>whnf
   refine finRz_c (enc:=(fun r:RosterState × Int=>.tup [RosterState.v r.1,V.i r.2])) [3] H ?_;conv=>whnf
   refine ⟨Nat.zero_le _,?_⟩;conv=>whnf
   exact ⟨_,.tup (.cons (fzagg (.cons (.id rfl) (.cons (.id rfl) (.cons (fzown (f:=ItemItem.v) (l:=I) rfl rfl (fun _=>rfl) (fun _=>rfl)) (.cons (.slw) (.nil))))) rfl) (.cons (.c (.id rfl)) (.nil)))⟩
  conv=>whnf
  obtain ⟨K45,hK46,o47,HL48,HQ49⟩:=join0_c H
  refine join_c [6,8,11] [52,53,54,55,3,15,47] (fun vals st=>(K45 ()=some r∧vals=[.ptr 0 0,.ptr 1 0,.ptr 4 0]∧st=[.live [.i (0:Int),.i (0:Int),.sl (List.map ItemItem.v []) true,.sl (List.map RosterGone.v []) true] 0,.live [.i a0.Ver,.i a0.Floor,.osl 2 0 (List.length I) 5 false,.sl (List.map RosterGone.v []) true] 0,.live (cellsM ItemItem.v I) 0,.dead,.live [.s a1,.s v41.1.Name,.i a2,.i v41.1.Ver,.b v41.1.Own] 0])) ?_ ?_
  ·have H:=HL48
   conv=>whnf
   refine ⟨Nat.le_of_ble_eq_true rfl,?_⟩;conv=>whnf
   refine ⟨Nat.le_of_ble_eq_true rfl,?_⟩;conv=>whnf
   obtain rfl:=Option.some.inj H
   exact arrive_c [52,53,54,55,3,15,47] 5 [1,2,3,0,5] (⟨HQ49,rfl,rfl⟩) (Nat.zero_le _) rfl (by kernel_rfl) (by kernel_rfl) rfl ⟨⟨rfl,rfl,rfl⟩,⟨⟨rfl,rfl,rfl⟩,wkB_live0 rfl (cellsM_idlt (f:=ItemItem.v) (fun _=>rfl) _) rfl ⟨⟨rfl,rfl,rfl⟩,trivial⟩⟩⟩
  rintro _ _ (⟨H,rfl,rfl⟩)
  rw [hK46] at H
  try dsimp only at H
  conv=>whnf
  refine askW_c (fun s hs=>p_roster_State_change_on _ _ _ _ rfl rfl rfl s hs) H rfl rfl rfl (fun v51 H=>?_);conv=>whnf
  refine ⟨Nat.le_of_ble_eq_true rfl,?_⟩;conv=>whnf
  exact fin0_c (enc:=(fun r:RosterState × Int=>.tup [RosterState.v r.1,V.i r.2])) H (.inr rfl) (.cons (.cell rfl rfl (Nat.le_of_ble_eq_true rfl)) (.cons (.tmp rfl) (.nil))) rfl rfl
 try dsimp only at H
 conv=>whnf
 refine ⟨Nat.le_of_ble_eq_true rfl,?_⟩;conv=>whnf
 refine ask_c (p_roster_Check_v _) H rfl rfl (fun v52 H=>?_);conv=>whnf
 refine tst_c H (fun b53 H=>?_) (fun b53 H=>?_)
 ·conv=>whnf
  refine ⟨Nat.le_of_ble_eq_true rfl,?_⟩;conv=>whnf
  refine finRz_c (enc:=(fun r:RosterState × Int=>.tup [RosterState.v r.1,V.i r.2])) [3,4] H ?_;conv=>whnf
  refine ⟨Nat.zero_le _,?_⟩;conv=>whnf
  refine ⟨Nat.zero_le _,?_⟩;conv=>whnf
  exact ⟨_,.tup (.cons (fzagg (.cons (.id rfl) (.cons (.id rfl) (.cons (fzown (f:=ItemItem.v) (l:=I) rfl rfl (fun _=>rfl) (fun _=>rfl)) (.cons (fzown (f:=RosterGone.v) (l:=G) rfl rfl (fun _=>rfl) (fun _=>rfl)) (.nil))))) rfl) (.cons (.c (.id rfl)) (.nil)))⟩
 conv=>whnf
 refine ask_c (p_addr_IsBare_v _) H rfl rfl (fun v54 H=>?_);conv=>whnf
 refine Tst.not ?_
 refine tst_d H (fun b55 H=>?_) (fun b55 H=>?_)
 ·conv=>whnf
  refine ⟨Nat.le_of_ble_eq_true rfl,?_⟩;conv=>whnf
  refine finRz_c (enc:=(fun r:RosterState × Int=>.tup [RosterState.v r.1,V.i r.2])) [3,4] H ?_;conv=>whnf
  refine ⟨Nat.zero_le _,?_⟩;conv=>whnf
  refine ⟨Nat.zero_le _,?_⟩;conv=>whnf
  exact ⟨_,.tup (.cons (fzagg (.cons (.id rfl) (.cons (.id rfl) (.cons (fzown (f:=ItemItem.v) (l:=I) rfl rfl (fun _=>rfl) (fun _=>rfl)) (.cons (fzown (f:=RosterGone.v) (l:=G) rfl rfl (fun _=>rfl) (fun _=>rfl)) (.nil))))) rfl) (.cons (.c (.id rfl)) (.nil)))⟩
 conv=>whnf
 refine ask_c (p_subs_Check_v _) H rfl rfl (fun v56 H=>?_);conv=>whnf
 refine tst_c H (fun b57 H=>?_) (fun b57 H=>?_)
 ·conv=>whnf
  refine ⟨Nat.le_of_ble_eq_true rfl,?_⟩;conv=>whnf
  refine finRz_c (enc:=(fun r:RosterState × Int=>.tup [RosterState.v r.1,V.i r.2])) [3,4] H ?_;conv=>whnf
  refine ⟨Nat.zero_le _,?_⟩;conv=>whnf
  refine ⟨Nat.zero_le _,?_⟩;conv=>whnf
  exact ⟨_,.tup (.cons (fzagg (.cons (.id rfl) (.cons (.id rfl) (.cons (fzown (f:=ItemItem.v) (l:=I) rfl rfl (fun _=>rfl) (fun _=>rfl)) (.cons (fzown (f:=RosterGone.v) (l:=G) rfl rfl (fun _=>rfl) (fun _=>rfl)) (.nil))))) rfl) (.cons (.c (.id rfl)) (.nil)))⟩
 conv=>whnf
 refine ask_c (p_roster_Find_v _ _) H rfl rfl (fun v58 H=>?_);conv=>whnf
 refine ⟨Nat.le_of_ble_eq_true rfl,?_⟩;conv=>whnf
 refine ask_c (p_roster_State_may_v _ _ _) H rfl rfl (fun v59 H=>?_);conv=>whnf
 refine tst_c H (fun b60 H=>?_) (fun b60 H=>?_)
 ·conv=>whnf
  refine ⟨Nat.le_of_ble_eq_true rfl,?_⟩;conv=>whnf
  refine finRz_c (enc:=(fun r:RosterState × Int=>.tup [RosterState.v r.1,V.i r.2])) [3,4] H ?_;conv=>whnf
  refine ⟨Nat.zero_le _,?_⟩;conv=>whnf
  refine ⟨Nat.zero_le _,?_⟩;conv=>whnf
  exact ⟨_,.tup (.cons (fzagg (.cons (.id rfl) (.cons (.id rfl) (.cons (fzown (f:=ItemItem.v) (l:=I) rfl rfl (fun _=>rfl) (fun _=>rfl)) (.cons (fzown (f:=RosterGone.v) (l:=G) rfl rfl (fun _=>rfl) (fun _=>rfl)) (.nil))))) rfl) (.cons (.c (.id rfl)) (.nil)))⟩
 conv=>whnf
 refine tst_c H (fun b61 H=>?_) (fun b61 H=>?_)
 ·conv=>whnf
  refine ⟨Nat.le_of_ble_eq_true rfl,?_⟩;conv=>whnf
  refine finRz_c (enc:=(fun r:RosterState × Int=>.tup [RosterState.v r.1,V.i r.2])) [3,4] H ?_;conv=>whnf
  refine ⟨Nat.zero_le _,?_⟩;conv=>whnf
  refine ⟨Nat.zero_le _,?_⟩;conv=>whnf
  exact ⟨_,.tup (.cons (fzagg (.cons (.id rfl) (.cons (.id rfl) (.cons (fzown (f:=ItemItem.v) (l:=I) rfl rfl (fun _=>rfl) (fun _=>rfl)) (.cons (fzown (f:=RosterGone.v) (l:=G) rfl rfl (fun _=>rfl) (fun _=>rfl)) (.nil))))) rfl) (.cons (.c (.id rfl)) (.nil)))⟩
 conv=>whnf
 obtain ⟨K62,hK63,o64,HL65,HQ66⟩:=join0_c H
 refine join_c [6,8,11] [52,53,54,55,3,15,47] (fun vals st=>(K62 ()=some r∧vals=[.ptr 0 0,.ptr 1 0,.ptr 4 0]∧st=[.live [.i (0:Int),.i (0:Int),.sl (List.map ItemItem.v []) true,.sl (List.map RosterGone.v []) true] 0,.live [.i a0.Ver,.i a0.Floor,.osl 2 0 (List.length I) 5 false,.osl 3 0 (List.length G) 2 false] 0,.live (cellsM ItemItem.v I) 0,.live (cellsM RosterGone.v G) 0,.live [.s a1,.s v58.1.Name,.i a2,.i v58.1.Ver,.b v58.1.Own] 0])) ?_ ?_
 ·have H:=HL65
  conv=>whnf
  refine ⟨Nat.le_of_ble_eq_true rfl,?_⟩;conv=>whnf
  refine ⟨Nat.le_of_ble_eq_true rfl,?_⟩;conv=>whnf
  obtain rfl:=Option.some.inj H
  exact arrive_c [52,53,54,55,3,15,47] 5 [1,2,3,4,5] (⟨HQ66,rfl,rfl⟩) (Nat.zero_le _) rfl (by kernel_rfl) (by kernel_rfl) rfl ⟨⟨rfl,rfl,rfl⟩,⟨⟨rfl,rfl,rfl⟩,wkB_live0 rfl (cellsM_idlt (f:=ItemItem.v) (fun _=>rfl) _) rfl (wkB_live0 rfl (cellsM_idlt (f:=RosterGone.v) (fun _=>rfl) _) rfl ⟨⟨rfl,rfl,rfl⟩,trivial⟩)⟩⟩
 rintro _ _ (⟨H,rfl,rfl⟩)
 rw [hK63] at H
 try dsimp only at H
 conv=>whnf
 refine askW_c (fun s hs=>p_roster_State_change_oo _ _ _ _ _ rfl rfl rfl s hs) H rfl rfl rfl (fun v68 H=>?_);conv=>whnf
 refine ⟨Nat.le_of_ble_eq_true rfl,?_⟩;conv=>whnf
 exact fin0_c (enc:=(fun r:RosterState × Int=>.tup [RosterState.v r.1,V.i r.2])) H (.inr rfl) (.cons (.cell rfl rfl (Nat.le_of_ble_eq_true rfl)) (.cons (.tmp rfl) (.nil))) rfl rfl
end Go.Proofs.YtpmoioopjbfhkaaGreat

/- That the program's functions yield what the plain ones tell (written by a program of mine). -/
namespace Go.Proofs.YtpmoioopjbfhkaaGreat
open Go.RowKit
set_option maxRecDepth 100000
set_option maxHeartbeats 4000000
def gc39:BCode:=(.seq (.reg 2 [⟨(some 3),.bx (.tmp 0),none,0⟩,⟨(some 6),.al (.agg [(.lit (.int .i64 0)),(.lit (.int .i64 0)),(.sl [] true),(.sl [] true)]),none,1⟩,⟨(some 7),.mv (.const (.int .i64 0)),none,2⟩] none 0 []) (.seq (.reg 1 [⟨(some 15),.ld 4 true (.tmp 3),none,0⟩,⟨(some 16),.cl 107 [(.tmp 15)],none,0⟩,⟨(some 8),.al (.agg [(.lit (.int .i64 0)),(.lit (.int .i64 0)),(.sl [] true),(.sl [] true)]),none,0⟩,⟨none,.st 4 (.tmp 8) (.tmp 16),none,1⟩] none 2 []) (.seq (.seq (.reg 0 [⟨(some 17),.ld 4 true (.tmp 3),none,0⟩,⟨(some 18),.cl 77 [(.tmp 17)],none,0⟩,⟨(some 9),.mv (.tmp 18),none,0⟩] none 0 []) (.seq (.reg 0 [⟨(some 19),.mv (.tmp 9),none,0⟩,⟨(some 20),.bin .neq (.tmp 19) (.const (.int .i64 0)),none,0⟩] none 0 []) (.cond (.tmp 20) (.seq (.reg 0 [⟨(some 21),.ld 4 true (.tmp 8),none,0⟩,⟨(some 22),.mv (.tmp 9),none,0⟩,⟨none,.st 4 (.tmp 6) (.tmp 21),none,0⟩,⟨(some 7),.mv (.tmp 22),none,0⟩] none 0 []) .ret) .skip))) (.seq (.reg 1 [⟨(some 24),.ld 4 true (.tmp 3),none,0⟩,⟨(some 25),.mv (.tmp 1),none,0⟩,⟨(some 26),.cl 103 [(.tmp 24),(.tmp 25)],none,0⟩,⟨(some 23),.mv (.tmp 26),none,0⟩,⟨(some 27),.ex (.tmp 23) 0,none,0⟩,⟨(some 28),.ex (.tmp 23) 1,none,0⟩,⟨(some 10),.al (.agg [(.lit (.string ⟨#[]⟩)),(.lit (.string ⟨#[]⟩)),(.lit (.int .i64 0)),(.lit (.int .i64 0)),(.lit (.bool false))]),none,0⟩,⟨none,.st 5 (.tmp 10) (.tmp 27),none,1⟩,⟨(some 11),.mv (.tmp 28),none,1⟩] none 0 []) (.seq (.reg 1 [⟨(some 29),.mv (.tmp 1),none,0⟩,⟨(some 30),.mv (.tmp 2),none,0⟩,⟨(some 31),.fa 2 (.tmp 10),none,0⟩,⟨(some 32),.ld 1 false (.tmp 31),none,0⟩,⟨(some 33),.bd [(.lit (.string ⟨#[]⟩)),(.lit (.string ⟨#[]⟩)),(.lit (.int .i64 0)),(.lit (.int .i64 0)),(.lit (.bool false))] [(0,1,(.tmp 29)),(1,1,(.tmp 30)),(2,1,(.tmp 32)),(4,1,(.const (.bool true)))],none,0⟩,⟨(some 12),.al (.agg [(.lit (.string ⟨#[]⟩)),(.lit (.string ⟨#[]⟩)),(.lit (.int .i64 0)),(.lit (.int .i64 0)),(.lit (.bool false))]),none,0⟩,⟨none,.st 5 (.tmp 12) (.tmp 33),none,1⟩] none 0 []) (.seq (.seq (.reg 0 [⟨(some 34),.ld 5 true (.tmp 12),none,0⟩,⟨(some 35),.cl 15 [(.tmp 34)],none,0⟩,⟨(some 13),.mv (.tmp 35),none,0⟩] none 0 []) (.seq (.reg 0 [⟨(some 36),.mv (.tmp 13),none,0⟩,⟨(some 37),.bin .neq (.tmp 36) (.const (.int .i64 0)),none,0⟩] none 0 []) (.cond (.tmp 37) (.seq (.reg 0 [⟨(some 38),.ld 4 true (.tmp 8),none,0⟩,⟨(some 39),.mv (.tmp 13),none,0⟩,⟨none,.st 4 (.tmp 6) (.tmp 38),none,0⟩,⟨(some 7),.mv (.tmp 39),none,0⟩] none 0 []) .ret) .skip))) (.seq (.seq (.reg 0 [⟨(some 40),.ld 4 true (.tmp 3),none,0⟩,⟨(some 41),.mv (.tmp 11),none,0⟩,⟨(some 42),.cl 108 [(.tmp 40),(.tmp 41),(.const (.bool true))],none,0⟩,⟨(some 14),.mv (.tmp 42),none,0⟩] none 0 []) (.seq (.reg 0 [⟨(some 43),.mv (.tmp 14),none,0⟩,⟨(some 44),.bin .neq (.tmp 43) (.const (.int .i64 0)),none,0⟩] none 0 []) (.cond (.tmp 44) (.seq (.reg 0 [⟨(some 45),.ld 4 true (.tmp 8),none,0⟩,⟨(some 46),.mv (.tmp 14),none,0⟩,⟨none,.st 4 (.tmp 6) (.tmp 45),none,0⟩,⟨(some 7),.mv (.tmp 46),none,0⟩] none 0 []) .ret) .skip))) (.join (.seq (.reg 0 [⟨(some 47),.fa 4 (.tmp 10),none,0⟩,⟨(some 48),.ld 1 false (.tmp 47),none,0⟩,⟨(some 49),.mv (.tmp 48),none,0⟩,⟨(some 50),.fa 1 (.tmp 10),(some (49,true)),0⟩,⟨(some 51),.ld 1 false (.tmp 50),(some (49,true)),0⟩,⟨(some 52),.mv (.tmp 2),(some (49,true)),0⟩,⟨(some 53),.bin .eql (.tmp 51) (.tmp 52),(some (49,true)),0⟩,⟨(some 54),.pick (.tmp 49) (.tmp 53) (.const (.bool false)),none,0⟩] none 0 []) (.cond (.tmp 54) (.seq (.reg 0 [⟨(some 55),.ld 4 true (.tmp 8),none,0⟩,⟨none,.st 4 (.tmp 6) (.tmp 55),none,0⟩,⟨(some 7),.mv (.const (.int .i64 0)),none,0⟩] none 0 []) .ret) .skip)) (.seq (.reg 0 [⟨(some 56),.ld 4 true (.tmp 8),none,0⟩,⟨(some 57),.ld 5 true (.tmp 12),none,0⟩,⟨(some 58),.cl 109 [(.tmp 56),(.tmp 57)],none,0⟩,⟨none,.st 4 (.tmp 6) (.tmp 58),none,0⟩,⟨(some 7),.mv (.const (.int .i64 0)),none,0⟩] none 0 []) .ret)))))))))
theorem gc39_ok:compF Tryz.prog Tryz.f39=some (gc39.er,59,[.cell 6 4 true,.tmp 7]):=by unfold gc39;kernel_rfl
theorem p_roster_Set_v {u1 u2:Bool} (a0:RosterState) (a1:ByteArray) (a2:ByteArray):CallsO Tryz.prog 39 [.agg [.i a0.Ver,.i a0.Floor,.sl (List.map ItemItem.v a0.Items) u1,.sl (List.map RosterGone.v a0.Gone) u2],.s a1,.s a2] (fun r:RosterState × Int=>.tup [RosterState.v r.1,V.i r.2]) (p_roster_Set a0 a1 a2):=by
 refine callsO_comp mix Tryz.func39 gc39_ok fun r H=>?_
 rw [p_roster_Set] at H
 conv=>whnf
 refine p_roster_State_own_c (i:=3) (j:=4) H (by decide) rfl rfl (fun H=>?_) (fun G H=>?_) (fun I H=>?_) (fun I G H=>?_)
 ·try dsimp only at H
  conv=>whnf
  refine ⟨Nat.le_of_ble_eq_true rfl,?_⟩;conv=>whnf
  refine ask_c (p_roster_Check_v _) H rfl rfl (fun v1 H=>?_);conv=>whnf
  refine tst_c H (fun b2 H=>?_) (fun b2 H=>?_)
  ·conv=>whnf
   refine ⟨Nat.le_of_ble_eq_true rfl,?_⟩;conv=>whnf
   refine finR_c (enc:=(fun r:RosterState × Int=>.tup [RosterState.v r.1,V.i r.2])) H ?_;conv=>whnf
   exact ⟨_,.tup (.cons (fzagg (.cons (.id rfl) (.cons (.id rfl) (.cons (.slw) (.cons (.slw) (.nil))))) rfl) (.cons (.c (.id rfl)) (.nil)))⟩
  conv=>whnf
  refine ask_c (p_roster_Find_v _ _) H rfl rfl (fun v3 H=>?_);conv=>whnf
  refine ⟨Nat.le_of_ble_eq_true rfl,?_⟩;conv=>whnf
  refine ⟨Nat.le_of_ble_eq_true rfl,?_⟩;conv=>whnf
  refine ask_c (p_item_Check_v _) H rfl rfl (fun v4 H=>?_);conv=>whnf
  refine tst_c H (fun b5 H=>?_) (fun b5 H=>?_)
  ·conv=>whnf
   refine ⟨Nat.le_of_ble_eq_true rfl,?_⟩;conv=>whnf
   refine finR_c (enc:=(fun r:RosterState × Int=>.tup [RosterState.v r.1,V.i r.2])) H ?_;conv=>whnf
   exact ⟨_,.tup (.cons (fzagg (.cons (.id rfl) (.cons (.id rfl) (.cons (.slw) (.cons (.slw) (.nil))))) rfl) (.cons (.c (.id rfl)) (.nil)))⟩
  conv=>whnf
  refine ask_c (p_roster_State_may_v _ _ _) H rfl rfl (fun v6 H=>?_);conv=>whnf
  refine tst_c H (fun b7 H=>?_) (fun b7 H=>?_)
  ·conv=>whnf
   refine ⟨Nat.le_of_ble_eq_true rfl,?_⟩;conv=>whnf
   refine finR_c (enc:=(fun r:RosterState × Int=>.tup [RosterState.v r.1,V.i r.2])) H ?_;conv=>whnf
   exact ⟨_,.tup (.cons (fzagg (.cons (.id rfl) (.cons (.id rfl) (.cons (.slw) (.cons (.slw) (.nil))))) rfl) (.cons (.c (.id rfl)) (.nil)))⟩
  conv=>whnf
  obtain ⟨K8,hK9,o10,HL11,HQ12⟩:=join0_c H
  refine join_c [7,6,8,12] [47,48,49,50,51,52,53,54,55,3,10,31] (fun vals st=>(K8 (.inr ())=some r∧vals=[.i (0:Int),.ptr 0 0,.ptr 1 0,.ptr 4 0]∧st=[.live [.i (0:Int),.i (0:Int),.sl (List.map ItemItem.v []) true,.sl (List.map RosterGone.v []) true] 0,.live [.i a0.Ver,.i a0.Floor,.sl (List.map ItemItem.v []) true,.sl (List.map RosterGone.v []) true] 0,.dead,.dead,.live [.s a1,.s a2,.i v3.1.Sub,.i (0:Int),.b true] 0])) ?_ ?_
  ·have H:=HL11
   conv=>whnf
   refine tst_d H (fun b14 H=>?_) (fun b14 H=>?_)
   ·conv=>whnf
    iterate 5 (refine Tst.F ?_;conv=>whnf)
    obtain rfl:=Option.some.inj H
    exact arrive_c [47,48,49,50,51,52,53,54,55,3,10,31] 5 [1,2,0,0,6] (⟨HQ12,rfl,rfl⟩) (Nat.zero_le _) rfl (by kernel_rfl) (by kernel_rfl) rfl ⟨⟨rfl,rfl,rfl⟩,⟨⟨rfl,rfl,rfl⟩,⟨⟨rfl,rfl,rfl⟩,trivial⟩⟩⟩
   conv=>whnf
   iterate 4 (refine Tst.T ?_;conv=>whnf)
   refine tst_d H (fun b15 H=>?_) (fun b15 H=>?_)
   ·conv=>whnf
    obtain rfl:=Option.some.inj H
    exact arrive_c [47,48,49,50,51,52,53,54,55,3,10,31] 5 [1,2,0,0,6] (⟨HQ12,rfl,rfl⟩) (Nat.zero_le _) rfl (by kernel_rfl) (by kernel_rfl) rfl ⟨⟨rfl,rfl,rfl⟩,⟨⟨rfl,rfl,rfl⟩,⟨⟨rfl,rfl,rfl⟩,trivial⟩⟩⟩
   conv=>whnf
   refine ⟨Nat.le_of_ble_eq_true rfl,?_⟩;conv=>whnf
   obtain rfl:=Option.some.inj H
   have H:=HQ12
   rw [hK9] at H
   try dsimp only at H
   refine finR_c (enc:=(fun r:RosterState × Int=>.tup [RosterState.v r.1,V.i r.2])) H ?_;conv=>whnf
   exact ⟨_,.tup (.cons (fzagg (.cons (.id rfl) (.cons (.id rfl) (.cons (.slw) (.cons (.slw) (.nil))))) rfl) (.cons (.c (.id rfl)) (.nil)))⟩
  rintro _ _ (⟨H,rfl,rfl⟩)
  rw [hK9] at H
  try dsimp only at H
  conv=>whnf
  refine askW_c (fun s hs=>p_roster_State_change_nn _ _ _ rfl rfl rfl s hs) H rfl rfl rfl (fun v16 H=>?_);conv=>whnf
  refine ⟨Nat.le_of_ble_eq_true rfl,?_⟩;conv=>whnf
  exact fin0_c (enc:=(fun r:RosterState × Int=>.tup [RosterState.v r.1,V.i r.2])) H (.inr rfl) (.cons (.cell rfl rfl (Nat.le_of_ble_eq_true rfl)) (.cons (.tmp rfl) (.nil))) rfl rfl
 ·try dsimp only at H
  conv=>whnf
  refine ⟨Nat.le_of_ble_eq_true rfl,?_⟩;conv=>whnf
  refine ask_c (p_roster_Check_v _) H rfl rfl (fun v17 H=>?_);conv=>whnf
  refine tst_c H (fun b18 H=>?_) (fun b18 H=>?_)
  ·conv=>whnf
   refine ⟨Nat.le_of_ble_eq_true rfl,?_⟩;conv=>whnf
   refine finRz_c (enc:=(fun r:RosterState × Int=>.tup [RosterState.v r.1,V.i r.2])) [4] H ?_;conv=>whnf
   refine ⟨Nat.zero_le _,?_⟩;conv=>whnf
   exact ⟨_,.tup (.cons (fzagg (.cons (.id rfl) (.cons (.id rfl) (.cons (.slw) (.cons (fzown (f:=RosterGone.v) (l:=G) rfl rfl (fun _=>rfl) (fun _=>rfl)) (.nil))))) rfl) (.cons (.c (.id rfl)) (.nil)))⟩
  conv=>whnf
  refine ask_c (p_roster_Find_v _ _) H rfl rfl (fun v19 H=>?_);conv=>whnf
  refine ⟨Nat.le_of_ble_eq_true rfl,?_⟩;conv=>whnf
  refine ⟨Nat.le_of_ble_eq_true rfl,?_⟩;conv=>whnf
  refine ask_c (p_item_Check_v _) H rfl rfl (fun v20 H=>?_);conv=>whnf
  refine tst_c H (fun b21 H=>?_) (fun b21 H=>?_)
  ·conv=>whnf
   refine ⟨Nat.le_of_ble_eq_true rfl,?_⟩;conv=>whnf
   refine finRz_c (enc:=(fun r:RosterState × Int=>.tup [RosterState.v r.1,V.i r.2])) [4] H ?_;conv=>whnf
   refine ⟨Nat.zero_le _,?_⟩;conv=>whnf
   exact ⟨_,.tup (.cons (fzagg (.cons (.id rfl) (.cons (.id rfl) (.cons (.slw) (.cons (fzown (f:=RosterGone.v) (l:=G) rfl rfl (fun _=>rfl) (fun _=>rfl)) (.nil))))) rfl) (.cons (.c (.id rfl)) (.nil)))⟩
  conv=>whnf
  refine ask_c (p_roster_State_may_v _ _ _) H rfl rfl (fun v22 H=>?_);conv=>whnf
  refine tst_c H (fun b23 H=>?_) (fun b23 H=>?_)
  ·conv=>whnf
   refine ⟨Nat.le_of_ble_eq_true rfl,?_⟩;conv=>whnf
   refine finRz_c (enc:=(fun r:RosterState × Int=>.tup [RosterState.v r.1,V.i r.2])) [4] H ?_;conv=>whnf
   refine ⟨Nat.zero_le _,?_⟩;conv=>whnf
   exact ⟨_,.tup (.cons (fzagg (.cons (.id rfl) (.cons (.id rfl) (.cons (.slw) (.cons (fzown (f:=RosterGone.v) (l:=G) rfl rfl (fun _=>rfl) (fun _=>rfl)) (.nil))))) rfl) (.cons (.c (.id rfl)) (.nil)))⟩
  conv=>whnf
  obtain ⟨K24,hK25,o26,HL27,HQ28⟩:=join0_c H
  refine join_c [7,6,8,12] [47,48,49,50,51,52,53,54,55,3,10,16,31] (fun vals st=>(K24 (.inr ())=some r∧vals=[.i (0:Int),.ptr 0 0,.ptr 1 0,.ptr 4 0]∧st=[.live [.i (0:Int),.i (0:Int),.sl (List.map ItemItem.v []) true,.sl (List.map RosterGone.v []) true] 0,.live [.i a0.Ver,.i a0.Floor,.sl (List.map ItemItem.v []) true,.osl 3 0 (List.length G) 2 false] 0,.dead,.live (cellsM RosterGone.v G) 0,.live [.s a1,.s a2,.i v19.1.Sub,.i (0:Int),.b true] 0])) ?_ ?_
  ·have H:=HL27
   conv=>whnf
   refine tst_d H (fun b30 H=>?_) (fun b30 H=>?_)
   ·conv=>whnf
    iterate 5 (refine Tst.F ?_;conv=>whnf)
    obtain rfl:=Option.some.inj H
    exact arrive_c [47,48,49,50,51,52,53,54,55,3,10,16,31] 5 [1,2,0,4,6] (⟨HQ28,rfl,rfl⟩) (Nat.zero_le _) rfl (by kernel_rfl) (by kernel_rfl) rfl ⟨⟨rfl,rfl,rfl⟩,⟨⟨rfl,rfl,rfl⟩,wkB_live0 rfl (cellsM_idlt (f:=RosterGone.v) (fun _=>rfl) _) rfl ⟨⟨rfl,rfl,rfl⟩,trivial⟩⟩⟩
   conv=>whnf
   iterate 4 (refine Tst.T ?_;conv=>whnf)
   refine tst_d H (fun b31 H=>?_) (fun b31 H=>?_)
   ·conv=>whnf
    obtain rfl:=Option.some.inj H
    exact arrive_c [47,48,49,50,51,52,53,54,55,3,10,16,31] 5 [1,2,0,4,6] (⟨HQ28,rfl,rfl⟩) (Nat.zero_le _) rfl (by kernel_rfl) (by kernel_rfl) rfl ⟨⟨rfl,rfl,rfl⟩,⟨⟨rfl,rfl,rfl⟩,wkB_live0 rfl (cellsM_idlt (f:=RosterGone.v) (fun _=>rfl) _) rfl ⟨⟨rfl,rfl,rfl⟩,trivial⟩⟩⟩
   conv=>whnf
   refine ⟨Nat.le_of_ble_eq_true rfl,?_⟩;conv=>whnf
   obtain rfl:=Option.some.inj H
   have H:=HQ28
   rw [hK25] at H
   try dsimp only at H
   refine finRz_c (enc:=(fun r:RosterState × Int=>.tup [RosterState.v r.1,V.i r.2])) [4] H ?_;conv=>whnf
   refine ⟨Nat.zero_le _,?_⟩;conv=>whnf
   exact ⟨_,.tup (.cons (fzagg (.cons (.id rfl) (.cons (.id rfl) (.cons (.slw) (.cons (fzown (f:=RosterGone.v) (l:=G) rfl rfl (fun _=>rfl) (fun _=>rfl)) (.nil))))) rfl) (.cons (.c (.id rfl)) (.nil)))⟩
  rintro _ _ (⟨H,rfl,rfl⟩)
  rw [hK25] at H
  try dsimp only at H
  conv=>whnf
  refine askW_c (fun s hs=>p_roster_State_change_no _ _ _ _ rfl rfl rfl s hs) H rfl rfl rfl (fun v32 H=>?_);conv=>whnf
  refine ⟨Nat.le_of_ble_eq_true rfl,?_⟩;conv=>whnf
  exact fin0_c (enc:=(fun r:RosterState × Int=>.tup [RosterState.v r.1,V.i r.2])) H (.inr rfl) (.cons (.cell rfl rfl (Nat.le_of_ble_eq_true rfl)) (.cons (.tmp rfl) (.nil))) rfl rfl
 ·try dsimp only at H
  conv=>whnf
  refine ⟨Nat.le_of_ble_eq_true rfl,?_⟩;conv=>whnf
  refine ask_c (p_roster_Check_v _) H rfl rfl (fun v33 H=>?_);conv=>whnf
  refine tst_c H (fun b34 H=>?_) (fun b34 H=>?_)
  ·conv=>whnf
   refine ⟨Nat.le_of_ble_eq_true rfl,?_⟩;conv=>whnf
   refine finRz_c (enc:=(fun r:RosterState × Int=>.tup [RosterState.v r.1,V.i r.2])) [3] H ?_;conv=>whnf
   refine ⟨Nat.zero_le _,?_⟩;conv=>whnf
   exact ⟨_,.tup (.cons (fzagg (.cons (.id rfl) (.cons (.id rfl) (.cons (fzown (f:=ItemItem.v) (l:=I) rfl rfl (fun _=>rfl) (fun _=>rfl)) (.cons (.slw) (.nil))))) rfl) (.cons (.c (.id rfl)) (.nil)))⟩
  conv=>whnf
  refine ask_c (p_roster_Find_v _ _) H rfl rfl (fun v35 H=>?_);conv=>whnf
  refine ⟨Nat.le_of_ble_eq_true rfl,?_⟩;conv=>whnf
  refine ⟨Nat.le_of_ble_eq_true rfl,?_⟩;conv=>whnf
  refine ask_c (p_item_Check_v _) H rfl rfl (fun v36 H=>?_);conv=>whnf
  refine tst_c H (fun b37 H=>?_) (fun b37 H=>?_)
  ·conv=>whnf
   refine ⟨Nat.le_of_ble_eq_true rfl,?_⟩;conv=>whnf
   refine finRz_c (enc:=(fun r:RosterState × Int=>.tup [RosterState.v r.1,V.i r.2])) [3] H ?_;conv=>whnf
   refine ⟨Nat.zero_le _,?_⟩;conv=>whnf
   exact ⟨_,.tup (.cons (fzagg (.cons (.id rfl) (.cons (.id rfl) (.cons (fzown (f:=ItemItem.v) (l:=I) rfl rfl (fun _=>rfl) (fun _=>rfl)) (.cons (.slw) (.nil))))) rfl) (.cons (.c (.id rfl)) (.nil)))⟩
  conv=>whnf
  refine ask_c (p_roster_State_may_v _ _ _) H rfl rfl (fun v38 H=>?_);conv=>whnf
  refine tst_c H (fun b39 H=>?_) (fun b39 H=>?_)
  ·conv=>whnf
   refine ⟨Nat.le_of_ble_eq_true rfl,?_⟩;conv=>whnf
   refine finRz_c (enc:=(fun r:RosterState × Int=>.tup [RosterState.v r.1,V.i r.2])) [3] H ?_;conv=>whnf
   refine ⟨Nat.zero_le _,?_⟩;conv=>whnf
   exact ⟨_,.tup (.cons (fzagg (.cons (.id rfl) (.cons (.id rfl) (.cons (fzown (f:=ItemItem.v) (l:=I) rfl rfl (fun _=>rfl) (fun _=>rfl)) (.cons (.slw) (.nil))))) rfl) (.cons (.c (.id rfl)) (.nil)))⟩
  conv=>whnf
  obtain ⟨K40,hK41,o42,HL43,HQ44⟩:=join0_c H
  refine join_c [7,6,8,12] [47,48,49,50,51,52,53,54,55,3,10,16,31] (fun vals st=>(K40 (.inr ())=some r∧vals=[.i (0:Int),.ptr 0 0,.ptr 1 0,.ptr 4 0]∧st=[.live [.i (0:Int),.i (0:Int),.sl (List.map ItemItem.v []) true,.sl (List.map RosterGone.v []) true] 0,.live [.i a0.Ver,.i a0.Floor,.osl 2 0 (List.length I) 5 false,.sl (List.map RosterGone.v []) true] 0,.live (cellsM ItemItem.v I) 0,.dead,.live [.s a1,.s a2,.i v35.1.Sub,.i (0:Int),.b true] 0])) ?_ ?_
  ·have H:=HL43
   conv=>whnf
   refine tst_d H (fun b46 H=>?_) (fun b46 H=>?_)
   ·conv=>whnf
    iterate 5 (refine Tst.F ?_;conv=>whnf)
    obtain rfl:=Option.some.inj H
    exact arrive_c [47,48,49,50,51,52,53,54,55,3,10,16,31] 5 [1,2,3,0,6] (⟨HQ44,rfl,rfl⟩) (Nat.zero_le _) rfl (by kernel_rfl) (by kernel_rfl) rfl ⟨⟨rfl,rfl,rfl⟩,⟨⟨rfl,rfl,rfl⟩,wkB_live0 rfl (cellsM_idlt (f:=ItemItem.v) (fun _=>rfl) _) rfl ⟨⟨rfl,rfl,rfl⟩,trivial⟩⟩⟩
   conv=>whnf
   iterate 4 (refine Tst.T ?_;conv=>whnf)
   refine tst_d H (fun b47 H=>?_) (fun b47 H=>?_)
   ·conv=>whnf
    obtain rfl:=Option.some.inj H
    exact arrive_c [47,48,49,50,51,52,53,54,55,3,10,16,31] 5 [1,2,3,0,6] (⟨HQ44,rfl,rfl⟩) (Nat.zero_le _) rfl (by kernel_rfl) (by kernel_rfl) rfl ⟨⟨rfl,rfl,rfl⟩,⟨⟨rfl,rfl,rfl⟩,wkB_live0 rfl (cellsM_idlt (f:=ItemItem.v) (fun _=>rfl) _) rfl ⟨⟨rfl,rfl,rfl⟩,trivial⟩⟩⟩
   conv=>whnf
   refine ⟨Nat.le_of_ble_eq_true rfl,?_⟩;conv=>whnf
   obtain rfl:=Option.some.inj H
   have H:=HQ44
   rw [hK41] at H
   try dsimp only at H
   refine finRz_c (enc:=(fun r:RosterState × Int=>.tup [RosterState.v r.1,V.i r.2])) [3] H ?_;conv=>whnf
   refine ⟨Nat.zero_le _,?_⟩;conv=>whnf
   exact ⟨_,.tup (.cons (fzagg (.cons (.id rfl) (.cons (.id rfl) (.cons (fzown (f:=ItemItem.v) (l:=I) rfl rfl (fun _=>rfl) (fun _=>rfl)) (.cons (.slw) (.nil))))) rfl) (.cons (.c (.id rfl)) (.nil)))⟩
  rintro _ _ (⟨H,rfl,rfl⟩)
  rw [hK41] at H
  try dsimp only at H
  conv=>whnf
  refine askW_c (fun s hs=>p_roster_State_change_on _ _ _ _ rfl rfl rfl s hs) H rfl rfl rfl (fun v48 H=>?_);conv=>whnf
  refine ⟨Nat.le_of_ble_eq_true rfl,?_⟩;conv=>whnf
  exact fin0_c (enc:=(fun r:RosterState × Int=>.tup [RosterState.v r.1,V.i r.2])) H (.inr rfl) (.cons (.cell rfl rfl (Nat.le_of_ble_eq_true rfl)) (.cons (.tmp rfl) (.nil))) rfl rfl
 try dsimp only at H
 conv=>whnf
 refine ⟨Nat.le_of_ble_eq_true rfl,?_⟩;conv=>whnf
 refine ask_c (p_roster_Check_v _) H rfl rfl (fun v49 H=>?_);conv=>whnf
 refine tst_c H (fun b50 H=>?_) (fun b50 H=>?_)
 ·conv=>whnf
  refine ⟨Nat.le_of_ble_eq_true rfl,?_⟩;conv=>whnf
  refine finRz_c (enc:=(fun r:RosterState × Int=>.tup [RosterState.v r.1,V.i r.2])) [3,4] H ?_;conv=>whnf
  refine ⟨Nat.zero_le _,?_⟩;conv=>whnf
  refine ⟨Nat.zero_le _,?_⟩;conv=>whnf
  exact ⟨_,.tup (.cons (fzagg (.cons (.id rfl) (.cons (.id rfl) (.cons (fzown (f:=ItemItem.v) (l:=I) rfl rfl (fun _=>rfl) (fun _=>rfl)) (.cons (fzown (f:=RosterGone.v) (l:=G) rfl rfl (fun _=>rfl) (fun _=>rfl)) (.nil))))) rfl) (.cons (.c (.id rfl)) (.nil)))⟩
 conv=>whnf
 refine ask_c (p_roster_Find_v _ _) H rfl rfl (fun v51 H=>?_);conv=>whnf
 refine ⟨Nat.le_of_ble_eq_true rfl,?_⟩;conv=>whnf
 refine ⟨Nat.le_of_ble_eq_true rfl,?_⟩;conv=>whnf
 refine ask_c (p_item_Check_v _) H rfl rfl (fun v52 H=>?_);conv=>whnf
 refine tst_c H (fun b53 H=>?_) (fun b53 H=>?_)
 ·conv=>whnf
  refine ⟨Nat.le_of_ble_eq_true rfl,?_⟩;conv=>whnf
  refine finRz_c (enc:=(fun r:RosterState × Int=>.tup [RosterState.v r.1,V.i r.2])) [3,4] H ?_;conv=>whnf
  refine ⟨Nat.zero_le _,?_⟩;conv=>whnf
  refine ⟨Nat.zero_le _,?_⟩;conv=>whnf
  exact ⟨_,.tup (.cons (fzagg (.cons (.id rfl) (.cons (.id rfl) (.cons (fzown (f:=ItemItem.v) (l:=I) rfl rfl (fun _=>rfl) (fun _=>rfl)) (.cons (fzown (f:=RosterGone.v) (l:=G) rfl rfl (fun _=>rfl) (fun _=>rfl)) (.nil))))) rfl) (.cons (.c (.id rfl)) (.nil)))⟩
 conv=>whnf
 refine ask_c (p_roster_State_may_v _ _ _) H rfl rfl (fun v54 H=>?_);conv=>whnf
 refine tst_c H (fun b55 H=>?_) (fun b55 H=>?_)
 ·conv=>whnf
  refine ⟨Nat.le_of_ble_eq_true rfl,?_⟩;conv=>whnf
  refine finRz_c (enc:=(fun r:RosterState × Int=>.tup [RosterState.v r.1,V.i r.2])) [3,4] H ?_;conv=>whnf
  refine ⟨Nat.zero_le _,?_⟩;conv=>whnf
  refine ⟨Nat.zero_le _,?_⟩;conv=>whnf
  exact ⟨_,.tup (.cons (fzagg (.cons (.id rfl) (.cons (.id rfl) (.cons (fzown (f:=ItemItem.v) (l:=I) rfl rfl (fun _=>rfl) (fun _=>rfl)) (.cons (fzown (f:=RosterGone.v) (l:=G) rfl rfl (fun _=>rfl) (fun _=>rfl)) (.nil))))) rfl) (.cons (.c (.id rfl)) (.nil)))⟩
 conv=>whnf
 obtain ⟨K56,hK57,o58,HL59,HQ60⟩:=join0_c H
 refine join_c [7,6,8,12] [47,48,49,50,51,52,53,54,55,3,10,16,31] (fun vals st=>(K56 (.inr ())=some r∧vals=[.i (0:Int),.ptr 0 0,.ptr 1 0,.ptr 4 0]∧st=[.live [.i (0:Int),.i (0:Int),.sl (List.map ItemItem.v []) true,.sl (List.map RosterGone.v []) true] 0,.live [.i a0.Ver,.i a0.Floor,.osl 2 0 (List.length I) 5 false,.osl 3 0 (List.length G) 2 false] 0,.live (cellsM ItemItem.v I) 0,.live (cellsM RosterGone.v G) 0,.live [.s a1,.s a2,.i v51.1.Sub,.i (0:Int),.b true] 0])) ?_ ?_
 ·have H:=HL59
  conv=>whnf
  refine tst_d H (fun b62 H=>?_) (fun b62 H=>?_)
  ·conv=>whnf
   iterate 5 (refine Tst.F ?_;conv=>whnf)
   obtain rfl:=Option.some.inj H
   exact arrive_c [47,48,49,50,51,52,53,54,55,3,10,16,31] 5 [1,2,3,4,6] (⟨HQ60,rfl,rfl⟩) (Nat.zero_le _) rfl (by kernel_rfl) (by kernel_rfl) rfl ⟨⟨rfl,rfl,rfl⟩,⟨⟨rfl,rfl,rfl⟩,wkB_live0 rfl (cellsM_idlt (f:=ItemItem.v) (fun _=>rfl) _) rfl (wkB_live0 rfl (cellsM_idlt (f:=RosterGone.v) (fun _=>rfl) _) rfl ⟨⟨rfl,rfl,rfl⟩,trivial⟩)⟩⟩
  conv=>whnf
  iterate 4 (refine Tst.T ?_;conv=>whnf)
  refine tst_d H (fun b63 H=>?_) (fun b63 H=>?_)
  ·conv=>whnf
   obtain rfl:=Option.some.inj H
   exact arrive_c [47,48,49,50,51,52,53,54,55,3,10,16,31] 5 [1,2,3,4,6] (⟨HQ60,rfl,rfl⟩) (Nat.zero_le _) rfl (by kernel_rfl) (by kernel_rfl) rfl ⟨⟨rfl,rfl,rfl⟩,⟨⟨rfl,rfl,rfl⟩,wkB_live0 rfl (cellsM_idlt (f:=ItemItem.v) (fun _=>rfl) _) rfl (wkB_live0 rfl (cellsM_idlt (f:=RosterGone.v) (fun _=>rfl) _) rfl ⟨⟨rfl,rfl,rfl⟩,trivial⟩)⟩⟩
  conv=>whnf
  refine ⟨Nat.le_of_ble_eq_true rfl,?_⟩;conv=>whnf
  obtain rfl:=Option.some.inj H
  have H:=HQ60
  rw [hK57] at H
  try dsimp only at H
  refine finRz_c (enc:=(fun r:RosterState × Int=>.tup [RosterState.v r.1,V.i r.2])) [3,4] H ?_;conv=>whnf
  refine ⟨Nat.zero_le _,?_⟩;conv=>whnf
  refine ⟨Nat.zero_le _,?_⟩;conv=>whnf
  exact ⟨_,.tup (.cons (fzagg (.cons (.id rfl) (.cons (.id rfl) (.cons (fzown (f:=ItemItem.v) (l:=I) rfl rfl (fun _=>rfl) (fun _=>rfl)) (.cons (fzown (f:=RosterGone.v) (l:=G) rfl rfl (fun _=>rfl) (fun _=>rfl)) (.nil))))) rfl) (.cons (.c (.id rfl)) (.nil)))⟩
 rintro _ _ (⟨H,rfl,rfl⟩)
 rw [hK57] at H
 try dsimp only at H
 conv=>whnf
 refine askW_c (fun s hs=>p_roster_State_change_oo _ _ _ _ _ rfl rfl rfl s hs) H rfl rfl rfl (fun v64 H=>?_);conv=>whnf
 refine ⟨Nat.le_of_ble_eq_true rfl,?_⟩;conv=>whnf
 exact fin0_c (enc:=(fun r:RosterState × Int=>.tup [RosterState.v r.1,V.i r.2])) H (.inr rfl) (.cons (.cell rfl rfl (Nat.le_of_ble_eq_true rfl)) (.cons (.tmp rfl) (.nil))) rfl rfl
def gc110:BCode:=(.seq (.reg 1 [⟨(some 2),.bx (.tmp 0),none,0⟩,⟨(some 4),.mv (.const (.int .i64 0)),none,1⟩,⟨(some 5),.mv (.const (.bool false)),none,1⟩] none 0 []) (.seq (.reg 0 [⟨(some 6),.mv (.const (.int .i64 0)),none,0⟩] none 0 []) (.seq (.block 0 (.loop (.seq (.seq (.reg 0 [⟨(some 7),.mv (.tmp 6),none,0⟩,⟨(some 8),.fa 2 (.tmp 2),none,0⟩,⟨(some 9),.ld 1 false (.tmp 8),none,0⟩,⟨(some 10),.lens (.tmp 9),none,0⟩,⟨(some 11),.bin .lss (.tmp 7) (.tmp 10),none,0⟩,⟨(some 12),.mv (.tmp 11),none,0⟩,⟨(some 13),.fa 2 (.tmp 2),(some (12,true)),0⟩,⟨(some 14),.ld 1 false (.tmp 13),(some (12,true)),0⟩,⟨(some 15),.mv (.tmp 6),(some (12,true)),0⟩,⟨(some 16),.ixs 5 (.tmp 14) (.tmp 15),(some (12,true)),0⟩,⟨(some 17),.fa 0 (.tmp 16),(some (12,true)),0⟩,⟨(some 18),.ld 1 false (.tmp 17),(some (12,true)),0⟩,⟨(some 19),.mv (.tmp 1),(some (12,true)),0⟩,⟨(some 20),.bin .lss (.tmp 18) (.tmp 19),(some (12,true)),0⟩,⟨(some 21),.pick (.tmp 12) (.tmp 20) (.const (.bool false)),none,0⟩] none 0 []) (.cond (.tmp 21) .skip (.exit 0))) (.block 1 (.reg 0 [⟨(some 22),.mv (.tmp 6),none,0⟩,⟨(some 23),.bin .add (.tmp 22) (.const (.int .i64 1)),none,0⟩,⟨(some 6),.mv (.tmp 23),none,0⟩] none 0 []))))) (.seq (.reg 0 [⟨(some 24),.mv (.tmp 6),none,0⟩,⟨(some 25),.mv (.tmp 6),none,0⟩,⟨(some 26),.fa 2 (.tmp 2),none,0⟩,⟨(some 27),.ld 1 false (.tmp 26),none,0⟩,⟨(some 28),.lens (.tmp 27),none,0⟩,⟨(some 29),.bin .lss (.tmp 25) (.tmp 28),none,0⟩,⟨(some 30),.mv (.tmp 29),none,0⟩,⟨(some 31),.fa 2 (.tmp 2),(some (30,true)),0⟩,⟨(some 32),.ld 1 false (.tmp 31),(some (30,true)),0⟩,⟨(some 33),.mv (.tmp 6),(some (30,true)),0⟩,⟨(some 34),.ixs 5 (.tmp 32) (.tmp 33),(some (30,true)),0⟩,⟨(some 35),.fa 0 (.tmp 34),(some (30,true)),0⟩,⟨(some 36),.ld 1 false (.tmp 35),(some (30,true)),0⟩,⟨(some 37),.mv (.tmp 1),(some (30,true)),0⟩,⟨(some 38),.bin .eql (.tmp 36) (.tmp 37),(some (30,true)),0⟩,⟨(some 39),.pick (.tmp 30) (.tmp 38) (.const (.bool false)),none,0⟩,⟨(some 4),.mv (.tmp 24),none,0⟩,⟨(some 5),.mv (.tmp 39),none,0⟩] (some [[],[],[],[2],[2,3],[3,2,4,1],[1,4,2,3,5],[5,3,2,4,1,6],[6,1,4,2,3,5,7],[5,3,2,4,1,6],[9,7,5,3,2,4,1,6,8],[8,6,1,4,2,3,5,7,9,10],[10,9,7,5,3,2,4,1,6,8,11],[5,3,2,4,1,6],[13,11,8,6,1,4,2,3,5,7,9,10,12],[12,10,9,7,8,11,13,14,5,3,2,4,1,6],[5,3,2,4,1,6,0],[0,16,6,1,4,2,3,5,14,13,11,8,7,9,10,12,15]]) 0 []) .ret))))
theorem gc110_ok:compF Tryz.prog Tryz.f110=some (gc110.er,40,[.tmp 4,.tmp 5]):=by unfold gc110;kernel_rfl
theorem p_ref21_place_v {u1 u2:Bool} (a0:RosterState) (a1:ByteArray):CallsO Tryz.prog 110 [.agg [.i a0.Ver,.i a0.Floor,.sl (List.map ItemItem.v a0.Items) u1,.sl (List.map RosterGone.v a0.Gone) u2],.s a1] (fun r:Int × Bool=>.tup [V.i r.1,V.b r.2]) (p_ref21_place a0 a1):=by
 refine callsO_comp mix Tryz.func110 gc110_ok fun r H=>?_
 rw [p_ref21_place] at H
 conv=>whnf
 obtain ⟨o2,HL3,HQ4⟩:=bind_c H
 refine loop_c [6] [7,8,9,10,11,12,13,14,15,16,17,18,19,20,21,22,23] [7,8,9,10,11,12,13,14,15,16,17,18,19,20,21,22,23] (fun n vals st=>(∃ y6,p_ref21_place_l1  a1 a0 n y6=some o2∧vals=[.i y6]∧st=[.live [.i a0.Ver,.i a0.Floor,.sl (List.map ItemItem.v a0.Items) u1,.sl (List.map RosterGone.v a0.Gone) u2] 0])) fuel 1 [] (⟨_,HL3,rfl,rfl⟩) (Nat.zero_le _) rfl (by kernel_rfl) (by kernel_rfl) rfl ⟨⟨rfl,rfl,rfl⟩,trivial⟩ ?_
 rintro (_ | n5) _ _ (⟨y6,H,rfl,rfl⟩)
 ·rw [p_ref21_place_l1] at H;cases H
 rw [p_ref21_place_l1] at H
 conv=>whnf
 refine LenQ.M ?_;conv=>whnf
 refine tst_d H (fun b7 H=>?_) (fun b7 H=>?_)
 ·conv=>whnf
  iterate 9 (refine Tst.F ?_;conv=>whnf)
  obtain rfl:=Option.some.inj H
  have H:=HQ4
  try dsimp only at H
  refine LenQ.M ?_;conv=>whnf
  refine tst_d H (fun b12 H=>?_) (fun b12 H=>?_)
  ·conv=>whnf
   iterate 8 (refine Tst.F ?_;conv=>whnf)
   refine FootQ.mk ⟨rfl,?_⟩;conv=>whnf
   exact fin0_c (enc:=(fun r:Int × Bool=>.tup [V.i r.1,V.b r.2])) H (.inr rfl) (.cons (.tmp rfl) (.cons (.tmp rfl) (.nil))) rfl rfl
  conv=>whnf
  iterate 3 (refine Tst.T ?_;conv=>whnf)
  refine ixs_c (f:=ItemItem.v) H (fun _=>rfl) (fun x13 H=>?_);conv=>whnf
  refine Tst.T ?_;conv=>whnf
  refine ⟨Nat.le_of_ble_eq_true rfl,?_⟩;conv=>whnf
  iterate 4 (refine Tst.T ?_;conv=>whnf)
  refine FootQ.mk ⟨rfl,?_⟩;conv=>whnf
  exact fin0_c (enc:=(fun r:Int × Bool=>.tup [V.i r.1,V.b r.2])) H (.inr rfl) (.cons (.tmp rfl) (.cons (.tmp rfl) (.nil))) rfl rfl
 conv=>whnf
 iterate 3 (refine Tst.T ?_;conv=>whnf)
 refine ixs_c (f:=ItemItem.v) H (fun _=>rfl) (fun x8 H=>?_);conv=>whnf
 refine Tst.T ?_;conv=>whnf
 refine ⟨Nat.le_of_ble_eq_true rfl,?_⟩;conv=>whnf
 iterate 4 (refine Tst.T ?_;conv=>whnf)
 refine tst_c H (fun b9 H=>?_) (fun b9 H=>?_)
 ·conv=>whnf
  refine Ari.w ?_;conv=>whnf
  exact again_c [7,8,9,10,11,12,13,14,15,16,17,18,19,20,21,22,23] n5 1 [] (⟨_,H,rfl,rfl⟩) (Nat.lt_succ_self _) (Nat.zero_le _) rfl (by kernel_rfl) (by kernel_rfl) rfl ⟨⟨rfl,rfl,rfl⟩,trivial⟩
 conv=>whnf
 obtain rfl:=Option.some.inj H
 have H:=HQ4
 try dsimp only at H
 refine LenQ.M ?_;conv=>whnf
 refine tst_d H (fun b10 H=>?_) (fun b10 H=>?_)
 ·conv=>whnf
  iterate 8 (refine Tst.F ?_;conv=>whnf)
  refine FootQ.mk ⟨rfl,?_⟩;conv=>whnf
  exact fin0_c (enc:=(fun r:Int × Bool=>.tup [V.i r.1,V.b r.2])) H (.inr rfl) (.cons (.tmp rfl) (.cons (.tmp rfl) (.nil))) rfl rfl
 conv=>whnf
 iterate 3 (refine Tst.T ?_;conv=>whnf)
 refine ixs_c (f:=ItemItem.v) H (fun _=>rfl) (fun x11 H=>?_);conv=>whnf
 refine Tst.T ?_;conv=>whnf
 refine ⟨Nat.le_of_ble_eq_true rfl,?_⟩;conv=>whnf
 iterate 4 (refine Tst.T ?_;conv=>whnf)
 refine FootQ.mk ⟨rfl,?_⟩;conv=>whnf
 exact fin0_c (enc:=(fun r:Int × Bool=>.tup [V.i r.1,V.b r.2])) H (.inr rfl) (.cons (.tmp rfl) (.cons (.tmp rfl) (.nil))) rfl rfl
end Go.Proofs.YtpmoioopjbfhkaaGreat

/- That the program's functions yield what the plain ones tell (written by a program of mine). -/
namespace Go.Proofs.YtpmoioopjbfhkaaGreat
open Go.RowKit
set_option maxRecDepth 100000
set_option maxHeartbeats 4000000
def gc174:BCode:=(.seq (.reg 1 [⟨(some 1),.bx (.tmp 0),none,0⟩,⟨(some 2),.mv (.const (.int .i64 0)),none,1⟩] none 0 []) (.seq (.seq (.reg 0 [⟨(some 3),.mv (.const (.int .i64 0)),none,0⟩] none 0 []) (.block 0 (.loop (.seq (.seq (.reg 0 [⟨(some 5),.mv (.tmp 3),none,0⟩,⟨(some 6),.fa 2 (.tmp 1),none,0⟩,⟨(some 7),.ld 1 false (.tmp 6),none,0⟩,⟨(some 8),.lens (.tmp 7),none,0⟩,⟨(some 9),.bin .lss (.tmp 5) (.tmp 8),none,0⟩] none 0 []) (.cond (.tmp 9) .skip (.exit 0))) (.seq (.block 1 (.seq (.reg 0 [⟨(some 12),.fa 2 (.tmp 1),none,0⟩,⟨(some 13),.ld 1 false (.tmp 12),none,0⟩,⟨(some 14),.mv (.tmp 3),none,0⟩,⟨(some 15),.ixs 5 (.tmp 13) (.tmp 14),none,0⟩,⟨(some 16),.ld 5 true (.tmp 15),none,0⟩,⟨(some 17),.cl 16 [(.tmp 16)],none,0⟩,⟨(some 4),.mv (.tmp 17),none,0⟩] none 0 []) (.seq (.seq (.reg 0 [⟨(some 18),.mv (.tmp 4),none,0⟩,⟨(some 19),.bin .neq (.tmp 18) (.const (.int .i64 0)),none,0⟩] none 0 []) (.cond (.tmp 19) (.seq (.reg 0 [⟨(some 20),.mv (.tmp 4),none,0⟩,⟨(some 2),.mv (.tmp 20),none,0⟩] none 0 []) .ret) .skip)) (.seq (.reg 0 [⟨(some 21),.fa 2 (.tmp 1),none,0⟩,⟨(some 22),.ld 1 false (.tmp 21),none,0⟩,⟨(some 23),.mv (.tmp 3),none,0⟩,⟨(some 24),.ixs 5 (.tmp 22) (.tmp 23),none,0⟩,⟨(some 25),.ld 5 true (.tmp 24),none,0⟩,⟨(some 26),.cl 20 [(.tmp 25)],none,0⟩] none 0 []) (.cond (.tmp 26) (.seq (.reg 0 [⟨(some 2),.mv (.const (.int .i64 4)),none,0⟩] none 0 []) .ret) .skip))))) (.reg 0 [⟨(some 10),.mv (.tmp 3),none,0⟩,⟨(some 11),.bin .add (.tmp 10) (.const (.int .i64 1)),none,0⟩,⟨(some 3),.mv (.tmp 11),none,0⟩] none 0 [])))))) (.seq (.reg 0 [⟨(some 2),.mv (.const (.int .i64 0)),none,0⟩] none 0 []) .ret)))
theorem gc174_ok:compF Tryz.prog Tryz.f174=some (gc174.er,27,[.tmp 2]):=by unfold gc174;kernel_rfl
theorem p_ref21_items_v {u1 u2:Bool} (a0:RosterState):CallsO Tryz.prog 174 [.agg [.i a0.Ver,.i a0.Floor,.sl (List.map ItemItem.v a0.Items) u1,.sl (List.map RosterGone.v a0.Gone) u2]] V.i (p_ref21_items a0):=by
 refine callsO_comp mix Tryz.func174 gc174_ok fun r H=>?_
 rw [p_ref21_items] at H
 conv=>whnf
 obtain ⟨o2,HL3,HQ4⟩:=bind_c H
 refine loop_c [2,3] [4,5,6,7,8,9,10,11,12,13,14,15,16,17,18,19,20,21,22,23,24,25,26] [4,5,6,7,8,9,10,11,12,13,14,15,16,17,18,19,20,21,22,23,24,25,26] (fun n vals st=>(∃ y6,p_ref21_items_l1  a0 n y6=some o2∧vals=[.i (0:Int),.i y6]∧st=[.live [.i a0.Ver,.i a0.Floor,.sl (List.map ItemItem.v a0.Items) u1,.sl (List.map RosterGone.v a0.Gone) u2] 0])) fuel 1 [] (⟨_,HL3,rfl,rfl⟩) (Nat.zero_le _) rfl (by kernel_rfl) (by kernel_rfl) rfl ⟨⟨rfl,rfl,rfl⟩,trivial⟩ ?_
 rintro (_ | n5) _ _ (⟨y6,H,rfl,rfl⟩)
 ·rw [p_ref21_items_l1] at H;cases H
 rw [p_ref21_items_l1] at H
 conv=>whnf
 refine LenQ.M ?_;conv=>whnf
 refine tst_d H (fun b7 H=>?_) (fun b7 H=>?_)
 ·conv=>whnf
  obtain rfl:=Option.some.inj H
  have H:=HQ4
  try dsimp only at H
  exact fi_ H
 conv=>whnf
 refine ixs_c (f:=ItemItem.v) H (fun _=>rfl) (fun x8 H=>?_);conv=>whnf
 refine ask_c (p_ref20_Check_v _) H rfl rfl (fun v9 H=>?_);conv=>whnf
 refine tst_c H (fun b10 H=>?_) (fun b10 H=>?_)
 ·conv=>whnf
  obtain rfl:=Option.some.inj H
  have H:=HQ4
  try dsimp only at H
  exact fi_ H
 conv=>whnf
 refine ixs_c (f:=ItemItem.v) H (fun _=>rfl) (fun x11 H=>?_);conv=>whnf
 refine ask_c (p_ref20_Idle_v _) H rfl rfl (fun v12 H=>?_);conv=>whnf
 refine tst_c H (fun b13 H=>?_) (fun b13 H=>?_)
 ·conv=>whnf
  obtain rfl:=Option.some.inj H
  have H:=HQ4
  try dsimp only at H
  exact fi_ H
 conv=>whnf
 refine Ari.w ?_;conv=>whnf
 exact again_c [4,5,6,7,8,9,10,11,12,13,14,15,16,17,18,19,20,21,22,23,24,25,26] n5 1 [] (⟨_,H,rfl,rfl⟩) (Nat.lt_succ_self _) (Nat.zero_le _) rfl (by kernel_rfl) (by kernel_rfl) rfl ⟨⟨rfl,rfl,rfl⟩,trivial⟩
end Go.Proofs.YtpmoioopjbfhkaaGreat

/- That the program's functions yield what the plain ones tell (written by a program of mine). -/
namespace Go.Proofs.YtpmoioopjbfhkaaGreat
open Go.RowKit
set_option maxRecDepth 1000000
set_option maxHeartbeats 4000000
def gc175:BCode:=(.seq (.reg 1 [⟨(some 1),.bx (.tmp 0),none,0⟩,⟨(some 2),.mv (.const (.bool false)),none,1⟩] none 0 []) (.seq (.seq (.reg 0 [⟨(some 3),.mv (.const (.int .i64 0)),none,0⟩] none 0 []) (.block 0 (.loop (.seq (.seq (.reg 0 [⟨(some 12),.mv (.tmp 3),none,0⟩,⟨(some 13),.fa 2 (.tmp 1),none,0⟩,⟨(some 14),.ld 1 false (.tmp 13),none,0⟩,⟨(some 15),.lens (.tmp 14),none,0⟩,⟨(some 16),.bin .lss (.tmp 12) (.tmp 15),none,0⟩] none 0 []) (.cond (.tmp 16) .skip (.exit 0))) (.seq (.block 1 (.seq (.reg 1 [⟨(some 19),.fa 2 (.tmp 1),none,0⟩,⟨(some 20),.ld 1 false (.tmp 19),none,0⟩,⟨(some 21),.mv (.tmp 3),none,0⟩,⟨(some 22),.ixs 5 (.tmp 20) (.tmp 21),none,0⟩,⟨(some 23),.ld 5 true (.tmp 22),none,0⟩,⟨(some 4),.al (.agg [(.lit (.string ⟨#[]⟩)),(.lit (.string ⟨#[]⟩)),(.lit (.int .i64 0)),(.lit (.int .i64 0)),(.lit (.bool false))]),none,0⟩,⟨none,.st 5 (.tmp 4) (.tmp 23),none,1⟩] none 0 []) (.seq (.seq (.reg 0 [⟨(some 24),.fa 3 (.tmp 4),none,0⟩,⟨(some 25),.ld 1 false (.tmp 24),none,0⟩,⟨(some 26),.bin .lss (.tmp 25) (.const (.int .i64 1)),none,0⟩,⟨(some 27),.mv (.tmp 26),none,0⟩,⟨(some 28),.fa 3 (.tmp 4),(some (27,false)),0⟩,⟨(some 29),.ld 1 false (.tmp 28),(some (27,false)),0⟩,⟨(some 30),.fa 0 (.tmp 1),(some (27,false)),0⟩,⟨(some 31),.ld 1 false (.tmp 30),(some (27,false)),0⟩,⟨(some 32),.bin .gtr (.tmp 29) (.tmp 31),(some (27,false)),0⟩,⟨(some 33),.pick (.tmp 27) (.const (.bool true)) (.tmp 32),none,0⟩,⟨(some 34),.mv (.tmp 33),none,0⟩,⟨(some 35),.mv (.tmp 3),(some (34,false)),0⟩,⟨(some 36),.bin .gtr (.tmp 35) (.const (.int .i64 0)),(some (34,false)),0⟩,⟨(some 37),.mv (.tmp 36),(some (34,false)),0⟩,⟨(some 38),.fa 2 (.tmp 1),(some (37,true)),0⟩,⟨(some 39),.ld 1 false (.tmp 38),(some (37,true)),0⟩,⟨(some 40),.mv (.tmp 3),(some (37,true)),0⟩,⟨(some 41),.bin .sub (.tmp 40) (.const (.int .i64 1)),(some (37,true)),0⟩,⟨(some 42),.ixs 5 (.tmp 39) (.tmp 41),(some (37,true)),0⟩,⟨(some 43),.fa 0 (.tmp 42),(some (37,true)),0⟩,⟨(some 44),.ld 1 false (.tmp 43),(some (37,true)),0⟩,⟨(some 45),.fa 0 (.tmp 4),(some (37,true)),0⟩,⟨(some 46),.ld 1 false (.tmp 45),(some (37,true)),0⟩,⟨(some 47),.bin .geq (.tmp 44) (.tmp 46),(some (37,true)),0⟩,⟨(some 48),.pick (.tmp 37) (.tmp 47) (.const (.bool false)),(some (34,false)),0⟩,⟨(some 49),.pick (.tmp 34) (.const (.bool true)) (.tmp 48),none,0⟩] (some [[],[0],[0,1],[1,0,2],[2,0,1,3],[3,1,0,2,4],[2,0,1,3],[3,1,0,2,6],[6,7,4,2,0,1,3,5],[5,4,7,6,8,2,0,1,3],[3,1,0,2,8,6,7,4,5,9],[9,5,4,7,6,8,2,0,1,3,10],[10,3,1,0,2,8,6,7,4,5,9,11],[11,9,5,4,7,6,8,2,0,1,3,10,12],[12,10,3,1,0,2,8,6,7,4,5,9,11,13],[13,11,9,5,4,7,6,8,2,0,1,3,10,12,14],[12,10,3,1,0,2,8,6,7,4,5,9,11,13],[13,11,9,5,4,7,6,8,2,0,1,3,10,12,16],[16,17,14,12,10,3,1,0,2,8,6,7,4,5,9,11,13,15],[15,13,11,9,5,4,7,6,8,2,0,1,3,10,12,14,17,16,18],[18,16,17,14,12,10,3,1,0,2,8,6,7,4,5,9,11,13,15,19],[12,10,3,1,0,2,8,6,7,4,5,9,11,13],[13,11,9,5,4,7,6,8,2,0,1,3,10,12,21],[21,22,19,15,13,11,9,5,4,7,6,8,2,0,1,3,10,12,14,17,16,18,20],[20,18,16,17,14,15,19,22,21,23,12,10,3,1,0,2,8,6,7,4,5,9,11,13],[13,11,12,23,21,22,19,15,14,17,16,18,20,24,9,5,4,7,6,8,2,0,1,3,10]]) 0 []) (.cond (.tmp 49) (.seq (.reg 0 [⟨(some 2),.mv (.const (.bool false)),none,0⟩] none 0 []) .ret) .skip)) (.seq (.reg 0 [⟨(some 5),.mv (.const (.int .i64 0)),none,0⟩] none 0 []) (.block 2 (.loop (.seq (.seq (.reg 0 [⟨(some 50),.mv (.tmp 5),none,0⟩,⟨(some 51),.mv (.tmp 3),none,0⟩,⟨(some 52),.bin .lss (.tmp 50) (.tmp 51),none,0⟩] none 0 []) (.cond (.tmp 52) .skip (.exit 2))) (.seq (.block 3 (.seq (.reg 0 [⟨(some 55),.fa 2 (.tmp 1),none,0⟩,⟨(some 56),.ld 1 false (.tmp 55),none,0⟩,⟨(some 57),.mv (.tmp 5),none,0⟩,⟨(some 58),.ixs 5 (.tmp 56) (.tmp 57),none,0⟩,⟨(some 59),.fa 3 (.tmp 58),none,0⟩,⟨(some 60),.ld 1 false (.tmp 59),none,0⟩,⟨(some 61),.fa 3 (.tmp 4),none,0⟩,⟨(some 62),.ld 1 false (.tmp 61),none,0⟩,⟨(some 63),.bin .eql (.tmp 60) (.tmp 62),none,0⟩] (some [[],[0],[],[2,0,1],[1,0,2,3],[3,2,0,1,4],[],[6],[6,7,4,1,0,2,3,5]]) 0 []) (.cond (.tmp 63) (.seq (.reg 0 [⟨(some 2),.mv (.const (.bool false)),none,0⟩] none 0 []) .ret) .skip))) (.reg 0 [⟨(some 53),.mv (.tmp 5),none,0⟩,⟨(some 54),.bin .add (.tmp 53) (.const (.int .i64 1)),none,0⟩,⟨(some 5),.mv (.tmp 54),none,0⟩] none 0 []))))))))) (.reg 0 [⟨(some 17),.mv (.tmp 3),none,0⟩,⟨(some 18),.bin .add (.tmp 17) (.const (.int .i64 1)),none,0⟩,⟨(some 3),.mv (.tmp 18),none,0⟩] none 0 [])))))) (.seq (.reg 0 [⟨(some 64),.fa 1 (.tmp 1),none,0⟩,⟨(some 65),.ld 1 false (.tmp 64),none,0⟩,⟨(some 6),.mv (.tmp 65),none,0⟩] none 0 []) (.seq (.seq (.reg 0 [⟨(some 7),.mv (.const (.int .i64 0)),none,0⟩] none 0 []) (.block 4 (.loop (.seq (.seq (.reg 0 [⟨(some 66),.mv (.tmp 7),none,0⟩,⟨(some 67),.fa 3 (.tmp 1),none,0⟩,⟨(some 68),.ld 1 false (.tmp 67),none,0⟩,⟨(some 69),.lens (.tmp 68),none,0⟩,⟨(some 70),.bin .lss (.tmp 66) (.tmp 69),none,0⟩] none 0 []) (.cond (.tmp 70) .skip (.exit 4))) (.seq (.block 5 (.seq (.reg 1 [⟨(some 73),.fa 3 (.tmp 1),none,0⟩,⟨(some 74),.ld 1 false (.tmp 73),none,0⟩,⟨(some 75),.mv (.tmp 7),none,0⟩,⟨(some 76),.ixs 2 (.tmp 74) (.tmp 75),none,0⟩,⟨(some 77),.ld 2 true (.tmp 76),none,0⟩,⟨(some 8),.al (.agg [(.lit (.string ⟨#[]⟩)),(.lit (.int .i64 0))]),none,0⟩,⟨none,.st 2 (.tmp 8) (.tmp 77),none,1⟩] none 0 []) (.seq (.seq (.reg 0 [⟨(some 78),.fa 1 (.tmp 8),none,0⟩,⟨(some 79),.ld 1 false (.tmp 78),none,0⟩,⟨(some 80),.mv (.tmp 6),none,0⟩,⟨(some 81),.bin .leq (.tmp 79) (.tmp 80),none,0⟩,⟨(some 82),.mv (.tmp 81),none,0⟩,⟨(some 83),.fa 1 (.tmp 8),(some (82,false)),0⟩,⟨(some 84),.ld 1 false (.tmp 83),(some (82,false)),0⟩,⟨(some 85),.fa 0 (.tmp 1),(some (82,false)),0⟩,⟨(some 86),.ld 1 false (.tmp 85),(some (82,false)),0⟩,⟨(some 87),.bin .gtr (.tmp 84) (.tmp 86),(some (82,false)),0⟩,⟨(some 88),.pick (.tmp 82) (.const (.bool true)) (.tmp 87),none,0⟩] none 0 []) (.cond (.tmp 88) (.seq (.reg 0 [⟨(some 2),.mv (.const (.bool false)),none,0⟩] none 0 []) .ret) .skip)) (.seq (.seq (.reg 0 [⟨(some 9),.mv (.const (.int .i64 0)),none,0⟩] none 0 []) (.block 6 (.loop (.seq (.seq (.reg 0 [⟨(some 89),.mv (.tmp 9),none,0⟩,⟨(some 90),.mv (.tmp 7),none,0⟩,⟨(some 91),.bin .lss (.tmp 89) (.tmp 90),none,0⟩] none 0 []) (.cond (.tmp 91) .skip (.exit 6))) (.seq (.block 7 (.seq (.reg 0 [⟨(some 94),.fa 3 (.tmp 1),none,0⟩,⟨(some 95),.ld 1 false (.tmp 94),none,0⟩,⟨(some 96),.mv (.tmp 9),none,0⟩,⟨(some 97),.ixs 2 (.tmp 95) (.tmp 96),none,0⟩,⟨(some 98),.fa 0 (.tmp 97),none,0⟩,⟨(some 99),.ld 1 false (.tmp 98),none,0⟩,⟨(some 100),.fa 0 (.tmp 8),none,0⟩,⟨(some 101),.ld 1 false (.tmp 100),none,0⟩,⟨(some 102),.bin .eql (.tmp 99) (.tmp 101),none,0⟩] (some [[],[0],[],[2,0,1],[1,0,2,3],[3,2,0,1,4],[],[6],[6,7,4,1,0,2,3,5]]) 0 []) (.cond (.tmp 102) (.seq (.reg 0 [⟨(some 2),.mv (.const (.bool false)),none,0⟩] none 0 []) .ret) .skip))) (.reg 0 [⟨(some 92),.mv (.tmp 9),none,0⟩,⟨(some 93),.bin .add (.tmp 92) (.const (.int .i64 1)),none,0⟩,⟨(some 9),.mv (.tmp 93),none,0⟩] none 0 [])))))) (.seq (.seq (.reg 0 [⟨(some 10),.mv (.const (.int .i64 0)),none,0⟩] none 0 []) (.block 8 (.loop (.seq (.seq (.reg 0 [⟨(some 103),.mv (.tmp 10),none,0⟩,⟨(some 104),.fa 2 (.tmp 1),none,0⟩,⟨(some 105),.ld 1 false (.tmp 104),none,0⟩,⟨(some 106),.lens (.tmp 105),none,0⟩,⟨(some 107),.bin .lss (.tmp 103) (.tmp 106),none,0⟩] none 0 []) (.cond (.tmp 107) .skip (.exit 8))) (.seq (.block 9 (.seq (.reg 1 [⟨(some 110),.fa 2 (.tmp 1),none,0⟩,⟨(some 111),.ld 1 false (.tmp 110),none,0⟩,⟨(some 112),.mv (.tmp 10),none,0⟩,⟨(some 113),.ixs 5 (.tmp 111) (.tmp 112),none,0⟩,⟨(some 114),.ld 5 true (.tmp 113),none,0⟩,⟨(some 11),.al (.agg [(.lit (.string ⟨#[]⟩)),(.lit (.string ⟨#[]⟩)),(.lit (.int .i64 0)),(.lit (.int .i64 0)),(.lit (.bool false))]),none,0⟩,⟨none,.st 5 (.tmp 11) (.tmp 114),none,1⟩] none 0 []) (.seq (.reg 0 [⟨(some 115),.fa 3 (.tmp 11),none,0⟩,⟨(some 116),.ld 1 false (.tmp 115),none,0⟩,⟨(some 117),.fa 1 (.tmp 8),none,0⟩,⟨(some 118),.ld 1 false (.tmp 117),none,0⟩,⟨(some 119),.bin .eql (.tmp 116) (.tmp 118),none,0⟩,⟨(some 120),.mv (.tmp 119),none,0⟩,⟨(some 121),.fa 0 (.tmp 11),(some (120,true)),0⟩,⟨(some 122),.ld 1 false (.tmp 121),(some (120,true)),0⟩,⟨(some 123),.fa 0 (.tmp 8),(some (120,true)),0⟩,⟨(some 124),.ld 1 false (.tmp 123),(some (120,true)),0⟩,⟨(some 125),.bin .neq (.tmp 122) (.tmp 124),(some (120,true)),0⟩,⟨(some 126),.pick (.tmp 120) (.tmp 125) (.const (.bool false)),none,0⟩,⟨(some 127),.mv (.tmp 126),none,0⟩,⟨(some 128),.fa 3 (.tmp 11),(some (127,false)),0⟩,⟨(some 129),.ld 1 false (.tmp 128),(some (127,false)),0⟩,⟨(some 130),.fa 1 (.tmp 8),(some (127,false)),0⟩,⟨(some 131),.ld 1 false (.tmp 130),(some (127,false)),0⟩,⟨(some 132),.bin .eql (.tmp 129) (.tmp 131),(some (127,false)),0⟩,⟨(some 133),.mv (.tmp 132),(some (127,false)),0⟩,⟨(some 134),.ld 5 true (.tmp 11),(some (133,true)),0⟩,⟨(some 135),.cl 18 [(.tmp 134)],(some (133,true)),0⟩,⟨(some 136),.pick (.tmp 133) (.tmp 135) (.const (.bool false)),(some (127,false)),0⟩,⟨(some 137),.pick (.tmp 127) (.const (.bool true)) (.tmp 136),none,0⟩,⟨(some 138),.mv (.tmp 137),none,0⟩,⟨(some 139),.fa 0 (.tmp 11),(some (138,false)),0⟩,⟨(some 140),.ld 1 false (.tmp 139),(some (138,false)),0⟩,⟨(some 141),.fa 0 (.tmp 8),(some (138,false)),0⟩,⟨(some 142),.ld 1 false (.tmp 141),(some (138,false)),0⟩,⟨(some 143),.bin .eql (.tmp 140) (.tmp 142),(some (138,false)),0⟩,⟨(some 144),.mv (.tmp 143),(some (138,false)),0⟩,⟨(some 145),.ld 5 true (.tmp 11),(some (144,true)),0⟩,⟨(some 146),.cl 18 [(.tmp 145)],(some (144,true)),0⟩,⟨(some 147),.pick (.tmp 144) (.tmp 146) (.const (.bool false)),(some (138,false)),0⟩,⟨(some 148),.pick (.tmp 138) (.const (.bool true)) (.tmp 147),none,0⟩] none 0 []) (.cond (.tmp 148) (.seq (.reg 0 [⟨(some 2),.mv (.const (.bool false)),none,0⟩] none 0 []) .ret) .skip)))) (.reg 0 [⟨(some 108),.mv (.tmp 10),none,0⟩,⟨(some 109),.bin .add (.tmp 108) (.const (.int .i64 1)),none,0⟩,⟨(some 10),.mv (.tmp 109),none,0⟩] none 0 [])))))) (.reg 0 [⟨(some 149),.fa 1 (.tmp 8),none,0⟩,⟨(some 150),.ld 1 false (.tmp 149),none,0⟩,⟨(some 6),.mv (.tmp 150),none,0⟩] none 0 [])))))) (.reg 0 [⟨(some 71),.mv (.tmp 7),none,0⟩,⟨(some 72),.bin .add (.tmp 71) (.const (.int .i64 1)),none,0⟩,⟨(some 7),.mv (.tmp 72),none,0⟩] none 0 [])))))) (.seq (.reg 0 [⟨(some 2),.mv (.const (.bool true)),none,0⟩] none 0 []) .ret)))))
theorem gc175_ok:compF Tryz.prog Tryz.f175=some (gc175.er,151,[.tmp 2]):=by unfold gc175;kernel_rfl
theorem p_ref21_rises_v {u1 u2:Bool} (a0:RosterState):CallsO Tryz.prog 175 [.agg [.i a0.Ver,.i a0.Floor,.sl (List.map ItemItem.v a0.Items) u1,.sl (List.map RosterGone.v a0.Gone) u2]] V.b (p_ref21_rises a0):=by
 refine callsO_comp mix Tryz.func175 gc175_ok fun r H=>?_
 rw [p_ref21_rises] at H
 conv=>whnf
 obtain ⟨o2,HL3,HQ4⟩:=bind_c H
 refine loop_c [2,3] [4,5,12,13,14,15,16,17,18,19,20,21,22,23,24,25,26,27,28,29,30,31,32,33,34,35,36,37,38,39,40,41,42,43,44,45,46,47,48,49,50,51,52,53,54,55,56,57,58,59,60,61,62,63] [4,5,12,13,14,15,16,17,18,19,20,21,22,23,24,25,26,27,28,29,30,31,32,33,34,35,36,37,38,39,40,41,42,43,44,45,46,47,48,49,50,51,52,53,54,55,56,57,58,59,60,61,62,63] (fun n vals st=>(∃ y6,p_ref21_rises_l1  a0 n y6=some o2∧vals=[.b false,.i y6]∧st=[.live [.i a0.Ver,.i a0.Floor,.sl (List.map ItemItem.v a0.Items) u1,.sl (List.map RosterGone.v a0.Gone) u2] 0])) fuel 1 [] (⟨_,HL3,rfl,rfl⟩) (Nat.zero_le _) rfl (by kernel_rfl) (by kernel_rfl) rfl ⟨⟨rfl,rfl,rfl⟩,trivial⟩ ?_
 rintro (_ | n5) _ _ (⟨y6,H,rfl,rfl⟩)
 ·rw [p_ref21_rises_l1] at H;cases H
 rw [p_ref21_rises_l1] at H
 conv=>whnf
 refine LenQ.M ?_;conv=>whnf
 refine tst_c H (fun b7 H=>?_) (fun b7 H=>?_)
 ·conv=>whnf
  refine ixs_c (f:=ItemItem.v) H (fun _=>rfl) (fun x8 H=>?_);conv=>whnf
  refine ⟨Nat.le_of_ble_eq_true rfl,?_⟩;conv=>whnf
  refine tst_c H (fun b9 H=>?_) (fun b9 H=>?_)
  ·conv=>whnf
   iterate 10 (refine Tst.T ?_;conv=>whnf)
   refine FootQ.mk ⟨rfl,?_⟩;conv=>whnf
   refine Tst.T ?_;conv=>whnf
   obtain rfl:=Option.some.inj H
   have H:=HQ4
   try dsimp only at H
   exact fb_ H
  conv=>whnf
  iterate 5 (refine Tst.F ?_;conv=>whnf)
  refine tst_c H (fun b10 H=>?_) (fun b10 H=>?_)
  ·conv=>whnf
   iterate 4 (refine Tst.T ?_;conv=>whnf)
   refine FootQ.mk ⟨rfl,?_⟩;conv=>whnf
   refine Tst.T ?_;conv=>whnf
   obtain rfl:=Option.some.inj H
   have H:=HQ4
   try dsimp only at H
   exact fb_ H
  conv=>whnf
  iterate 2 (refine Tst.F ?_;conv=>whnf)
  refine tst_d H (fun b11 H=>?_) (fun b11 H=>?_)
  ·conv=>whnf
   iterate 12 (refine Tst.F ?_;conv=>whnf)
   refine FootQ.mk ⟨rfl,?_⟩;conv=>whnf
   refine Tst.F ?_;conv=>whnf
   obtain ⟨o24,HL25,HQ26⟩:=bind_c H
   refine loop_c [2,5] [50,51,52,53,54,55,56,57,58,59,60,61,62,63,13,19,24,28,30] [50,51,52,53,54,55,56,57,58,59,60,61,62,63,13,19,24,28,30] (fun n vals st=>(∃ y28,p_ref21_rises_l2  y6 a0 x8 n y28=some o24∧vals=[.b false,.i y28]∧st=[.live [.i a0.Ver,.i a0.Floor,.sl (List.map ItemItem.v a0.Items) u1,.sl (List.map RosterGone.v a0.Gone) u2] 0,.live [.s x8.Contact,.s x8.Name,.i x8.Sub,.i x8.Ver,.b x8.Own] 0])) fuel 2 [] (⟨_,HL25,rfl,rfl⟩) (Nat.zero_le _) rfl (by kernel_rfl) (by kernel_rfl) rfl ⟨⟨rfl,rfl,rfl⟩,⟨⟨rfl,rfl,rfl⟩,trivial⟩⟩ ?_
   rintro (_ | n27) _ _ (⟨y28,H,rfl,rfl⟩)
   ·rw [p_ref21_rises_l2] at H;cases H
   rw [p_ref21_rises_l2] at H
   conv=>whnf
   refine tst_d H (fun b29 H=>?_) (fun b29 H=>?_)
   ·conv=>whnf
    obtain rfl:=Option.some.inj H
    have H:=HQ26
    try dsimp only at H
    refine Ari.w ?_;conv=>whnf
    exact again_c [4,5,12,13,14,15,16,17,18,19,20,21,22,23,24,25,26,27,28,29,30,31,32,33,34,35,36,37,38,39,40,41,42,43,44,45,46,47,48,49,50,51,52,53,54,55,56,57,58,59,60,61,62,63] n5 1 [] (⟨_,H,rfl,rfl⟩) (Nat.lt_succ_self _) (Nat.zero_le _) rfl (by kernel_rfl) (by kernel_rfl) rfl ⟨⟨rfl,rfl,rfl⟩,trivial⟩
   conv=>whnf
   refine ixs_c (f:=ItemItem.v) H (fun _=>rfl) (fun x30 H=>?_);conv=>whnf
   refine ⟨Nat.le_of_ble_eq_true rfl,?_⟩;conv=>whnf
   refine FootQ.mk ⟨rfl,?_⟩;conv=>whnf
   refine tst_c H (fun b31 H=>?_) (fun b31 H=>?_)
   ·conv=>whnf
    obtain rfl:=Option.some.inj H
    have H:=HQ26
    try dsimp only at H
    obtain rfl:=Option.some.inj H
    have H:=HQ4
    try dsimp only at H
    exact fb_ H
   conv=>whnf
   refine Ari.w ?_;conv=>whnf
   exact again_c [50,51,52,53,54,55,56,57,58,59,60,61,62,63,13,19,24,28,30] n27 2 [] (⟨_,H,rfl,rfl⟩) (Nat.lt_succ_self _) (Nat.zero_le _) rfl (by kernel_rfl) (by kernel_rfl) rfl ⟨⟨rfl,rfl,rfl⟩,⟨⟨rfl,rfl,rfl⟩,trivial⟩⟩
  conv=>whnf
  iterate 3 (refine Tst.T ?_;conv=>whnf)
  refine Ari.w ?_;conv=>whnf
  refine Tst.T ?_;conv=>whnf
  refine ixs_c (f:=ItemItem.v) H (fun _=>rfl) (fun x12 H=>?_);conv=>whnf
  refine Tst.T ?_;conv=>whnf
  refine ⟨Nat.le_of_ble_eq_true rfl,?_⟩;conv=>whnf
  iterate 4 (refine Tst.T ?_;conv=>whnf)
  refine Tst.F ?_;conv=>whnf
  refine Tst.T ?_;conv=>whnf
  refine Tst.F ?_;conv=>whnf
  refine FootQ.mk ⟨rfl,?_⟩;conv=>whnf
  refine Tst.not ?_
  refine tst_d H (fun b13 H=>?_) (fun b13 H=>?_)
  ·conv=>whnf
   obtain rfl:=Option.some.inj H
   have H:=HQ4
   try dsimp only at H
   exact fb_ H
  conv=>whnf
  obtain ⟨o15,HL16,HQ17⟩:=bind_c H
  refine loop_c [2,5] [50,51,52,53,54,55,56,57,58,59,60,61,62,63,13,19,24,28,30,38,45] [50,51,52,53,54,55,56,57,58,59,60,61,62,63,13,19,24,28,30,38,45] (fun n vals st=>(∃ y19,p_ref21_rises_l2  y6 a0 x8 n y19=some o15∧vals=[.b false,.i y19]∧st=[.live [.i a0.Ver,.i a0.Floor,.sl (List.map ItemItem.v a0.Items) u1,.sl (List.map RosterGone.v a0.Gone) u2] 0,.live [.s x8.Contact,.s x8.Name,.i x8.Sub,.i x8.Ver,.b x8.Own] 0])) fuel 2 [] (⟨_,HL16,rfl,rfl⟩) (Nat.zero_le _) rfl (by kernel_rfl) (by kernel_rfl) rfl ⟨⟨rfl,rfl,rfl⟩,⟨⟨rfl,rfl,rfl⟩,trivial⟩⟩ ?_
  rintro (_ | n18) _ _ (⟨y19,H,rfl,rfl⟩)
  ·rw [p_ref21_rises_l2] at H;cases H
  rw [p_ref21_rises_l2] at H
  conv=>whnf
  refine tst_d H (fun b20 H=>?_) (fun b20 H=>?_)
  ·conv=>whnf
   obtain rfl:=Option.some.inj H
   have H:=HQ17
   try dsimp only at H
   refine Ari.w ?_;conv=>whnf
   exact again_c [4,5,12,13,14,15,16,17,18,19,20,21,22,23,24,25,26,27,28,29,30,31,32,33,34,35,36,37,38,39,40,41,42,43,44,45,46,47,48,49,50,51,52,53,54,55,56,57,58,59,60,61,62,63] n5 1 [] (⟨_,H,rfl,rfl⟩) (Nat.lt_succ_self _) (Nat.zero_le _) rfl (by kernel_rfl) (by kernel_rfl) rfl ⟨⟨rfl,rfl,rfl⟩,trivial⟩
  conv=>whnf
  refine ixs_c (f:=ItemItem.v) H (fun _=>rfl) (fun x21 H=>?_);conv=>whnf
  refine ⟨Nat.le_of_ble_eq_true rfl,?_⟩;conv=>whnf
  refine FootQ.mk ⟨rfl,?_⟩;conv=>whnf
  refine tst_c H (fun b22 H=>?_) (fun b22 H=>?_)
  ·conv=>whnf
   obtain rfl:=Option.some.inj H
   have H:=HQ17
   try dsimp only at H
   obtain rfl:=Option.some.inj H
   have H:=HQ4
   try dsimp only at H
   exact fb_ H
  conv=>whnf
  refine Ari.w ?_;conv=>whnf
  exact again_c [50,51,52,53,54,55,56,57,58,59,60,61,62,63,13,19,24,28,30,38,45] n18 2 [] (⟨_,H,rfl,rfl⟩) (Nat.lt_succ_self _) (Nat.zero_le _) rfl (by kernel_rfl) (by kernel_rfl) rfl ⟨⟨rfl,rfl,rfl⟩,⟨⟨rfl,rfl,rfl⟩,trivial⟩⟩
 conv=>whnf
 obtain rfl:=Option.some.inj H
 have H:=HQ4
 try dsimp only at H
 obtain ⟨o33,HL34,HQ35⟩:=bind_c H
 refine loop_c [2,6,7] [8,9,10,11,66,67,68,69,70,71,72,73,74,75,76,77,78,79,80,81,82,83,84,85,86,87,88,89,90,91,92,93,94,95,96,97,98,99,100,101,102,103,104,105,106,107,108,109,110,111,112,113,114,115,116,117,118,119,120,121,122,123,124,125,126,127,128,129,130,131,132,133,134,135,136,137,138,139,140,141,142,143,144,145,146,147,148,149,150,13,64] [8,9,10,11,66,67,68,69,70,71,72,73,74,75,76,77,78,79,80,81,82,83,84,85,86,87,88,89,90,91,92,93,94,95,96,97,98,99,100,101,102,103,104,105,106,107,108,109,110,111,112,113,114,115,116,117,118,119,120,121,122,123,124,125,126,127,128,129,130,131,132,133,134,135,136,137,138,139,140,141,142,143,144,145,146,147,148,149,150,13,64] (fun n vals st=>(∃ y37 y38,p_ref21_rises_l3  a0 n y37 y38=some o33∧vals=[.b false,.i y37,.i y38]∧st=[.live [.i a0.Ver,.i a0.Floor,.sl (List.map ItemItem.v a0.Items) u1,.sl (List.map RosterGone.v a0.Gone) u2] 0])) fuel 1 [] (⟨_,_,HL34,rfl,rfl⟩) (Nat.zero_le _) rfl (by kernel_rfl) (by kernel_rfl) rfl ⟨⟨rfl,rfl,rfl⟩,trivial⟩ ?_
 rintro (_ | n36) _ _ (⟨y37,y38,H,rfl,rfl⟩)
 ·rw [p_ref21_rises_l3] at H;cases H
 rw [p_ref21_rises_l3] at H
 conv=>whnf
 refine LenQ.M ?_;conv=>whnf
 refine tst_d H (fun b39 H=>?_) (fun b39 H=>?_)
 ·conv=>whnf
  obtain rfl:=Option.some.inj H
  have H:=HQ35
  try dsimp only at H
  exact fb_ H
 conv=>whnf
 refine ixs_c (f:=RosterGone.v) H (fun _=>rfl) (fun x40 H=>?_);conv=>whnf
 refine ⟨Nat.le_of_ble_eq_true rfl,?_⟩;conv=>whnf
 refine tst_c H (fun b41 H=>?_) (fun b41 H=>?_)
 ·conv=>whnf
  iterate 6 (refine Tst.T ?_;conv=>whnf)
  obtain rfl:=Option.some.inj H
  have H:=HQ35
  try dsimp only at H
  exact fb_ H
 conv=>whnf
 iterate 5 (refine Tst.F ?_;conv=>whnf)
 refine tst_c H (fun b42 H=>?_) (fun b42 H=>?_)
 ·conv=>whnf
  obtain rfl:=Option.some.inj H
  have H:=HQ35
  try dsimp only at H
  exact fb_ H
 conv=>whnf
 obtain ⟨o44,HL45,HQ46⟩:=bind_c H
 refine loop_c [2,9] [89,90,91,92,93,94,95,96,97,98,99,100,101,102,67,73,78,83,85] [89,90,91,92,93,94,95,96,97,98,99,100,101,102,67,73,78,83,85] (fun n vals st=>(∃ y48,p_ref21_rises_l4  y38 a0 x40 n y48=some o44∧vals=[.b false,.i y48]∧st=[.live [.i a0.Ver,.i a0.Floor,.sl (List.map ItemItem.v a0.Items) u1,.sl (List.map RosterGone.v a0.Gone) u2] 0,.live [.s x40.Contact,.i x40.Ver] 0])) fuel 2 [] (⟨_,HL45,rfl,rfl⟩) (Nat.zero_le _) rfl (by kernel_rfl) (by kernel_rfl) rfl ⟨⟨rfl,rfl,rfl⟩,⟨⟨rfl,rfl,rfl⟩,trivial⟩⟩ ?_
 rintro (_ | n47) _ _ (⟨y48,H,rfl,rfl⟩)
 ·rw [p_ref21_rises_l4] at H;cases H
 rw [p_ref21_rises_l4] at H
 conv=>whnf
 refine tst_c H (fun b49 H=>?_) (fun b49 H=>?_)
 ·conv=>whnf
  refine ixs_c (f:=RosterGone.v) H (fun _=>rfl) (fun x50 H=>?_);conv=>whnf
  refine ⟨Nat.le_of_ble_eq_true rfl,?_⟩;conv=>whnf
  refine FootQ.mk ⟨rfl,?_⟩;conv=>whnf
  refine tst_c H (fun b51 H=>?_) (fun b51 H=>?_)
  ·conv=>whnf
   obtain rfl:=Option.some.inj H
   have H:=HQ46
   try dsimp only at H
   obtain rfl:=Option.some.inj H
   have H:=HQ35
   try dsimp only at H
   exact fb_ H
  conv=>whnf
  refine Ari.w ?_;conv=>whnf
  exact again_c [89,90,91,92,93,94,95,96,97,98,99,100,101,102,67,73,78,83,85] n47 2 [] (⟨_,H,rfl,rfl⟩) (Nat.lt_succ_self _) (Nat.zero_le _) rfl (by kernel_rfl) (by kernel_rfl) rfl ⟨⟨rfl,rfl,rfl⟩,⟨⟨rfl,rfl,rfl⟩,trivial⟩⟩
 conv=>whnf
 obtain rfl:=Option.some.inj H
 have H:=HQ46
 try dsimp only at H
 obtain ⟨o53,HL54,HQ55⟩:=bind_c H
 refine loop_c [2,10] [11,103,104,105,106,107,108,109,110,111,112,113,114,115,116,117,118,119,120,121,122,123,124,125,126,127,128,129,130,131,132,133,134,135,136,137,138,139,140,141,142,143,144,145,146,147,148] [11,103,104,105,106,107,108,109,110,111,112,113,114,115,116,117,118,119,120,121,122,123,124,125,126,127,128,129,130,131,132,133,134,135,136,137,138,139,140,141,142,143,144,145,146,147,148] (fun n vals st=>(∃ y57,p_ref21_rises_l5  a0 x40 n y57=some o53∧vals=[.b false,.i y57]∧st=[.live [.i a0.Ver,.i a0.Floor,.sl (List.map ItemItem.v a0.Items) u1,.sl (List.map RosterGone.v a0.Gone) u2] 0,.live [.s x40.Contact,.i x40.Ver] 0])) fuel 2 [] (⟨_,HL54,rfl,rfl⟩) (Nat.zero_le _) rfl (by kernel_rfl) (by kernel_rfl) rfl ⟨⟨rfl,rfl,rfl⟩,⟨⟨rfl,rfl,rfl⟩,trivial⟩⟩ ?_
 rintro (_ | n56) _ _ (⟨y57,H,rfl,rfl⟩)
 ·rw [p_ref21_rises_l5] at H;cases H
 rw [p_ref21_rises_l5] at H
 conv=>whnf
 refine LenQ.M ?_;conv=>whnf
 refine tst_d H (fun b58 H=>?_) (fun b58 H=>?_)
 ·conv=>whnf
  obtain rfl:=Option.some.inj H
  have H:=HQ55
  try dsimp only at H
  refine Ari.w ?_;conv=>whnf
  exact again_c [8,9,10,11,66,67,68,69,70,71,72,73,74,75,76,77,78,79,80,81,82,83,84,85,86,87,88,89,90,91,92,93,94,95,96,97,98,99,100,101,102,103,104,105,106,107,108,109,110,111,112,113,114,115,116,117,118,119,120,121,122,123,124,125,126,127,128,129,130,131,132,133,134,135,136,137,138,139,140,141,142,143,144,145,146,147,148,149,150,13,64] n36 1 [] (⟨_,_,H,rfl,rfl⟩) (Nat.lt_succ_self _) (Nat.zero_le _) rfl (by kernel_rfl) (by kernel_rfl) rfl ⟨⟨rfl,rfl,rfl⟩,trivial⟩
 conv=>whnf
 refine ixs_c (f:=ItemItem.v) H (fun _=>rfl) (fun x59 H=>?_);conv=>whnf
 refine ⟨Nat.le_of_ble_eq_true rfl,?_⟩;conv=>whnf
 refine tst_d H (fun b60 H=>?_) (fun b60 H=>?_)
 ·conv=>whnf
  iterate 11 (refine Tst.F ?_;conv=>whnf)
  refine Tst.isF b60 ?_;conv=>whnf
  iterate 10 (refine Tst.F ?_;conv=>whnf)
  refine tst_d H (fun b66 H=>?_) (fun b66 H=>?_)
  ·conv=>whnf
   iterate 5 (refine Tst.F ?_;conv=>whnf)
   refine Ari.w ?_;conv=>whnf
   exact again_c [11,103,104,105,106,107,108,109,110,111,112,113,114,115,116,117,118,119,120,121,122,123,124,125,126,127,128,129,130,131,132,133,134,135,136,137,138,139,140,141,142,143,144,145,146,147,148] n56 2 [] (⟨_,H,rfl,rfl⟩) (Nat.lt_succ_self _) (Nat.zero_le _) rfl (by kernel_rfl) (by kernel_rfl) rfl ⟨⟨rfl,rfl,rfl⟩,⟨⟨rfl,rfl,rfl⟩,trivial⟩⟩
  conv=>whnf
  refine Tst.T ?_;conv=>whnf
  refine ask_c (p_ref20_Listed_v _) H rfl rfl (fun v67 H=>?_);conv=>whnf
  refine Tst.F ?_;conv=>whnf
  refine Tst.T ?_;conv=>whnf
  refine Tst.F ?_;conv=>whnf
  refine tst_c H (fun b68 H=>?_) (fun b68 H=>?_)
  ·conv=>whnf
   obtain rfl:=Option.some.inj H
   have H:=HQ55
   try dsimp only at H
   obtain rfl:=Option.some.inj H
   have H:=HQ35
   try dsimp only at H
   exact fb_ H
  conv=>whnf
  refine Ari.w ?_;conv=>whnf
  exact again_c [11,103,104,105,106,107,108,109,110,111,112,113,114,115,116,117,118,119,120,121,122,123,124,125,126,127,128,129,130,131,132,133,134,135,136,137,138,139,140,141,142,143,144,145,146,147,148] n56 2 [] (⟨_,H,rfl,rfl⟩) (Nat.lt_succ_self _) (Nat.zero_le _) rfl (by kernel_rfl) (by kernel_rfl) rfl ⟨⟨rfl,rfl,rfl⟩,⟨⟨rfl,rfl,rfl⟩,trivial⟩⟩
 conv=>whnf
 iterate 5 (refine Tst.T ?_;conv=>whnf)
 refine Tst.not ?_
 refine tst_d H (fun b61 H=>?_) (fun b61 H=>?_)
 ·conv=>whnf
  iterate 16 (refine Tst.T ?_;conv=>whnf)
  obtain rfl:=Option.some.inj H
  have H:=HQ55
  try dsimp only at H
  obtain rfl:=Option.some.inj H
  have H:=HQ35
  try dsimp only at H
  exact fb_ H
 conv=>whnf
 iterate 5 (refine Tst.F ?_;conv=>whnf)
 refine Tst.isT b60 ?_;conv=>whnf
 refine Tst.T ?_;conv=>whnf
 refine ask_c (p_ref20_Listed_v _) H rfl rfl (fun v62 H=>?_);conv=>whnf
 refine Tst.F ?_;conv=>whnf
 refine Tst.T ?_;conv=>whnf
 refine Tst.F ?_;conv=>whnf
 refine tst_c H (fun b63 H=>?_) (fun b63 H=>?_)
 ·conv=>whnf
  iterate 8 (refine Tst.T ?_;conv=>whnf)
  obtain rfl:=Option.some.inj H
  have H:=HQ55
  try dsimp only at H
  obtain rfl:=Option.some.inj H
  have H:=HQ35
  try dsimp only at H
  exact fb_ H
 conv=>whnf
 iterate 5 (refine Tst.F ?_;conv=>whnf)
 refine Tst.isT b61 ?_;conv=>whnf
 refine Tst.T ?_;conv=>whnf
 refine ask_c (p_ref20_Listed_v _) H rfl rfl (fun v64 H=>?_);conv=>whnf
 refine Tst.F ?_;conv=>whnf
 refine Tst.T ?_;conv=>whnf
 refine Tst.F ?_;conv=>whnf
 refine tst_c H (fun b65 H=>?_) (fun b65 H=>?_)
 ·conv=>whnf
  obtain rfl:=Option.some.inj H
  have H:=HQ55
  try dsimp only at H
  obtain rfl:=Option.some.inj H
  have H:=HQ35
  try dsimp only at H
  exact fb_ H
 conv=>whnf
 refine Ari.w ?_;conv=>whnf
 exact again_c [11,103,104,105,106,107,108,109,110,111,112,113,114,115,116,117,118,119,120,121,122,123,124,125,126,127,128,129,130,131,132,133,134,135,136,137,138,139,140,141,142,143,144,145,146,147,148] n56 2 [] (⟨_,H,rfl,rfl⟩) (Nat.lt_succ_self _) (Nat.zero_le _) rfl (by kernel_rfl) (by kernel_rfl) rfl ⟨⟨rfl,rfl,rfl⟩,⟨⟨rfl,rfl,rfl⟩,trivial⟩⟩
end Go.Proofs.YtpmoioopjbfhkaaGreat

/- That the program's functions yield what the plain ones tell (written by a program of mine). -/
namespace Go.Proofs.YtpmoioopjbfhkaaGreat
open Go.RowKit
set_option maxRecDepth 100000
set_option maxHeartbeats 4000000
def gc111:BCode:=(.seq (.reg 1 [⟨(some 1),.bx (.tmp 0),none,0⟩,⟨(some 2),.mv (.const (.int .i64 0)),none,1⟩] none 0 []) (.seq (.block 0 (.seq (.reg 0 [⟨(some 5),.fa 2 (.tmp 1),none,0⟩,⟨(some 6),.ld 1 false (.tmp 5),none,0⟩,⟨(some 7),.lens (.tmp 6),none,0⟩,⟨(some 8),.bin .gtr (.tmp 7) (.const (.int .i64 12)),none,0⟩,⟨(some 9),.mv (.tmp 8),none,0⟩,⟨(some 10),.fa 3 (.tmp 1),(some (9,false)),0⟩,⟨(some 11),.ld 1 false (.tmp 10),(some (9,false)),0⟩,⟨(some 12),.lens (.tmp 11),(some (9,false)),0⟩,⟨(some 13),.bin .gtr (.tmp 12) (.const (.int .i64 8)),(some (9,false)),0⟩,⟨(some 14),.pick (.tmp 9) (.const (.bool true)) (.tmp 13),none,0⟩,⟨(some 4),.mv (.tmp 14),none,0⟩] none 0 []) (.cond (.tmp 4) (.seq (.reg 0 [⟨(some 2),.mv (.const (.int .i64 5)),none,0⟩] none 0 []) .ret) (.seq (.reg 0 [⟨(some 16),.fa 0 (.tmp 1),none,0⟩,⟨(some 17),.ld 1 false (.tmp 16),none,0⟩,⟨(some 18),.bin .lss (.tmp 17) (.const (.int .i64 0)),none,0⟩,⟨(some 19),.mv (.tmp 18),none,0⟩,⟨(some 20),.fa 0 (.tmp 1),(some (19,false)),0⟩,⟨(some 21),.ld 1 false (.tmp 20),(some (19,false)),0⟩,⟨(some 22),.bin .gtr (.tmp 21) (.const (.int .i64 1099511627776)),(some (19,false)),0⟩,⟨(some 23),.pick (.tmp 19) (.const (.bool true)) (.tmp 22),none,0⟩,⟨(some 24),.mv (.tmp 23),none,0⟩,⟨(some 25),.fa 1 (.tmp 1),(some (24,false)),0⟩,⟨(some 26),.ld 1 false (.tmp 25),(some (24,false)),0⟩,⟨(some 27),.bin .lss (.tmp 26) (.const (.int .i64 0)),(some (24,false)),0⟩,⟨(some 28),.pick (.tmp 24) (.const (.bool true)) (.tmp 27),none,0⟩,⟨(some 29),.mv (.tmp 28),none,0⟩,⟨(some 30),.fa 1 (.tmp 1),(some (29,false)),0⟩,⟨(some 31),.ld 1 false (.tmp 30),(some (29,false)),0⟩,⟨(some 32),.fa 0 (.tmp 1),(some (29,false)),0⟩,⟨(some 33),.ld 1 false (.tmp 32),(some (29,false)),0⟩,⟨(some 34),.bin .gtr (.tmp 31) (.tmp 33),(some (29,false)),0⟩,⟨(some 35),.pick (.tmp 29) (.const (.bool true)) (.tmp 34),none,0⟩,⟨(some 15),.mv (.tmp 35),none,0⟩] none 0 []) (.cond (.tmp 15) (.seq (.reg 0 [⟨(some 2),.mv (.const (.int .i64 8)),none,0⟩] none 0 []) .ret) (.seq (.reg 0 [⟨(some 37),.ld 4 true (.tmp 1),none,0⟩,⟨(some 38),.cl 174 [(.tmp 37)],none,0⟩,⟨(some 39),.bin .neq (.tmp 38) (.const (.int .i64 0)),none,0⟩,⟨(some 36),.mv (.tmp 39),none,0⟩] none 0 []) (.cond (.tmp 36) (.seq (.reg 0 [⟨(some 40),.ld 4 true (.tmp 1),none,0⟩,⟨(some 41),.cl 174 [(.tmp 40)],none,0⟩,⟨(some 2),.mv (.tmp 41),none,0⟩] none 0 []) .ret) .skip))))))) (.seq (.seq (.reg 0 [⟨(some 3),.mv (.const (.int .i64 0)),none,0⟩] none 0 []) (.block 1 (.loop (.seq (.seq (.reg 0 [⟨(some 42),.mv (.tmp 3),none,0⟩,⟨(some 43),.fa 3 (.tmp 1),none,0⟩,⟨(some 44),.ld 1 false (.tmp 43),none,0⟩,⟨(some 45),.lens (.tmp 44),none,0⟩,⟨(some 46),.bin .lss (.tmp 42) (.tmp 45),none,0⟩] none 0 []) (.cond (.tmp 46) .skip (.exit 1))) (.seq (.block 2 (.seq (.reg 0 [⟨(some 49),.fa 3 (.tmp 1),none,0⟩,⟨(some 50),.ld 1 false (.tmp 49),none,0⟩,⟨(some 51),.mv (.tmp 3),none,0⟩,⟨(some 52),.ixs 2 (.tmp 50) (.tmp 51),none,0⟩,⟨(some 53),.fa 0 (.tmp 52),none,0⟩,⟨(some 54),.ld 1 false (.tmp 53),none,0⟩,⟨(some 55),.cl 87 [(.tmp 54)],none,0⟩,⟨(some 56),.un .not (.tmp 55),none,0⟩] none 0 []) (.cond (.tmp 56) (.seq (.reg 0 [⟨(some 2),.mv (.const (.int .i64 11)),none,0⟩] none 0 []) .ret) .skip))) (.reg 0 [⟨(some 47),.mv (.tmp 3),none,0⟩,⟨(some 48),.bin .add (.tmp 47) (.const (.int .i64 1)),none,0⟩,⟨(some 3),.mv (.tmp 48),none,0⟩] none 0 [])))))) (.seq (.seq (.reg 0 [⟨(some 57),.ld 4 true (.tmp 1),none,0⟩,⟨(some 58),.cl 175 [(.tmp 57)],none,0⟩,⟨(some 59),.un .not (.tmp 58),none,0⟩] none 0 []) (.cond (.tmp 59) (.seq (.reg 0 [⟨(some 2),.mv (.const (.int .i64 10)),none,0⟩] none 0 []) .ret) .skip)) (.seq (.reg 0 [⟨(some 2),.mv (.const (.int .i64 0)),none,0⟩] none 0 []) .ret)))))
theorem gc111_ok:compF Tryz.prog Tryz.f111=some (gc111.er,60,[.tmp 2]):=by unfold gc111;kernel_rfl
theorem p_ref21_Check_v {u1 u2:Bool} (a0:RosterState):CallsO Tryz.prog 111 [.agg [.i a0.Ver,.i a0.Floor,.sl (List.map ItemItem.v a0.Items) u1,.sl (List.map RosterGone.v a0.Gone) u2]] V.i (p_ref21_Check a0):=by
 refine callsO_comp mix Tryz.func111 gc111_ok fun r H=>?_
 rw [p_ref21_Check] at H
 conv=>whnf
 refine LenQ.M ?_;conv=>whnf
 refine tst_c H (fun b1 H=>?_) (fun b1 H=>?_)
 ·conv=>whnf
  iterate 5 (refine Tst.T ?_;conv=>whnf)
  exact fi_ H
 conv=>whnf
 iterate 2 (refine Tst.F ?_;conv=>whnf)
 refine LenQ.M ?_;conv=>whnf
 iterate 2 (refine Tst.F ?_;conv=>whnf)
 refine tst_c H (fun b2 H=>?_) (fun b2 H=>?_)
 ·conv=>whnf
  exact fi_ H
 conv=>whnf
 refine tst_c H (fun b3 H=>?_) (fun b3 H=>?_)
 ·conv=>whnf
  iterate 14 (refine Tst.T ?_;conv=>whnf)
  exact fi_ H
 conv=>whnf
 iterate 3 (refine Tst.F ?_;conv=>whnf)
 refine tst_c H (fun b4 H=>?_) (fun b4 H=>?_)
 ·conv=>whnf
  iterate 10 (refine Tst.T ?_;conv=>whnf)
  exact fi_ H
 conv=>whnf
 iterate 3 (refine Tst.F ?_;conv=>whnf)
 refine tst_c H (fun b5 H=>?_) (fun b5 H=>?_)
 ·conv=>whnf
  iterate 6 (refine Tst.T ?_;conv=>whnf)
  exact fi_ H
 conv=>whnf
 iterate 5 (refine Tst.F ?_;conv=>whnf)
 refine tst_c H (fun b6 H=>?_) (fun b6 H=>?_)
 ·conv=>whnf
  exact fi_ H
 conv=>whnf
 refine ask_c (p_ref21_items_v _) H rfl rfl (fun v7 H=>?_);conv=>whnf
 refine tst_c H (fun b8 H=>?_) (fun b8 H=>?_)
 ·conv=>whnf
  refine ask_c (p_ref21_items_v _) H rfl rfl (fun v9 H=>?_);conv=>whnf
  exact fi_ H
 conv=>whnf
 obtain ⟨o11,HL12,HQ13⟩:=bind_c H
 refine loop_c [2,3] [42,43,44,45,46,47,48,49,50,51,52,53,54,55,56,5,10,16,20,25,30,32] [42,43,44,45,46,47,48,49,50,51,52,53,54,55,56,5,10,16,20,25,30,32] (fun n vals st=>(∃ y15,p_ref21_Check_l1  a0 n y15=some o11∧vals=[.i (0:Int),.i y15]∧st=[.live [.i a0.Ver,.i a0.Floor,.sl (List.map ItemItem.v a0.Items) u1,.sl (List.map RosterGone.v a0.Gone) u2] 0])) fuel 1 [] (⟨_,HL12,rfl,rfl⟩) (Nat.zero_le _) rfl (by kernel_rfl) (by kernel_rfl) rfl ⟨⟨rfl,rfl,rfl⟩,trivial⟩ ?_
 rintro (_ | n14) _ _ (⟨y15,H,rfl,rfl⟩)
 ·rw [p_ref21_Check_l1] at H;cases H
 rw [p_ref21_Check_l1] at H
 conv=>whnf
 refine LenQ.M ?_;conv=>whnf
 refine tst_d H (fun b16 H=>?_) (fun b16 H=>?_)
 ·conv=>whnf
  obtain rfl:=Option.some.inj H
  have H:=HQ13
  try dsimp only at H
  refine ask_c (p_ref21_rises_v _) H rfl rfl (fun v20 H=>?_);conv=>whnf
  refine Tst.not ?_
  refine tst_c H (fun b21 H=>?_) (fun b21 H=>?_)
  ·conv=>whnf
   exact fi_ H
  conv=>whnf
  exact fi_ H
 conv=>whnf
 refine ixs_c (f:=RosterGone.v) H (fun _=>rfl) (fun x17 H=>?_);conv=>whnf
 refine ⟨Nat.le_of_ble_eq_true rfl,?_⟩;conv=>whnf
 refine ask_c (p_ref09_IsBare_v _) H rfl rfl (fun v18 H=>?_);conv=>whnf
 refine Tst.not ?_
 refine tst_d H (fun b19 H=>?_) (fun b19 H=>?_)
 ·conv=>whnf
  obtain rfl:=Option.some.inj H
  have H:=HQ13
  try dsimp only at H
  exact fi_ H
 conv=>whnf
 refine Ari.w ?_;conv=>whnf
 exact again_c [42,43,44,45,46,47,48,49,50,51,52,53,54,55,56,5,10,16,20,25,30,32] n14 1 [] (⟨_,H,rfl,rfl⟩) (Nat.lt_succ_self _) (Nat.zero_le _) rfl (by kernel_rfl) (by kernel_rfl) rfl ⟨⟨rfl,rfl,rfl⟩,trivial⟩
end Go.Proofs.YtpmoioopjbfhkaaGreat

