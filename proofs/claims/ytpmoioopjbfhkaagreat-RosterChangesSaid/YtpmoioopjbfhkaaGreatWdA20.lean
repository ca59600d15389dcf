/- A part of the proof: 5 texts joined. -/
import Derived.Test.YtpmoioopjbfhkaaGreatWdA14
import Derived.Test.YtpmoioopjbfhkaaGreatWdA15
import Derived.Test.YtpmoioopjbfhkaaGreatWdA16
import Derived.Test.YtpmoioopjbfhkaaGreatWdA18
import Derived.Test.YtpmoioopjbfhkaaGreatWdA19
import Derived.Test.YtpmoioopjbfhkaaGreatWdA17
import Derived.Test.YtpmoioopjbfhkaaGreatWdA11
import Derived.KernelRfl
import Derived.Test.YtpmoioopjbfhkaaGreatWdA13
set_option linter.all false
/- That the program's functions yield what the plain ones tell (written by a program of mine). -/
namespace Go.Proofs.YtpmoioopjbfhkaaGreat
open Go.RowKit
set_option maxRecDepth 100000
set_option maxHeartbeats 4000000
def gc43:BCode:=(.seq (.reg 2 [⟨(some 2),.bx (.tmp 0),none,0⟩,⟨(some 4),.al (.agg [(.lit (.int .i64 0)),(.lit (.int .i64 0)),(.sl [] true),(.sl [] true)]),none,1⟩,⟨(some 5),.mv (.const (.int .i64 0)),none,2⟩] none 0 []) (.seq (.reg 1 [⟨(some 11),.ld 4 true (.tmp 2),none,0⟩,⟨(some 12),.cl 107 [(.tmp 11)],none,0⟩,⟨(some 6),.al (.agg [(.lit (.int .i64 0)),(.lit (.int .i64 0)),(.sl [] true),(.sl [] true)]),none,0⟩,⟨none,.st 4 (.tmp 6) (.tmp 12),none,1⟩] none 2 []) (.seq (.seq (.reg 0 [⟨(some 13),.ld 4 true (.tmp 2),none,0⟩,⟨(some 14),.cl 77 [(.tmp 13)],none,0⟩,⟨(some 7),.mv (.tmp 14),none,0⟩] none 0 []) (.seq (.reg 0 [⟨(some 15),.mv (.tmp 7),none,0⟩,⟨(some 16),.bin .neq (.tmp 15) (.const (.int .i64 0)),none,0⟩] none 0 []) (.cond (.tmp 16) (.seq (.reg 0 [⟨(some 17),.ld 4 true (.tmp 6),none,0⟩,⟨(some 18),.mv (.tmp 7),none,0⟩,⟨none,.st 4 (.tmp 4) (.tmp 17),none,0⟩,⟨(some 5),.mv (.tmp 18),none,0⟩] none 0 []) .ret) .skip))) (.seq (.seq (.reg 0 [⟨(some 20),.ld 4 true (.tmp 2),none,0⟩,⟨(some 21),.mv (.tmp 1),none,0⟩,⟨(some 22),.cl 113 [(.tmp 20),(.tmp 21)],none,0⟩,⟨(some 19),.mv (.tmp 22),none,0⟩,⟨(some 23),.ex (.tmp 19) 0,none,0⟩,⟨(some 24),.ex (.tmp 19) 1,none,0⟩,⟨(some 8),.mv (.tmp 23),none,0⟩,⟨(some 9),.mv (.tmp 24),none,0⟩] none 0 []) (.seq (.reg 0 [⟨(some 25),.mv (.tmp 9),none,0⟩,⟨(some 26),.un .not (.tmp 25),none,0⟩] none 0 []) (.cond (.tmp 26) (.seq (.reg 0 [⟨(some 27),.ld 4 true (.tmp 6),none,0⟩,⟨none,.st 4 (.tmp 4) (.tmp 27),none,0⟩,⟨(some 5),.mv (.const (.int .i64 6)),none,0⟩] none 0 []) .ret) .skip))) (.join (.seq (.reg 0 [⟨(some 28),.ld 4 true (.tmp 2),none,0⟩,⟨(some 29),.cl 108 [(.tmp 28),(.const (.bool true)),(.const (.bool false))],none,0⟩,⟨(some 10),.mv (.tmp 29),none,0⟩] none 0 []) (.seq (.reg 0 [⟨(some 30),.mv (.tmp 10),none,0⟩,⟨(some 31),.bin .neq (.tmp 30) (.const (.int .i64 0)),none,0⟩] none 0 []) (.cond (.tmp 31) (.seq (.reg 0 [⟨(some 32),.ld 4 true (.tmp 6),none,0⟩,⟨(some 33),.mv (.tmp 10),none,0⟩,⟨none,.st 4 (.tmp 4) (.tmp 32),none,0⟩,⟨(some 5),.mv (.tmp 33),none,0⟩] none 0 []) .ret) .skip))) (.seq (.reg 0 [⟨(some 34),.ld 4 true (.tmp 6),none,0⟩,⟨(some 35),.mv (.tmp 1),none,0⟩,⟨(some 36),.bd [(.lit (.string ⟨#[]⟩)),(.lit (.string ⟨#[]⟩)),(.lit (.int .i64 0)),(.lit (.int .i64 0)),(.lit (.bool false))] [(0,1,(.tmp 35))],none,0⟩,⟨(some 37),.cl 109 [(.tmp 34),(.tmp 36)],none,0⟩,⟨none,.st 4 (.tmp 4) (.tmp 37),none,0⟩,⟨(some 5),.mv (.const (.int .i64 0)),none,0⟩] none 0 []) .ret))))))
theorem gc43_ok:compF Tryz.prog Tryz.f43=some (gc43.er,38,[.cell 4 4 true,.tmp 5]):=by unfold gc43;kernel_rfl
theorem p_roster_Drop_v {u1 u2:Bool} (a0:RosterState) (a1:ByteArray):CallsO Tryz.prog 43 [.agg [.i a0.Ver,.i a0.Floor,.sl (List.map ItemItem.v a0.Items) u1,.sl (List.map RosterGone.v a0.Gone) u2],.s a1] (fun r:RosterState × Int=>.tup [RosterState.v r.1,V.i r.2]) (p_roster_Drop a0 a1):=by
 refine callsO_comp mix Tryz.func43 gc43_ok fun r H=>?_
 rw [p_roster_Drop] at H
 conv=>whnf
 refine p_roster_State_own_c (i:=3) (j:=4) H (by decide) rfl rfl (fun H=>?_) (fun G H=>?_) (fun I H=>?_) (fun I G H=>?_)
 ·try dsimp only at H
  conv=>whnf
  refine ⟨Nat.le_of_ble_eq_true rfl,?_⟩;conv=>whnf
  refine ask_c (p_roster_Check_v _) H rfl rfl (fun v1 H=>?_);conv=>whnf
  refine tst_c H (fun b2 H=>?_) (fun b2 H=>?_)
  ·conv=>whnf
   refine ⟨Nat.le_of_ble_eq_true rfl,?_⟩;conv=>whnf
   refine finR_c (enc:=(fun r:RosterState × Int=>.tup [RosterState.v r.1,V.i r.2])) H ?_;conv=>whnf
   exact ⟨_,.tup (.cons (fzagg (.cons (.id rfl) (.cons (.id rfl) (.cons (.slw) (.cons (.slw) (.nil))))) rfl) (.cons (.c (.id rfl)) (.nil)))⟩
  conv=>whnf
  refine ask_c (p_roster_State_find_v _ _) H rfl rfl (fun v3 H=>?_);conv=>whnf
  refine Tst.not ?_
  refine tst_d H (fun b4 H=>?_) (fun b4 H=>?_)
  ·conv=>whnf
   refine ⟨Nat.le_of_ble_eq_true rfl,?_⟩;conv=>whnf
   refine finR_c (enc:=(fun r:RosterState × Int=>.tup [RosterState.v r.1,V.i r.2])) H ?_;conv=>whnf
   exact ⟨_,.tup (.cons (fzagg (.cons (.id rfl) (.cons (.id rfl) (.cons (.slw) (.cons (.slw) (.nil))))) rfl) (.cons (.c (.id rfl)) (.nil)))⟩
  conv=>whnf
  obtain ⟨K5,hK6,o7,HL8,HQ9⟩:=join0_c H
  refine join_c [5,4,6] [10,28,29,30,31,32,33,2] (fun vals st=>(K5 (.inr ())=some r∧vals=[.i (0:Int),.ptr 0 0,.ptr 1 0]∧st=[.live [.i (0:Int),.i (0:Int),.sl (List.map ItemItem.v []) true,.sl (List.map RosterGone.v []) true] 0,.live [.i a0.Ver,.i a0.Floor,.sl (List.map ItemItem.v []) true,.sl (List.map RosterGone.v []) true] 0,.dead,.dead,.dead])) ?_ ?_
  ·have H:=HL8
   conv=>whnf
   refine ask_c (p_roster_State_may_v _ _ _) H rfl rfl (fun v11 H=>?_);conv=>whnf
   refine tst_d H (fun b12 H=>?_) (fun b12 H=>?_)
   ·conv=>whnf
    obtain rfl:=Option.some.inj H
    exact arrive_c [10,28,29,30,31,32,33,2] 5 [1,2,0,0,0] (⟨HQ9,rfl,rfl⟩) (Nat.zero_le _) rfl (by kernel_rfl) (by kernel_rfl) rfl ⟨⟨rfl,rfl,rfl⟩,⟨⟨rfl,rfl,rfl⟩,trivial⟩⟩
   conv=>whnf
   refine ⟨Nat.le_of_ble_eq_true rfl,?_⟩;conv=>whnf
   obtain rfl:=Option.some.inj H
   have H:=HQ9
   rw [hK6] at H
   try dsimp only at H
   refine finR_c (enc:=(fun r:RosterState × Int=>.tup [RosterState.v r.1,V.i r.2])) H ?_;conv=>whnf
   exact ⟨_,.tup (.cons (fzagg (.cons (.id rfl) (.cons (.id rfl) (.cons (.slw) (.cons (.slw) (.nil))))) rfl) (.cons (.c (.id rfl)) (.nil)))⟩
  rintro _ _ (⟨H,rfl,rfl⟩)
  rw [hK6] at H
  try dsimp only at H
  conv=>whnf
  refine askW_c (fun s hs=>p_roster_State_change_nn _ _ _ rfl rfl rfl s hs) H rfl rfl rfl (fun v13 H=>?_);conv=>whnf
  refine ⟨Nat.le_of_ble_eq_true rfl,?_⟩;conv=>whnf
  exact fin0_c (enc:=(fun r:RosterState × Int=>.tup [RosterState.v r.1,V.i r.2])) H (.inr rfl) (.cons (.cell rfl rfl (Nat.le_of_ble_eq_true rfl)) (.cons (.tmp rfl) (.nil))) rfl rfl
 ·try dsimp only at H
  conv=>whnf
  refine ⟨Nat.le_of_ble_eq_true rfl,?_⟩;conv=>whnf
  refine ask_c (p_roster_Check_v _) H rfl rfl (fun v14 H=>?_);conv=>whnf
  refine tst_c H (fun b15 H=>?_) (fun b15 H=>?_)
  ·conv=>whnf
   refine ⟨Nat.le_of_ble_eq_true rfl,?_⟩;conv=>whnf
   refine finRz_c (enc:=(fun r:RosterState × Int=>.tup [RosterState.v r.1,V.i r.2])) [4] H ?_;conv=>whnf
   refine ⟨Nat.zero_le _,?_⟩;conv=>whnf
   exact ⟨_,.tup (.cons (fzagg (.cons (.id rfl) (.cons (.id rfl) (.cons (.slw) (.cons (fzown (f:=RosterGone.v) (l:=G) rfl rfl (fun _=>rfl) (fun _=>rfl)) (.nil))))) rfl) (.cons (.c (.id rfl)) (.nil)))⟩
  conv=>whnf
  refine ask_c (p_roster_State_find_v _ _) H rfl rfl (fun v16 H=>?_);conv=>whnf
  refine Tst.not ?_
  refine tst_d H (fun b17 H=>?_) (fun b17 H=>?_)
  ·conv=>whnf
   refine ⟨Nat.le_of_ble_eq_true rfl,?_⟩;conv=>whnf
   refine finRz_c (enc:=(fun r:RosterState × Int=>.tup [RosterState.v r.1,V.i r.2])) [4] H ?_;conv=>whnf
   refine ⟨Nat.zero_le _,?_⟩;conv=>whnf
   exact ⟨_,.tup (.cons (fzagg (.cons (.id rfl) (.cons (.id rfl) (.cons (.slw) (.cons (fzown (f:=RosterGone.v) (l:=G) rfl rfl (fun _=>rfl) (fun _=>rfl)) (.nil))))) rfl) (.cons (.c (.id rfl)) (.nil)))⟩
  conv=>whnf
  obtain ⟨K18,hK19,o20,HL21,HQ22⟩:=join0_c H
  refine join_c [5,4,6] [10,28,29,30,31,32,33,2,12] (fun vals st=>(K18 (.inr ())=some r∧vals=[.i (0:Int),.ptr 0 0,.ptr 1 0]∧st=[.live [.i (0:Int),.i (0:Int),.sl (List.map ItemItem.v []) true,.sl (List.map RosterGone.v []) true] 0,.live [.i a0.Ver,.i a0.Floor,.sl (List.map ItemItem.v []) true,.osl 3 0 (List.length G) 2 false] 0,.dead,.live (cellsM RosterGone.v G) 0,.dead])) ?_ ?_
  ·have H:=HL21
   conv=>whnf
   refine ask_c (p_roster_State_may_v _ _ _) H rfl rfl (fun v24 H=>?_);conv=>whnf
   refine tst_d H (fun b25 H=>?_) (fun b25 H=>?_)
   ·conv=>whnf
    obtain rfl:=Option.some.inj H
    exact arrive_c [10,28,29,30,31,32,33,2,12] 5 [1,2,0,4,0] (⟨HQ22,rfl,rfl⟩) (Nat.zero_le _) rfl (by kernel_rfl) (by kernel_rfl) rfl ⟨⟨rfl,rfl,rfl⟩,⟨⟨rfl,rfl,rfl⟩,wkB_live0 rfl (cellsM_idlt (f:=RosterGone.v) (fun _=>rfl) _) rfl trivial⟩⟩
   conv=>whnf
   refine ⟨Nat.le_of_ble_eq_true rfl,?_⟩;conv=>whnf
   obtain rfl:=Option.some.inj H
   have H:=HQ22
   rw [hK19] at H
   try dsimp only at H
   refine finRz_c (enc:=(fun r:RosterState × Int=>.tup [RosterState.v r.1,V.i r.2])) [4] H ?_;conv=>whnf
   refine ⟨Nat.zero_le _,?_⟩;conv=>whnf
   exact ⟨_,.tup (.cons (fzagg (.cons (.id rfl) (.cons (.id rfl) (.cons (.slw) (.cons (fzown (f:=RosterGone.v) (l:=G) rfl rfl (fun _=>rfl) (fun _=>rfl)) (.nil))))) rfl) (.cons (.c (.id rfl)) (.nil)))⟩
  rintro _ _ (⟨H,rfl,rfl⟩)
  rw [hK19] at H
  try dsimp only at H
  conv=>whnf
  refine askW_c (fun s hs=>p_roster_State_change_no _ _ _ _ rfl rfl rfl s hs) H rfl rfl rfl (fun v26 H=>?_);conv=>whnf
  refine ⟨Nat.le_of_ble_eq_true rfl,?_⟩;conv=>whnf
  exact fin0_c (enc:=(fun r:RosterState × Int=>.tup [RosterState.v r.1,V.i r.2])) H (.inr rfl) (.cons (.cell rfl rfl (Nat.le_of_ble_eq_true rfl)) (.cons (.tmp rfl) (.nil))) rfl rfl
 ·try dsimp only at H
  conv=>whnf
  refine ⟨Nat.le_of_ble_eq_true rfl,?_⟩;conv=>whnf
  refine ask_c (p_roster_Check_v _) H rfl rfl (fun v27 H=>?_);conv=>whnf
  refine tst_c H (fun b28 H=>?_) (fun b28 H=>?_)
  ·conv=>whnf
   refine ⟨Nat.le_of_ble_eq_true rfl,?_⟩;conv=>whnf
   refine finRz_c (enc:=(fun r:RosterState × Int=>.tup [RosterState.v r.1,V.i r.2])) [3] H ?_;conv=>whnf
   refine ⟨Nat.zero_le _,?_⟩;conv=>whnf
   exact ⟨_,.tup (.cons (fzagg (.cons (.id rfl) (.cons (.id rfl) (.cons (fzown (f:=ItemItem.v) (l:=I) rfl rfl (fun _=>rfl) (fun _=>rfl)) (.cons (.slw) (.nil))))) rfl) (.cons (.c (.id rfl)) (.nil)))⟩
  conv=>whnf
  refine ask_c (p_roster_State_find_v _ _) H rfl rfl (fun v29 H=>?_);conv=>whnf
  refine Tst.not ?_
  refine tst_d H (fun b30 H=>?_) (fun b30 H=>?_)
  ·conv=>whnf
   refine ⟨Nat.le_of_ble_eq_true rfl,?_⟩;conv=>whnf
   refine finRz_c (enc:=(fun r:RosterState × Int=>.tup [RosterState.v r.1,V.i r.2])) [3] H ?_;conv=>whnf
   refine ⟨Nat.zero_le _,?_⟩;conv=>whnf
   exact ⟨_,.tup (.cons (fzagg (.cons (.id rfl) (.cons (.id rfl) (.cons (fzown (f:=ItemItem.v) (l:=I) rfl rfl (fun _=>rfl) (fun _=>rfl)) (.cons (.slw) (.nil))))) rfl) (.cons (.c (.id rfl)) (.nil)))⟩
  conv=>whnf
  obtain ⟨K31,hK32,o33,HL34,HQ35⟩:=join0_c H
  refine join_c [5,4,6] [10,28,29,30,31,32,33,2,12] (fun vals st=>(K31 (.inr ())=some r∧vals=[.i (0:Int),.ptr 0 0,.ptr 1 0]∧st=[.live [.i (0:Int),.i (0:Int),.sl (List.map ItemItem.v []) true,.sl (List.map RosterGone.v []) true] 0,.live [.i a0.Ver,.i a0.Floor,.osl 2 0 (List.length I) 5 false,.sl (List.map RosterGone.v []) true] 0,.live (cellsM ItemItem.v I) 0,.dead,.dead])) ?_ ?_
  ·have H:=HL34
   conv=>whnf
   refine ask_c (p_roster_State_may_v _ _ _) H rfl rfl (fun v37 H=>?_);conv=>whnf
   refine tst_d H (fun b38 H=>?_) (fun b38 H=>?_)
   ·conv=>whnf
    obtain rfl:=Option.some.inj H
    exact arrive_c [10,28,29,30,31,32,33,2,12] 5 [1,2,3,0,0] (⟨HQ35,rfl,rfl⟩) (Nat.zero_le _) rfl (by kernel_rfl) (by kernel_rfl) rfl ⟨⟨rfl,rfl,rfl⟩,⟨⟨rfl,rfl,rfl⟩,wkB_live0 rfl (cellsM_idlt (f:=ItemItem.v) (fun _=>rfl) _) rfl trivial⟩⟩
   conv=>whnf
   refine ⟨Nat.le_of_ble_eq_true rfl,?_⟩;conv=>whnf
   obtain rfl:=Option.some.inj H
   have H:=HQ35
   rw [hK32] at H
   try dsimp only at H
   refine finRz_c (enc:=(fun r:RosterState × Int=>.tup [RosterState.v r.1,V.i r.2])) [3] H ?_;conv=>whnf
   refine ⟨Nat.zero_le _,?_⟩;conv=>whnf
   exact ⟨_,.tup (.cons (fzagg (.cons (.id rfl) (.cons (.id rfl) (.cons (fzown (f:=ItemItem.v) (l:=I) rfl rfl (fun _=>rfl) (fun _=>rfl)) (.cons (.slw) (.nil))))) rfl) (.cons (.c (.id rfl)) (.nil)))⟩
  rintro _ _ (⟨H,rfl,rfl⟩)
  rw [hK32] at H
  try dsimp only at H
  conv=>whnf
  refine askW_c (fun s hs=>p_roster_State_change_on _ _ _ _ rfl rfl rfl s hs) H rfl rfl rfl (fun v39 H=>?_);conv=>whnf
  refine ⟨Nat.le_of_ble_eq_true rfl,?_⟩;conv=>whnf
  exact fin0_c (enc:=(fun r:RosterState × Int=>.tup [RosterState.v r.1,V.i r.2])) H (.inr rfl) (.cons (.cell rfl rfl (Nat.le_of_ble_eq_true rfl)) (.cons (.tmp rfl) (.nil))) rfl rfl
 try dsimp only at H
 conv=>whnf
 refine ⟨Nat.le_of_ble_eq_true rfl,?_⟩;conv=>whnf
 refine ask_c (p_roster_Check_v _) H rfl rfl (fun v40 H=>?_);conv=>whnf
 refine tst_c H (fun b41 H=>?_) (fun b41 H=>?_)
 ·conv=>whnf
  refine ⟨Nat.le_of_ble_eq_true rfl,?_⟩;conv=>whnf
  refine finRz_c (enc:=(fun r:RosterState × Int=>.tup [RosterState.v r.1,V.i r.2])) [3,4] H ?_;conv=>whnf
  refine ⟨Nat.zero_le _,?_⟩;conv=>whnf
  refine ⟨Nat.zero_le _,?_⟩;conv=>whnf
  exact ⟨_,.tup (.cons (fzagg (.cons (.id rfl) (.cons (.id rfl) (.cons (fzown (f:=ItemItem.v) (l:=I) rfl rfl (fun _=>rfl) (fun _=>rfl)) (.cons (fzown (f:=RosterGone.v) (l:=G) rfl rfl (fun _=>rfl) (fun _=>rfl)) (.nil))))) rfl) (.cons (.c (.id rfl)) (.nil)))⟩
 conv=>whnf
 refine ask_c (p_roster_State_find_v _ _) H rfl rfl (fun v42 H=>?_);conv=>whnf
 refine Tst.not ?_
 refine tst_d H (fun b43 H=>?_) (fun b43 H=>?_)
 ·conv=>whnf
  refine ⟨Nat.le_of_ble_eq_true rfl,?_⟩;conv=>whnf
  refine finRz_c (enc:=(fun r:RosterState × Int=>.tup [RosterState.v r.1,V.i r.2])) [3,4] H ?_;conv=>whnf
  refine ⟨Nat.zero_le _,?_⟩;conv=>whnf
  refine ⟨Nat.zero_le _,?_⟩;conv=>whnf
  exact ⟨_,.tup (.cons (fzagg (.cons (.id rfl) (.cons (.id rfl) (.cons (fzown (f:=ItemItem.v) (l:=I) rfl rfl (fun _=>rfl) (fun _=>rfl)) (.cons (fzown (f:=RosterGone.v) (l:=G) rfl rfl (fun _=>rfl) (fun _=>rfl)) (.nil))))) rfl) (.cons (.c (.id rfl)) (.nil)))⟩
 conv=>whnf
 obtain ⟨K44,hK45,o46,HL47,HQ48⟩:=join0_c H
 refine join_c [5,4,6] [10,28,29,30,31,32,33,2,12] (fun vals st=>(K44 (.inr ())=some r∧vals=[.i (0:Int),.ptr 0 0,.ptr 1 0]∧st=[.live [.i (0:Int),.i (0:Int),.sl (List.map ItemItem.v []) true,.sl (List.map RosterGone.v []) true] 0,.live [.i a0.Ver,.i a0.Floor,.osl 2 0 (List.length I) 5 false,.osl 3 0 (List.length G) 2 false] 0,.live (cellsM ItemItem.v I) 0,.live (cellsM RosterGone.v G) 0,.dead])) ?_ ?_
 ·have H:=HL47
  conv=>whnf
  refine ask_c (p_roster_State_may_v _ _ _) H rfl rfl (fun v50 H=>?_);conv=>whnf
  refine tst_d H (fun b51 H=>?_) (fun b51 H=>?_)
  ·conv=>whnf
   obtain rfl:=Option.some.inj H
   exact arrive_c [10,28,29,30,31,32,33,2,12] 5 [1,2,3,4,0] (⟨HQ48,rfl,rfl⟩) (Nat.zero_le _) rfl (by kernel_rfl) (by kernel_rfl) rfl ⟨⟨rfl,rfl,rfl⟩,⟨⟨rfl,rfl,rfl⟩,wkB_live0 rfl (cellsM_idlt (f:=ItemItem.v) (fun _=>rfl) _) rfl (wkB_live0 rfl (cellsM_idlt (f:=RosterGone.v) (fun _=>rfl) _) rfl trivial)⟩⟩
  conv=>whnf
  refine ⟨Nat.le_of_ble_eq_true rfl,?_⟩;conv=>whnf
  obtain rfl:=Option.some.inj H
  have H:=HQ48
  rw [hK45] at H
  try dsimp only at H
  refine finRz_c (enc:=(fun r:RosterState × Int=>.tup [RosterState.v r.1,V.i r.2])) [3,4] H ?_;conv=>whnf
  refine ⟨Nat.zero_le _,?_⟩;conv=>whnf
  refine ⟨Nat.zero_le _,?_⟩;conv=>whnf
  exact ⟨_,.tup (.cons (fzagg (.cons (.id rfl) (.cons (.id rfl) (.cons (fzown (f:=ItemItem.v) (l:=I) rfl rfl (fun _=>rfl) (fun _=>rfl)) (.cons (fzown (f:=RosterGone.v) (l:=G) rfl rfl (fun _=>rfl) (fun _=>rfl)) (.nil))))) rfl) (.cons (.c (.id rfl)) (.nil)))⟩
 rintro _ _ (⟨H,rfl,rfl⟩)
 rw [hK45] at H
 try dsimp only at H
 conv=>whnf
 refine askW_c (fun s hs=>p_roster_State_change_oo _ _ _ _ _ rfl rfl rfl s hs) H rfl rfl rfl (fun v52 H=>?_);conv=>whnf
 refine ⟨Nat.le_of_ble_eq_true rfl,?_⟩;conv=>whnf
 exact fin0_c (enc:=(fun r:RosterState × Int=>.tup [RosterState.v r.1,V.i r.2])) H (.inr rfl) (.cons (.cell rfl rfl (Nat.le_of_ble_eq_true rfl)) (.cons (.tmp rfl) (.nil))) rfl rfl
def gc44:BCode:=(.seq (.reg 2 [⟨(some 2),.bx (.tmp 0),none,0⟩,⟨(some 4),.al (.agg [(.lit (.int .i64 0)),(.lit (.int .i64 0)),(.sl [] true),(.sl [] true)]),none,1⟩,⟨(some 5),.mv (.const (.int .i64 0)),none,2⟩] none 0 []) (.seq (.reg 0 [⟨(some 9),.ld 4 true (.tmp 2),none,0⟩,⟨(some 10),.mv (.tmp 1),none,0⟩,⟨(some 11),.cl 110 [(.tmp 9),(.tmp 10)],none,0⟩,⟨(some 8),.mv (.tmp 11),none,0⟩,⟨(some 12),.ex (.tmp 8) 0,none,0⟩,⟨(some 13),.ex (.tmp 8) 1,none,0⟩,⟨(some 6),.mv (.tmp 12),none,0⟩,⟨(some 7),.mv (.tmp 13),none,0⟩] none 0 []) (.seq (.block 0 (.seq (.reg 0 [⟨(some 15),.ld 4 true (.tmp 2),none,0⟩,⟨(some 16),.cl 111 [(.tmp 15)],none,0⟩,⟨(some 17),.bin .neq (.tmp 16) (.const (.int .i64 0)),none,0⟩,⟨(some 14),.mv (.tmp 17),none,0⟩] none 0 []) (.cond (.tmp 14) (.seq (.reg 0 [⟨(some 18),.ld 4 true (.tmp 2),none,0⟩,⟨(some 19),.ld 4 true (.tmp 2),none,0⟩,⟨(some 20),.cl 111 [(.tmp 19)],none,0⟩,⟨none,.st 4 (.tmp 4) (.tmp 18),none,0⟩,⟨(some 5),.mv (.tmp 20),none,0⟩] (some [[],[],[1],[1,2,0],[0,3,1,2]]) 0 []) .ret) (.seq (.reg 0 [⟨(some 22),.mv (.tmp 7),none,0⟩,⟨(some 23),.un .not (.tmp 22),none,0⟩,⟨(some 21),.mv (.tmp 23),none,0⟩] none 0 []) (.cond (.tmp 21) (.seq (.reg 0 [⟨(some 24),.ld 4 true (.tmp 2),none,0⟩,⟨none,.st 4 (.tmp 4) (.tmp 24),none,0⟩,⟨(some 5),.mv (.const (.int .i64 6)),none,0⟩] none 0 []) .ret) (.seq (.reg 0 [⟨(some 26),.fa 0 (.tmp 2),none,0⟩,⟨(some 27),.ld 1 false (.tmp 26),none,0⟩,⟨(some 28),.bin .geq (.tmp 27) (.const (.int .i64 1099511627776)),none,0⟩,⟨(some 25),.mv (.tmp 28),none,0⟩] none 0 []) (.cond (.tmp 25) (.seq (.reg 0 [⟨(some 29),.ld 4 true (.tmp 2),none,0⟩,⟨none,.st 4 (.tmp 4) (.tmp 29),none,0⟩,⟨(some 5),.mv (.const (.int .i64 9)),none,0⟩] none 0 []) .ret) .skip))))))) (.seq (.reg 0 [⟨(some 30),.ld 4 true (.tmp 2),none,0⟩,⟨(some 31),.mv (.tmp 1),none,0⟩,⟨(some 32),.bd [(.lit (.string ⟨#[]⟩)),(.lit (.string ⟨#[]⟩)),(.lit (.int .i64 0)),(.lit (.int .i64 0)),(.lit (.bool false))] [(0,1,(.tmp 31))],none,0⟩,⟨(some 33),.cl 112 [(.tmp 30),(.tmp 32)],none,0⟩,⟨none,.st 4 (.tmp 4) (.tmp 33),none,0⟩,⟨(some 5),.mv (.const (.int .i64 0)),none,0⟩] none 0 []) .ret))))
theorem gc44_ok:compF Tryz.prog Tryz.f44=some (gc44.er,34,[.cell 4 4 true,.tmp 5]):=by unfold gc44;kernel_rfl
theorem p_ref21_Drop_v {u1 u2:Bool} (a0:RosterState) (a1:ByteArray):CallsO Tryz.prog 44 [.agg [.i a0.Ver,.i a0.Floor,.sl (List.map ItemItem.v a0.Items) u1,.sl (List.map RosterGone.v a0.Gone) u2],.s a1] (fun r:RosterState × Int=>.tup [RosterState.v r.1,V.i r.2]) (p_ref21_Drop a0 a1):=by
 refine callsO_comp mix Tryz.func44 gc44_ok fun r H=>?_
 rw [p_ref21_Drop] at H
 conv=>whnf
 refine ask_c (p_ref21_place_v _ _) H rfl rfl (fun v1 H=>?_);conv=>whnf
 refine ask_c (p_ref21_Check_v _) H rfl rfl (fun v2 H=>?_);conv=>whnf
 refine tst_c H (fun b3 H=>?_) (fun b3 H=>?_)
 ·conv=>whnf
  refine ask_c (p_ref21_Check_v _) H rfl rfl (fun v4 H=>?_);conv=>whnf
  refine ⟨Nat.le_of_ble_eq_true rfl,?_⟩;conv=>whnf
  refine FootQ.mk ⟨rfl,?_⟩;conv=>whnf
  refine finR_c (enc:=(fun r:RosterState × Int=>.tup [RosterState.v r.1,V.i r.2])) H ?_;conv=>whnf
  exact ⟨_,.tup (.cons (fzagg (.cons (.id rfl) (.cons (.id rfl) (.cons (.slw) (.cons (.slw) (.nil))))) rfl) (.cons (.c (.id rfl)) (.nil)))⟩
 conv=>whnf
 refine Tst.not ?_
 refine tst_d H (fun b5 H=>?_) (fun b5 H=>?_)
 ·conv=>whnf
  refine ⟨Nat.le_of_ble_eq_true rfl,?_⟩;conv=>whnf
  refine finR_c (enc:=(fun r:RosterState × Int=>.tup [RosterState.v r.1,V.i r.2])) H ?_;conv=>whnf
  exact ⟨_,.tup (.cons (fzagg (.cons (.id rfl) (.cons (.id rfl) (.cons (.slw) (.cons (.slw) (.nil))))) rfl) (.cons (.c (.id rfl)) (.nil)))⟩
 conv=>whnf
 refine tst_c H (fun b6 H=>?_) (fun b6 H=>?_)
 ·conv=>whnf
  refine ⟨Nat.le_of_ble_eq_true rfl,?_⟩;conv=>whnf
  refine finR_c (enc:=(fun r:RosterState × Int=>.tup [RosterState.v r.1,V.i r.2])) H ?_;conv=>whnf
  exact ⟨_,.tup (.cons (fzagg (.cons (.id rfl) (.cons (.id rfl) (.cons (.slw) (.cons (.slw) (.nil))))) rfl) (.cons (.c (.id rfl)) (.nil)))⟩
 conv=>whnf
 refine ask_c (p_ref21_change_v _ _) H rfl rfl (fun v7 H=>?_);conv=>whnf
 refine ⟨Nat.le_of_ble_eq_true rfl,?_⟩;conv=>whnf
 exact fin0_c (enc:=(fun r:RosterState × Int=>.tup [RosterState.v r.1,V.i r.2])) H (.inr rfl) (.cons (.cell rfl rfl (Nat.le_of_ble_eq_true rfl)) (.cons (.tmp rfl) (.nil))) rfl rfl
def gc115:BCode:=(.seq (.reg 0 [⟨(some 2),.mv (.const (.slice none 0 0)),none,0⟩] none 0 []) (.seq (.reg 0 [⟨(some 3),.mv (.const (.slice none 0 0)),none,0⟩] none 0 []) (.seq (.seq (.reg 0 [⟨(some 4),.mv (.const (.int .i64 0)),none,0⟩] none 0 []) (.block 0 (.loop (.seq (.seq (.reg 0 [⟨(some 5),.mv (.tmp 4),none,0⟩,⟨(some 6),.mv (.tmp 0),none,0⟩,⟨(some 7),.lens (.tmp 6),none,0⟩,⟨(some 8),.bin .lss (.tmp 5) (.tmp 7),none,0⟩] none 0 []) (.cond (.tmp 8) .skip (.exit 0))) (.seq (.block 1 (.reg 2 [⟨(some 11),.mv (.tmp 3),none,0⟩,⟨(some 12),.mv (.tmp 0),none,0⟩,⟨(some 13),.mv (.tmp 4),none,0⟩,⟨(some 14),.ixs 2 (.tmp 12) (.tmp 13),none,0⟩,⟨(some 15),.ld 2 true (.tmp 14),none,0⟩,⟨(some 16),.bs 2 1 [(.lit (.string ⟨#[]⟩)),(.lit (.int .i64 0))] [(0,(.tmp 15))],none,0⟩,⟨(some 17),.ap 2 24 (.tmp 11) (.tmp 16),none,1⟩,⟨(some 3),.mv (.tmp 17),none,2⟩] none 0 [])) (.reg 0 [⟨(some 9),.mv (.tmp 4),none,0⟩,⟨(some 10),.bin .add (.tmp 9) (.const (.int .i64 1)),none,0⟩,⟨(some 4),.mv (.tmp 10),none,0⟩] none 0 [])))))) (.seq (.reg 0 [⟨(some 18),.mv (.tmp 3),none,0⟩,⟨(some 2),.mv (.tmp 18),none,0⟩] none 0 []) .ret))))
theorem gc115_ok:compF Tryz.prog Tryz.f115=some (gc115.er,19,[.tmp 2]):=by unfold gc115;kernel_rfl
theorem p_law21_gone_v {u1:Bool} (a0:List RosterGone):CallsO Tryz.prog 115 [.sl (List.map RosterGone.v a0) u1] (fun l:List RosterGone=>V.sl (l.map RosterGone.v) false) (p_law21_gone a0):=by
 refine callsO_comp mix Tryz.func115 gc115_ok fun r H=>?_
 rw [p_law21_gone] at H
 conv=>whnf
 obtain ⟨o2,HL3,HQ4⟩:=bind_c H
 refine loop_c [3,4] [5,6,7,8,9,10,11,12,13,14,15,16,17] [5,6,7,8,9,10,11,12,13,14,15,16,17] (fun n vals st=>(∃ y6,p_law21_gone_l1  a0 n [] y6=some o2∧vals=[.sl (List.map RosterGone.v []) true,.i y6]∧st=[])∨(∃ y10 y11,p_law21_gone_l1  a0 n y10 y11=some o2∧vals=[.osl 0 0 (List.length y10) 2 false,.i y11]∧st=[.live (cellsM RosterGone.v y10) (cellsM RosterGone.v y10).length])) fuel 0 [] (.inl (⟨_,HL3,rfl,rfl⟩)) (Nat.zero_le _) rfl (by kernel_rfl) (by kernel_rfl) rfl trivial ?_
 rintro (_ | n5) _ _ (⟨y6,H,rfl,rfl⟩ | ⟨y10,y11,H,rfl,rfl⟩)
 ·rw [p_law21_gone_l1] at H;cases H
 ·rw [p_law21_gone_l1] at H;cases H
 ·rw [p_law21_gone_l1] at H
  conv=>whnf
  refine LenQ.M ?_;conv=>whnf
  refine tst_d H (fun b7 H=>?_) (fun b7 H=>?_)
  ·conv=>whnf
   obtain rfl:=Option.some.inj H
   have H:=HQ4
   try dsimp only at H
   refine finR_c (enc:=(fun l:List RosterGone=>V.sl (l.map RosterGone.v) false)) H ?_;conv=>whnf
   exact ⟨_,.v (.c (.slw))⟩
  conv=>whnf
  refine ixs_c (f:=RosterGone.v) H (fun _=>rfl) (fun x8 H=>?_);conv=>whnf
  refine appN_c (f:=RosterGone.v) H (fun _=>rfl) (srcM (f:=RosterGone.v) (fun _=>rfl) [] true) rfl (.v (srcOwn (f:=RosterGone.v) (l:=[x8]) (fun _=>rfl) rfl rfl rfl)) (by decide) rfl (by simp) (fun l9 H=>?_);conv=>whnf
  refine Ari.w ?_;conv=>whnf
  exact again_c [5,6,7,8,9,10,11,12,13,14,15,16,17] n5 1 [1] (.inr (⟨_,_,H,rfl,rfl⟩)) (Nat.lt_succ_self _) (Nat.zero_le _) rfl (by kernel_rfl) (by kernel_rfl) rfl (wkB_live0 rfl (cellsM_idlt (f:=RosterGone.v) (fun _=>rfl) _) rfl trivial)
 rw [p_law21_gone_l1] at H
 conv=>whnf
 refine LenQ.M ?_;conv=>whnf
 refine tst_d H (fun b12 H=>?_) (fun b12 H=>?_)
 ·conv=>whnf
  obtain rfl:=Option.some.inj H
  have H:=HQ4
  try dsimp only at H
  refine finR_c (enc:=(fun l:List RosterGone=>V.sl (l.map RosterGone.v) false)) H ?_;conv=>whnf
  exact ⟨_,.v (.c (fzown (f:=RosterGone.v) (l:=y10) rfl rfl (fun _=>rfl) (fun _=>rfl)))⟩
 conv=>whnf
 refine ixs_c (f:=RosterGone.v) H (fun _=>rfl) (fun x13 H=>?_);conv=>whnf
 refine appO_c (f:=RosterGone.v) H (fun _=>rfl) rfl (Nat.le_refl _) (.v (srcOwn (f:=RosterGone.v) (l:=[x13]) (fun _=>rfl) rfl rfl rfl)) (by decide) rfl (by simp) (fun l14 H=>?_);conv=>whnf
 refine Ari.w ?_;conv=>whnf
 exact again_c [5,6,7,8,9,10,11,12,13,14,15,16,17] n5 1 [2] (.inr (⟨_,_,H,rfl,rfl⟩)) (Nat.lt_succ_self _) (Nat.zero_le _) rfl (by kernel_rfl) (by kernel_rfl) rfl (wkB_live0 rfl (cellsM_idlt (f:=RosterGone.v) (fun _=>rfl) _) rfl trivial)
def gc46:BCode:=(.seq (.reg 2 [⟨(some 1),.bx (.tmp 0),none,0⟩,⟨(some 2),.al (.agg [(.lit (.int .i64 0)),(.lit (.int .i64 0)),(.sl [] true),(.sl [] true)]),none,1⟩] none 0 []) (.seq (.reg 0 [⟨(some 3),.fa 0 (.tmp 1),none,0⟩,⟨(some 4),.ld 1 false (.tmp 3),none,0⟩,⟨(some 5),.fa 1 (.tmp 1),none,0⟩,⟨(some 6),.ld 1 false (.tmp 5),none,0⟩,⟨(some 7),.fa 2 (.tmp 1),none,0⟩,⟨(some 8),.ld 1 false (.tmp 7),none,0⟩,⟨(some 9),.cl 33 [(.tmp 8)],none,0⟩,⟨(some 10),.fa 3 (.tmp 1),none,0⟩,⟨(some 11),.ld 1 false (.tmp 10),none,0⟩,⟨(some 12),.cl 115 [(.tmp 11)],none,0⟩,⟨(some 13),.bd [(.lit (.int .i64 0)),(.lit (.int .i64 0)),(.sl [] true),(.sl [] true)] [(0,1,(.tmp 4)),(1,1,(.tmp 6)),(2,1,(.tmp 9)),(3,1,(.tmp 12))],none,0⟩,⟨none,.st 4 (.tmp 2) (.tmp 13),none,0⟩] (some [[],[0],[],[2],[],[4],[4,5],[],[7],[5,4,6,7,8],[8,7,9,5,4,6,2,3,0,1],[1,0,3,2,6,4,5,9,7,8,10]]) 0 []) .ret))
theorem gc46_ok:compF Tryz.prog Tryz.f46=some (gc46.er,14,[.cell 2 4 true]):=by unfold gc46;kernel_rfl
theorem p_law21_Back_v {u1 u2:Bool} (a0:RosterState):CallsO Tryz.prog 46 [.agg [.i a0.Ver,.i a0.Floor,.sl (List.map ItemItem.v a0.Items) u1,.sl (List.map RosterGone.v a0.Gone) u2]] RosterState.v (p_law21_Back a0):=by
 refine callsO_comp mix Tryz.func46 gc46_ok fun r H=>?_
 rw [p_law21_Back] at H
 conv=>whnf
 refine ask_c (p_law20_Back_v _) H rfl rfl (fun v1 H=>?_);conv=>whnf
 refine ask_c (p_law21_gone_v _) H rfl rfl (fun v2 H=>?_);conv=>whnf
 refine ⟨Nat.le_of_ble_eq_true rfl,?_⟩;conv=>whnf
 refine FootQ.mk ⟨rfl,?_⟩;conv=>whnf
 exact fin0_c (enc:=RosterState.v) H (.inr rfl) (.cons (.cell rfl rfl (Nat.le_of_ble_eq_true rfl)) (.nil)) rfl rfl
end Go.Proofs.YtpmoioopjbfhkaaGreat

/- That the program's functions yield what the plain ones tell (written by a program of mine). -/
namespace Go.Proofs.YtpmoioopjbfhkaaGreat
open Go.RowKit
set_option maxRecDepth 100000
set_option maxHeartbeats 4000000
def gc32:BCode:=(.seq (.reg 0 [⟨(some 4),.mv (.const (.bool false)),none,0⟩] none 0 []) (.seq (.seq (.reg 0 [⟨(some 6),.mv (.tmp 0),none,0⟩,⟨(some 7),.lens (.tmp 6),none,0⟩,⟨(some 8),.mv (.tmp 1),none,0⟩,⟨(some 9),.lens (.tmp 8),none,0⟩,⟨(some 10),.bin .neq (.tmp 7) (.tmp 9),none,0⟩] none 0 []) (.cond (.tmp 10) (.seq (.reg 0 [⟨(some 4),.mv (.const (.bool false)),none,0⟩] none 0 []) .ret) .skip)) (.seq (.seq (.reg 0 [⟨(some 5),.mv (.const (.int .i64 0)),none,0⟩] none 0 []) (.block 0 (.loop (.seq (.seq (.reg 0 [⟨(some 11),.mv (.tmp 5),none,0⟩,⟨(some 12),.mv (.tmp 0),none,0⟩,⟨(some 13),.lens (.tmp 12),none,0⟩,⟨(some 14),.bin .lss (.tmp 11) (.tmp 13),none,0⟩] none 0 []) (.cond (.tmp 14) .skip (.exit 0))) (.seq (.block 1 (.seq (.reg 0 [⟨(some 17),.mv (.tmp 0),none,0⟩,⟨(some 18),.mv (.tmp 5),none,0⟩,⟨(some 19),.ixs 5 (.tmp 17) (.tmp 18),none,0⟩,⟨(some 20),.ld 5 true (.tmp 19),none,0⟩,⟨(some 21),.mv (.tmp 1),none,0⟩,⟨(some 22),.mv (.tmp 5),none,0⟩,⟨(some 23),.ixs 5 (.tmp 21) (.tmp 22),none,0⟩,⟨(some 24),.ld 5 true (.tmp 23),none,0⟩,⟨(some 25),.eqa true [2,2,1,1,0] (.tmp 20) (.tmp 24),none,0⟩] (some [[],[],[1,0],[0,1,2],[],[],[5,4],[4,5,6],[6,5,4,7,2,1,0,3]]) 0 []) (.cond (.tmp 25) (.seq (.reg 0 [⟨(some 4),.mv (.const (.bool false)),none,0⟩] none 0 []) .ret) .skip))) (.reg 0 [⟨(some 15),.mv (.tmp 5),none,0⟩,⟨(some 16),.bin .add (.tmp 15) (.const (.int .i64 1)),none,0⟩,⟨(some 5),.mv (.tmp 16),none,0⟩] none 0 [])))))) (.seq (.reg 0 [⟨(some 4),.mv (.const (.bool true)),none,0⟩] none 0 []) .ret))))
theorem gc32_ok:compF Tryz.prog Tryz.f32=some (gc32.er,26,[.tmp 4]):=by unfold gc32;kernel_rfl
theorem p_ref20_SameItems_v {u1 u2:Bool} (a0:List ItemItem) (a1:List ItemItem):CallsO Tryz.prog 32 [.sl (List.map ItemItem.v a0) u1,.sl (List.map ItemItem.v a1) u2] V.b (p_ref20_SameItems a0 a1):=by
 refine callsO_comp mix Tryz.func32 gc32_ok fun r H=>?_
 rw [p_ref20_SameItems] at H
 conv=>whnf
 iterate 2 (refine LenQ.M ?_;conv=>whnf)
 refine tst_c H (fun b1 H=>?_) (fun b1 H=>?_)
 ·conv=>whnf
  exact fb_ H
 conv=>whnf
 obtain ⟨o3,HL4,HQ5⟩:=bind_c H
 refine loop_c [4,5] [11,12,13,14,15,16,17,18,19,20,21,22,23,24,25] [11,12,13,14,15,16,17,18,19,20,21,22,23,24,25] (fun n vals st=>(∃ y7,p_ref20_SameItems_l1  a0 a1 n y7=some o3∧vals=[.b false,.i y7]∧st=[])) fuel 0 [] (⟨_,HL4,rfl,rfl⟩) (Nat.zero_le _) rfl (by kernel_rfl) (by kernel_rfl) rfl trivial ?_
 rintro (_ | n6) _ _ (⟨y7,H,rfl,rfl⟩)
 ·rw [p_ref20_SameItems_l1] at H;cases H
 rw [p_ref20_SameItems_l1] at H
 conv=>whnf
 refine LenQ.M ?_;conv=>whnf
 refine tst_d H (fun b8 H=>?_) (fun b8 H=>?_)
 ·conv=>whnf
  obtain rfl:=Option.some.inj H
  have H:=HQ5
  try dsimp only at H
  exact fb_ H
 conv=>whnf
 refine ixs_c (f:=ItemItem.v) H (fun _=>rfl) (fun x9 H=>?_);conv=>whnf
 refine ixs_c (f:=ItemItem.v) H (fun _=>rfl) (fun x10 H=>?_);conv=>whnf
 refine FootQ.mk ⟨rfl,?_⟩;conv=>whnf
 refine Tst.not ?_
 refine tst_d H (fun b11 H=>?_) (fun b11 H=>?_)
 ·conv=>whnf
  obtain rfl:=Option.some.inj H
  have H:=HQ5
  try dsimp only at H
  exact fb_ H
 conv=>whnf
 refine Ari.w ?_;conv=>whnf
 exact again_c [11,12,13,14,15,16,17,18,19,20,21,22,23,24,25] n6 0 [] (⟨_,H,rfl,rfl⟩) (Nat.lt_succ_self _) (Nat.zero_le _) rfl (by kernel_rfl) (by kernel_rfl) rfl trivial
end Go.Proofs.YtpmoioopjbfhkaaGreat

/- That the program's functions yield what the plain ones tell (written by a program of mine). -/
namespace Go.Proofs.YtpmoioopjbfhkaaGreat
open Go.RowKit
set_option maxRecDepth 100000
set_option maxHeartbeats 4000000
def gc114:BCode:=(.seq (.reg 0 [⟨(some 4),.mv (.const (.bool false)),none,0⟩] none 0 []) (.seq (.seq (.reg 0 [⟨(some 6),.mv (.tmp 0),none,0⟩,⟨(some 7),.lens (.tmp 6),none,0⟩,⟨(some 8),.mv (.tmp 1),none,0⟩,⟨(some 9),.lens (.tmp 8),none,0⟩,⟨(some 10),.bin .neq (.tmp 7) (.tmp 9),none,0⟩] none 0 []) (.cond (.tmp 10) (.seq (.reg 0 [⟨(some 4),.mv (.const (.bool false)),none,0⟩] none 0 []) .ret) .skip)) (.seq (.seq (.reg 0 [⟨(some 5),.mv (.const (.int .i64 0)),none,0⟩] none 0 []) (.block 0 (.loop (.seq (.seq (.reg 0 [⟨(some 11),.mv (.tmp 5),none,0⟩,⟨(some 12),.mv (.tmp 0),none,0⟩,⟨(some 13),.lens (.tmp 12),none,0⟩,⟨(some 14),.bin .lss (.tmp 11) (.tmp 13),none,0⟩] none 0 []) (.cond (.tmp 14) .skip (.exit 0))) (.seq (.block 1 (.seq (.reg 0 [⟨(some 17),.mv (.tmp 0),none,0⟩,⟨(some 18),.mv (.tmp 5),none,0⟩,⟨(some 19),.ixs 2 (.tmp 17) (.tmp 18),none,0⟩,⟨(some 20),.ld 2 true (.tmp 19),none,0⟩,⟨(some 21),.mv (.tmp 1),none,0⟩,⟨(some 22),.mv (.tmp 5),none,0⟩,⟨(some 23),.ixs 2 (.tmp 21) (.tmp 22),none,0⟩,⟨(some 24),.ld 2 true (.tmp 23),none,0⟩,⟨(some 25),.eqa true [2,1] (.tmp 20) (.tmp 24),none,0⟩] (some [[],[],[1,0],[0,1,2],[],[],[5,4],[4,5,6],[6,5,4,7,2,1,0,3]]) 0 []) (.cond (.tmp 25) (.seq (.reg 0 [⟨(some 4),.mv (.const (.bool false)),none,0⟩] none 0 []) .ret) .skip))) (.reg 0 [⟨(some 15),.mv (.tmp 5),none,0⟩,⟨(some 16),.bin .add (.tmp 15) (.const (.int .i64 1)),none,0⟩,⟨(some 5),.mv (.tmp 16),none,0⟩] none 0 [])))))) (.seq (.reg 0 [⟨(some 4),.mv (.const (.bool true)),none,0⟩] none 0 []) .ret))))
theorem gc114_ok:compF Tryz.prog Tryz.f114=some (gc114.er,26,[.tmp 4]):=by unfold gc114;kernel_rfl
theorem p_ref21_SameGone_v {u1 u2:Bool} (a0:List RosterGone) (a1:List RosterGone):CallsO Tryz.prog 114 [.sl (List.map RosterGone.v a0) u1,.sl (List.map RosterGone.v a1) u2] V.b (p_ref21_SameGone a0 a1):=by
 refine callsO_comp mix Tryz.func114 gc114_ok fun r H=>?_
 rw [p_ref21_SameGone] at H
 conv=>whnf
 iterate 2 (refine LenQ.M ?_;conv=>whnf)
 refine tst_c H (fun b1 H=>?_) (fun b1 H=>?_)
 ·conv=>whnf
  exact fb_ H
 conv=>whnf
 obtain ⟨o3,HL4,HQ5⟩:=bind_c H
 refine loop_c [4,5] [11,12,13,14,15,16,17,18,19,20,21,22,23,24,25] [11,12,13,14,15,16,17,18,19,20,21,22,23,24,25] (fun n vals st=>(∃ y7,p_ref21_SameGone_l1  a0 a1 n y7=some o3∧vals=[.b false,.i y7]∧st=[])) fuel 0 [] (⟨_,HL4,rfl,rfl⟩) (Nat.zero_le _) rfl (by kernel_rfl) (by kernel_rfl) rfl trivial ?_
 rintro (_ | n6) _ _ (⟨y7,H,rfl,rfl⟩)
 ·rw [p_ref21_SameGone_l1] at H;cases H
 rw [p_ref21_SameGone_l1] at H
 conv=>whnf
 refine LenQ.M ?_;conv=>whnf
 refine tst_d H (fun b8 H=>?_) (fun b8 H=>?_)
 ·conv=>whnf
  obtain rfl:=Option.some.inj H
  have H:=HQ5
  try dsimp only at H
  exact fb_ H
 conv=>whnf
 refine ixs_c (f:=RosterGone.v) H (fun _=>rfl) (fun x9 H=>?_);conv=>whnf
 refine ixs_c (f:=RosterGone.v) H (fun _=>rfl) (fun x10 H=>?_);conv=>whnf
 refine FootQ.mk ⟨rfl,?_⟩;conv=>whnf
 refine Tst.not ?_
 refine tst_d H (fun b11 H=>?_) (fun b11 H=>?_)
 ·conv=>whnf
  obtain rfl:=Option.some.inj H
  have H:=HQ5
  try dsimp only at H
  exact fb_ H
 conv=>whnf
 refine Ari.w ?_;conv=>whnf
 exact again_c [11,12,13,14,15,16,17,18,19,20,21,22,23,24,25] n6 0 [] (⟨_,H,rfl,rfl⟩) (Nat.lt_succ_self _) (Nat.zero_le _) rfl (by kernel_rfl) (by kernel_rfl) rfl trivial
def gc45:BCode:=(.seq (.reg 2 [⟨(some 2),.bx (.tmp 0),none,0⟩,⟨(some 3),.bx (.tmp 1),none,1⟩,⟨(some 4),.mv (.const (.bool false)),none,2⟩] none 0 []) (.seq (.reg 0 [⟨(some 5),.fa 0 (.tmp 2),none,0⟩,⟨(some 6),.ld 1 false (.tmp 5),none,0⟩,⟨(some 7),.fa 0 (.tmp 3),none,0⟩,⟨(some 8),.ld 1 false (.tmp 7),none,0⟩,⟨(some 9),.bin .eql (.tmp 6) (.tmp 8),none,0⟩,⟨(some 10),.mv (.tmp 9),none,0⟩,⟨(some 11),.fa 1 (.tmp 2),(some (10,true)),0⟩,⟨(some 12),.ld 1 false (.tmp 11),(some (10,true)),0⟩,⟨(some 13),.fa 1 (.tmp 3),(some (10,true)),0⟩,⟨(some 14),.ld 1 false (.tmp 13),(some (10,true)),0⟩,⟨(some 15),.bin .eql (.tmp 12) (.tmp 14),(some (10,true)),0⟩,⟨(some 16),.pick (.tmp 10) (.tmp 15) (.const (.bool false)),none,0⟩,⟨(some 17),.mv (.tmp 16),none,0⟩,⟨(some 18),.fa 2 (.tmp 2),(some (17,true)),0⟩,⟨(some 19),.ld 1 false (.tmp 18),(some (17,true)),0⟩,⟨(some 20),.fa 2 (.tmp 3),(some (17,true)),0⟩,⟨(some 21),.ld 1 false (.tmp 20),(some (17,true)),0⟩,⟨(some 22),.cl 32 [(.tmp 19),(.tmp 21)],(some (17,true)),0⟩,⟨(some 23),.pick (.tmp 17) (.tmp 22) (.const (.bool false)),none,0⟩,⟨(some 24),.mv (.tmp 23),none,0⟩,⟨(some 25),.fa 3 (.tmp 2),(some (24,true)),0⟩,⟨(some 26),.ld 1 false (.tmp 25),(some (24,true)),0⟩,⟨(some 27),.fa 3 (.tmp 3),(some (24,true)),0⟩,⟨(some 28),.ld 1 false (.tmp 27),(some (24,true)),0⟩,⟨(some 29),.cl 114 [(.tmp 26),(.tmp 28)],(some (24,true)),0⟩,⟨(some 30),.pick (.tmp 24) (.tmp 29) (.const (.bool false)),none,0⟩,⟨(some 4),.mv (.tmp 30),none,0⟩] none 0 []) .ret))
theorem gc45_ok:compF Tryz.prog Tryz.f45=some (gc45.er,31,[.tmp 4]):=by unfold gc45;kernel_rfl
theorem p_ref21_Same_v {u1 u2 u3 u4:Bool} (a0:RosterState) (a1:RosterState):CallsO Tryz.prog 45 [.agg [.i a0.Ver,.i a0.Floor,.sl (List.map ItemItem.v a0.Items) u1,.sl (List.map RosterGone.v a0.Gone) u2],.agg [.i a1.Ver,.i a1.Floor,.sl (List.map ItemItem.v a1.Items) u3,.sl (List.map RosterGone.v a1.Gone) u4]] V.b (p_ref21_Same a0 a1):=by
 refine callsO_comp mix Tryz.func45 gc45_ok fun r H=>?_
 rw [p_ref21_Same] at H
 conv=>whnf
 refine tst_d H (fun b1 H=>?_) (fun b1 H=>?_)
 ·conv=>whnf
  iterate 17 (refine Tst.F ?_;conv=>whnf)
  exact fb_ H
 conv=>whnf
 iterate 5 (refine Tst.T ?_;conv=>whnf)
 refine tst_d H (fun b2 H=>?_) (fun b2 H=>?_)
 ·conv=>whnf
  iterate 11 (refine Tst.F ?_;conv=>whnf)
  exact fb_ H
 conv=>whnf
 iterate 4 (refine Tst.T ?_;conv=>whnf)
 refine ask_c (p_ref20_SameItems_v _ _) H rfl rfl (fun v3 H=>?_);conv=>whnf
 refine Tst.T ?_;conv=>whnf
 refine tst_d H (fun b4 H=>?_) (fun b4 H=>?_)
 ·conv=>whnf
  iterate 5 (refine Tst.F ?_;conv=>whnf)
  exact fb_ H
 conv=>whnf
 iterate 4 (refine Tst.T ?_;conv=>whnf)
 refine ask_c (p_ref21_SameGone_v _ _) H rfl rfl (fun v5 H=>?_);conv=>whnf
 refine Tst.T ?_;conv=>whnf
 exact fb_ H
def gc140:BCode:=(.seq (.reg 1 [⟨(some 2),.bx (.tmp 0),none,0⟩,⟨(some 4),.mv (.const (.slice none 0 0)),none,1⟩] none 0 []) (.seq (.seq (.reg 0 [⟨(some 8),.ld 4 true (.tmp 2),none,0⟩,⟨(some 9),.cl 77 [(.tmp 8)],none,0⟩,⟨(some 10),.bin .neq (.tmp 9) (.const (.int .i64 0)),none,0⟩] none 0 []) (.cond (.tmp 10) (.seq (.reg 0 [⟨(some 4),.mv (.const (.slice none 0 0)),none,0⟩] none 0 []) .ret) .skip)) (.seq (.reg 0 [⟨(some 5),.mv (.const (.slice none 0 0)),none,0⟩] none 0 []) (.seq (.seq (.reg 0 [⟨(some 11),.fa 2 (.tmp 2),none,0⟩,⟨(some 12),.ld 1 false (.tmp 11),none,0⟩,⟨(some 13),.lens (.tmp 12),none,0⟩,⟨(some 14),.mv (.const (.int .i64 0)),none,0⟩] none 0 []) (.block 0 (.loop (.seq (.reg 0 [⟨(some 15),.bin .lss (.tmp 14) (.tmp 13),none,0⟩] none 0 []) (.seq (.cond (.tmp 15) .skip (.exit 0)) (.seq (.block 1 (.seq (.reg 1 [⟨(some 16),.ixs 5 (.tmp 12) (.tmp 14),none,0⟩,⟨(some 17),.ld 5 true (.tmp 16),none,0⟩,⟨(some 7),.al (.agg [(.lit (.string ⟨#[]⟩)),(.lit (.string ⟨#[]⟩)),(.lit (.int .i64 0)),(.lit (.int .i64 0)),(.lit (.bool false))]),none,0⟩,⟨none,.st 5 (.tmp 7) (.tmp 17),none,1⟩] none 0 []) (.seq (.reg 0 [⟨(some 18),.mv (.tmp 1),none,0⟩,⟨(some 19),.ld 5 true (.tmp 7),none,0⟩,⟨(some 20),.cv (.tmp 18) [(.tmp 19)],none,0⟩] none 0 []) (.cond (.tmp 20) (.reg 2 [⟨(some 21),.mv (.tmp 5),none,0⟩,⟨(some 22),.ld 5 true (.tmp 7),none,0⟩,⟨(some 23),.bs 5 1 [(.lit (.string ⟨#[]⟩)),(.lit (.string ⟨#[]⟩)),(.lit (.int .i64 0)),(.lit (.int .i64 0)),(.lit (.bool false))] [(0,(.tmp 22))],none,0⟩,⟨(some 24),.ap 5 56 (.tmp 21) (.tmp 23),none,1⟩,⟨(some 5),.mv (.tmp 24),none,2⟩] none 0 []) .skip)))) (.reg 0 [⟨(some 25),.bin .add (.tmp 14) (.const (.int .i64 1)),none,0⟩,⟨(some 14),.mv (.tmp 25),none,0⟩] none 0 []))))))) (.seq (.reg 0 [⟨(some 26),.mv (.tmp 5),none,0⟩,⟨(some 4),.mv (.tmp 26),none,0⟩] none 0 []) .ret)))))
theorem gc140_ok:compF Tryz.prog Tryz.f140=some (gc140.er,27,[.tmp 4]):=by unfold gc140;kernel_rfl
theorem p_roster_State_some_v {u1 u2:Bool} (a0:RosterState) (a1:ItemItem→Option Bool) {a1_g:Nat} {a1_k:List V} (a1_h:Clo1 Tryz.prog a1_g a1_k ItemItem.v V.b a1):CallsO Tryz.prog 140 [.agg [.i a0.Ver,.i a0.Floor,.sl (List.map ItemItem.v a0.Items) u1,.sl (List.map RosterGone.v a0.Gone) u2],.clo (.func a1_g) a1_k] (fun l:List ItemItem=>V.sl (l.map ItemItem.v) false) (p_roster_State_some a0 a1):=by
 refine callsO_comp mix Tryz.func140 gc140_ok fun r H=>?_
 rw [p_roster_State_some] at H
 conv=>whnf
 refine ask_c (p_roster_Check_v _) H rfl rfl (fun v1 H=>?_);conv=>whnf
 refine tst_c H (fun b2 H=>?_) (fun b2 H=>?_)
 ·conv=>whnf
  refine finR_c (enc:=(fun l:List ItemItem=>V.sl (l.map ItemItem.v) false)) H ?_;conv=>whnf
  exact ⟨_,.v (.c (.slw))⟩
 conv=>whnf
 refine LenQ.M ?_;conv=>whnf
 obtain ⟨o4,HL5,HQ6⟩:=bind_c H
 refine loop_c [5,14] [7,15,16,17,18,19,20,21,22,23,24,25,2,11] [7,15,16,17,18,19,20,21,22,23,24,25,2,11] (fun n vals st=>(∃ y8,p_roster_State_some_l1  a1 a0.Items (a0.Items.length:Int) n [] y8=some o4∧vals=[.sl (List.map ItemItem.v []) true,.i y8]∧st=[])∨(∃ y14 y15,p_roster_State_some_l1  a1 a0.Items (a0.Items.length:Int) n y14 y15=some o4∧vals=[.osl 0 0 (List.length y14) 5 false,.i y15]∧st=[.live (cellsM ItemItem.v y14) (cellsM ItemItem.v y14).length])) fuel 0 [] (.inl (⟨_,HL5,rfl,rfl⟩)) (Nat.zero_le _) rfl (by simp only [maskF,setF,List.set_cons_zero,List.set_cons_succ,V.ren.renL,V.ren,renL_id _ a1_h.own] <;> rfl) (by simp only [maskF,setF,List.set_cons_zero,List.set_cons_succ,V.idlt.belowL,V.idlt,fun n=>idltL_up (n:=n) _ a1_h.own] <;> rfl) rfl trivial ?_
 rintro (_ | n7) _ _ (⟨y8,H,rfl,rfl⟩ | ⟨y14,y15,H,rfl,rfl⟩)
 ·rw [p_roster_State_some_l1] at H;cases H
 ·rw [p_roster_State_some_l1] at H;cases H
 ·rw [p_roster_State_some_l1] at H
  conv=>whnf
  refine tst_d H (fun b9 H=>?_) (fun b9 H=>?_)
  ·conv=>whnf
   obtain rfl:=Option.some.inj H
   have H:=HQ6
   try dsimp only at H
   refine finR_c (enc:=(fun l:List ItemItem=>V.sl (l.map ItemItem.v) false)) H ?_;conv=>whnf
   exact ⟨_,.v (.c (.slw))⟩
  conv=>whnf
  refine ixs_c (f:=ItemItem.v) H (fun _=>rfl) (fun x10 H=>?_);conv=>whnf
  refine ⟨Nat.le_of_ble_eq_true rfl,?_⟩;conv=>whnf
  refine askC_c a1_h H (.cons (fzagg (.cons (.id rfl) (.cons (.id rfl) (.cons (.id rfl) (.cons (.id rfl) (.cons (.id rfl) (.nil)))))) rfl) (.nil)) (fun v11 H=>?_);conv=>whnf
  refine tst_d H (fun b12 H=>?_) (fun b12 H=>?_)
  ·conv=>whnf
   refine Ari.w ?_;conv=>whnf
   exact again_c [7,15,16,17,18,19,20,21,22,23,24,25,2,11] n7 0 [] (.inl (⟨_,H,rfl,rfl⟩)) (Nat.lt_succ_self _) (Nat.zero_le _) rfl (by simp only [maskF,setF,List.set_cons_zero,List.set_cons_succ,V.ren.renL,V.ren,renL_id _ a1_h.own] <;> rfl) (by simp only [maskF,setF,List.set_cons_zero,List.set_cons_succ,V.idlt.belowL,V.idlt,fun n=>idltL_up (n:=n) _ a1_h.own] <;> rfl) rfl trivial
  conv=>whnf
  refine appN_c (f:=ItemItem.v) H (fun _=>rfl) (srcM (f:=ItemItem.v) (fun _=>rfl) [] true) rfl (.v (srcOwn (f:=ItemItem.v) (l:=[x10]) (fun _=>rfl) rfl rfl rfl)) (by decide) rfl (by simp) (fun l13 H=>?_);conv=>whnf
  refine Ari.w ?_;conv=>whnf
  exact again_c [7,15,16,17,18,19,20,21,22,23,24,25,2,11] n7 1 [2] (.inr (⟨_,_,H,rfl,rfl⟩)) (Nat.lt_succ_self _) (Nat.zero_le _) rfl (by simp only [maskF,setF,List.set_cons_zero,List.set_cons_succ,V.ren.renL,V.ren,renL_id _ a1_h.own] <;> rfl) (by simp only [maskF,setF,List.set_cons_zero,List.set_cons_succ,V.idlt.belowL,V.idlt,fun n=>idltL_up (n:=n) _ a1_h.own] <;> rfl) rfl (wkB_live0 rfl (cellsM_idlt (f:=ItemItem.v) (fun _=>rfl) _) rfl trivial)
 rw [p_roster_State_some_l1] at H
 conv=>whnf
 refine tst_d H (fun b16 H=>?_) (fun b16 H=>?_)
 ·conv=>whnf
  obtain rfl:=Option.some.inj H
  have H:=HQ6
  try dsimp only at H
  refine finR_c (enc:=(fun l:List ItemItem=>V.sl (l.map ItemItem.v) false)) H ?_;conv=>whnf
  exact ⟨_,.v (.c (fzown (f:=ItemItem.v) (l:=y14) rfl rfl (fun _=>rfl) (fun _=>rfl)))⟩
 conv=>whnf
 refine ixs_c (f:=ItemItem.v) H (fun _=>rfl) (fun x17 H=>?_);conv=>whnf
 refine ⟨Nat.le_of_ble_eq_true rfl,?_⟩;conv=>whnf
 refine askC_c a1_h H (.cons (fzagg (.cons (.id rfl) (.cons (.id rfl) (.cons (.id rfl) (.cons (.id rfl) (.cons (.id rfl) (.nil)))))) rfl) (.nil)) (fun v18 H=>?_);conv=>whnf
 refine tst_d H (fun b19 H=>?_) (fun b19 H=>?_)
 ·conv=>whnf
  refine Ari.w ?_;conv=>whnf
  exact again_c [7,15,16,17,18,19,20,21,22,23,24,25,2,11] n7 1 [] (.inr (⟨_,_,H,rfl,rfl⟩)) (Nat.lt_succ_self _) (Nat.zero_le _) rfl (by simp only [maskF,setF,List.set_cons_zero,List.set_cons_succ,V.ren.renL,V.ren,renL_id _ a1_h.own] <;> rfl) (by simp only [maskF,setF,List.set_cons_zero,List.set_cons_succ,V.idlt.belowL,V.idlt,fun n=>idltL_up (n:=n) _ a1_h.own] <;> rfl) rfl (wkB_live0 rfl (cellsM_idlt (f:=ItemItem.v) (fun _=>rfl) _) rfl trivial)
 conv=>whnf
 refine appO_c (f:=ItemItem.v) H (fun _=>rfl) rfl (Nat.le_refl _) (.v (srcOwn (f:=ItemItem.v) (l:=[x17]) (fun _=>rfl) rfl rfl rfl)) (by decide) rfl (by simp) (fun l20 H=>?_);conv=>whnf
 refine Ari.w ?_;conv=>whnf
 exact again_c [7,15,16,17,18,19,20,21,22,23,24,25,2,11] n7 1 [3] (.inr (⟨_,_,H,rfl,rfl⟩)) (Nat.lt_succ_self _) (Nat.zero_le _) rfl (by simp only [maskF,setF,List.set_cons_zero,List.set_cons_succ,V.ren.renL,V.ren,renL_id _ a1_h.own] <;> rfl) (by simp only [maskF,setF,List.set_cons_zero,List.set_cons_succ,V.idlt.belowL,V.idlt,fun n=>idltL_up (n:=n) _ a1_h.own] <;> rfl) rfl (wkB_live0 rfl (cellsM_idlt (f:=ItemItem.v) (fun _=>rfl) _) rfl trivial)
def gc75:BCode:=(.seq (.reg 1 [⟨(some 1),.bx (.tmp 0),none,0⟩,⟨(some 2),.mv (.const (.slice none 0 0)),none,1⟩] none 0 []) (.seq (.reg 0 [⟨(some 3),.ld 4 true (.tmp 1),none,0⟩,⟨(some 4),.cl 140 [(.tmp 3),(.func 17)],none,0⟩,⟨(some 2),.mv (.tmp 4),none,0⟩] none 0 []) .ret))
theorem gc75_ok:compF Tryz.prog Tryz.f75=some (gc75.er,5,[.tmp 2]):=by unfold gc75;kernel_rfl
theorem p_roster_Listed_v {u1 u2:Bool} (a0:RosterState):CallsO Tryz.prog 75 [.agg [.i a0.Ver,.i a0.Floor,.sl (List.map ItemItem.v a0.Items) u1,.sl (List.map RosterGone.v a0.Gone) u2]] (fun l:List ItemItem=>V.sl (l.map ItemItem.v) false) (p_roster_Listed a0):=by
 refine callsO_comp mix Tryz.func75 gc75_ok fun r H=>?_
 rw [p_roster_Listed] at H
 conv=>whnf
 refine askF_c (p_roster_State_some_v _ _ ⟨⟨_,Tryz.func17,by kernel_rfl,by kernel_rfl⟩,rfl,fun x0=>p_item_Listed_v _⟩) H (.cons (fzagg (.cons (.id rfl) (.cons (.id rfl) (.cons (.slw) (.cons (.slw) (.nil))))) rfl) (.cons (.c (.clo (.nil))) (.nil))) (fun v1 H=>?_);conv=>whnf
 exact fin0_c (enc:=(fun l:List ItemItem=>V.sl (l.map ItemItem.v) false)) H (.inr rfl) (.cons (.tmp rfl) (.nil)) rfl rfl
def gc147:BCode:=(.seq (.reg 1 [⟨(some 2),.bx (.tmp 0),none,0⟩,⟨(some 4),.mv (.const (.bool false)),none,1⟩] none 0 []) (.seq (.reg 0 [⟨(some 5),.fa 1 (.tmp 2),none,0⟩,⟨(some 6),.ld 1 false (.tmp 5),none,0⟩,⟨(some 7),.mv (.tmp 1),none,0⟩,⟨(some 8),.bin .gtr (.tmp 6) (.tmp 7),none,0⟩,⟨(some 4),.mv (.tmp 8),none,0⟩] none 0 []) .ret))
theorem gc147_ok:compF Tryz.prog Tryz.f147=some (gc147.er,9,[.tmp 4]):=by unfold gc147;kernel_rfl
theorem p_roster_Gone_newer_v (a0:RosterGone) (a1:Int):CallsO Tryz.prog 147 [.agg [.s a0.Contact,.i a0.Ver],.i a1] V.b (p_roster_Gone_newer a0 a1):=by
 refine callsO_comp mix Tryz.func147 gc147_ok fun r H=>?_
 rw [p_roster_Gone_newer] at H
 conv=>whnf
 exact fb_ H
def gc148:BCode:=(.seq (.reg 1 [⟨(some 2),.bx (.tmp 0),none,0⟩,⟨(some 3),.mv (.const (.bool false)),none,1⟩] none 0 []) (.seq (.reg 0 [⟨(some 4),.fa 3 (.tmp 2),none,0⟩,⟨(some 5),.ld 1 false (.tmp 4),none,0⟩,⟨(some 6),.ld 1 false (.tmp 1),none,0⟩,⟨(some 7),.bin .gtr (.tmp 5) (.tmp 6),none,0⟩,⟨(some 8),.mv (.tmp 7),none,0⟩,⟨(some 9),.ld 5 true (.tmp 2),(some (8,true)),0⟩,⟨(some 10),.cl 17 [(.tmp 9)],(some (8,true)),0⟩,⟨(some 11),.pick (.tmp 8) (.tmp 10) (.const (.bool false)),none,0⟩,⟨(some 3),.mv (.tmp 11),none,0⟩] none 0 []) .ret))
theorem gc148_ok:compF Tryz.prog Tryz.f148=some (gc148.er,12,[.tmp 3]):=by unfold gc148;kernel_rfl
theorem p_roster_Since_1_v (a0:ItemItem) (c0:Int):CallsO Tryz.prog 148 [.agg [.s a0.Contact,.s a0.Name,.i a0.Sub,.i a0.Ver,.b a0.Own],.eptr [.i c0]] V.b (p_roster_Since_1 a0 c0):=by
 refine callsO_comp mix Tryz.func148 gc148_ok fun r H=>?_
 rw [p_roster_Since_1] at H
 conv=>whnf
 refine tst_d H (fun b1 H=>?_) (fun b1 H=>?_)
 ·conv=>whnf
  iterate 2 (refine Tst.F ?_;conv=>whnf)
  exact fb_ H
 conv=>whnf
 refine Tst.T ?_;conv=>whnf
 refine ask_c (p_item_Listed_v _) H rfl rfl (fun v2 H=>?_);conv=>whnf
 refine Tst.T ?_;conv=>whnf
 exact fb_ H
end Go.Proofs.YtpmoioopjbfhkaaGreat

/- That the program's functions yield what the plain ones tell (written by a program of mine). -/
namespace Go.Proofs.YtpmoioopjbfhkaaGreat
open Go.RowKit
set_option maxRecDepth 100000
set_option maxHeartbeats 4000000
def gc78:BCode:=(.seq (.reg 2 [⟨(some 2),.bx (.tmp 0),none,0⟩,⟨(some 3),.bx (.tmp 1),none,1⟩,⟨(some 4),.mv (.const (.slice none 0 0)),none,2⟩,⟨(some 5),.mv (.const (.slice none 0 0)),none,2⟩,⟨(some 6),.mv (.const (.bool false)),none,2⟩] none 0 []) (.seq (.seq (.reg 0 [⟨(some 11),.ld 1 false (.tmp 3),none,0⟩,⟨(some 12),.fa 1 (.tmp 2),none,0⟩,⟨(some 13),.ld 1 false (.tmp 12),none,0⟩,⟨(some 14),.bin .lss (.tmp 11) (.tmp 13),none,0⟩,⟨(some 15),.mv (.tmp 14),none,0⟩,⟨(some 16),.ld 1 false (.tmp 3),(some (15,false)),0⟩,⟨(some 17),.fa 0 (.tmp 2),(some (15,false)),0⟩,⟨(some 18),.ld 1 false (.tmp 17),(some (15,false)),0⟩,⟨(some 19),.bin .gtr (.tmp 16) (.tmp 18),(some (15,false)),0⟩,⟨(some 20),.pick (.tmp 15) (.const (.bool true)) (.tmp 19),none,0⟩,⟨(some 21),.mv (.tmp 20),none,0⟩,⟨(some 22),.ld 4 true (.tmp 2),(some (21,false)),0⟩,⟨(some 23),.cl 77 [(.tmp 22)],(some (21,false)),0⟩,⟨(some 24),.bin .neq (.tmp 23) (.const (.int .i64 0)),(some (21,false)),0⟩,⟨(some 25),.pick (.tmp 21) (.const (.bool true)) (.tmp 24),none,0⟩] none 0 []) (.cond (.tmp 25) (.seq (.reg 0 [⟨(some 26),.ld 4 true (.tmp 2),none,0⟩,⟨(some 27),.cl 75 [(.tmp 26)],none,0⟩,⟨(some 4),.mv (.tmp 27),none,0⟩,⟨(some 5),.mv (.const (.slice none 0 0)),none,0⟩,⟨(some 6),.mv (.const (.bool true)),none,0⟩] none 0 []) .ret) .skip)) (.seq (.reg 0 [⟨(some 7),.mv (.func 147),none,0⟩] none 0 []) (.seq (.reg 0 [⟨(some 8),.mv (.const (.slice none 0 0)),none,0⟩] none 0 []) (.seq (.seq (.reg 0 [⟨(some 28),.fa 3 (.tmp 2),none,0⟩,⟨(some 29),.ld 1 false (.tmp 28),none,0⟩,⟨(some 30),.lens (.tmp 29),none,0⟩,⟨(some 31),.mv (.const (.int .i64 0)),none,0⟩] none 0 []) (.block 0 (.loop (.seq (.reg 0 [⟨(some 32),.bin .lss (.tmp 31) (.tmp 30),none,0⟩] none 0 []) (.seq (.cond (.tmp 32) .skip (.exit 0)) (.seq (.block 1 (.seq (.reg 1 [⟨(some 33),.ixs 2 (.tmp 29) (.tmp 31),none,0⟩,⟨(some 34),.ld 2 true (.tmp 33),none,0⟩,⟨(some 10),.al (.agg [(.lit (.string ⟨#[]⟩)),(.lit (.int .i64 0))]),none,0⟩,⟨none,.st 2 (.tmp 10) (.tmp 34),none,1⟩] none 0 []) (.seq (.reg 0 [⟨(some 35),.mv (.tmp 7),none,0⟩,⟨(some 36),.ld 2 true (.tmp 10),none,0⟩,⟨(some 37),.ld 1 false (.tmp 3),none,0⟩,⟨(some 38),.cv (.tmp 35) [(.tmp 36),(.tmp 37)],none,0⟩] none 0 []) (.cond (.tmp 38) (.reg 2 [⟨(some 39),.mv (.tmp 8),none,0⟩,⟨(some 40),.ld 2 true (.tmp 10),none,0⟩,⟨(some 41),.bs 2 1 [(.lit (.string ⟨#[]⟩)),(.lit (.int .i64 0))] [(0,(.tmp 40))],none,0⟩,⟨(some 42),.ap 2 24 (.tmp 39) (.tmp 41),none,1⟩,⟨(some 8),.mv (.tmp 42),none,2⟩] none 0 []) .skip)))) (.reg 0 [⟨(some 43),.bin .add (.tmp 31) (.const (.int .i64 1)),none,0⟩,⟨(some 31),.mv (.tmp 43),none,0⟩] none 0 []))))))) (.seq (.reg 0 [⟨(some 44),.ld 4 true (.tmp 2),none,0⟩,⟨(some 45),.mf (.func 148) [(.tmp 3)],none,0⟩,⟨(some 46),.cl 140 [(.tmp 44),(.tmp 45)],none,0⟩,⟨(some 47),.mv (.tmp 8),none,0⟩,⟨(some 4),.mv (.tmp 46),none,0⟩,⟨(some 5),.mv (.tmp 47),none,0⟩,⟨(some 6),.mv (.const (.bool false)),none,0⟩] none 0 [3]) .ret))))))
theorem gc78_ok:compF Tryz.prog Tryz.f78=some (gc78.er,48,[.tmp 4,.tmp 5,.tmp 6]):=by unfold gc78;kernel_rfl
theorem p_roster_Since_v {u1 u2:Bool} (a0:RosterState) (a1:Int):CallsO Tryz.prog 78 [.agg [.i a0.Ver,.i a0.Floor,.sl (List.map ItemItem.v a0.Items) u1,.sl (List.map RosterGone.v a0.Gone) u2],.i a1] (fun r:(List ItemItem) × (List RosterGone) × Bool=>.tup [(fun l:List ItemItem=>V.sl (l.map ItemItem.v) false) r.1,(fun l:List RosterGone=>V.sl (l.map RosterGone.v) false) r.2.1,V.b r.2.2]) (p_roster_Since a0 a1):=by
 refine callsO_comp mix Tryz.func78 gc78_ok fun r H=>?_
 rw [p_roster_Since] at H
 conv=>whnf
 refine tst_c H (fun b1 H=>?_) (fun b1 H=>?_)
 ·conv=>whnf
  iterate 9 (refine Tst.T ?_;conv=>whnf)
  refine ask_c (p_roster_Listed_v _) H rfl rfl (fun v2 H=>?_);conv=>whnf
  refine finR_c (enc:=(fun r:(List ItemItem) × (List RosterGone) × Bool=>.tup [(fun l:List ItemItem=>V.sl (l.map ItemItem.v) false) r.1,(fun l:List RosterGone=>V.sl (l.map RosterGone.v) false) r.2.1,V.b r.2.2])) H ?_;conv=>whnf
  exact ⟨_,.tup (.cons (.c (.id rfl)) (.cons (.c (.slw)) (.cons (.c (.id rfl)) (.nil))))⟩
 conv=>whnf
 iterate 4 (refine Tst.F ?_;conv=>whnf)
 refine tst_c H (fun b3 H=>?_) (fun b3 H=>?_)
 ·conv=>whnf
  iterate 4 (refine Tst.T ?_;conv=>whnf)
  refine ask_c (p_roster_Listed_v _) H rfl rfl (fun v4 H=>?_);conv=>whnf
  refine finR_c (enc:=(fun r:(List ItemItem) × (List RosterGone) × Bool=>.tup [(fun l:List ItemItem=>V.sl (l.map ItemItem.v) false) r.1,(fun l:List RosterGone=>V.sl (l.map RosterGone.v) false) r.2.1,V.b r.2.2])) H ?_;conv=>whnf
  exact ⟨_,.tup (.cons (.c (.id rfl)) (.cons (.c (.slw)) (.cons (.c (.id rfl)) (.nil))))⟩
 conv=>whnf
 refine Tst.F ?_;conv=>whnf
 refine ask_c (p_roster_Check_v _) H rfl rfl (fun v5 H=>?_);conv=>whnf
 iterate 2 (refine Tst.F ?_;conv=>whnf)
 refine tst_c H (fun b6 H=>?_) (fun b6 H=>?_)
 ·conv=>whnf
  refine ask_c (p_roster_Listed_v _) H rfl rfl (fun v7 H=>?_);conv=>whnf
  refine finR_c (enc:=(fun r:(List ItemItem) × (List RosterGone) × Bool=>.tup [(fun l:List ItemItem=>V.sl (l.map ItemItem.v) false) r.1,(fun l:List RosterGone=>V.sl (l.map RosterGone.v) false) r.2.1,V.b r.2.2])) H ?_;conv=>whnf
  exact ⟨_,.tup (.cons (.c (.id rfl)) (.cons (.c (.slw)) (.cons (.c (.id rfl)) (.nil))))⟩
 conv=>whnf
 refine LenQ.M ?_;conv=>whnf
 obtain ⟨o9,HL10,HQ11⟩:=bind_c H
 refine loop_c [8,31] [10,32,33,34,35,36,37,38,39,40,41,42,43,12,17,28] [10,32,33,34,35,36,37,38,39,40,41,42,43,12,17,28] (fun n vals st=>(∃ y13,p_roster_Since_l1  a0.Gone (a0.Gone.length:Int) a1 n [] y13=some o9∧vals=[.sl (List.map RosterGone.v []) true,.i y13]∧st=[.live [.i a0.Ver,.i a0.Floor,.sl (List.map ItemItem.v a0.Items) u1,.sl (List.map RosterGone.v a0.Gone) u2] 0,.live [.i a1] 0])∨(∃ y19 y20,p_roster_Since_l1  a0.Gone (a0.Gone.length:Int) a1 n y19 y20=some o9∧vals=[.osl 2 0 (List.length y19) 2 false,.i y20]∧st=[.live [.i a0.Ver,.i a0.Floor,.sl (List.map ItemItem.v a0.Items) u1,.sl (List.map RosterGone.v a0.Gone) u2] 0,.live [.i a1] 0,.live (cellsM RosterGone.v y19) (cellsM RosterGone.v y19).length])) fuel 2 [] (.inl (⟨_,HL10,rfl,rfl⟩)) (Nat.zero_le _) rfl (by kernel_rfl) (by kernel_rfl) rfl ⟨⟨rfl,rfl,rfl⟩,⟨⟨rfl,rfl,rfl⟩,trivial⟩⟩ ?_
 rintro (_ | n12) _ _ (⟨y13,H,rfl,rfl⟩ | ⟨y19,y20,H,rfl,rfl⟩)
 ·rw [p_roster_Since_l1] at H;cases H
 ·rw [p_roster_Since_l1] at H;cases H
 ·rw [p_roster_Since_l1] at H
  conv=>whnf
  refine tst_d H (fun b14 H=>?_) (fun b14 H=>?_)
  ·conv=>whnf
   obtain rfl:=Option.some.inj H
   have H:=HQ11
   try dsimp only at H
   refine ⟨Nat.zero_le _,?_⟩;conv=>whnf
   refine askF_c (p_roster_State_some_v _ _ ⟨⟨_,Tryz.func148,by kernel_rfl,by kernel_rfl⟩,rfl,fun x0=>p_roster_Since_1_v _ _⟩) H (.cons (fzagg (.cons (.id rfl) (.cons (.id rfl) (.cons (.slw) (.cons (.slw) (.nil))))) rfl) (.cons (.c (.clo (.cons (.ptr rfl (Nat.le_of_ble_eq_true rfl) (.cons (.id rfl) (.nil))) (.nil)))) (.nil))) (fun v21 H=>?_);conv=>whnf
   refine finR_c (enc:=(fun r:(List ItemItem) × (List RosterGone) × Bool=>.tup [(fun l:List ItemItem=>V.sl (l.map ItemItem.v) false) r.1,(fun l:List RosterGone=>V.sl (l.map RosterGone.v) false) r.2.1,V.b r.2.2])) H ?_;conv=>whnf
   exact ⟨_,.tup (.cons (.c (.id rfl)) (.cons (.c (.slw)) (.cons (.c (.id rfl)) (.nil))))⟩
  conv=>whnf
  refine ixs_c (f:=RosterGone.v) H (fun _=>rfl) (fun x15 H=>?_);conv=>whnf
  refine ⟨Nat.le_of_ble_eq_true rfl,?_⟩;conv=>whnf
  refine ⟨⟨_,Tryz.func147,by kernel_rfl,by kernel_rfl⟩,ask_c (p_roster_Gone_newer_v _ _) H rfl rfl (fun v16 H=>?_)⟩;conv=>whnf
  refine tst_d H (fun b17 H=>?_) (fun b17 H=>?_)
  ·conv=>whnf
   refine Ari.w ?_;conv=>whnf
   exact again_c [10,32,33,34,35,36,37,38,39,40,41,42,43,12,17,28] n12 2 [] (.inl (⟨_,H,rfl,rfl⟩)) (Nat.lt_succ_self _) (Nat.zero_le _) rfl (by kernel_rfl) (by kernel_rfl) rfl ⟨⟨rfl,rfl,rfl⟩,⟨⟨rfl,rfl,rfl⟩,trivial⟩⟩
  conv=>whnf
  refine appN_c (f:=RosterGone.v) H (fun _=>rfl) (srcM (f:=RosterGone.v) (fun _=>rfl) [] true) rfl (.v (srcOwn (f:=RosterGone.v) (l:=[x15]) (fun _=>rfl) rfl rfl rfl)) (by decide) rfl (by simp) (fun l18 H=>?_);conv=>whnf
  refine Ari.w ?_;conv=>whnf
  exact again_c [10,32,33,34,35,36,37,38,39,40,41,42,43,12,17,28] n12 3 [0,1,4] (.inr (⟨_,_,H,rfl,rfl⟩)) (Nat.lt_succ_self _) (Nat.zero_le _) rfl (by kernel_rfl) (by kernel_rfl) rfl ⟨⟨rfl,rfl,rfl⟩,⟨⟨rfl,rfl,rfl⟩,wkB_live0 rfl (cellsM_idlt (f:=RosterGone.v) (fun _=>rfl) _) rfl trivial⟩⟩
 rw [p_roster_Since_l1] at H
 conv=>whnf
 refine tst_d H (fun b22 H=>?_) (fun b22 H=>?_)
 ·conv=>whnf
  obtain rfl:=Option.some.inj H
  have H:=HQ11
  try dsimp only at H
  refine ⟨Nat.zero_le _,?_⟩;conv=>whnf
  refine askF_c (p_roster_State_some_v _ _ ⟨⟨_,Tryz.func148,by kernel_rfl,by kernel_rfl⟩,rfl,fun x0=>p_roster_Since_1_v _ _⟩) H (.cons (fzagg (.cons (.id rfl) (.cons (.id rfl) (.cons (.slw) (.cons (.slw) (.nil))))) rfl) (.cons (.c (.clo (.cons (.ptr rfl (Nat.le_of_ble_eq_true rfl) (.cons (.id rfl) (.nil))) (.nil)))) (.nil))) (fun v27 H=>?_);conv=>whnf
  refine finR_c (enc:=(fun r:(List ItemItem) × (List RosterGone) × Bool=>.tup [(fun l:List ItemItem=>V.sl (l.map ItemItem.v) false) r.1,(fun l:List RosterGone=>V.sl (l.map RosterGone.v) false) r.2.1,V.b r.2.2])) H ?_;conv=>whnf
  exact ⟨_,.tup (.cons (.c (.id rfl)) (.cons (.c (fzown (f:=RosterGone.v) (l:=y19) rfl rfl (fun _=>rfl) (fun _=>rfl))) (.cons (.c (.id rfl)) (.nil))))⟩
 conv=>whnf
 refine ixs_c (f:=RosterGone.v) H (fun _=>rfl) (fun x23 H=>?_);conv=>whnf
 refine ⟨Nat.le_of_ble_eq_true rfl,?_⟩;conv=>whnf
 refine ⟨⟨_,Tryz.func147,by kernel_rfl,by kernel_rfl⟩,ask_c (p_roster_Gone_newer_v _ _) H rfl rfl (fun v24 H=>?_)⟩;conv=>whnf
 refine tst_d H (fun b25 H=>?_) (fun b25 H=>?_)
 ·conv=>whnf
  refine Ari.w ?_;conv=>whnf
  exact again_c [10,32,33,34,35,36,37,38,39,40,41,42,43,12,17,28] n12 3 [] (.inr (⟨_,_,H,rfl,rfl⟩)) (Nat.lt_succ_self _) (Nat.zero_le _) rfl (by kernel_rfl) (by kernel_rfl) rfl ⟨⟨rfl,rfl,rfl⟩,⟨⟨rfl,rfl,rfl⟩,wkB_live0 rfl (cellsM_idlt (f:=RosterGone.v) (fun _=>rfl) _) rfl trivial⟩⟩
 conv=>whnf
 refine appO_c (f:=RosterGone.v) H (fun _=>rfl) rfl (Nat.le_refl _) (.v (srcOwn (f:=RosterGone.v) (l:=[x23]) (fun _=>rfl) rfl rfl rfl)) (by decide) rfl (by simp) (fun l26 H=>?_);conv=>whnf
 refine Ari.w ?_;conv=>whnf
 exact again_c [10,32,33,34,35,36,37,38,39,40,41,42,43,12,17,28] n12 3 [0,1,5] (.inr (⟨_,_,H,rfl,rfl⟩)) (Nat.lt_succ_self _) (Nat.zero_le _) rfl (by kernel_rfl) (by kernel_rfl) rfl ⟨⟨rfl,rfl,rfl⟩,⟨⟨rfl,rfl,rfl⟩,wkB_live0 rfl (cellsM_idlt (f:=RosterGone.v) (fun _=>rfl) _) rfl trivial⟩⟩
def gc167:BCode:=(.seq (.reg 0 [⟨(some 2),.mv (.const (.slice none 0 0)),none,0⟩] none 0 []) (.seq (.reg 0 [⟨(some 3),.mv (.const (.slice none 0 0)),none,0⟩] none 0 []) (.seq (.seq (.reg 0 [⟨(some 6),.mv (.tmp 0),none,0⟩,⟨(some 7),.lens (.tmp 6),none,0⟩,⟨(some 8),.mv (.const (.int .i64 0)),none,0⟩] none 0 []) (.block 0 (.loop (.seq (.reg 0 [⟨(some 9),.bin .lss (.tmp 8) (.tmp 7),none,0⟩] none 0 []) (.seq (.cond (.tmp 9) .skip (.exit 0)) (.seq (.block 1 (.seq (.reg 1 [⟨(some 10),.ixs 5 (.tmp 6) (.tmp 8),none,0⟩,⟨(some 11),.ld 5 true (.tmp 10),none,0⟩,⟨(some 5),.al (.agg [(.lit (.string ⟨#[]⟩)),(.lit (.string ⟨#[]⟩)),(.lit (.int .i64 0)),(.lit (.int .i64 0)),(.lit (.bool false))]),none,0⟩,⟨none,.st 5 (.tmp 5) (.tmp 11),none,1⟩] none 0 []) (.reg 2 [⟨(some 12),.mv (.tmp 3),none,0⟩,⟨(some 13),.fa 0 (.tmp 5),none,0⟩,⟨(some 14),.ld 1 false (.tmp 13),none,0⟩,⟨(some 15),.bs 1 1 [(.lit (.string ⟨#[]⟩))] [(0,(.tmp 14))],none,0⟩,⟨(some 16),.ap 1 16 (.tmp 12) (.tmp 15),none,1⟩,⟨(some 3),.mv (.tmp 16),none,2⟩] none 0 []))) (.reg 0 [⟨(some 17),.bin .add (.tmp 8) (.const (.int .i64 1)),none,0⟩,⟨(some 8),.mv (.tmp 17),none,0⟩] none 0 []))))))) (.seq (.reg 0 [⟨(some 18),.mv (.tmp 3),none,0⟩,⟨(some 2),.mv (.tmp 18),none,0⟩] none 0 []) .ret))))
theorem gc167_ok:compF Tryz.prog Tryz.f167=some (gc167.er,19,[.tmp 2]):=by unfold gc167;kernel_rfl
theorem p_roster_contacts_v {u1:Bool} (a0:List ItemItem):CallsO Tryz.prog 167 [.sl (List.map ItemItem.v a0) u1] (fun l:List ByteArray=>V.sl (l.map V.s) false) (p_roster_contacts a0):=by
 refine callsO_comp mix Tryz.func167 gc167_ok fun r H=>?_
 rw [p_roster_contacts] at H
 conv=>whnf
 refine LenQ.M ?_;conv=>whnf
 obtain ⟨o2,HL3,HQ4⟩:=bind_c H
 refine loop_c [3,8] [5,9,10,11,12,13,14,15,16,17] [5,9,10,11,12,13,14,15,16,17] (fun n vals st=>(∃ y6,p_roster_contacts_l1  a0 (a0.length:Int) n [] y6=some o2∧vals=[.sl (List.map V.s []) true,.i y6]∧st=[])∨(∃ y10 y11,p_roster_contacts_l1  a0 (a0.length:Int) n y10 y11=some o2∧vals=[.osl 0 0 (List.length y10) 1 false,.i y11]∧st=[.live (cellsM V.s y10) (cellsM V.s y10).length])) fuel 0 [] (.inl (⟨_,HL3,rfl,rfl⟩)) (Nat.zero_le _) rfl (by kernel_rfl) (by kernel_rfl) rfl trivial ?_
 rintro (_ | n5) _ _ (⟨y6,H,rfl,rfl⟩ | ⟨y10,y11,H,rfl,rfl⟩)
 ·rw [p_roster_contacts_l1] at H;cases H
 ·rw [p_roster_contacts_l1] at H;cases H
 ·rw [p_roster_contacts_l1] at H
  conv=>whnf
  refine tst_d H (fun b7 H=>?_) (fun b7 H=>?_)
  ·conv=>whnf
   obtain rfl:=Option.some.inj H
   have H:=HQ4
   try dsimp only at H
   refine finR_c (enc:=(fun l:List ByteArray=>V.sl (l.map V.s) false)) H ?_;conv=>whnf
   exact ⟨_,.v (.c (.slw))⟩
  conv=>whnf
  refine ixs_c (f:=ItemItem.v) H (fun _=>rfl) (fun x8 H=>?_);conv=>whnf
  refine ⟨Nat.le_of_ble_eq_true rfl,?_⟩;conv=>whnf
  refine appN_c (f:=V.s) H (fun _=>rfl) (srcM (f:=V.s) (fun _=>rfl) [] true) rfl (.v (srcOwn (f:=V.s) (l:=[x8.Contact]) (fun _=>rfl) rfl rfl rfl)) (by decide) rfl (by simp) (fun l9 H=>?_);conv=>whnf
  refine Ari.w ?_;conv=>whnf
  exact again_c [5,9,10,11,12,13,14,15,16,17] n5 1 [2] (.inr (⟨_,_,H,rfl,rfl⟩)) (Nat.lt_succ_self _) (Nat.zero_le _) rfl (by kernel_rfl) (by kernel_rfl) rfl (wkB_live0 rfl (cellsM_idlt (f:=V.s) (fun _=>rfl) _) rfl trivial)
 rw [p_roster_contacts_l1] at H
 conv=>whnf
 refine tst_d H (fun b12 H=>?_) (fun b12 H=>?_)
 ·conv=>whnf
  obtain rfl:=Option.some.inj H
  have H:=HQ4
  try dsimp only at H
  refine finR_c (enc:=(fun l:List ByteArray=>V.sl (l.map V.s) false)) H ?_;conv=>whnf
  exact ⟨_,.v (.c (fzown (f:=V.s) (l:=y10) rfl rfl (fun _=>rfl) (fun _=>rfl)))⟩
 conv=>whnf
 refine ixs_c (f:=ItemItem.v) H (fun _=>rfl) (fun x13 H=>?_);conv=>whnf
 refine ⟨Nat.le_of_ble_eq_true rfl,?_⟩;conv=>whnf
 refine appO_c (f:=V.s) H (fun _=>rfl) rfl (Nat.le_refl _) (.v (srcOwn (f:=V.s) (l:=[x13.Contact]) (fun _=>rfl) rfl rfl rfl)) (by decide) rfl (by simp) (fun l14 H=>?_);conv=>whnf
 refine Ari.w ?_;conv=>whnf
 exact again_c [5,9,10,11,12,13,14,15,16,17] n5 1 [3] (.inr (⟨_,_,H,rfl,rfl⟩)) (Nat.lt_succ_self _) (Nat.zero_le _) rfl (by kernel_rfl) (by kernel_rfl) rfl (wkB_live0 rfl (cellsM_idlt (f:=V.s) (fun _=>rfl) _) rfl trivial)
def gc105:BCode:=(.seq (.reg 1 [⟨(some 1),.bx (.tmp 0),none,0⟩,⟨(some 2),.mv (.const (.slice none 0 0)),none,1⟩] none 0 []) (.seq (.reg 0 [⟨(some 3),.ld 4 true (.tmp 1),none,0⟩,⟨(some 4),.cl 140 [(.tmp 3),(.func 21)],none,0⟩,⟨(some 5),.cl 167 [(.tmp 4)],none,0⟩,⟨(some 2),.mv (.tmp 5),none,0⟩] none 0 []) .ret))
theorem gc105_ok:compF Tryz.prog Tryz.f105=some (gc105.er,6,[.tmp 2]):=by unfold gc105;kernel_rfl
theorem p_roster_Sees_v {u1 u2:Bool} (a0:RosterState):CallsO Tryz.prog 105 [.agg [.i a0.Ver,.i a0.Floor,.sl (List.map ItemItem.v a0.Items) u1,.sl (List.map RosterGone.v a0.Gone) u2]] (fun l:List ByteArray=>V.sl (l.map V.s) false) (p_roster_Sees a0):=by
 refine callsO_comp mix Tryz.func105 gc105_ok fun r H=>?_
 rw [p_roster_Sees] at H
 conv=>whnf
 refine askF_c (p_roster_State_some_v _ _ ⟨⟨_,Tryz.func21,by kernel_rfl,by kernel_rfl⟩,rfl,fun x0=>p_item_Sees_v _⟩) H (.cons (fzagg (.cons (.id rfl) (.cons (.id rfl) (.cons (.slw) (.cons (.slw) (.nil))))) rfl) (.cons (.c (.clo (.nil))) (.nil))) (fun v1 H=>?_);conv=>whnf
 refine ask_c (p_roster_contacts_v _) H rfl rfl (fun v2 H=>?_);conv=>whnf
 exact fin0_c (enc:=(fun l:List ByteArray=>V.sl (l.map V.s) false)) H (.inr rfl) (.cons (.tmp rfl) (.nil)) rfl rfl
def gc104:BCode:=(.seq (.reg 0 [⟨(some 4),.mv (.const (.bool false)),none,0⟩] none 0 []) (.seq (.seq (.reg 0 [⟨(some 6),.mv (.tmp 0),none,0⟩,⟨(some 7),.lens (.tmp 6),none,0⟩,⟨(some 8),.mv (.tmp 1),none,0⟩,⟨(some 9),.lens (.tmp 8),none,0⟩,⟨(some 10),.bin .neq (.tmp 7) (.tmp 9),none,0⟩] none 0 []) (.cond (.tmp 10) (.seq (.reg 0 [⟨(some 4),.mv (.const (.bool false)),none,0⟩] none 0 []) .ret) .skip)) (.seq (.seq (.reg 0 [⟨(some 5),.mv (.const (.int .i64 0)),none,0⟩] none 0 []) (.block 0 (.loop (.seq (.seq (.reg 0 [⟨(some 11),.mv (.tmp 5),none,0⟩,⟨(some 12),.mv (.tmp 0),none,0⟩,⟨(some 13),.lens (.tmp 12),none,0⟩,⟨(some 14),.bin .lss (.tmp 11) (.tmp 13),none,0⟩] none 0 []) (.cond (.tmp 14) .skip (.exit 0))) (.seq (.block 1 (.seq (.reg 0 [⟨(some 17),.mv (.tmp 0),none,0⟩,⟨(some 18),.mv (.tmp 5),none,0⟩,⟨(some 19),.ixs 1 (.tmp 17) (.tmp 18),none,0⟩,⟨(some 20),.ld 1 false (.tmp 19),none,0⟩,⟨(some 21),.mv (.tmp 1),none,0⟩,⟨(some 22),.mv (.tmp 5),none,0⟩,⟨(some 23),.ixs 1 (.tmp 21) (.tmp 22),none,0⟩,⟨(some 24),.ld 1 false (.tmp 23),none,0⟩,⟨(some 25),.bin .neq (.tmp 20) (.tmp 24),none,0⟩] (some [[],[],[1,0],[0,1,2],[],[],[5,4],[4,5,6],[6,5,4,7,2,1,0,3]]) 0 []) (.cond (.tmp 25) (.seq (.reg 0 [⟨(some 4),.mv (.const (.bool false)),none,0⟩] none 0 []) .ret) .skip))) (.reg 0 [⟨(some 15),.mv (.tmp 5),none,0⟩,⟨(some 16),.bin .add (.tmp 15) (.const (.int .i64 1)),none,0⟩,⟨(some 5),.mv (.tmp 16),none,0⟩] none 0 [])))))) (.seq (.reg 0 [⟨(some 4),.mv (.const (.bool true)),none,0⟩] none 0 []) .ret))))
theorem gc104_ok:compF Tryz.prog Tryz.f104=some (gc104.er,26,[.tmp 4]):=by unfold gc104;kernel_rfl
theorem p_ref01_SameTexts_v {u1 u2:Bool} (a0:List ByteArray) (a1:List ByteArray):CallsO Tryz.prog 104 [.sl (List.map V.s a0) u1,.sl (List.map V.s a1) u2] V.b (p_ref01_SameTexts a0 a1):=by
 refine callsO_comp mix Tryz.func104 gc104_ok fun r H=>?_
 rw [p_ref01_SameTexts] at H
 conv=>whnf
 iterate 2 (refine LenQ.M ?_;conv=>whnf)
 refine tst_c H (fun b1 H=>?_) (fun b1 H=>?_)
 ·conv=>whnf
  exact fb_ H
 conv=>whnf
 obtain ⟨o3,HL4,HQ5⟩:=bind_c H
 refine loop_c [4,5] [11,12,13,14,15,16,17,18,19,20,21,22,23,24,25] [11,12,13,14,15,16,17,18,19,20,21,22,23,24,25] (fun n vals st=>(∃ y7,p_ref01_SameTexts_l1  a0 a1 n y7=some o3∧vals=[.b false,.i y7]∧st=[])) fuel 0 [] (⟨_,HL4,rfl,rfl⟩) (Nat.zero_le _) rfl (by kernel_rfl) (by kernel_rfl) rfl trivial ?_
 rintro (_ | n6) _ _ (⟨y7,H,rfl,rfl⟩)
 ·rw [p_ref01_SameTexts_l1] at H;cases H
 rw [p_ref01_SameTexts_l1] at H
 conv=>whnf
 refine LenQ.M ?_;conv=>whnf
 refine tst_d H (fun b8 H=>?_) (fun b8 H=>?_)
 ·conv=>whnf
  obtain rfl:=Option.some.inj H
  have H:=HQ5
  try dsimp only at H
  exact fb_ H
 conv=>whnf
 refine ixs_c (f:=V.s) H (fun _=>rfl) (fun x9 H=>?_);conv=>whnf
 refine ixs_c (f:=V.s) H (fun _=>rfl) (fun x10 H=>?_);conv=>whnf
 refine FootQ.mk ⟨rfl,?_⟩;conv=>whnf
 refine Tst.not ?_
 refine tst_d H (fun b11 H=>?_) (fun b11 H=>?_)
 ·conv=>whnf
  obtain rfl:=Option.some.inj H
  have H:=HQ5
  try dsimp only at H
  exact fb_ H
 conv=>whnf
 refine Ari.w ?_;conv=>whnf
 exact again_c [11,12,13,14,15,16,17,18,19,20,21,22,23,24,25] n6 0 [] (⟨_,H,rfl,rfl⟩) (Nat.lt_succ_self _) (Nat.zero_le _) rfl (by kernel_rfl) (by kernel_rfl) rfl trivial
def gc106:BCode:=(.seq (.reg 1 [⟨(some 1),.bx (.tmp 0),none,0⟩,⟨(some 2),.mv (.const (.slice none 0 0)),none,1⟩] none 0 []) (.seq (.reg 0 [⟨(some 3),.ld 4 true (.tmp 1),none,0⟩,⟨(some 4),.cl 140 [(.tmp 3),(.func 23)],none,0⟩,⟨(some 5),.cl 167 [(.tmp 4)],none,0⟩,⟨(some 2),.mv (.tmp 5),none,0⟩] none 0 []) .ret))
theorem gc106_ok:compF Tryz.prog Tryz.f106=some (gc106.er,6,[.tmp 2]):=by unfold gc106;kernel_rfl
theorem p_roster_Seen_v {u1 u2:Bool} (a0:RosterState):CallsO Tryz.prog 106 [.agg [.i a0.Ver,.i a0.Floor,.sl (List.map ItemItem.v a0.Items) u1,.sl (List.map RosterGone.v a0.Gone) u2]] (fun l:List ByteArray=>V.sl (l.map V.s) false) (p_roster_Seen a0):=by
 refine callsO_comp mix Tryz.func106 gc106_ok fun r H=>?_
 rw [p_roster_Seen] at H
 conv=>whnf
 refine askF_c (p_roster_State_some_v _ _ ⟨⟨_,Tryz.func23,by kernel_rfl,by kernel_rfl⟩,rfl,fun x0=>p_item_Seen_v _⟩) H (.cons (fzagg (.cons (.id rfl) (.cons (.id rfl) (.cons (.slw) (.cons (.slw) (.nil))))) rfl) (.cons (.c (.clo (.nil))) (.nil))) (fun v1 H=>?_);conv=>whnf
 refine ask_c (p_roster_contacts_v _) H rfl rfl (fun v2 H=>?_);conv=>whnf
 exact fin0_c (enc:=(fun l:List ByteArray=>V.sl (l.map V.s) false)) H (.inr rfl) (.cons (.tmp rfl) (.nil)) rfl rfl
def gc138:BCode:=(.seq (.reg 0 [⟨(some 4),.mv (.const (.bool false)),none,0⟩] none 0 []) (.seq (.seq (.reg 0 [⟨(some 6),.mv (.tmp 0),none,0⟩,⟨(some 7),.lens (.tmp 6),none,0⟩,⟨(some 8),.mv (.tmp 1),none,0⟩,⟨(some 9),.lens (.tmp 8),none,0⟩,⟨(some 10),.bin .neq (.tmp 7) (.tmp 9),none,0⟩] none 0 []) (.cond (.tmp 10) (.seq (.reg 0 [⟨(some 4),.mv (.const (.bool false)),none,0⟩] none 0 []) .ret) .skip)) (.seq (.seq (.reg 0 [⟨(some 11),.mv (.tmp 0),none,0⟩,⟨(some 12),.lens (.tmp 11),none,0⟩,⟨(some 13),.mv (.const (.int .i64 0)),none,0⟩] none 0 []) (.block 0 (.loop (.seq (.reg 0 [⟨(some 14),.bin .lss (.tmp 13) (.tmp 12),none,0⟩] none 0 []) (.seq (.cond (.tmp 14) .skip (.exit 0)) (.seq (.block 1 (.seq (.reg 0 [⟨(some 15),.mv (.tmp 13),none,0⟩,⟨(some 5),.mv (.tmp 15),none,0⟩] none 0 []) (.seq (.reg 0 [⟨(some 16),.mv (.tmp 0),none,0⟩,⟨(some 17),.mv (.tmp 5),none,0⟩,⟨(some 18),.ixs 5 (.tmp 16) (.tmp 17),none,0⟩,⟨(some 19),.ld 5 true (.tmp 18),none,0⟩,⟨(some 20),.mv (.tmp 1),none,0⟩,⟨(some 21),.mv (.tmp 5),none,0⟩,⟨(some 22),.ixs 5 (.tmp 20) (.tmp 21),none,0⟩,⟨(some 23),.ld 5 true (.tmp 22),none,0⟩,⟨(some 24),.eqa true [2,2,1,1,0] (.tmp 19) (.tmp 23),none,0⟩] (some [[],[],[1,0],[0,1,2],[],[],[5,4],[4,5,6],[6,5,4,7,2,1,0,3]]) 0 []) (.cond (.tmp 24) (.seq (.reg 0 [⟨(some 4),.mv (.const (.bool false)),none,0⟩] none 0 []) .ret) .skip)))) (.reg 0 [⟨(some 25),.bin .add (.tmp 13) (.const (.int .i64 1)),none,0⟩,⟨(some 13),.mv (.tmp 25),none,0⟩] none 0 []))))))) (.seq (.reg 0 [⟨(some 4),.mv (.const (.bool true)),none,0⟩] none 0 []) .ret))))
theorem gc138_ok:compF Tryz.prog Tryz.f138=some (gc138.er,26,[.tmp 4]):=by unfold gc138;kernel_rfl
theorem p_slices_Equal_item_Item_v {u1 u2:Bool} (a0:List ItemItem) (a1:List ItemItem):CallsO Tryz.prog 138 [.sl (List.map ItemItem.v a0) u1,.sl (List.map ItemItem.v a1) u2] V.b (p_slices_Equal_item_Item a0 a1):=by
 refine callsO_comp mix Tryz.func138 gc138_ok fun r H=>?_
 rw [p_slices_Equal_item_Item] at H
 conv=>whnf
 iterate 2 (refine LenQ.M ?_;conv=>whnf)
 refine tst_c H (fun b1 H=>?_) (fun b1 H=>?_)
 ·conv=>whnf
  exact fb_ H
 conv=>whnf
 refine LenQ.M ?_;conv=>whnf
 obtain ⟨o3,HL4,HQ5⟩:=bind_c H
 refine loop_c [4,13] [5,14,15,16,17,18,19,20,21,22,23,24,25] [5,14,15,16,17,18,19,20,21,22,23,24,25] (fun n vals st=>(∃ y7,p_slices_Equal_item_Item_l1  a0 a1 (a0.length:Int) n y7=some o3∧vals=[.b false,.i y7]∧st=[])) fuel 0 [] (⟨_,HL4,rfl,rfl⟩) (Nat.zero_le _) rfl (by kernel_rfl) (by kernel_rfl) rfl trivial ?_
 rintro (_ | n6) _ _ (⟨y7,H,rfl,rfl⟩)
 ·rw [p_slices_Equal_item_Item_l1] at H;cases H
 rw [p_slices_Equal_item_Item_l1] at H
 conv=>whnf
 refine tst_d H (fun b8 H=>?_) (fun b8 H=>?_)
 ·conv=>whnf
  obtain rfl:=Option.some.inj H
  have H:=HQ5
  try dsimp only at H
  exact fb_ H
 conv=>whnf
 refine ixs_c (f:=ItemItem.v) H (fun _=>rfl) (fun x9 H=>?_);conv=>whnf
 refine ixs_c (f:=ItemItem.v) H (fun _=>rfl) (fun x10 H=>?_);conv=>whnf
 refine FootQ.mk ⟨rfl,?_⟩;conv=>whnf
 refine Tst.not ?_
 refine tst_d H (fun b11 H=>?_) (fun b11 H=>?_)
 ·conv=>whnf
  obtain rfl:=Option.some.inj H
  have H:=HQ5
  try dsimp only at H
  exact fb_ H
 conv=>whnf
 refine Ari.w ?_;conv=>whnf
 exact again_c [5,14,15,16,17,18,19,20,21,22,23,24,25] n6 0 [] (⟨_,H,rfl,rfl⟩) (Nat.lt_succ_self _) (Nat.zero_le _) rfl (by kernel_rfl) (by kernel_rfl) rfl trivial
end Go.Proofs.YtpmoioopjbfhkaaGreat

/- That the program's functions yield what the plain ones tell (written by a program of mine). -/
namespace Go.Proofs.YtpmoioopjbfhkaaGreat
open Go.RowKit
set_option maxRecDepth 100000
set_option maxHeartbeats 4000000
def gc139:BCode:=(.seq (.reg 0 [⟨(some 4),.mv (.const (.bool false)),none,0⟩] none 0 []) (.seq (.seq (.reg 0 [⟨(some 6),.mv (.tmp 0),none,0⟩,⟨(some 7),.lens (.tmp 6),none,0⟩,⟨(some 8),.mv (.tmp 1),none,0⟩,⟨(some 9),.lens (.tmp 8),none,0⟩,⟨(some 10),.bin .neq (.tmp 7) (.tmp 9),none,0⟩] none 0 []) (.cond (.tmp 10) (.seq (.reg 0 [⟨(some 4),.mv (.const (.bool false)),none,0⟩] none 0 []) .ret) .skip)) (.seq (.seq (.reg 0 [⟨(some 11),.mv (.tmp 0),none,0⟩,⟨(some 12),.lens (.tmp 11),none,0⟩,⟨(some 13),.mv (.const (.int .i64 0)),none,0⟩] none 0 []) (.block 0 (.loop (.seq (.reg 0 [⟨(some 14),.bin .lss (.tmp 13) (.tmp 12),none,0⟩] none 0 []) (.seq (.cond (.tmp 14) .skip (.exit 0)) (.seq (.block 1 (.seq (.reg 0 [⟨(some 15),.mv (.tmp 13),none,0⟩,⟨(some 5),.mv (.tmp 15),none,0⟩] none 0 []) (.seq (.reg 0 [⟨(some 16),.mv (.tmp 0),none,0⟩,⟨(some 17),.mv (.tmp 5),none,0⟩,⟨(some 18),.ixs 2 (.tmp 16) (.tmp 17),none,0⟩,⟨(some 19),.ld 2 true (.tmp 18),none,0⟩,⟨(some 20),.mv (.tmp 1),none,0⟩,⟨(some 21),.mv (.tmp 5),none,0⟩,⟨(some 22),.ixs 2 (.tmp 20) (.tmp 21),none,0⟩,⟨(some 23),.ld 2 true (.tmp 22),none,0⟩,⟨(some 24),.eqa true [2,1] (.tmp 19) (.tmp 23),none,0⟩] (some [[],[],[1,0],[0,1,2],[],[],[5,4],[4,5,6],[6,5,4,7,2,1,0,3]]) 0 []) (.cond (.tmp 24) (.seq (.reg 0 [⟨(some 4),.mv (.const (.bool false)),none,0⟩] none 0 []) .ret) .skip)))) (.reg 0 [⟨(some 25),.bin .add (.tmp 13) (.const (.int .i64 1)),none,0⟩,⟨(some 13),.mv (.tmp 25),none,0⟩] none 0 []))))))) (.seq (.reg 0 [⟨(some 4),.mv (.const (.bool true)),none,0⟩] none 0 []) .ret))))
theorem gc139_ok:compF Tryz.prog Tryz.f139=some (gc139.er,26,[.tmp 4]):=by unfold gc139;kernel_rfl
theorem p_slices_Equal_roster_Gone_v {u1 u2:Bool} (a0:List RosterGone) (a1:List RosterGone):CallsO Tryz.prog 139 [.sl (List.map RosterGone.v a0) u1,.sl (List.map RosterGone.v a1) u2] V.b (p_slices_Equal_roster_Gone a0 a1):=by
 refine callsO_comp mix Tryz.func139 gc139_ok fun r H=>?_
 rw [p_slices_Equal_roster_Gone] at H
 conv=>whnf
 iterate 2 (refine LenQ.M ?_;conv=>whnf)
 refine tst_c H (fun b1 H=>?_) (fun b1 H=>?_)
 ·conv=>whnf
  exact fb_ H
 conv=>whnf
 refine LenQ.M ?_;conv=>whnf
 obtain ⟨o3,HL4,HQ5⟩:=bind_c H
 refine loop_c [4,13] [5,14,15,16,17,18,19,20,21,22,23,24,25] [5,14,15,16,17,18,19,20,21,22,23,24,25] (fun n vals st=>(∃ y7,p_slices_Equal_roster_Gone_l1  a0 a1 (a0.length:Int) n y7=some o3∧vals=[.b false,.i y7]∧st=[])) fuel 0 [] (⟨_,HL4,rfl,rfl⟩) (Nat.zero_le _) rfl (by kernel_rfl) (by kernel_rfl) rfl trivial ?_
 rintro (_ | n6) _ _ (⟨y7,H,rfl,rfl⟩)
 ·rw [p_slices_Equal_roster_Gone_l1] at H;cases H
 rw [p_slices_Equal_roster_Gone_l1] at H
 conv=>whnf
 refine tst_d H (fun b8 H=>?_) (fun b8 H=>?_)
 ·conv=>whnf
  obtain rfl:=Option.some.inj H
  have H:=HQ5
  try dsimp only at H
  exact fb_ H
 conv=>whnf
 refine ixs_c (f:=RosterGone.v) H (fun _=>rfl) (fun x9 H=>?_);conv=>whnf
 refine ixs_c (f:=RosterGone.v) H (fun _=>rfl) (fun x10 H=>?_);conv=>whnf
 refine FootQ.mk ⟨rfl,?_⟩;conv=>whnf
 refine Tst.not ?_
 refine tst_d H (fun b11 H=>?_) (fun b11 H=>?_)
 ·conv=>whnf
  obtain rfl:=Option.some.inj H
  have H:=HQ5
  try dsimp only at H
  exact fb_ H
 conv=>whnf
 refine Ari.w ?_;conv=>whnf
 exact again_c [5,14,15,16,17,18,19,20,21,22,23,24,25] n6 0 [] (⟨_,H,rfl,rfl⟩) (Nat.lt_succ_self _) (Nat.zero_le _) rfl (by kernel_rfl) (by kernel_rfl) rfl trivial
def gc74:BCode:=(.seq (.reg 2 [⟨(some 2),.bx (.tmp 0),none,0⟩,⟨(some 3),.bx (.tmp 1),none,1⟩,⟨(some 4),.mv (.const (.bool false)),none,2⟩] none 0 []) (.seq (.reg 0 [⟨(some 5),.fa 0 (.tmp 2),none,0⟩,⟨(some 6),.ld 1 false (.tmp 5),none,0⟩,⟨(some 7),.fa 0 (.tmp 3),none,0⟩,⟨(some 8),.ld 1 false (.tmp 7),none,0⟩,⟨(some 9),.bin .eql (.tmp 6) (.tmp 8),none,0⟩,⟨(some 10),.mv (.tmp 9),none,0⟩,⟨(some 11),.fa 1 (.tmp 2),(some (10,true)),0⟩,⟨(some 12),.ld 1 false (.tmp 11),(some (10,true)),0⟩,⟨(some 13),.fa 1 (.tmp 3),(some (10,true)),0⟩,⟨(some 14),.ld 1 false (.tmp 13),(some (10,true)),0⟩,⟨(some 15),.bin .eql (.tmp 12) (.tmp 14),(some (10,true)),0⟩,⟨(some 16),.pick (.tmp 10) (.tmp 15) (.const (.bool false)),none,0⟩,⟨(some 17),.mv (.tmp 16),none,0⟩,⟨(some 18),.fa 2 (.tmp 2),(some (17,true)),0⟩,⟨(some 19),.ld 1 false (.tmp 18),(some (17,true)),0⟩,⟨(some 20),.fa 2 (.tmp 3),(some (17,true)),0⟩,⟨(some 21),.ld 1 false (.tmp 20),(some (17,true)),0⟩,⟨(some 22),.cl 138 [(.tmp 19),(.tmp 21)],(some (17,true)),0⟩,⟨(some 23),.pick (.tmp 17) (.tmp 22) (.const (.bool false)),none,0⟩,⟨(some 24),.mv (.tmp 23),none,0⟩,⟨(some 25),.fa 3 (.tmp 2),(some (24,true)),0⟩,⟨(some 26),.ld 1 false (.tmp 25),(some (24,true)),0⟩,⟨(some 27),.fa 3 (.tmp 3),(some (24,true)),0⟩,⟨(some 28),.ld 1 false (.tmp 27),(some (24,true)),0⟩,⟨(some 29),.cl 139 [(.tmp 26),(.tmp 28)],(some (24,true)),0⟩,⟨(some 30),.pick (.tmp 24) (.tmp 29) (.const (.bool false)),none,0⟩,⟨(some 4),.mv (.tmp 30),none,0⟩] none 0 []) .ret))
theorem gc74_ok:compF Tryz.prog Tryz.f74=some (gc74.er,31,[.tmp 4]):=by unfold gc74;kernel_rfl
theorem p_roster_Same_v {u1 u2 u3 u4:Bool} (a0:RosterState) (a1:RosterState):CallsO Tryz.prog 74 [.agg [.i a0.Ver,.i a0.Floor,.sl (List.map ItemItem.v a0.Items) u1,.sl (List.map RosterGone.v a0.Gone) u2],.agg [.i a1.Ver,.i a1.Floor,.sl (List.map ItemItem.v a1.Items) u3,.sl (List.map RosterGone.v a1.Gone) u4]] V.b (p_roster_Same a0 a1):=by
 refine callsO_comp mix Tryz.func74 gc74_ok fun r H=>?_
 rw [p_roster_Same] at H
 conv=>whnf
 refine tst_d H (fun b1 H=>?_) (fun b1 H=>?_)
 ·conv=>whnf
  iterate 17 (refine Tst.F ?_;conv=>whnf)
  exact fb_ H
 conv=>whnf
 iterate 5 (refine Tst.T ?_;conv=>whnf)
 refine tst_d H (fun b2 H=>?_) (fun b2 H=>?_)
 ·conv=>whnf
  iterate 11 (refine Tst.F ?_;conv=>whnf)
  exact fb_ H
 conv=>whnf
 iterate 4 (refine Tst.T ?_;conv=>whnf)
 refine ask_c (p_slices_Equal_item_Item_v _ _) H rfl rfl (fun v3 H=>?_);conv=>whnf
 refine Tst.T ?_;conv=>whnf
 refine tst_d H (fun b4 H=>?_) (fun b4 H=>?_)
 ·conv=>whnf
  iterate 5 (refine Tst.F ?_;conv=>whnf)
  exact fb_ H
 conv=>whnf
 iterate 4 (refine Tst.T ?_;conv=>whnf)
 refine ask_c (p_slices_Equal_roster_Gone_v _ _) H rfl rfl (fun v5 H=>?_);conv=>whnf
 refine Tst.T ?_;conv=>whnf
 exact fb_ H
end Go.Proofs.YtpmoioopjbfhkaaGreat

