/- A part of the proof: 6 texts joined. -/
import Derived.Test.YtpmoioopjbfhkaaGreatWeA8
import Derived.Test.YtpmoioopjbfhkaaGreatWeA10
import Derived.Test.YtpmoioopjbfhkaaGreatWeA11
import Derived.Test.YtpmoioopjbfhkaaGreatWeA12
import Derived.Test.YtpmoioopjbfhkaaGreatWeA13
import Derived.Test.YtpmoioopjbfhkaaGreatWeA14
import Derived.Test.YtpmoioopjbfhkaaGreatWeA5
import Derived.KernelRfl
import Derived.Test.YtpmoioopjbfhkaaGreatWeA9
import Derived.Test.YtpmoioopjbfhkaaGreatWeA6
import Derived.Test.YtpmoioopjbfhkaaGreatWeA7
set_option linter.all false
namespace Go.Proofs.YtpmoioopjbfhkaaGreat
open Go.RowKit
set_option maxRecDepth 100000
set_option maxHeartbeats 4000000
def gc43:BCode:=(.seq (R_ 2 [O_ 2 (.bx (t_ 0)) 0,O_ 4 (.al (.agg [(.lit (.int .i64 0)),(.lit (.int .i64 0)),(.sl [] true),(.sl [] true)])) 1,O_ 5 (.mv (i_ 0)) 2]) (.seq (.reg 1 [O_ 11 (.ld 4 true (t_ 2)) 0,O_ 12 (.cl 107 [(t_ 11)]) 0,O_ 6 (.al (.agg [(.lit (.int .i64 0)),(.lit (.int .i64 0)),(.sl [] true),(.sl [] true)])) 0,U_ (.st 4 (t_ 6) (t_ 12)) 1] none 2 []) (.seq (.seq (R_ 0 [O_ 13 (.ld 4 true (t_ 2)) 0,O_ 14 (.cl 77 [(t_ 13)]) 0,O_ 7 (.mv (t_ 14)) 0]) (.seq (R_ 0 [O_ 15 (.mv (t_ 7)) 0,O_ 16 (.bin .neq (t_ 15) (i_ 0)) 0]) (.cond (t_ 16) (.seq (R_ 0 [O_ 17 (.ld 4 true (t_ 6)) 0,O_ 18 (.mv (t_ 7)) 0,U_ (.st 4 (t_ 4) (t_ 17)) 0,O_ 5 (.mv (t_ 18)) 0]) .ret) .skip))) (.seq (.seq (R_ 0 [O_ 20 (.ld 4 true (t_ 2)) 0,O_ 21 (.mv (t_ 1)) 0,O_ 22 (.cl 113 [(t_ 20),(t_ 21)]) 0,O_ 19 (.mv (t_ 22)) 0,O_ 23 (.ex (t_ 19) 0) 0,O_ 24 (.ex (t_ 19) 1) 0,O_ 8 (.mv (t_ 23)) 0,O_ 9 (.mv (t_ 24)) 0]) (.seq (R_ 0 [O_ 25 (.mv (t_ 9)) 0,O_ 26 (.un .not (t_ 25)) 0]) (.cond (t_ 26) (.seq (R_ 0 [O_ 27 (.ld 4 true (t_ 6)) 0,U_ (.st 4 (t_ 4) (t_ 27)) 0,O_ 5 (.mv (i_ 6)) 0]) .ret) .skip))) (.join (.seq (R_ 0 [O_ 28 (.ld 4 true (t_ 2)) 0,O_ 29 (.cl 108 [(t_ 28),(b_ true),(b_ false)]) 0,O_ 10 (.mv (t_ 29)) 0]) (.seq (R_ 0 [O_ 30 (.mv (t_ 10)) 0,O_ 31 (.bin .neq (t_ 30) (i_ 0)) 0]) (.cond (t_ 31) (.seq (R_ 0 [O_ 32 (.ld 4 true (t_ 6)) 0,O_ 33 (.mv (t_ 10)) 0,U_ (.st 4 (t_ 4) (t_ 32)) 0,O_ 5 (.mv (t_ 33)) 0]) .ret) .skip))) (.seq (R_ 0 [O_ 34 (.ld 4 true (t_ 6)) 0,O_ 35 (.mv (t_ 1)) 0,O_ 36 (.bd [(.lit (.string ⟨#[]⟩)),(.lit (.string ⟨#[]⟩)),(.lit (.int .i64 0)),(.lit (.int .i64 0)),(.lit (.bool false))] [(0,1,(t_ 35))]) 0,O_ 37 (.cl 109 [(t_ 34),(t_ 36)]) 0,U_ (.st 4 (t_ 4) (t_ 37)) 0,O_ 5 (.mv (i_ 0)) 0]) .ret))))))
theorem gc43_ok:compF Tryz.prog Tryz.f43=some (gc43.er,38,[.cell 4 4 true,.tmp 5]):=by unfold gc43;kernel_rfl
theorem p_roster_Drop_v {u1 u2:Bool} (a0:RosterState) (a1:ByteArray):CallsO Tryz.prog 43 [.agg [.i a0.Ver,.i a0.Floor,.sl (List.map ItemItem.v a0.Items) u1,.sl (List.map RosterGone.v a0.Gone) u2],.s a1] (fun r:RosterState × Int=>.tup [RosterState.v r.1,V.i r.2]) (p_roster_Drop a0 a1):=by
 refine callsO_comp mix Tryz.func43 gc43_ok fun r H=>?_
 rw [p_roster_Drop] at H
 conv=>whnf
 refine p_roster_State_own_c (i:=3) (j:=4) H (by decide) rfl rfl (fun H=>?_) (fun G H=>?_) (fun I H=>?_) (fun I G H=>?_)
 ·try dsimp only at H
  conv=>whnf
  refine lq_ ?_;conv=>whnf
  refine ask_c (p_roster_Check_v _) H rfl rfl (fun v1 H=>?_);conv=>whnf
  refine tst_c H (fun b2 H=>?_) (fun b2 H=>?_)
  ·conv=>whnf
   refine lq_ ?_;conv=>whnf
   refine finR_c (enc:=(fun r:RosterState × Int=>.tup [RosterState.v r.1,V.i r.2])) H ?_;conv=>whnf
   exact ⟨_,.tup (.cons (fzagg (.cons (.id rfl) (.cons (.id rfl) (.cons (.slw) (.cons (.slw) (.nil))))) rfl) (.cons (.c (.id rfl)) (.nil)))⟩
  conv=>whnf
  refine ask_c (p_roster_State_find_v _ _) H rfl rfl (fun v3 H=>?_);conv=>whnf
  refine Tst.not ?_
  refine tst_d H (fun b4 H=>?_) (fun b4 H=>?_)
  ·conv=>whnf
   refine lq_ ?_;conv=>whnf
   refine finR_c (enc:=(fun r:RosterState × Int=>.tup [RosterState.v r.1,V.i r.2])) H ?_;conv=>whnf
   exact ⟨_,.tup (.cons (fzagg (.cons (.id rfl) (.cons (.id rfl) (.cons (.slw) (.cons (.slw) (.nil))))) rfl) (.cons (.c (.id rfl)) (.nil)))⟩
  conv=>whnf
  obtain ⟨K5,hK6,o7,HL8,HQ9⟩:=join0_c H
  refine join_c [5,4,6] [10,28,29,30,31,32,33,2] (fun vals st=>(K5 (.inr ())=some r∧vals=[.i (0:Int),.ptr 0 0,.ptr 1 0]∧st=[.live [.i (0:Int),.i (0:Int),.sl (List.map ItemItem.v []) true,.sl (List.map RosterGone.v []) true] 0,.live [.i a0.Ver,.i a0.Floor,.sl (List.map ItemItem.v []) true,.sl (List.map RosterGone.v []) true] 0,.dead,.dead,.dead])) ?_ ?_
  ·have H:=HL8
   conv=>whnf
   refine ask_c (p_roster_State_may_v _ _ _) H rfl rfl (fun v11 H=>?_);conv=>whnf
   refine tst_d H (fun b12 H=>?_) (fun b12 H=>?_)
   ·conv=>whnf
    obtain rfl:=Option.some.inj H
    exact arrive_c [10,28,29,30,31,32,33,2] 5 [1,2,0,0,0] (⟨HQ9,rfl,rfl⟩) (Nat.zero_le _) rfl (by kernel_rfl) (by kernel_rfl) rfl ⟨⟨rfl,rfl,rfl⟩,⟨⟨rfl,rfl,rfl⟩,trivial⟩⟩
   conv=>whnf
   refine lq_ ?_;conv=>whnf
   obtain rfl:=Option.some.inj H
   have H:=HQ9
   rw [hK6] at H
   try dsimp only at H
   refine finR_c (enc:=(fun r:RosterState × Int=>.tup [RosterState.v r.1,V.i r.2])) H ?_;conv=>whnf
   exact ⟨_,.tup (.cons (fzagg (.cons (.id rfl) (.cons (.id rfl) (.cons (.slw) (.cons (.slw) (.nil))))) rfl) (.cons (.c (.id rfl)) (.nil)))⟩
  rintro _ _ (⟨H,rfl,rfl⟩)
  rw [hK6] at H
  try dsimp only at H
  conv=>whnf
  refine askW_c (fun s hs=>p_roster_State_change_nn _ _ _ rfl rfl rfl s hs) H rfl rfl rfl (fun v13 H=>?_);conv=>whnf
  refine lq_ ?_;conv=>whnf
  exact fin0_c (enc:=(fun r:RosterState × Int=>.tup [RosterState.v r.1,V.i r.2])) H (.inr rfl) (.cons (.cell rfl rfl (Nat.le_of_ble_eq_true rfl)) (.cons (.tmp rfl) (.nil))) rfl rfl
 ·try dsimp only at H
  conv=>whnf
  refine lq_ ?_;conv=>whnf
  refine ask_c (p_roster_Check_v _) H rfl rfl (fun v14 H=>?_);conv=>whnf
  refine tst_c H (fun b15 H=>?_) (fun b15 H=>?_)
  ·conv=>whnf
   refine lq_ ?_;conv=>whnf
   refine finRz_c (enc:=(fun r:RosterState × Int=>.tup [RosterState.v r.1,V.i r.2])) [4] H ?_;conv=>whnf
   refine ⟨Nat.zero_le _,?_⟩;conv=>whnf
   exact ⟨_,.tup (.cons (fzagg (.cons (.id rfl) (.cons (.id rfl) (.cons (.slw) (.cons (fzown (f:=RosterGone.v) (l:=G) rfl rfl (fun _=>rfl) (fun _=>rfl)) (.nil))))) rfl) (.cons (.c (.id rfl)) (.nil)))⟩
  conv=>whnf
  refine ask_c (p_roster_State_find_v _ _) H rfl rfl (fun v16 H=>?_);conv=>whnf
  refine Tst.not ?_
  refine tst_d H (fun b17 H=>?_) (fun b17 H=>?_)
  ·conv=>whnf
   refine lq_ ?_;conv=>whnf
   refine finRz_c (enc:=(fun r:RosterState × Int=>.tup [RosterState.v r.1,V.i r.2])) [4] H ?_;conv=>whnf
   refine ⟨Nat.zero_le _,?_⟩;conv=>whnf
   exact ⟨_,.tup (.cons (fzagg (.cons (.id rfl) (.cons (.id rfl) (.cons (.slw) (.cons (fzown (f:=RosterGone.v) (l:=G) rfl rfl (fun _=>rfl) (fun _=>rfl)) (.nil))))) rfl) (.cons (.c (.id rfl)) (.nil)))⟩
  conv=>whnf
  obtain ⟨K18,hK19,o20,HL21,HQ22⟩:=join0_c H
  refine join_c [5,4,6] [10,28,29,30,31,32,33,2,12] (fun vals st=>(K18 (.inr ())=some r∧vals=[.i (0:Int),.ptr 0 0,.ptr 1 0]∧st=[.live [.i (0:Int),.i (0:Int),.sl (List.map ItemItem.v []) true,.sl (List.map RosterGone.v []) true] 0,.live [.i a0.Ver,.i a0.Floor,.sl (List.map ItemItem.v []) true,.osl 3 0 (List.length G) 2 false] 0,.dead,.live (cellsM RosterGone.v G) 0,.dead])) ?_ ?_
  ·have H:=HL21
   conv=>whnf
   refine ask_c (p_roster_State_may_v _ _ _) H rfl rfl (fun v24 H=>?_);conv=>whnf
   refine tst_d H (fun b25 H=>?_) (fun b25 H=>?_)
   ·conv=>whnf
    obtain rfl:=Option.some.inj H
    exact arrive_c [10,28,29,30,31,32,33,2,12] 5 [1,2,0,4,0] (⟨HQ22,rfl,rfl⟩) (Nat.zero_le _) rfl (by kernel_rfl) (by kernel_rfl) rfl ⟨⟨rfl,rfl,rfl⟩,⟨⟨rfl,rfl,rfl⟩,wkB_live0 rfl (cellsM_idlt (f:=RosterGone.v) (fun _=>rfl) _) rfl trivial⟩⟩
   conv=>whnf
   refine lq_ ?_;conv=>whnf
   obtain rfl:=Option.some.inj H
   have H:=HQ22
   rw [hK19] at H
   try dsimp only at H
   refine finRz_c (enc:=(fun r:RosterState × Int=>.tup [RosterState.v r.1,V.i r.2])) [4] H ?_;conv=>whnf
   refine ⟨Nat.zero_le _,?_⟩;conv=>whnf
   exact ⟨_,.tup (.cons (fzagg (.cons (.id rfl) (.cons (.id rfl) (.cons (.slw) (.cons (fzown (f:=RosterGone.v) (l:=G) rfl rfl (fun _=>rfl) (fun _=>rfl)) (.nil))))) rfl) (.cons (.c (.id rfl)) (.nil)))⟩
  rintro _ _ (⟨H,rfl,rfl⟩)
  rw [hK19] at H
  try dsimp only at H
  conv=>whnf
  refine askW_c (fun s hs=>p_roster_State_change_no _ _ _ _ rfl rfl rfl s hs) H rfl rfl rfl (fun v26 H=>?_);conv=>whnf
  refine lq_ ?_;conv=>whnf
  exact fin0_c (enc:=(fun r:RosterState × Int=>.tup [RosterState.v r.1,V.i r.2])) H (.inr rfl) (.cons (.cell rfl rfl (Nat.le_of_ble_eq_true rfl)) (.cons (.tmp rfl) (.nil))) rfl rfl
 ·try dsimp only at H
  conv=>whnf
  refine lq_ ?_;conv=>whnf
  refine ask_c (p_roster_Check_v _) H rfl rfl (fun v27 H=>?_);conv=>whnf
  refine tst_c H (fun b28 H=>?_) (fun b28 H=>?_)
  ·conv=>whnf
   refine lq_ ?_;conv=>whnf
   refine finRz_c (enc:=(fun r:RosterState × Int=>.tup [RosterState.v r.1,V.i r.2])) [3] H ?_;conv=>whnf
   refine ⟨Nat.zero_le _,?_⟩;conv=>whnf
   exact ⟨_,.tup (.cons (fzagg (.cons (.id rfl) (.cons (.id rfl) (.cons (fzown (f:=ItemItem.v) (l:=I) rfl rfl (fun _=>rfl) (fun _=>rfl)) (.cons (.slw) (.nil))))) rfl) (.cons (.c (.id rfl)) (.nil)))⟩
  conv=>whnf
  refine ask_c (p_roster_State_find_v _ _) H rfl rfl (fun v29 H=>?_);conv=>whnf
  refine Tst.not ?_
  refine tst_d H (fun b30 H=>?_) (fun b30 H=>?_)
  ·conv=>whnf
   refine lq_ ?_;conv=>whnf
   refine finRz_c (enc:=(fun r:RosterState × Int=>.tup [RosterState.v r.1,V.i r.2])) [3] H ?_;conv=>whnf
   refine ⟨Nat.zero_le _,?_⟩;conv=>whnf
   exact ⟨_,.tup (.cons (fzagg (.cons (.id rfl) (.cons (.id rfl) (.cons (fzown (f:=ItemItem.v) (l:=I) rfl rfl (fun _=>rfl) (fun _=>rfl)) (.cons (.slw) (.nil))))) rfl) (.cons (.c (.id rfl)) (.nil)))⟩
  conv=>whnf
  obtain ⟨K31,hK32,o33,HL34,HQ35⟩:=join0_c H
  refine join_c [5,4,6] [10,28,29,30,31,32,33,2,12] (fun vals st=>(K31 (.inr ())=some r∧vals=[.i (0:Int),.ptr 0 0,.ptr 1 0]∧st=[.live [.i (0:Int),.i (0:Int),.sl (List.map ItemItem.v []) true,.sl (List.map RosterGone.v []) true] 0,.live [.i a0.Ver,.i a0.Floor,.osl 2 0 (List.length I) 5 false,.sl (List.map RosterGone.v []) true] 0,.live (cellsM ItemItem.v I) 0,.dead,.dead])) ?_ ?_
  ·have H:=HL34
   conv=>whnf
   refine ask_c (p_roster_State_may_v _ _ _) H rfl rfl (fun v37 H=>?_);conv=>whnf
   refine tst_d H (fun b38 H=>?_) (fun b38 H=>?_)
   ·conv=>whnf
    obtain rfl:=Option.some.inj H
    exact arrive_c [10,28,29,30,31,32,33,2,12] 5 [1,2,3,0,0] (⟨HQ35,rfl,rfl⟩) (Nat.zero_le _) rfl (by kernel_rfl) (by kernel_rfl) rfl ⟨⟨rfl,rfl,rfl⟩,⟨⟨rfl,rfl,rfl⟩,wkB_live0 rfl (cellsM_idlt (f:=ItemItem.v) (fun _=>rfl) _) rfl trivial⟩⟩
   conv=>whnf
   refine lq_ ?_;conv=>whnf
   obtain rfl:=Option.some.inj H
   have H:=HQ35
   rw [hK32] at H
   try dsimp only at H
   refine finRz_c (enc:=(fun r:RosterState × Int=>.tup [RosterState.v r.1,V.i r.2])) [3] H ?_;conv=>whnf
   refine ⟨Nat.zero_le _,?_⟩;conv=>whnf
   exact ⟨_,.tup (.cons (fzagg (.cons (.id rfl) (.cons (.id rfl) (.cons (fzown (f:=ItemItem.v) (l:=I) rfl rfl (fun _=>rfl) (fun _=>rfl)) (.cons (.slw) (.nil))))) rfl) (.cons (.c (.id rfl)) (.nil)))⟩
  rintro _ _ (⟨H,rfl,rfl⟩)
  rw [hK32] at H
  try dsimp only at H
  conv=>whnf
  refine askW_c (fun s hs=>p_roster_State_change_on _ _ _ _ rfl rfl rfl s hs) H rfl rfl rfl (fun v39 H=>?_);conv=>whnf
  refine lq_ ?_;conv=>whnf
  exact fin0_c (enc:=(fun r:RosterState × Int=>.tup [RosterState.v r.1,V.i r.2])) H (.inr rfl) (.cons (.cell rfl rfl (Nat.le_of_ble_eq_true rfl)) (.cons (.tmp rfl) (.nil))) rfl rfl
 try dsimp only at H
 conv=>whnf
 refine lq_ ?_;conv=>whnf
 refine ask_c (p_roster_Check_v _) H rfl rfl (fun v40 H=>?_);conv=>whnf
 refine tst_c H (fun b41 H=>?_) (fun b41 H=>?_)
 ·conv=>whnf
  refine lq_ ?_;conv=>whnf
  refine finRz_c (enc:=(fun r:RosterState × Int=>.tup [RosterState.v r.1,V.i r.2])) [3,4] H ?_;conv=>whnf
  refine ⟨Nat.zero_le _,?_⟩;conv=>whnf
  refine ⟨Nat.zero_le _,?_⟩;conv=>whnf
  exact ⟨_,.tup (.cons (fzagg (.cons (.id rfl) (.cons (.id rfl) (.cons (fzown (f:=ItemItem.v) (l:=I) rfl rfl (fun _=>rfl) (fun _=>rfl)) (.cons (fzown (f:=RosterGone.v) (l:=G) rfl rfl (fun _=>rfl) (fun _=>rfl)) (.nil))))) rfl) (.cons (.c (.id rfl)) (.nil)))⟩
 conv=>whnf
 refine ask_c (p_roster_State_find_v _ _) H rfl rfl (fun v42 H=>?_);conv=>whnf
 refine Tst.not ?_
 refine tst_d H (fun b43 H=>?_) (fun b43 H=>?_)
 ·conv=>whnf
  refine lq_ ?_;conv=>whnf
  refine finRz_c (enc:=(fun r:RosterState × Int=>.tup [RosterState.v r.1,V.i r.2])) [3,4] H ?_;conv=>whnf
  refine ⟨Nat.zero_le _,?_⟩;conv=>whnf
  refine ⟨Nat.zero_le _,?_⟩;conv=>whnf
  exact ⟨_,.tup (.cons (fzagg (.cons (.id rfl) (.cons (.id rfl) (.cons (fzown (f:=ItemItem.v) (l:=I) rfl rfl (fun _=>rfl) (fun _=>rfl)) (.cons (fzown (f:=RosterGone.v) (l:=G) rfl rfl (fun _=>rfl) (fun _=>rfl)) (.nil))))) rfl) (.cons (.c (.id rfl)) (.nil)))⟩
 conv=>whnf
 obtain ⟨K44,hK45,o46,HL47,HQ48⟩:=join0_c H
 refine join_c [5,4,6] [10,28,29,30,31,32,33,2,12] (fun vals st=>(K44 (.inr ())=some r∧vals=[.i (0:Int),.ptr 0 0,.ptr 1 0]∧st=[.live [.i (0:Int),.i (0:Int),.sl (List.map ItemItem.v []) true,.sl (List.map RosterGone.v []) true] 0,.live [.i a0.Ver,.i a0.Floor,.osl 2 0 (List.length I) 5 false,.osl 3 0 (List.length G) 2 false] 0,.live (cellsM ItemItem.v I) 0,.live (cellsM RosterGone.v G) 0,.dead])) ?_ ?_
 ·have H:=HL47
  conv=>whnf
  refine ask_c (p_roster_State_may_v _ _ _) H rfl rfl (fun v50 H=>?_);conv=>whnf
  refine tst_d H (fun b51 H=>?_) (fun b51 H=>?_)
  ·conv=>whnf
   obtain rfl:=Option.some.inj H
   exact arrive_c [10,28,29,30,31,32,33,2,12] 5 [1,2,3,4,0] (⟨HQ48,rfl,rfl⟩) (Nat.zero_le _) rfl (by kernel_rfl) (by kernel_rfl) rfl ⟨⟨rfl,rfl,rfl⟩,⟨⟨rfl,rfl,rfl⟩,wkB_live0 rfl (cellsM_idlt (f:=ItemItem.v) (fun _=>rfl) _) rfl (wkB_live0 rfl (cellsM_idlt (f:=RosterGone.v) (fun _=>rfl) _) rfl trivial)⟩⟩
  conv=>whnf
  refine lq_ ?_;conv=>whnf
  obtain rfl:=Option.some.inj H
  have H:=HQ48
  rw [hK45] at H
  try dsimp only at H
  refine finRz_c (enc:=(fun r:RosterState × Int=>.tup [RosterState.v r.1,V.i r.2])) [3,4] H ?_;conv=>whnf
  refine ⟨Nat.zero_le _,?_⟩;conv=>whnf
  refine ⟨Nat.zero_le _,?_⟩;conv=>whnf
  exact ⟨_,.tup (.cons (fzagg (.cons (.id rfl) (.cons (.id rfl) (.cons (fzown (f:=ItemItem.v) (l:=I) rfl rfl (fun _=>rfl) (fun _=>rfl)) (.cons (fzown (f:=RosterGone.v) (l:=G) rfl rfl (fun _=>rfl) (fun _=>rfl)) (.nil))))) rfl) (.cons (.c (.id rfl)) (.nil)))⟩
 rintro _ _ (⟨H,rfl,rfl⟩)
 rw [hK45] at H
 try dsimp only at H
 conv=>whnf
 refine askW_c (fun s hs=>p_roster_State_change_oo _ _ _ _ _ rfl rfl rfl s hs) H rfl rfl rfl (fun v52 H=>?_);conv=>whnf
 refine lq_ ?_;conv=>whnf
 exact fin0_c (enc:=(fun r:RosterState × Int=>.tup [RosterState.v r.1,V.i r.2])) H (.inr rfl) (.cons (.cell rfl rfl (Nat.le_of_ble_eq_true rfl)) (.cons (.tmp rfl) (.nil))) rfl rfl
def gc44:BCode:=(.seq (R_ 2 [O_ 2 (.bx (t_ 0)) 0,O_ 4 (.al (.agg [(.lit (.int .i64 0)),(.lit (.int .i64 0)),(.sl [] true),(.sl [] true)])) 1,O_ 5 (.mv (i_ 0)) 2]) (.seq (R_ 0 [O_ 9 (.ld 4 true (t_ 2)) 0,O_ 10 (.mv (t_ 1)) 0,O_ 11 (.cl 110 [(t_ 9),(t_ 10)]) 0,O_ 8 (.mv (t_ 11)) 0,O_ 12 (.ex (t_ 8) 0) 0,O_ 13 (.ex (t_ 8) 1) 0,O_ 6 (.mv (t_ 12)) 0,O_ 7 (.mv (t_ 13)) 0]) (.seq (.block 0 (.seq (R_ 0 [O_ 15 (.ld 4 true (t_ 2)) 0,O_ 16 (.cl 111 [(t_ 15)]) 0,O_ 17 (.bin .neq (t_ 16) (i_ 0)) 0,O_ 14 (.mv (t_ 17)) 0]) (.cond (t_ 14) (.seq (.reg 0 [O_ 18 (.ld 4 true (t_ 2)) 0,O_ 19 (.ld 4 true (t_ 2)) 0,O_ 20 (.cl 111 [(t_ 19)]) 0,U_ (.st 4 (t_ 4) (t_ 18)) 0,O_ 5 (.mv (t_ 20)) 0] (some [[],[],[1],[1,2,0],[0,3,1,2]]) 0 []) .ret) (.seq (R_ 0 [O_ 22 (.mv (t_ 7)) 0,O_ 23 (.un .not (t_ 22)) 0,O_ 21 (.mv (t_ 23)) 0]) (.cond (t_ 21) (.seq (R_ 0 [O_ 24 (.ld 4 true (t_ 2)) 0,U_ (.st 4 (t_ 4) (t_ 24)) 0,O_ 5 (.mv (i_ 6)) 0]) .ret) (.seq (R_ 0 [O_ 26 (.fa 0 (t_ 2)) 0,O_ 27 (.ld 1 false (t_ 26)) 0,O_ 28 (.bin .geq (t_ 27) (i_ 1099511627776)) 0,O_ 25 (.mv (t_ 28)) 0]) (.cond (t_ 25) (.seq (R_ 0 [O_ 29 (.ld 4 true (t_ 2)) 0,U_ (.st 4 (t_ 4) (t_ 29)) 0,O_ 5 (.mv (i_ 9)) 0]) .ret) .skip))))))) (.seq (R_ 0 [O_ 30 (.ld 4 true (t_ 2)) 0,O_ 31 (.mv (t_ 1)) 0,O_ 32 (.bd [(.lit (.string ⟨#[]⟩)),(.lit (.string ⟨#[]⟩)),(.lit (.int .i64 0)),(.lit (.int .i64 0)),(.lit (.bool false))] [(0,1,(t_ 31))]) 0,O_ 33 (.cl 112 [(t_ 30),(t_ 32)]) 0,U_ (.st 4 (t_ 4) (t_ 33)) 0,O_ 5 (.mv (i_ 0)) 0]) .ret))))
theorem gc44_ok:compF Tryz.prog Tryz.f44=some (gc44.er,34,[.cell 4 4 true,.tmp 5]):=by unfold gc44;kernel_rfl
theorem p_ref21_Drop_v {u1 u2:Bool} (a0:RosterState) (a1:ByteArray):CallsO Tryz.prog 44 [.agg [.i a0.Ver,.i a0.Floor,.sl (List.map ItemItem.v a0.Items) u1,.sl (List.map RosterGone.v a0.Gone) u2],.s a1] (fun r:RosterState × Int=>.tup [RosterState.v r.1,V.i r.2]) (p_ref21_Drop a0 a1):=by
 refine callsO_comp mix Tryz.func44 gc44_ok fun r H=>?_
 rw [p_ref21_Drop] at H
 conv=>whnf
 refine ask_c (p_ref21_place_v _ _) H rfl rfl (fun v1 H=>?_);conv=>whnf
 refine ask_c (p_ref21_Check_v _) H rfl rfl (fun v2 H=>?_);conv=>whnf
 refine tst_c H (fun b3 H=>?_) (fun b3 H=>?_)
 ·conv=>whnf
  refine ask_c (p_ref21_Check_v _) H rfl rfl (fun v4 H=>?_);conv=>whnf
  refine lq_ ?_;conv=>whnf
  refine FootQ.mk ⟨rfl,?_⟩;conv=>whnf
  refine finR_c (enc:=(fun r:RosterState × Int=>.tup [RosterState.v r.1,V.i r.2])) H ?_;conv=>whnf
  exact ⟨_,.tup (.cons (fzagg (.cons (.id rfl) (.cons (.id rfl) (.cons (.slw) (.cons (.slw) (.nil))))) rfl) (.cons (.c (.id rfl)) (.nil)))⟩
 conv=>whnf
 refine Tst.not ?_
 refine tst_d H (fun b5 H=>?_) (fun b5 H=>?_)
 ·conv=>whnf
  refine lq_ ?_;conv=>whnf
  refine finR_c (enc:=(fun r:RosterState × Int=>.tup [RosterState.v r.1,V.i r.2])) H ?_;conv=>whnf
  exact ⟨_,.tup (.cons (fzagg (.cons (.id rfl) (.cons (.id rfl) (.cons (.slw) (.cons (.slw) (.nil))))) rfl) (.cons (.c (.id rfl)) (.nil)))⟩
 conv=>whnf
 refine tst_c H (fun b6 H=>?_) (fun b6 H=>?_)
 ·conv=>whnf
  refine lq_ ?_;conv=>whnf
  refine finR_c (enc:=(fun r:RosterState × Int=>.tup [RosterState.v r.1,V.i r.2])) H ?_;conv=>whnf
  exact ⟨_,.tup (.cons (fzagg (.cons (.id rfl) (.cons (.id rfl) (.cons (.slw) (.cons (.slw) (.nil))))) rfl) (.cons (.c (.id rfl)) (.nil)))⟩
 conv=>whnf
 refine ask_c (p_ref21_change_v _ _) H rfl rfl (fun v7 H=>?_);conv=>whnf
 refine lq_ ?_;conv=>whnf
 exact fin0_c (enc:=(fun r:RosterState × Int=>.tup [RosterState.v r.1,V.i r.2])) H (.inr rfl) (.cons (.cell rfl rfl (Nat.le_of_ble_eq_true rfl)) (.cons (.tmp rfl) (.nil))) rfl rfl
def gc115:BCode:=(.seq (R_ 0 [O_ 2 (.mv (.const (.slice none 0 0))) 0]) (.seq (R_ 0 [O_ 3 (.mv (.const (.slice none 0 0))) 0]) (.seq (.seq (R_ 0 [O_ 4 (.mv (i_ 0)) 0]) (.block 0 (.loop (.seq (.seq (R_ 0 [O_ 5 (.mv (t_ 4)) 0,O_ 6 (.mv (t_ 0)) 0,O_ 7 (.lens (t_ 6)) 0,O_ 8 (.bin .lss (t_ 5) (t_ 7)) 0]) (.cond (t_ 8) .skip (.exit 0))) (.seq (.block 1 (R_ 2 [O_ 11 (.mv (t_ 3)) 0,O_ 12 (.mv (t_ 0)) 0,O_ 13 (.mv (t_ 4)) 0,O_ 14 (.ixs 2 (t_ 12) (t_ 13)) 0,O_ 15 (.ld 2 true (t_ 14)) 0,O_ 16 (.bs 2 1 [(.lit (.string ⟨#[]⟩)),(.lit (.int .i64 0))] [(0,(t_ 15))]) 0,O_ 17 (.ap 2 24 (t_ 11) (t_ 16)) 1,O_ 3 (.mv (t_ 17)) 2])) (R_ 0 [O_ 9 (.mv (t_ 4)) 0,O_ 10 (.bin .add (t_ 9) (i_ 1)) 0,O_ 4 (.mv (t_ 10)) 0])))))) (.seq (R_ 0 [O_ 18 (.mv (t_ 3)) 0,O_ 2 (.mv (t_ 18)) 0]) .ret))))
theorem gc115_ok:compF Tryz.prog Tryz.f115=some (gc115.er,19,[.tmp 2]):=by unfold gc115;kernel_rfl
theorem p_law21_gone_v {u1:Bool} (a0:List RosterGone):CallsO Tryz.prog 115 [.sl (List.map RosterGone.v a0) u1] (fun l:List RosterGone=>V.sl (l.map RosterGone.v) false) (p_law21_gone a0):=by
 refine callsO_comp mix Tryz.func115 gc115_ok fun r H=>?_
 rw [p_law21_gone] at H
 conv=>whnf
 obtain ⟨o2,HL3,HQ4⟩:=bind_c H
 refine loop_c [3,4] [5,6,7,8,9,10,11,12,13,14,15,16,17] [5,6,7,8,9,10,11,12,13,14,15,16,17] (fun n vals st=>(∃ y6,p_law21_gone_l1  a0 n [] y6=some o2∧vals=[.sl (List.map RosterGone.v []) true,.i y6]∧st=[])∨(∃ y10 y11,p_law21_gone_l1  a0 n y10 y11=some o2∧vals=[.osl 0 0 (List.length y10) 2 false,.i y11]∧st=[.live (cellsM RosterGone.v y10) (cellsM RosterGone.v y10).length])) fuel 0 [] (.inl (⟨_,HL3,rfl,rfl⟩)) (Nat.zero_le _) rfl (by kernel_rfl) (by kernel_rfl) rfl trivial ?_
 rintro (_ | n5) _ _ (⟨y6,H,rfl,rfl⟩ | ⟨y10,y11,H,rfl,rfl⟩)
 ·rw [p_law21_gone_l1] at H;cases H
 ·rw [p_law21_gone_l1] at H;cases H
 ·rw [p_law21_gone_l1] at H
  conv=>whnf
  refine LenQ.M ?_;conv=>whnf
  refine tst_d H (fun b7 H=>?_) (fun b7 H=>?_)
  ·conv=>whnf
   obtain rfl:=Option.some.inj H
   have H:=HQ4
   try dsimp only at H
   refine finR_c (enc:=(fun l:List RosterGone=>V.sl (l.map RosterGone.v) false)) H ?_;conv=>whnf
   exact ⟨_,.v (.c (.slw))⟩
  conv=>whnf
  refine ixs_c (f:=RosterGone.v) H (fun _=>rfl) (fun x8 H=>?_);conv=>whnf
  refine appN_c (f:=RosterGone.v) H (fun _=>rfl) (srcM (f:=RosterGone.v) (fun _=>rfl) [] true) rfl (.v (srcOwn (f:=RosterGone.v) (l:=[x8]) (fun _=>rfl) rfl rfl rfl)) (by decide) rfl (by simp) (fun l9 H=>?_);conv=>whnf
  refine Ari.w ?_;conv=>whnf
  exact again_c [5,6,7,8,9,10,11,12,13,14,15,16,17] n5 1 [1] (.inr (⟨_,_,H,rfl,rfl⟩)) (Nat.lt_succ_self _) (Nat.zero_le _) rfl (by kernel_rfl) (by kernel_rfl) rfl (wkB_live0 rfl (cellsM_idlt (f:=RosterGone.v) (fun _=>rfl) _) rfl trivial)
 rw [p_law21_gone_l1] at H
 conv=>whnf
 refine LenQ.M ?_;conv=>whnf
 refine tst_d H (fun b12 H=>?_) (fun b12 H=>?_)
 ·conv=>whnf
  obtain rfl:=Option.some.inj H
  have H:=HQ4
  try dsimp only at H
  refine finR_c (enc:=(fun l:List RosterGone=>V.sl (l.map RosterGone.v) false)) H ?_;conv=>whnf
  exact ⟨_,.v (.c (fzown (f:=RosterGone.v) (l:=y10) rfl rfl (fun _=>rfl) (fun _=>rfl)))⟩
 conv=>whnf
 refine ixs_c (f:=RosterGone.v) H (fun _=>rfl) (fun x13 H=>?_);conv=>whnf
 refine appO_c (f:=RosterGone.v) H (fun _=>rfl) rfl (Nat.le_refl _) (.v (srcOwn (f:=RosterGone.v) (l:=[x13]) (fun _=>rfl) rfl rfl rfl)) (by decide) rfl (by simp) (fun l14 H=>?_);conv=>whnf
 refine Ari.w ?_;conv=>whnf
 exact again_c [5,6,7,8,9,10,11,12,13,14,15,16,17] n5 1 [2] (.inr (⟨_,_,H,rfl,rfl⟩)) (Nat.lt_succ_self _) (Nat.zero_le _) rfl (by kernel_rfl) (by kernel_rfl) rfl (wkB_live0 rfl (cellsM_idlt (f:=RosterGone.v) (fun _=>rfl) _) rfl trivial)
def gc46:BCode:=(.seq (R_ 2 [O_ 1 (.bx (t_ 0)) 0,O_ 2 (.al (.agg [(.lit (.int .i64 0)),(.lit (.int .i64 0)),(.sl [] true),(.sl [] true)])) 1]) (.seq (.reg 0 [O_ 3 (.fa 0 (t_ 1)) 0,O_ 4 (.ld 1 false (t_ 3)) 0,O_ 5 (.fa 1 (t_ 1)) 0,O_ 6 (.ld 1 false (t_ 5)) 0,O_ 7 (.fa 2 (t_ 1)) 0,O_ 8 (.ld 1 false (t_ 7)) 0,O_ 9 (.cl 33 [(t_ 8)]) 0,O_ 10 (.fa 3 (t_ 1)) 0,O_ 11 (.ld 1 false (t_ 10)) 0,O_ 12 (.cl 115 [(t_ 11)]) 0,O_ 13 (.bd [(.lit (.int .i64 0)),(.lit (.int .i64 0)),(.sl [] true),(.sl [] true)] [(0,1,(t_ 4)),(1,1,(t_ 6)),(2,1,(t_ 9)),(3,1,(t_ 12))]) 0,U_ (.st 4 (t_ 2) (t_ 13)) 0] (some [[],[0],[],[2],[],[4],[4,5],[],[7],[5,4,6,7,8],[8,7,9,5,4,6,2,3,0,1],[1,0,3,2,6,4,5,9,7,8,10]]) 0 []) .ret))
theorem gc46_ok:compF Tryz.prog Tryz.f46=some (gc46.er,14,[.cell 2 4 true]):=by unfold gc46;kernel_rfl
theorem p_law21_Back_v {u1 u2:Bool} (a0:RosterState):CallsO Tryz.prog 46 [.agg [.i a0.Ver,.i a0.Floor,.sl (List.map ItemItem.v a0.Items) u1,.sl (List.map RosterGone.v a0.Gone) u2]] RosterState.v (p_law21_Back a0):=by
 refine callsO_comp mix Tryz.func46 gc46_ok fun r H=>?_
 rw [p_law21_Back] at H
 conv=>whnf
 refine ask_c (p_law20_Back_v _) H rfl rfl (fun v1 H=>?_);conv=>whnf
 refine ask_c (p_law21_gone_v _) H rfl rfl (fun v2 H=>?_);conv=>whnf
 refine lq_ ?_;conv=>whnf
 refine FootQ.mk ⟨rfl,?_⟩;conv=>whnf
 exact fin0_c (enc:=RosterState.v) H (.inr rfl) (.cons (.cell rfl rfl (Nat.le_of_ble_eq_true rfl)) (.nil)) rfl rfl
end Go.Proofs.YtpmoioopjbfhkaaGreat

namespace Go.Proofs.YtpmoioopjbfhkaaGreat
open Go.RowKit
set_option maxRecDepth 1000000
set_option maxHeartbeats 4000000
def gc58:BCode:=(.seq (R_ 4 [O_ 2 (.bx (t_ 0)) 0,O_ 3 (.bx (t_ 1)) 1,O_ 4 (.al (.agg [(.lit (.int .i64 0)),(.lit (.int .i64 0)),(.sl [] true),(.sl [] true),(.lit (.int .i64 0)),(.lit (.int .i64 0)),(.sl [] true),(.sl [] true)])) 2,O_ 5 (.al (.agg [(.lit (.bool false)),(.lit (.bool false))])) 3,O_ 6 (.mv (i_ 0)) 4]) (.seq (R_ 1 [O_ 7 (.al (.agg [(.lit (.bool false)),(.lit (.bool false))])) 0]) (.seq (.seq (R_ 0 [O_ 21 (.ld 2 true (t_ 2)) 0,O_ 22 (.ld 8 true (t_ 3)) 0,O_ 23 (.cl 64 [(t_ 21),(t_ 22)]) 0,O_ 8 (.mv (t_ 23)) 0]) (.seq (R_ 0 [O_ 24 (.mv (t_ 8)) 0,O_ 25 (.bin .neq (t_ 24) (i_ 0)) 0]) (.cond (t_ 25) (.seq (.reg 0 [O_ 26 (.ld 8 true (t_ 3)) 0,O_ 27 (.ld 2 true (t_ 7)) 0,O_ 28 (.mv (t_ 8)) 0,U_ (.st 8 (t_ 4) (t_ 26)) 0,U_ (.st 2 (t_ 5) (t_ 27)) 0,O_ 6 (.mv (t_ 28)) 0] (some [[],[],[],[0],[0,3,1],[1,3,0,4,2]]) 0 []) .ret) .skip))) (.seq (.seq (R_ 1 [O_ 30 (.fa 0 (t_ 3)) 0,O_ 31 (.ld 4 true (t_ 30)) 0,O_ 32 (.fa 1 (t_ 2)) 0,O_ 33 (.ld 1 false (t_ 32)) 0,O_ 34 (.cl 103 [(t_ 31),(t_ 33)]) 0,O_ 29 (.mv (t_ 34)) 0,O_ 35 (.ex (t_ 29) 0) 0,O_ 36 (.ex (t_ 29) 1) 0,O_ 9 (.al (.agg [(.lit (.string ⟨#[]⟩)),(.lit (.string ⟨#[]⟩)),(.lit (.int .i64 0)),(.lit (.int .i64 0)),(.lit (.bool false))])) 0,U_ (.st 5 (t_ 9) (t_ 35)) 1,O_ 10 (.mv (t_ 36)) 1]) (.seq (R_ 0 [O_ 37 (.mv (t_ 10)) 0,O_ 38 (.un .not (t_ 37)) 0]) (.cond (t_ 38) (.seq (.reg 0 [O_ 39 (.ld 8 true (t_ 3)) 0,O_ 40 (.ld 2 true (t_ 7)) 0,U_ (.st 8 (t_ 4) (t_ 39)) 0,U_ (.st 2 (t_ 5) (t_ 40)) 0,O_ 6 (.mv (i_ 6)) 0] (some [[],[],[0],[0,2,1],[1,2,0,3]]) 0 []) .ret) .skip))) (.seq (R_ 1 [O_ 41 (.ld 8 true (t_ 3)) 0,O_ 11 (.al (.agg [(.lit (.int .i64 0)),(.lit (.int .i64 0)),(.sl [] true),(.sl [] true),(.lit (.int .i64 0)),(.lit (.int .i64 0)),(.sl [] true),(.sl [] true)])) 0,U_ (.st 8 (t_ 11) (t_ 41)) 1]) (.seq (.seq (R_ 0 [O_ 42 (.bd [(.lit (.int .u8 0)),(.lit (.int .u8 0))] [(0,1,(.const (.int .u8 10))),(1,1,(.const (.int .u8 9)))]) 0,O_ 43 (.mv (i_ 0)) 0]) (.block 0 (.loop (.seq (R_ 0 [O_ 44 (.bin .lss (t_ 43) (i_ 2)) 0]) (.seq (.cond (t_ 44) .skip (.exit 0)) (.seq (.block 1 (.seq (R_ 0 [O_ 45 (.mv (t_ 43)) 0,O_ 46 (.ixg 2 1 false (t_ 42) (t_ 43)) 0,O_ 12 (.mv (t_ 45)) 0,O_ 13 (.mv (t_ 46)) 0]) (.seq (R_ 2 [O_ 48 (.ld 2 true (t_ 2)) 0,O_ 49 (.ld 8 true (t_ 11)) 0,O_ 50 (.mv (t_ 13)) 0,O_ 51 (.cl 56 [(t_ 48),(t_ 49),(t_ 50)]) 0,O_ 47 (.mv (t_ 51)) 0,O_ 52 (.ex (t_ 47) 0) 0,O_ 53 (.ex (t_ 47) 1) 0,O_ 54 (.ex (t_ 47) 2) 0,O_ 14 (.al (.agg [(.lit (.int .i64 0)),(.lit (.int .i64 0)),(.sl [] true),(.sl [] true),(.lit (.int .i64 0)),(.lit (.int .i64 0)),(.sl [] true),(.sl [] true)])) 0,O_ 15 (.al (.agg [(.lit (.bool false)),(.lit (.bool false)),(.lit (.bool false)),(.lit (.bool false))])) 1,U_ (.st 8 (t_ 14) (t_ 52)) 2,U_ (.st 4 (t_ 15) (t_ 53)) 2,O_ 16 (.mv (t_ 54)) 2]) (.seq (.seq (R_ 0 [O_ 55 (.mv (t_ 16)) 0,O_ 56 (.bin .neq (t_ 55) (i_ 0)) 0]) (.cond (t_ 56) (.seq (R_ 0 [O_ 57 (.ld 8 true (t_ 3)) 0,O_ 58 (.bd [(.lit (.bool false)),(.lit (.bool false))] []) 0,O_ 59 (.mv (t_ 16)) 0,U_ (.st 8 (t_ 4) (t_ 57)) 0,U_ (.st 2 (t_ 5) (t_ 58)) 0,O_ 6 (.mv (t_ 59)) 0]) .ret) .skip)) (.reg 0 [O_ 60 (.mv (t_ 12)) 0,O_ 61 (.ld 8 true (t_ 14)) 0,O_ 62 (.fa 1 (t_ 15)) 0,O_ 63 (.ld 1 false (t_ 62)) 0,U_ (.st 8 (t_ 11) (t_ 61)) 0,O_ 64 (.ixa 2 1 (t_ 7) (t_ 60)) 0,U_ (.st 1 (t_ 64) (t_ 63)) 0] (some [[],[],[],[2],[1],[4,3,2,1,0],[0,1,2,3,4,5]]) 0 []))))) (R_ 0 [O_ 65 (.bin .add (t_ 43) (i_ 1)) 0,O_ 43 (.mv (t_ 65)) 0]))))))) (.seq (.seq (R_ 1 [O_ 67 (.fa 0 (t_ 11)) 0,O_ 68 (.ld 4 true (t_ 67)) 0,O_ 69 (.fa 1 (t_ 2)) 0,O_ 70 (.ld 1 false (t_ 69)) 0,O_ 71 (.cl 103 [(t_ 68),(t_ 70)]) 0,O_ 66 (.mv (t_ 71)) 0,O_ 72 (.ex (t_ 66) 0) 0,O_ 73 (.ex (t_ 66) 1) 0,O_ 17 (.al (.agg [(.lit (.string ⟨#[]⟩)),(.lit (.string ⟨#[]⟩)),(.lit (.int .i64 0)),(.lit (.int .i64 0)),(.lit (.bool false))])) 0,U_ (.st 5 (t_ 17) (t_ 72)) 1,O_ 18 (.mv (t_ 73)) 1]) (.seq (R_ 0 [O_ 74 (.mv (t_ 18)) 0,O_ 75 (.un .not (t_ 74)) 0]) (.cond (t_ 75) (.seq (.reg 0 [O_ 76 (.ld 8 true (t_ 11)) 0,O_ 77 (.ld 2 true (t_ 7)) 0,U_ (.st 8 (t_ 4) (t_ 76)) 0,U_ (.st 2 (t_ 5) (t_ 77)) 0,O_ 6 (.mv (i_ 0)) 0] (some [[],[],[0],[0,2,1],[1,2,0,3]]) 0 []) .ret) .skip))) (.seq (R_ 1 [O_ 79 (.fa 0 (t_ 11)) 0,O_ 80 (.ld 4 true (t_ 79)) 0,O_ 81 (.fa 1 (t_ 2)) 0,O_ 82 (.ld 1 false (t_ 81)) 0,O_ 83 (.cl 43 [(t_ 80),(t_ 82)]) 0,O_ 78 (.mv (t_ 83)) 0,O_ 84 (.ex (t_ 78) 0) 0,O_ 85 (.ex (t_ 78) 1) 0,O_ 19 (.al (.agg [(.lit (.int .i64 0)),(.lit (.int .i64 0)),(.sl [] true),(.sl [] true)])) 0,U_ (.st 4 (t_ 19) (t_ 84)) 1,O_ 20 (.mv (t_ 85)) 1]) (.seq (.seq (R_ 0 [O_ 86 (.mv (t_ 20)) 0,O_ 87 (.bin .neq (t_ 86) (i_ 0)) 0]) (.cond (t_ 87) (.seq (R_ 0 [O_ 88 (.ld 8 true (t_ 3)) 0,O_ 89 (.bd [(.lit (.bool false)),(.lit (.bool false))] []) 0,O_ 90 (.mv (t_ 20)) 0,U_ (.st 8 (t_ 4) (t_ 88)) 0,U_ (.st 2 (t_ 5) (t_ 89)) 0,O_ 6 (.mv (t_ 90)) 0]) .ret) .skip)) (.seq (R_ 0 [O_ 91 (.ld 4 true (t_ 19)) 0,O_ 92 (.fa 0 (t_ 11)) 0,U_ (.st 4 (t_ 92) (t_ 91)) 0]) (.seq (.reg 0 [O_ 93 (.ld 8 true (t_ 11)) 0,O_ 94 (.ld 2 true (t_ 7)) 0,U_ (.st 8 (t_ 4) (t_ 93)) 0,U_ (.st 2 (t_ 5) (t_ 94)) 0,O_ 6 (.mv (i_ 0)) 0] (some [[],[],[0],[0,2,1],[1,2,0,3]]) 0 []) .ret)))))))))))
theorem gc58_ok:compF Tryz.prog Tryz.f58=some (gc58.er,95,[.cell 4 8 true,.cell 5 2 true,.tmp 6]):=by unfold gc58;kernel_rfl
theorem p_pair_Remove_v {u1 u2 u3 u4:Bool} (a0:Ref22Names) (a1:Ref22State):CallsO Tryz.prog 58 [.agg [.s a0.A,.s a0.B],.agg [.i a1.A.Ver,.i a1.A.Floor,.sl (List.map ItemItem.v a1.A.Items) u1,.sl (List.map RosterGone.v a1.A.Gone) u2,.i a1.B.Ver,.i a1.B.Floor,.sl (List.map ItemItem.v a1.B.Items) u3,.sl (List.map RosterGone.v a1.B.Gone) u4]] (fun r:Ref22State × Ar2_Bool × Int=>.tup [Ref22State.v r.1,Ar2_Bool.v r.2.1,V.i r.2.2]) (p_pair_Remove a0 a1):=by
 refine callsO_comp mix Tryz.func58 gc58_ok fun r H=>?_
 rw [p_pair_Remove] at H
 conv=>whnf
 refine ask_c (p_pair_Check_v _ _) H rfl rfl (fun v1 H=>?_);conv=>whnf
 refine tst_c H (fun b2 H=>?_) (fun b2 H=>?_)
 ·conv=>whnf
  refine lq_ ?_;conv=>whnf
  refine lq_ ?_;conv=>whnf
  refine FootQ.mk ⟨rfl,?_⟩;conv=>whnf
  refine finR_c (enc:=(fun r:Ref22State × Ar2_Bool × Int=>.tup [Ref22State.v r.1,Ar2_Bool.v r.2.1,V.i r.2.2])) H ?_;conv=>whnf
  exact ⟨_,.tup (.cons (fzagg (.cons (.id rfl) (.cons (.id rfl) (.cons (.slw) (.cons (.slw) (.cons (.id rfl) (.cons (.id rfl) (.cons (.slw) (.cons (.slw) (.nil))))))))) rfl) (.cons (fzagg (.cons (.id rfl) (.cons (.id rfl) (.nil))) rfl) (.cons (.c (.id rfl)) (.nil))))⟩
 conv=>whnf
 refine ask_c (p_roster_Find_v _ _) H rfl rfl (fun v3 H=>?_);conv=>whnf
 refine lq_ ?_;conv=>whnf
 refine Tst.not ?_
 refine tst_d H (fun b4 H=>?_) (fun b4 H=>?_)
 ·conv=>whnf
  refine lq_ ?_;conv=>whnf
  refine lq_ ?_;conv=>whnf
  refine FootQ.mk ⟨rfl,?_⟩;conv=>whnf
  refine finR_c (enc:=(fun r:Ref22State × Ar2_Bool × Int=>.tup [Ref22State.v r.1,Ar2_Bool.v r.2.1,V.i r.2.2])) H ?_;conv=>whnf
  exact ⟨_,.tup (.cons (fzagg (.cons (.id rfl) (.cons (.id rfl) (.cons (.slw) (.cons (.slw) (.cons (.id rfl) (.cons (.id rfl) (.cons (.slw) (.cons (.slw) (.nil))))))))) rfl) (.cons (fzagg (.cons (.id rfl) (.cons (.id rfl) (.nil))) rfl) (.cons (.c (.id rfl)) (.nil))))⟩
 conv=>whnf
 refine lq_ ?_;conv=>whnf
 obtain ⟨o6,HL7,HQ8⟩:=bind_c H
 refine loop_c [6,43,11] [12,13,14,15,16,44,45,46,47,48,49,50,51,52,53,54,55,56,57,58,59,60,61,62,63,64,65,9,30,32] [12,13,14,15,16,44,45,46,47,48,49,50,51,52,53,54,55,56,57,58,59,60,61,62,63,64,65,9,30,32] (fun n vals st=>(∃ y10 y11 y12,p_pair_Remove_l1  (Ar2_Int.mk (10:Int) (9:Int)) a0 a1 n y10 y11 y12=some o6∧vals=[.i (0:Int),.i y10,.ptr 5 0]∧st=[.live [.s a0.A,.s a0.B] 0,.live [.i a1.A.Ver,.i a1.A.Floor,.sl (List.map ItemItem.v a1.A.Items) u1,.sl (List.map RosterGone.v a1.A.Gone) u2,.i a1.B.Ver,.i a1.B.Floor,.sl (List.map ItemItem.v a1.B.Items) u3,.sl (List.map RosterGone.v a1.B.Gone) u4] 0,.live [.i (0:Int),.i (0:Int),.sl (List.map ItemItem.v []) true,.sl (List.map RosterGone.v []) true,.i (0:Int),.i (0:Int),.sl (List.map ItemItem.v []) true,.sl (List.map RosterGone.v []) true] 0,.live [.b false,.b false] 0,.live [.b y12.a0,.b y12.a1] 0,.live [.i y11.A.Ver,.i y11.A.Floor,.sl (List.map ItemItem.v y11.A.Items) u1,.sl (List.map RosterGone.v y11.A.Gone) u2,.i y11.B.Ver,.i y11.B.Floor,.sl (List.map ItemItem.v y11.B.Items) u3,.sl (List.map RosterGone.v y11.B.Gone) u4] 0])∨(∃ y17 y18 y19,p_pair_Remove_l1  (Ar2_Int.mk (10:Int) (9:Int)) a0 a1 n y17 y18 y19=some o6∧vals=[.i (0:Int),.i y17,.ptr 5 0]∧st=[.live [.s a0.A,.s a0.B] 0,.live [.i a1.A.Ver,.i a1.A.Floor,.sl (List.map ItemItem.v a1.A.Items) u1,.sl (List.map RosterGone.v a1.A.Gone) u2,.i a1.B.Ver,.i a1.B.Floor,.sl (List.map ItemItem.v a1.B.Items) u3,.sl (List.map RosterGone.v a1.B.Gone) u4] 0,.live [.i (0:Int),.i (0:Int),.sl (List.map ItemItem.v []) true,.sl (List.map RosterGone.v []) true,.i (0:Int),.i (0:Int),.sl (List.map ItemItem.v []) true,.sl (List.map RosterGone.v []) true] 0,.live [.b false,.b false] 0,.live [.b y19.a0,.b y19.a1] 0,.live [.i y18.A.Ver,.i y18.A.Floor,.sl (List.map ItemItem.v y18.A.Items) false,.sl (List.map RosterGone.v y18.A.Gone) false,.i y18.B.Ver,.i y18.B.Floor,.sl (List.map ItemItem.v y18.B.Items) false,.sl (List.map RosterGone.v y18.B.Gone) false] 0])) fuel 6 [0,1,2,3,4,6] (.inl (⟨_,_,_,HL7,rfl,rfl⟩)) (Nat.zero_le _) rfl (by kernel_rfl) (by kernel_rfl) rfl ⟨⟨rfl,rfl,rfl⟩,⟨⟨rfl,rfl,rfl⟩,⟨⟨rfl,rfl,rfl⟩,⟨⟨rfl,rfl,rfl⟩,⟨⟨rfl,rfl,rfl⟩,⟨⟨rfl,rfl,rfl⟩,trivial⟩⟩⟩⟩⟩⟩ ?_
 rintro (_ | n9) _ _ (⟨y10,y11,y12,H,rfl,rfl⟩ | ⟨y17,y18,y19,H,rfl,rfl⟩)
 ·rw [p_pair_Remove_l1] at H;cases H
 ·rw [p_pair_Remove_l1] at H;cases H
 ·rw [p_pair_Remove_l1] at H
  conv=>whnf
  refine tst_c H (fun b13 H=>?_) (fun b13 H=>?_)
  ·conv=>whnf
   refine ixg_c (f:=V.y8) (T:=[(10:Int),(9:Int)]) H rfl rfl (fun x14 H=>?_);conv=>whnf
   refine ask_c (p_pair_Say_v _ _ _) H rfl rfl (fun v15 H=>?_);conv=>whnf
   refine lq_ ?_;conv=>whnf
   refine lq_ ?_;conv=>whnf
   refine tst_c H (fun b16 H=>?_) (fun b16 H=>?_)
   ·conv=>whnf
    refine lq_ ?_;conv=>whnf
    refine lq_ ?_;conv=>whnf
    obtain rfl:=Option.some.inj H
    have H:=HQ8
    try dsimp only at H
    refine finR_c (enc:=(fun r:Ref22State × Ar2_Bool × Int=>.tup [Ref22State.v r.1,Ar2_Bool.v r.2.1,V.i r.2.2])) H ?_;conv=>whnf
    exact ⟨_,.tup (.cons (fzagg (.cons (.id rfl) (.cons (.id rfl) (.cons (.slw) (.cons (.slw) (.cons (.id rfl) (.cons (.id rfl) (.cons (.slw) (.cons (.slw) (.nil))))))))) rfl) (.cons (fzagg (.cons (.id rfl) (.cons (.id rfl) (.nil))) rfl) (.cons (.c (.id rfl)) (.nil))))⟩
   conv=>whnf
   refine lq_ ?_;conv=>whnf
   refine ixd2_c H (fun H=>?_) (fun H=>?_)
   ·conv=>whnf
    refine lq_ ?_;conv=>whnf
    refine FootQ.mk ⟨rfl,?_⟩;conv=>whnf
    refine Ari.w ?_;conv=>whnf
    exact again_c [12,13,14,15,16,44,45,46,47,48,49,50,51,52,53,54,55,56,57,58,59,60,61,62,63,64,65,9,30,32] n9 6 [] (.inr (⟨_,_,_,H,rfl,rfl⟩)) (Nat.lt_succ_self _) (Nat.zero_le _) rfl (by kernel_rfl) (by kernel_rfl) rfl ⟨⟨rfl,rfl,rfl⟩,⟨⟨rfl,rfl,rfl⟩,⟨⟨rfl,rfl,rfl⟩,⟨⟨rfl,rfl,rfl⟩,⟨⟨rfl,rfl,rfl⟩,⟨⟨rfl,rfl,rfl⟩,trivial⟩⟩⟩⟩⟩⟩
   conv=>whnf
   refine lq_ ?_;conv=>whnf
   refine FootQ.mk ⟨rfl,?_⟩;conv=>whnf
   refine Ari.w ?_;conv=>whnf
   exact again_c [12,13,14,15,16,44,45,46,47,48,49,50,51,52,53,54,55,56,57,58,59,60,61,62,63,64,65,9,30,32] n9 6 [] (.inr (⟨_,_,_,H,rfl,rfl⟩)) (Nat.lt_succ_self _) (Nat.zero_le _) rfl (by kernel_rfl) (by kernel_rfl) rfl ⟨⟨rfl,rfl,rfl⟩,⟨⟨rfl,rfl,rfl⟩,⟨⟨rfl,rfl,rfl⟩,⟨⟨rfl,rfl,rfl⟩,⟨⟨rfl,rfl,rfl⟩,⟨⟨rfl,rfl,rfl⟩,trivial⟩⟩⟩⟩⟩⟩
  conv=>whnf
  obtain rfl:=Option.some.inj H
  have H:=HQ8
  try dsimp only at H
  refine ask_c (p_roster_Find_v _ _) H rfl rfl (fun v20 H=>?_);conv=>whnf
  refine lq_ ?_;conv=>whnf
  refine Tst.not ?_
  refine tst_d H (fun b21 H=>?_) (fun b21 H=>?_)
  ·conv=>whnf
   refine lq_ ?_;conv=>whnf
   refine lq_ ?_;conv=>whnf
   refine FootQ.mk ⟨rfl,?_⟩;conv=>whnf
   refine finR_c (enc:=(fun r:Ref22State × Ar2_Bool × Int=>.tup [Ref22State.v r.1,Ar2_Bool.v r.2.1,V.i r.2.2])) H ?_;conv=>whnf
   exact ⟨_,.tup (.cons (fzagg (.cons (.id rfl) (.cons (.id rfl) (.cons (.slw) (.cons (.slw) (.cons (.id rfl) (.cons (.id rfl) (.cons (.slw) (.cons (.slw) (.nil))))))))) rfl) (.cons (fzagg (.cons (.id rfl) (.cons (.id rfl) (.nil))) rfl) (.cons (.c (.id rfl)) (.nil))))⟩
  conv=>whnf
  refine ask_c (p_roster_Drop_v _ _) H rfl rfl (fun v22 H=>?_);conv=>whnf
  refine lq_ ?_;conv=>whnf
  refine tst_c H (fun b23 H=>?_) (fun b23 H=>?_)
  ·conv=>whnf
   refine lq_ ?_;conv=>whnf
   refine lq_ ?_;conv=>whnf
   refine finR_c (enc:=(fun r:Ref22State × Ar2_Bool × Int=>.tup [Ref22State.v r.1,Ar2_Bool.v r.2.1,V.i r.2.2])) H ?_;conv=>whnf
   exact ⟨_,.tup (.cons (fzagg (.cons (.id rfl) (.cons (.id rfl) (.cons (.slw) (.cons (.slw) (.cons (.id rfl) (.cons (.id rfl) (.cons (.slw) (.cons (.slw) (.nil))))))))) rfl) (.cons (fzagg (.cons (.id rfl) (.cons (.id rfl) (.nil))) rfl) (.cons (.c (.id rfl)) (.nil))))⟩
  conv=>whnf
  refine lq_ ?_;conv=>whnf
  refine lq_ ?_;conv=>whnf
  refine lq_ ?_;conv=>whnf
  refine FootQ.mk ⟨rfl,?_⟩;conv=>whnf
  refine finR_c (enc:=(fun r:Ref22State × Ar2_Bool × Int=>.tup [Ref22State.v r.1,Ar2_Bool.v r.2.1,V.i r.2.2])) H ?_;conv=>whnf
  exact ⟨_,.tup (.cons (fzagg (.cons (.id rfl) (.cons (.id rfl) (.cons (.id rfl) (.cons (.id rfl) (.cons (.id rfl) (.cons (.id rfl) (.cons (.slw) (.cons (.slw) (.nil))))))))) rfl) (.cons (fzagg (.cons (.id rfl) (.cons (.id rfl) (.nil))) rfl) (.cons (.c (.id rfl)) (.nil))))⟩
 rw [p_pair_Remove_l1] at H
 conv=>whnf
 refine tst_d H (fun b24 H=>?_) (fun b24 H=>?_)
 ·conv=>whnf
  obtain rfl:=Option.some.inj H
  have H:=HQ8
  try dsimp only at H
  refine ask_c (p_roster_Find_v _ _) H rfl rfl (fun v28 H=>?_);conv=>whnf
  refine lq_ ?_;conv=>whnf
  refine Tst.not ?_
  refine tst_d H (fun b29 H=>?_) (fun b29 H=>?_)
  ·conv=>whnf
   refine lq_ ?_;conv=>whnf
   refine lq_ ?_;conv=>whnf
   refine FootQ.mk ⟨rfl,?_⟩;conv=>whnf
   exact fin0_c (enc:=(fun r:Ref22State × Ar2_Bool × Int=>.tup [Ref22State.v r.1,Ar2_Bool.v r.2.1,V.i r.2.2])) H (.inr rfl) (.cons (.cell rfl rfl (Nat.le_of_ble_eq_true rfl)) (.cons (.cell rfl rfl (Nat.le_of_ble_eq_true rfl)) (.cons (.tmp rfl) (.nil)))) rfl rfl
  conv=>whnf
  refine ask_c (p_roster_Drop_v _ _) H rfl rfl (fun v30 H=>?_);conv=>whnf
  refine lq_ ?_;conv=>whnf
  refine tst_d H (fun b31 H=>?_) (fun b31 H=>?_)
  ·conv=>whnf
   refine lq_ ?_;conv=>whnf
   refine lq_ ?_;conv=>whnf
   refine lq_ ?_;conv=>whnf
   refine FootQ.mk ⟨rfl,?_⟩;conv=>whnf
   exact fin0_c (enc:=(fun r:Ref22State × Ar2_Bool × Int=>.tup [Ref22State.v r.1,Ar2_Bool.v r.2.1,V.i r.2.2])) H (.inr rfl) (.cons (.cell rfl rfl (Nat.le_of_ble_eq_true rfl)) (.cons (.cell rfl rfl (Nat.le_of_ble_eq_true rfl)) (.cons (.tmp rfl) (.nil)))) rfl rfl
  conv=>whnf
  refine lq_ ?_;conv=>whnf
  refine lq_ ?_;conv=>whnf
  refine finR_c (enc:=(fun r:Ref22State × Ar2_Bool × Int=>.tup [Ref22State.v r.1,Ar2_Bool.v r.2.1,V.i r.2.2])) H ?_;conv=>whnf
  exact ⟨_,.tup (.cons (fzagg (.cons (.id rfl) (.cons (.id rfl) (.cons (.slw) (.cons (.slw) (.cons (.id rfl) (.cons (.id rfl) (.cons (.slw) (.cons (.slw) (.nil))))))))) rfl) (.cons (fzagg (.cons (.id rfl) (.cons (.id rfl) (.nil))) rfl) (.cons (.c (.id rfl)) (.nil))))⟩
 conv=>whnf
 refine ixg_c (f:=V.y8) (T:=[(10:Int),(9:Int)]) H rfl rfl (fun x25 H=>?_);conv=>whnf
 refine ask_c (p_pair_Say_v _ _ _) H rfl rfl (fun v26 H=>?_);conv=>whnf
 refine lq_ ?_;conv=>whnf
 refine lq_ ?_;conv=>whnf
 refine tst_c H (fun b27 H=>?_) (fun b27 H=>?_)
 ·conv=>whnf
  refine lq_ ?_;conv=>whnf
  refine lq_ ?_;conv=>whnf
  obtain rfl:=Option.some.inj H
  have H:=HQ8
  try dsimp only at H
  refine finR_c (enc:=(fun r:Ref22State × Ar2_Bool × Int=>.tup [Ref22State.v r.1,Ar2_Bool.v r.2.1,V.i r.2.2])) H ?_;conv=>whnf
  exact ⟨_,.tup (.cons (fzagg (.cons (.id rfl) (.cons (.id rfl) (.cons (.slw) (.cons (.slw) (.cons (.id rfl) (.cons (.id rfl) (.cons (.slw) (.cons (.slw) (.nil))))))))) rfl) (.cons (fzagg (.cons (.id rfl) (.cons (.id rfl) (.nil))) rfl) (.cons (.c (.id rfl)) (.nil))))⟩
 conv=>whnf
 refine lq_ ?_;conv=>whnf
 refine ixd2_c H (fun H=>?_) (fun H=>?_)
 ·conv=>whnf
  refine lq_ ?_;conv=>whnf
  refine FootQ.mk ⟨rfl,?_⟩;conv=>whnf
  refine Ari.w ?_;conv=>whnf
  exact again_c [12,13,14,15,16,44,45,46,47,48,49,50,51,52,53,54,55,56,57,58,59,60,61,62,63,64,65,9,30,32] n9 6 [] (.inr (⟨_,_,_,H,rfl,rfl⟩)) (Nat.lt_succ_self _) (Nat.zero_le _) rfl (by kernel_rfl) (by kernel_rfl) rfl ⟨⟨rfl,rfl,rfl⟩,⟨⟨rfl,rfl,rfl⟩,⟨⟨rfl,rfl,rfl⟩,⟨⟨rfl,rfl,rfl⟩,⟨⟨rfl,rfl,rfl⟩,⟨⟨rfl,rfl,rfl⟩,trivial⟩⟩⟩⟩⟩⟩
 conv=>whnf
 refine lq_ ?_;conv=>whnf
 refine FootQ.mk ⟨rfl,?_⟩;conv=>whnf
 refine Ari.w ?_;conv=>whnf
 exact again_c [12,13,14,15,16,44,45,46,47,48,49,50,51,52,53,54,55,56,57,58,59,60,61,62,63,64,65,9,30,32] n9 6 [] (.inr (⟨_,_,_,H,rfl,rfl⟩)) (Nat.lt_succ_self _) (Nat.zero_le _) rfl (by kernel_rfl) (by kernel_rfl) rfl ⟨⟨rfl,rfl,rfl⟩,⟨⟨rfl,rfl,rfl⟩,⟨⟨rfl,rfl,rfl⟩,⟨⟨rfl,rfl,rfl⟩,⟨⟨rfl,rfl,rfl⟩,⟨⟨rfl,rfl,rfl⟩,trivial⟩⟩⟩⟩⟩⟩
end Go.Proofs.YtpmoioopjbfhkaaGreat

namespace Go.Proofs.YtpmoioopjbfhkaaGreat
open Go.RowKit
set_option maxRecDepth 100000
set_option maxHeartbeats 4000000
def gc133:BCode:=(.seq (R_ 0 [O_ 4 (.mv (i_ 0)) 0,O_ 5 (.mv (b_ false)) 0]) (.seq (.seq (R_ 0 [O_ 8 (.mv (t_ 0)) 0,O_ 9 (.cl 89 [(t_ 8)]) 0,O_ 10 (.bin .neq (t_ 9) (i_ 0)) 0]) (.cond (t_ 10) (.seq (R_ 0 [O_ 11 (.mv (t_ 0)) 0,O_ 4 (.mv (t_ 11)) 0,O_ 5 (.mv (b_ false)) 0]) .ret) .skip)) (.seq (R_ 1 [O_ 12 (.mv (t_ 0)) 0,O_ 13 (.cl 156 [(t_ 12)]) 0,O_ 6 (.al (.agg [(.lit (.bool false)),(.lit (.bool false)),(.lit (.bool false)),(.lit (.bool false))])) 0,U_ (.st 4 (t_ 6) (t_ 13)) 1]) (.seq (R_ 0 [O_ 7 (.mv (b_ false)) 0]) (.seq (.seq (R_ 0 [O_ 14 (.mv (t_ 1)) 0]) (.block 0 (.seq (R_ 0 [O_ 16 (.bin .eql (t_ 14) (.const (.int .u8 7))) 0,O_ 15 (.mv (t_ 16)) 0]) (.cond (t_ 15) (.seq (R_ 0 [O_ 17 (.fa 0 (t_ 6)) 0,O_ 18 (.ld 1 false (t_ 17)) 0,O_ 19 (.un .not (t_ 18)) 0,O_ 7 (.mv (t_ 19)) 0]) (R_ 0 [O_ 20 (.fa 2 (t_ 6)) 0,O_ 21 (.ld 1 false (t_ 20)) 0,O_ 22 (.mv (t_ 21)) 0,⟨(some 23),.fa 0 (t_ 6),(some (22,false)),0⟩,⟨(some 24),.ld 1 false (t_ 23),(some (22,false)),0⟩,⟨(some 25),.un .not (t_ 24),(some (22,false)),0⟩,O_ 26 (.pick (t_ 22) (b_ true) (t_ 25)) 0,O_ 27 (.fa 2 (t_ 6)) 0,U_ (.st 1 (t_ 27) (t_ 26)) 0])) (.seq (R_ 0 [O_ 29 (.bin .eql (t_ 14) (.const (.int .u8 10))) 0,O_ 28 (.mv (t_ 29)) 0]) (.cond (t_ 28) (.seq (R_ 0 [O_ 30 (.fa 0 (t_ 6)) 0,O_ 31 (.ld 1 false (t_ 30)) 0,O_ 32 (.mv (t_ 31)) 0,⟨(some 33),.fa 2 (t_ 6),(some (32,false)),0⟩,⟨(some 34),.ld 1 false (t_ 33),(some (32,false)),0⟩,O_ 35 (.pick (t_ 32) (b_ true) (t_ 34)) 0,O_ 7 (.mv (t_ 35)) 0]) (R_ 0 [O_ 36 (.fa 0 (t_ 6)) 0,U_ (.st 1 (t_ 36) (b_ false)) 0,O_ 37 (.fa 2 (t_ 6)) 0,U_ (.st 1 (t_ 37) (b_ false)) 0])) (.seq (R_ 0 [O_ 39 (.bin .eql (t_ 14) (.const (.int .u8 8))) 0,O_ 38 (.mv (t_ 39)) 0]) (.cond (t_ 38) (.seq (R_ 0 [O_ 40 (.fa 3 (t_ 6)) 0,O_ 41 (.ld 1 false (t_ 40)) 0,O_ 7 (.mv (t_ 41)) 0]) (.seq (R_ 0 [O_ 42 (.fa 1 (t_ 6)) 0,O_ 43 (.ld 1 false (t_ 42)) 0,O_ 44 (.mv (t_ 43)) 0,⟨(some 45),.fa 3 (t_ 6),(some (44,false)),0⟩,⟨(some 46),.ld 1 false (t_ 45),(some (44,false)),0⟩,O_ 47 (.pick (t_ 44) (b_ true) (t_ 46)) 0,O_ 48 (.fa 1 (t_ 6)) 0,U_ (.st 1 (t_ 48) (t_ 47)) 0]) (R_ 0 [O_ 49 (.fa 3 (t_ 6)) 0,U_ (.st 1 (t_ 49) (b_ false)) 0]))) (.seq (R_ 0 [O_ 51 (.bin .eql (t_ 14) (.const (.int .u8 9))) 0,O_ 50 (.mv (t_ 51)) 0]) (.cond (t_ 50) (.seq (R_ 0 [O_ 52 (.fa 1 (t_ 6)) 0,O_ 53 (.ld 1 false (t_ 52)) 0,O_ 54 (.mv (t_ 53)) 0,⟨(some 55),.fa 3 (t_ 6),(some (54,false)),0⟩,⟨(some 56),.ld 1 false (t_ 55),(some (54,false)),0⟩,O_ 57 (.pick (t_ 54) (b_ true) (t_ 56)) 0,O_ 7 (.mv (t_ 57)) 0]) (R_ 0 [O_ 58 (.fa 1 (t_ 6)) 0,U_ (.st 1 (t_ 58) (b_ false)) 0,O_ 59 (.fa 3 (t_ 6)) 0,U_ (.st 1 (t_ 59) (b_ false)) 0])) (R_ 0 [O_ 7 (.mv (b_ false)) 0]))))))))))) (.seq (R_ 0 [O_ 60 (.ld 4 true (t_ 6)) 0,O_ 61 (.cl 202 [(t_ 60)]) 0,O_ 62 (.mv (t_ 7)) 0,O_ 4 (.mv (t_ 61)) 0,O_ 5 (.mv (t_ 62)) 0]) .ret))))))
theorem gc133_ok:compF Tryz.prog Tryz.f133=some (gc133.er,63,[.tmp 4,.tmp 5]):=by unfold gc133;kernel_rfl
theorem p_ref19_Out_v (a0:Int) (a1:Int):CallsO Tryz.prog 133 [.i a0,.y8 a1] (fun r:Int × Bool=>.tup [V.i r.1,V.b r.2]) (p_ref19_Out a0 a1):=by
 refine callsO_comp mix Tryz.func133 gc133_ok fun r H=>?_
 rw [p_ref19_Out] at H
 conv=>whnf
 refine ask_c (p_ref19_Check_v _) H rfl rfl (fun v1 H=>?_);conv=>whnf
 refine tst_c H (fun b2 H=>?_) (fun b2 H=>?_)
 ·conv=>whnf
  exact fq_ H
 conv=>whnf
 refine ask_c (p_ref19_of_v _) H rfl rfl (fun v3 H=>?_);conv=>whnf
 refine lq_ ?_;conv=>whnf
 refine tst_c H (fun b4 H=>?_) (fun b4 H=>?_)
 ·conv=>whnf
  refine tst_c H (fun b5 H=>?_) (fun b5 H=>?_)
  ·conv=>whnf
   iterate 3 (refine Tst.T ?_;conv=>whnf)
   refine lq_ ?_;conv=>whnf
   refine ask_c (p_ref19_sum_v _) H rfl rfl (fun v6 H=>?_);conv=>whnf
   exact fq_ H
  conv=>whnf
  iterate 3 (refine Tst.F ?_;conv=>whnf)
  refine lq_ ?_;conv=>whnf
  refine ask_c (p_ref19_sum_v _) H rfl rfl (fun v7 H=>?_);conv=>whnf
  exact fq_ H
 conv=>whnf
 refine tst_c H (fun b8 H=>?_) (fun b8 H=>?_)
 ·conv=>whnf
  refine tst_c H (fun b9 H=>?_) (fun b9 H=>?_)
  ·conv=>whnf
   iterate 2 (refine Tst.T ?_;conv=>whnf)
   refine lq_ ?_;conv=>whnf
   refine lq_ ?_;conv=>whnf
   refine ask_c (p_ref19_sum_v _) H rfl rfl (fun v10 H=>?_);conv=>whnf
   exact fq_ H
  conv=>whnf
  iterate 2 (refine Tst.F ?_;conv=>whnf)
  refine lq_ ?_;conv=>whnf
  refine lq_ ?_;conv=>whnf
  refine ask_c (p_ref19_sum_v _) H rfl rfl (fun v11 H=>?_);conv=>whnf
  exact fq_ H
 conv=>whnf
 refine tst_c H (fun b12 H=>?_) (fun b12 H=>?_)
 ·conv=>whnf
  refine tst_c H (fun b13 H=>?_) (fun b13 H=>?_)
  ·conv=>whnf
   iterate 2 (refine Tst.T ?_;conv=>whnf)
   refine lq_ ?_;conv=>whnf
   refine lq_ ?_;conv=>whnf
   refine ask_c (p_ref19_sum_v _) H rfl rfl (fun v14 H=>?_);conv=>whnf
   exact fq_ H
  conv=>whnf
  iterate 2 (refine Tst.F ?_;conv=>whnf)
  refine lq_ ?_;conv=>whnf
  refine lq_ ?_;conv=>whnf
  refine ask_c (p_ref19_sum_v _) H rfl rfl (fun v15 H=>?_);conv=>whnf
  exact fq_ H
 conv=>whnf
 refine tst_d H (fun b16 H=>?_) (fun b16 H=>?_)
 ·conv=>whnf
  refine ask_c (p_ref19_sum_v _) H rfl rfl (fun v20 H=>?_);conv=>whnf
  exact fq_ H
 conv=>whnf
 refine tst_c H (fun b17 H=>?_) (fun b17 H=>?_)
 ·conv=>whnf
  iterate 2 (refine Tst.T ?_;conv=>whnf)
  refine lq_ ?_;conv=>whnf
  refine lq_ ?_;conv=>whnf
  refine ask_c (p_ref19_sum_v _) H rfl rfl (fun v18 H=>?_);conv=>whnf
  exact fq_ H
 conv=>whnf
 iterate 2 (refine Tst.F ?_;conv=>whnf)
 refine lq_ ?_;conv=>whnf
 refine lq_ ?_;conv=>whnf
 refine ask_c (p_ref19_sum_v _) H rfl rfl (fun v19 H=>?_);conv=>whnf
 exact fq_ H
def gc134:BCode:=(.seq (R_ 0 [O_ 4 (.mv (i_ 0)) 0,O_ 5 (.mv (b_ false)) 0]) (.seq (.seq (R_ 0 [O_ 8 (.mv (t_ 0)) 0,O_ 9 (.cl 89 [(t_ 8)]) 0,O_ 10 (.bin .neq (t_ 9) (i_ 0)) 0]) (.cond (t_ 10) (.seq (R_ 0 [O_ 11 (.mv (t_ 0)) 0,O_ 4 (.mv (t_ 11)) 0,O_ 5 (.mv (b_ false)) 0]) .ret) .skip)) (.seq (R_ 1 [O_ 12 (.mv (t_ 0)) 0,O_ 13 (.cl 156 [(t_ 12)]) 0,O_ 6 (.al (.agg [(.lit (.bool false)),(.lit (.bool false)),(.lit (.bool false)),(.lit (.bool false))])) 0,U_ (.st 4 (t_ 6) (t_ 13)) 1]) (.seq (R_ 0 [O_ 7 (.mv (b_ false)) 0]) (.seq (.seq (R_ 0 [O_ 14 (.mv (t_ 1)) 0]) (.block 0 (.seq (R_ 0 [O_ 16 (.bin .eql (t_ 14) (.const (.int .u8 7))) 0,O_ 15 (.mv (t_ 16)) 0]) (.cond (t_ 15) (.seq (R_ 0 [O_ 17 (.fa 1 (t_ 6)) 0,O_ 18 (.ld 1 false (t_ 17)) 0,O_ 19 (.un .not (t_ 18)) 0,O_ 20 (.mv (t_ 19)) 0,⟨(some 21),.fa 3 (t_ 6),(some (20,true)),0⟩,⟨(some 22),.ld 1 false (t_ 21),(some (20,true)),0⟩,⟨(some 23),.un .not (t_ 22),(some (20,true)),0⟩,O_ 24 (.pick (t_ 20) (t_ 23) (b_ false)) 0,O_ 7 (.mv (t_ 24)) 0]) (R_ 0 [O_ 25 (.fa 3 (t_ 6)) 0,O_ 26 (.ld 1 false (t_ 25)) 0,O_ 27 (.mv (t_ 26)) 0,⟨(some 28),.fa 1 (t_ 6),(some (27,false)),0⟩,⟨(some 29),.ld 1 false (t_ 28),(some (27,false)),0⟩,⟨(some 30),.un .not (t_ 29),(some (27,false)),0⟩,O_ 31 (.pick (t_ 27) (b_ true) (t_ 30)) 0,O_ 32 (.fa 3 (t_ 6)) 0,U_ (.st 1 (t_ 32) (t_ 31)) 0])) (.seq (R_ 0 [O_ 34 (.bin .eql (t_ 14) (.const (.int .u8 10))) 0,O_ 33 (.mv (t_ 34)) 0]) (.cond (t_ 33) (.seq (R_ 0 [O_ 35 (.fa 1 (t_ 6)) 0,O_ 36 (.ld 1 false (t_ 35)) 0,O_ 37 (.mv (t_ 36)) 0,⟨(some 38),.fa 3 (t_ 6),(some (37,false)),0⟩,⟨(some 39),.ld 1 false (t_ 38),(some (37,false)),0⟩,O_ 40 (.pick (t_ 37) (b_ true) (t_ 39)) 0,O_ 7 (.mv (t_ 40)) 0]) (R_ 0 [O_ 41 (.fa 1 (t_ 6)) 0,U_ (.st 1 (t_ 41) (b_ false)) 0,O_ 42 (.fa 3 (t_ 6)) 0,U_ (.st 1 (t_ 42) (b_ false)) 0])) (.seq (R_ 0 [O_ 44 (.bin .eql (t_ 14) (.const (.int .u8 8))) 0,O_ 43 (.mv (t_ 44)) 0]) (.cond (t_ 43) (.seq (R_ 0 [O_ 45 (.fa 2 (t_ 6)) 0,O_ 46 (.ld 1 false (t_ 45)) 0,O_ 7 (.mv (t_ 46)) 0]) (.seq (R_ 0 [O_ 47 (.fa 0 (t_ 6)) 0,O_ 48 (.ld 1 false (t_ 47)) 0,O_ 49 (.mv (t_ 48)) 0,⟨(some 50),.fa 2 (t_ 6),(some (49,false)),0⟩,⟨(some 51),.ld 1 false (t_ 50),(some (49,false)),0⟩,O_ 52 (.pick (t_ 49) (b_ true) (t_ 51)) 0,O_ 53 (.fa 0 (t_ 6)) 0,U_ (.st 1 (t_ 53) (t_ 52)) 0]) (R_ 0 [O_ 54 (.fa 2 (t_ 6)) 0,U_ (.st 1 (t_ 54) (b_ false)) 0]))) (.seq (R_ 0 [O_ 56 (.bin .eql (t_ 14) (.const (.int .u8 9))) 0,O_ 55 (.mv (t_ 56)) 0]) (.cond (t_ 55) (.seq (R_ 0 [O_ 57 (.fa 0 (t_ 6)) 0,O_ 58 (.ld 1 false (t_ 57)) 0,O_ 59 (.mv (t_ 58)) 0,⟨(some 60),.fa 2 (t_ 6),(some (59,false)),0⟩,⟨(some 61),.ld 1 false (t_ 60),(some (59,false)),0⟩,O_ 62 (.pick (t_ 59) (b_ true) (t_ 61)) 0,O_ 7 (.mv (t_ 62)) 0]) (R_ 0 [O_ 63 (.fa 0 (t_ 6)) 0,U_ (.st 1 (t_ 63) (b_ false)) 0,O_ 64 (.fa 2 (t_ 6)) 0,U_ (.st 1 (t_ 64) (b_ false)) 0])) (R_ 0 [O_ 7 (.mv (b_ false)) 0]))))))))))) (.seq (R_ 0 [O_ 65 (.ld 4 true (t_ 6)) 0,O_ 66 (.cl 202 [(t_ 65)]) 0,O_ 67 (.mv (t_ 7)) 0,O_ 4 (.mv (t_ 66)) 0,O_ 5 (.mv (t_ 67)) 0]) .ret))))))
theorem gc134_ok:compF Tryz.prog Tryz.f134=some (gc134.er,68,[.tmp 4,.tmp 5]):=by unfold gc134;kernel_rfl
theorem p_ref19_In_v (a0:Int) (a1:Int):CallsO Tryz.prog 134 [.i a0,.y8 a1] (fun r:Int × Bool=>.tup [V.i r.1,V.b r.2]) (p_ref19_In a0 a1):=by
 refine callsO_comp mix Tryz.func134 gc134_ok fun r H=>?_
 rw [p_ref19_In] at H
 conv=>whnf
 refine ask_c (p_ref19_Check_v _) H rfl rfl (fun v1 H=>?_);conv=>whnf
 refine tst_c H (fun b2 H=>?_) (fun b2 H=>?_)
 ·conv=>whnf
  exact fq_ H
 conv=>whnf
 refine ask_c (p_ref19_of_v _) H rfl rfl (fun v3 H=>?_);conv=>whnf
 refine lq_ ?_;conv=>whnf
 refine tst_c H (fun b4 H=>?_) (fun b4 H=>?_)
 ·conv=>whnf
  refine Tst.not ?_
  refine tst_c H (fun b5 H=>?_) (fun b5 H=>?_)
  ·conv=>whnf
   iterate 3 (refine Tst.F ?_;conv=>whnf)
   refine tst_c H (fun b6 H=>?_) (fun b6 H=>?_)
   ·conv=>whnf
    iterate 3 (refine Tst.T ?_;conv=>whnf)
    refine lq_ ?_;conv=>whnf
    refine ask_c (p_ref19_sum_v _) H rfl rfl (fun v7 H=>?_);conv=>whnf
    exact fq_ H
   conv=>whnf
   iterate 3 (refine Tst.F ?_;conv=>whnf)
   refine lq_ ?_;conv=>whnf
   refine ask_c (p_ref19_sum_v _) H rfl rfl (fun v8 H=>?_);conv=>whnf
   exact fq_ H
  conv=>whnf
  iterate 3 (refine Tst.T ?_;conv=>whnf)
  refine tst_c H (fun b9 H=>?_) (fun b9 H=>?_)
  ·conv=>whnf
   iterate 3 (refine Tst.T ?_;conv=>whnf)
   refine lq_ ?_;conv=>whnf
   refine ask_c (p_ref19_sum_v _) H rfl rfl (fun v10 H=>?_);conv=>whnf
   exact fq_ H
  conv=>whnf
  iterate 3 (refine Tst.F ?_;conv=>whnf)
  refine lq_ ?_;conv=>whnf
  refine ask_c (p_ref19_sum_v _) H rfl rfl (fun v11 H=>?_);conv=>whnf
  exact fq_ H
 conv=>whnf
 refine tst_c H (fun b12 H=>?_) (fun b12 H=>?_)
 ·conv=>whnf
  refine tst_c H (fun b13 H=>?_) (fun b13 H=>?_)
  ·conv=>whnf
   iterate 2 (refine Tst.T ?_;conv=>whnf)
   refine lq_ ?_;conv=>whnf
   refine lq_ ?_;conv=>whnf
   refine ask_c (p_ref19_sum_v _) H rfl rfl (fun v14 H=>?_);conv=>whnf
   exact fq_ H
  conv=>whnf
  iterate 2 (refine Tst.F ?_;conv=>whnf)
  refine lq_ ?_;conv=>whnf
  refine lq_ ?_;conv=>whnf
  refine ask_c (p_ref19_sum_v _) H rfl rfl (fun v15 H=>?_);conv=>whnf
  exact fq_ H
 conv=>whnf
 refine tst_c H (fun b16 H=>?_) (fun b16 H=>?_)
 ·conv=>whnf
  refine tst_c H (fun b17 H=>?_) (fun b17 H=>?_)
  ·conv=>whnf
   iterate 2 (refine Tst.T ?_;conv=>whnf)
   refine lq_ ?_;conv=>whnf
   refine lq_ ?_;conv=>whnf
   refine ask_c (p_ref19_sum_v _) H rfl rfl (fun v18 H=>?_);conv=>whnf
   exact fq_ H
  conv=>whnf
  iterate 2 (refine Tst.F ?_;conv=>whnf)
  refine lq_ ?_;conv=>whnf
  refine lq_ ?_;conv=>whnf
  refine ask_c (p_ref19_sum_v _) H rfl rfl (fun v19 H=>?_);conv=>whnf
  exact fq_ H
 conv=>whnf
 refine tst_d H (fun b20 H=>?_) (fun b20 H=>?_)
 ·conv=>whnf
  refine ask_c (p_ref19_sum_v _) H rfl rfl (fun v24 H=>?_);conv=>whnf
  exact fq_ H
 conv=>whnf
 refine tst_c H (fun b21 H=>?_) (fun b21 H=>?_)
 ·conv=>whnf
  iterate 2 (refine Tst.T ?_;conv=>whnf)
  refine lq_ ?_;conv=>whnf
  refine lq_ ?_;conv=>whnf
  refine ask_c (p_ref19_sum_v _) H rfl rfl (fun v22 H=>?_);conv=>whnf
  exact fq_ H
 conv=>whnf
 iterate 2 (refine Tst.F ?_;conv=>whnf)
 refine lq_ ?_;conv=>whnf
 refine lq_ ?_;conv=>whnf
 refine ask_c (p_ref19_sum_v _) H rfl rfl (fun v23 H=>?_);conv=>whnf
 exact fq_ H
end Go.Proofs.YtpmoioopjbfhkaaGreat

namespace Go.Proofs.YtpmoioopjbfhkaaGreat
open Go.RowKit
set_option maxRecDepth 100000
set_option maxHeartbeats 4000000
def gc42:BCode:=(.seq (R_ 2 [O_ 3 (.bx (t_ 0)) 0,O_ 6 (.al (.agg [(.lit (.int .i64 0)),(.lit (.int .i64 0)),(.sl [] true),(.sl [] true)])) 1,O_ 7 (.mv (i_ 0)) 2]) (.seq (R_ 0 [O_ 12 (.ld 4 true (t_ 3)) 0,O_ 13 (.mv (t_ 1)) 0,O_ 14 (.cl 110 [(t_ 12),(t_ 13)]) 0,O_ 11 (.mv (t_ 14)) 0,O_ 15 (.ex (t_ 11) 0) 0,O_ 16 (.ex (t_ 11) 1) 0,O_ 8 (.mv (t_ 15)) 0,O_ 9 (.mv (t_ 16)) 0]) (.seq (R_ 1 [O_ 17 (.mv (t_ 1)) 0,O_ 18 (.bd [(.lit (.string ⟨#[]⟩)),(.lit (.string ⟨#[]⟩)),(.lit (.int .i64 0)),(.lit (.int .i64 0)),(.lit (.bool false))] [(0,1,(t_ 17))]) 0,O_ 10 (.al (.agg [(.lit (.string ⟨#[]⟩)),(.lit (.string ⟨#[]⟩)),(.lit (.int .i64 0)),(.lit (.int .i64 0)),(.lit (.bool false))])) 0,U_ (.st 5 (t_ 10) (t_ 18)) 1]) (.seq (.seq (R_ 0 [O_ 19 (.ld 4 true (t_ 3)) 0,O_ 20 (.cl 111 [(t_ 19)]) 0,O_ 21 (.bin .eql (t_ 20) (i_ 0)) 0,O_ 22 (.mv (t_ 21)) 0,⟨(some 23),.mv (t_ 9),(some (22,true)),0⟩,O_ 24 (.pick (t_ 22) (t_ 23) (b_ false)) 0]) (.cond (t_ 24) (R_ 0 [O_ 25 (.fa 2 (t_ 3)) 0,O_ 26 (.ld 1 false (t_ 25)) 0,O_ 27 (.mv (t_ 8)) 0,O_ 28 (.ixs 5 (t_ 26) (t_ 27)) 0,O_ 29 (.ld 5 true (t_ 28)) 0,U_ (.st 5 (t_ 10) (t_ 29)) 0]) .skip)) (.seq (.block 0 (.seq (R_ 0 [O_ 31 (.ld 4 true (t_ 3)) 0,O_ 32 (.cl 111 [(t_ 31)]) 0,O_ 33 (.bin .neq (t_ 32) (i_ 0)) 0,O_ 30 (.mv (t_ 33)) 0]) (.cond (t_ 30) (.seq (.reg 0 [O_ 34 (.ld 4 true (t_ 3)) 0,O_ 35 (.ld 4 true (t_ 3)) 0,O_ 36 (.cl 111 [(t_ 35)]) 0,U_ (.st 4 (t_ 6) (t_ 34)) 0,O_ 7 (.mv (t_ 36)) 0] (some [[],[],[1],[1,2,0],[0,3,1,2]]) 0 []) .ret) (.seq (R_ 0 [O_ 38 (.mv (t_ 1)) 0,O_ 39 (.cl 87 [(t_ 38)]) 0,O_ 40 (.un .not (t_ 39)) 0,O_ 37 (.mv (t_ 40)) 0]) (.cond (t_ 37) (.seq (R_ 0 [O_ 41 (.ld 4 true (t_ 3)) 0,U_ (.st 4 (t_ 6) (t_ 41)) 0,O_ 7 (.mv (i_ 11)) 0]) .ret) (.seq (R_ 0 [O_ 43 (.mv (t_ 2)) 0,O_ 44 (.cl 89 [(t_ 43)]) 0,O_ 45 (.bin .neq (t_ 44) (i_ 0)) 0,O_ 42 (.mv (t_ 45)) 0]) (.cond (t_ 42) (.seq (.reg 0 [O_ 46 (.ld 4 true (t_ 3)) 0,O_ 47 (.mv (t_ 2)) 0,O_ 48 (.cl 89 [(t_ 47)]) 0,U_ (.st 4 (t_ 6) (t_ 46)) 0,O_ 7 (.mv (t_ 48)) 0] (some [[],[],[1],[1,2,0],[0,3,1,2]]) 0 []) .ret) (.seq (R_ 0 [O_ 50 (.mv (t_ 9)) 0,O_ 51 (.un .not (t_ 50)) 0,O_ 52 (.mv (t_ 51)) 0,⟨(some 53),.fa 2 (t_ 3),(some (52,true)),0⟩,⟨(some 54),.ld 1 false (t_ 53),(some (52,true)),0⟩,⟨(some 55),.lens (t_ 54),(some (52,true)),0⟩,⟨(some 56),.bin .geq (t_ 55) (i_ 12),(some (52,true)),0⟩,O_ 57 (.pick (t_ 52) (t_ 56) (b_ false)) 0,O_ 58 (.mv (t_ 57)) 0,⟨(some 59),.mv (t_ 2),(some (58,true)),0⟩,⟨(some 60),.bin .neq (t_ 59) (i_ 0),(some (58,true)),0⟩,O_ 61 (.pick (t_ 58) (t_ 60) (b_ false)) 0,O_ 49 (.mv (t_ 61)) 0]) (.cond (t_ 49) (.seq (R_ 0 [O_ 62 (.ld 4 true (t_ 3)) 0,U_ (.st 4 (t_ 6) (t_ 62)) 0,O_ 7 (.mv (i_ 7)) 0]) .ret) (.seq (R_ 0 [O_ 64 (.fa 0 (t_ 3)) 0,O_ 65 (.ld 1 false (t_ 64)) 0,O_ 66 (.bin .geq (t_ 65) (i_ 1099511627776)) 0,O_ 63 (.mv (t_ 66)) 0]) (.cond (t_ 63) (.seq (R_ 0 [O_ 67 (.ld 4 true (t_ 3)) 0,U_ (.st 4 (t_ 6) (t_ 67)) 0,O_ 7 (.mv (i_ 9)) 0]) .ret) (.seq (R_ 0 [O_ 69 (.fa 2 (t_ 10)) 0,O_ 70 (.ld 1 false (t_ 69)) 0,O_ 71 (.mv (t_ 2)) 0,O_ 72 (.bin .eql (t_ 70) (t_ 71)) 0,O_ 68 (.mv (t_ 72)) 0]) (.cond (t_ 68) (.seq (R_ 0 [O_ 73 (.ld 4 true (t_ 3)) 0,U_ (.st 4 (t_ 6) (t_ 73)) 0,O_ 7 (.mv (i_ 0)) 0]) .ret) .skip))))))))))))) (.seq (R_ 0 [O_ 74 (.mv (t_ 2)) 0,O_ 75 (.fa 2 (t_ 10)) 0,U_ (.st 1 (t_ 75) (t_ 74)) 0]) (.seq (R_ 0 [O_ 76 (.ld 4 true (t_ 3)) 0,O_ 77 (.ld 5 true (t_ 10)) 0,O_ 78 (.cl 112 [(t_ 76),(t_ 77)]) 0,U_ (.st 4 (t_ 6) (t_ 78)) 0,O_ 7 (.mv (i_ 0)) 0]) .ret)))))))
theorem gc42_ok:compF Tryz.prog Tryz.f42=some (gc42.er,79,[.cell 6 4 true,.tmp 7]):=by unfold gc42;kernel_rfl
theorem p_ref21_Sub_v {u1 u2:Bool} (a0:RosterState) (a1:ByteArray) (a2:Int):CallsO Tryz.prog 42 [.agg [.i a0.Ver,.i a0.Floor,.sl (List.map ItemItem.v a0.Items) u1,.sl (List.map RosterGone.v a0.Gone) u2],.s a1,.i a2] (fun r:RosterState × Int=>.tup [RosterState.v r.1,V.i r.2]) (p_ref21_Sub a0 a1 a2):=by
 refine callsO_comp mix Tryz.func42 gc42_ok fun r H=>?_
 rw [p_ref21_Sub] at H
 conv=>whnf
 refine ask_c (p_ref21_place_v _ _) H rfl rfl (fun v1 H=>?_);conv=>whnf
 refine lq_ ?_;conv=>whnf
 refine ask_c (p_ref21_Check_v _) H rfl rfl (fun v2 H=>?_);conv=>whnf
 refine tst_d H (fun b3 H=>?_) (fun b3 H=>?_)
 ·conv=>whnf
  iterate 2 (refine Tst.F ?_;conv=>whnf)
  refine ask_c (p_ref21_Check_v _) H rfl rfl (fun v33 H=>?_);conv=>whnf
  refine tst_c H (fun b34 H=>?_) (fun b34 H=>?_)
  ·conv=>whnf
   refine ask_c (p_ref21_Check_v _) H rfl rfl (fun v35 H=>?_);conv=>whnf
   refine lq_ ?_;conv=>whnf
   refine FootQ.mk ⟨rfl,?_⟩;conv=>whnf
   refine finR_c (enc:=(fun r:RosterState × Int=>.tup [RosterState.v r.1,V.i r.2])) H ?_;conv=>whnf
   exact ⟨_,.tup (.cons (fzagg (.cons (.id rfl) (.cons (.id rfl) (.cons (.slw) (.cons (.slw) (.nil))))) rfl) (.cons (.c (.id rfl)) (.nil)))⟩
  conv=>whnf
  refine ask_c (p_ref09_IsBare_v _) H rfl rfl (fun v36 H=>?_);conv=>whnf
  refine Tst.not ?_
  refine tst_d H (fun b37 H=>?_) (fun b37 H=>?_)
  ·conv=>whnf
   refine lq_ ?_;conv=>whnf
   refine finR_c (enc:=(fun r:RosterState × Int=>.tup [RosterState.v r.1,V.i r.2])) H ?_;conv=>whnf
   exact ⟨_,.tup (.cons (fzagg (.cons (.id rfl) (.cons (.id rfl) (.cons (.slw) (.cons (.slw) (.nil))))) rfl) (.cons (.c (.id rfl)) (.nil)))⟩
  conv=>whnf
  refine ask_c (p_ref19_Check_v _) H rfl rfl (fun v38 H=>?_);conv=>whnf
  refine tst_c H (fun b39 H=>?_) (fun b39 H=>?_)
  ·conv=>whnf
   refine ask_c (p_ref19_Check_v _) H rfl rfl (fun v40 H=>?_);conv=>whnf
   refine lq_ ?_;conv=>whnf
   refine FootQ.mk ⟨rfl,?_⟩;conv=>whnf
   refine finR_c (enc:=(fun r:RosterState × Int=>.tup [RosterState.v r.1,V.i r.2])) H ?_;conv=>whnf
   exact ⟨_,.tup (.cons (fzagg (.cons (.id rfl) (.cons (.id rfl) (.cons (.slw) (.cons (.slw) (.nil))))) rfl) (.cons (.c (.id rfl)) (.nil)))⟩
  conv=>whnf
  refine Tst.not ?_
  refine tst_c H (fun b41 H=>?_) (fun b41 H=>?_)
  ·conv=>whnf
   iterate 8 (refine Tst.F ?_;conv=>whnf)
   refine tst_c H (fun b42 H=>?_) (fun b42 H=>?_)
   ·conv=>whnf
    refine lq_ ?_;conv=>whnf
    refine finR_c (enc:=(fun r:RosterState × Int=>.tup [RosterState.v r.1,V.i r.2])) H ?_;conv=>whnf
    exact ⟨_,.tup (.cons (fzagg (.cons (.id rfl) (.cons (.id rfl) (.cons (.slw) (.cons (.slw) (.nil))))) rfl) (.cons (.c (.id rfl)) (.nil)))⟩
   conv=>whnf
   refine tst_c H (fun b43 H=>?_) (fun b43 H=>?_)
   ·conv=>whnf
    refine lq_ ?_;conv=>whnf
    refine finR_c (enc:=(fun r:RosterState × Int=>.tup [RosterState.v r.1,V.i r.2])) H ?_;conv=>whnf
    exact ⟨_,.tup (.cons (fzagg (.cons (.id rfl) (.cons (.id rfl) (.cons (.slw) (.cons (.slw) (.nil))))) rfl) (.cons (.c (.id rfl)) (.nil)))⟩
   conv=>whnf
   refine lq_ ?_;conv=>whnf
   refine ask_c (p_ref21_change_v _ _) H rfl rfl (fun v44 H=>?_);conv=>whnf
   refine lq_ ?_;conv=>whnf
   exact fin0_c (enc:=(fun r:RosterState × Int=>.tup [RosterState.v r.1,V.i r.2])) H (.inr rfl) (.cons (.cell rfl rfl (Nat.le_of_ble_eq_true rfl)) (.cons (.tmp rfl) (.nil))) rfl rfl
  conv=>whnf
  iterate 2 (refine Tst.T ?_;conv=>whnf)
  refine LenQ.M ?_;conv=>whnf
  iterate 2 (refine Tst.T ?_;conv=>whnf)
  refine tst_d H (fun b45 H=>?_) (fun b45 H=>?_)
  ·conv=>whnf
   iterate 3 (refine Tst.F ?_;conv=>whnf)
   refine tst_c H (fun b50 H=>?_) (fun b50 H=>?_)
   ·conv=>whnf
    refine lq_ ?_;conv=>whnf
    refine finR_c (enc:=(fun r:RosterState × Int=>.tup [RosterState.v r.1,V.i r.2])) H ?_;conv=>whnf
    exact ⟨_,.tup (.cons (fzagg (.cons (.id rfl) (.cons (.id rfl) (.cons (.slw) (.cons (.slw) (.nil))))) rfl) (.cons (.c (.id rfl)) (.nil)))⟩
   conv=>whnf
   refine tst_c H (fun b51 H=>?_) (fun b51 H=>?_)
   ·conv=>whnf
    refine lq_ ?_;conv=>whnf
    refine finR_c (enc:=(fun r:RosterState × Int=>.tup [RosterState.v r.1,V.i r.2])) H ?_;conv=>whnf
    exact ⟨_,.tup (.cons (fzagg (.cons (.id rfl) (.cons (.id rfl) (.cons (.slw) (.cons (.slw) (.nil))))) rfl) (.cons (.c (.id rfl)) (.nil)))⟩
   conv=>whnf
   refine lq_ ?_;conv=>whnf
   refine ask_c (p_ref21_change_v _ _) H rfl rfl (fun v52 H=>?_);conv=>whnf
   refine lq_ ?_;conv=>whnf
   exact fin0_c (enc:=(fun r:RosterState × Int=>.tup [RosterState.v r.1,V.i r.2])) H (.inr rfl) (.cons (.cell rfl rfl (Nat.le_of_ble_eq_true rfl)) (.cons (.tmp rfl) (.nil))) rfl rfl
  conv=>whnf
  iterate 2 (refine Tst.T ?_;conv=>whnf)
  refine tst_c H (fun b46 H=>?_) (fun b46 H=>?_)
  ·conv=>whnf
   refine lq_ ?_;conv=>whnf
   refine finR_c (enc:=(fun r:RosterState × Int=>.tup [RosterState.v r.1,V.i r.2])) H ?_;conv=>whnf
   exact ⟨_,.tup (.cons (fzagg (.cons (.id rfl) (.cons (.id rfl) (.cons (.slw) (.cons (.slw) (.nil))))) rfl) (.cons (.c (.id rfl)) (.nil)))⟩
  conv=>whnf
  refine tst_c H (fun b47 H=>?_) (fun b47 H=>?_)
  ·conv=>whnf
   refine lq_ ?_;conv=>whnf
   refine finR_c (enc:=(fun r:RosterState × Int=>.tup [RosterState.v r.1,V.i r.2])) H ?_;conv=>whnf
   exact ⟨_,.tup (.cons (fzagg (.cons (.id rfl) (.cons (.id rfl) (.cons (.slw) (.cons (.slw) (.nil))))) rfl) (.cons (.c (.id rfl)) (.nil)))⟩
  conv=>whnf
  refine tst_c H (fun b48 H=>?_) (fun b48 H=>?_)
  ·conv=>whnf
   refine lq_ ?_;conv=>whnf
   refine finR_c (enc:=(fun r:RosterState × Int=>.tup [RosterState.v r.1,V.i r.2])) H ?_;conv=>whnf
   exact ⟨_,.tup (.cons (fzagg (.cons (.id rfl) (.cons (.id rfl) (.cons (.slw) (.cons (.slw) (.nil))))) rfl) (.cons (.c (.id rfl)) (.nil)))⟩
  conv=>whnf
  refine lq_ ?_;conv=>whnf
  refine ask_c (p_ref21_change_v _ _) H rfl rfl (fun v49 H=>?_);conv=>whnf
  refine lq_ ?_;conv=>whnf
  exact fin0_c (enc:=(fun r:RosterState × Int=>.tup [RosterState.v r.1,V.i r.2])) H (.inr rfl) (.cons (.cell rfl rfl (Nat.le_of_ble_eq_true rfl)) (.cons (.tmp rfl) (.nil))) rfl rfl
 conv=>whnf
 refine Tst.T ?_;conv=>whnf
 refine tst_c H (fun b4 H=>?_) (fun b4 H=>?_)
 ·conv=>whnf
  refine ixs_c (f:=ItemItem.v) H (fun _=>rfl) (fun x5 H=>?_);conv=>whnf
  refine lq_ ?_;conv=>whnf
  refine ask_c (p_ref21_Check_v _) H rfl rfl (fun v6 H=>?_);conv=>whnf
  refine tst_c H (fun b7 H=>?_) (fun b7 H=>?_)
  ·conv=>whnf
   refine ask_c (p_ref21_Check_v _) H rfl rfl (fun v8 H=>?_);conv=>whnf
   refine lq_ ?_;conv=>whnf
   refine FootQ.mk ⟨rfl,?_⟩;conv=>whnf
   refine finR_c (enc:=(fun r:RosterState × Int=>.tup [RosterState.v r.1,V.i r.2])) H ?_;conv=>whnf
   exact ⟨_,.tup (.cons (fzagg (.cons (.id rfl) (.cons (.id rfl) (.cons (.slw) (.cons (.slw) (.nil))))) rfl) (.cons (.c (.id rfl)) (.nil)))⟩
  conv=>whnf
  refine ask_c (p_ref09_IsBare_v _) H rfl rfl (fun v9 H=>?_);conv=>whnf
  refine Tst.not ?_
  refine tst_d H (fun b10 H=>?_) (fun b10 H=>?_)
  ·conv=>whnf
   refine lq_ ?_;conv=>whnf
   refine finR_c (enc:=(fun r:RosterState × Int=>.tup [RosterState.v r.1,V.i r.2])) H ?_;conv=>whnf
   exact ⟨_,.tup (.cons (fzagg (.cons (.id rfl) (.cons (.id rfl) (.cons (.slw) (.cons (.slw) (.nil))))) rfl) (.cons (.c (.id rfl)) (.nil)))⟩
  conv=>whnf
  refine ask_c (p_ref19_Check_v _) H rfl rfl (fun v11 H=>?_);conv=>whnf
  refine tst_c H (fun b12 H=>?_) (fun b12 H=>?_)
  ·conv=>whnf
   refine ask_c (p_ref19_Check_v _) H rfl rfl (fun v13 H=>?_);conv=>whnf
   refine lq_ ?_;conv=>whnf
   refine FootQ.mk ⟨rfl,?_⟩;conv=>whnf
   refine finR_c (enc:=(fun r:RosterState × Int=>.tup [RosterState.v r.1,V.i r.2])) H ?_;conv=>whnf
   exact ⟨_,.tup (.cons (fzagg (.cons (.id rfl) (.cons (.id rfl) (.cons (.slw) (.cons (.slw) (.nil))))) rfl) (.cons (.c (.id rfl)) (.nil)))⟩
  conv=>whnf
  refine Tst.not ?_
  refine Tst.isT b4 ?_;conv=>whnf
  iterate 8 (refine Tst.F ?_;conv=>whnf)
  refine tst_c H (fun b14 H=>?_) (fun b14 H=>?_)
  ·conv=>whnf
   refine lq_ ?_;conv=>whnf
   refine finR_c (enc:=(fun r:RosterState × Int=>.tup [RosterState.v r.1,V.i r.2])) H ?_;conv=>whnf
   exact ⟨_,.tup (.cons (fzagg (.cons (.id rfl) (.cons (.id rfl) (.cons (.slw) (.cons (.slw) (.nil))))) rfl) (.cons (.c (.id rfl)) (.nil)))⟩
  conv=>whnf
  refine tst_c H (fun b15 H=>?_) (fun b15 H=>?_)
  ·conv=>whnf
   refine lq_ ?_;conv=>whnf
   refine finR_c (enc:=(fun r:RosterState × Int=>.tup [RosterState.v r.1,V.i r.2])) H ?_;conv=>whnf
   exact ⟨_,.tup (.cons (fzagg (.cons (.id rfl) (.cons (.id rfl) (.cons (.slw) (.cons (.slw) (.nil))))) rfl) (.cons (.c (.id rfl)) (.nil)))⟩
  conv=>whnf
  refine lq_ ?_;conv=>whnf
  refine ask_c (p_ref21_change_v _ _) H rfl rfl (fun v16 H=>?_);conv=>whnf
  refine lq_ ?_;conv=>whnf
  exact fin0_c (enc:=(fun r:RosterState × Int=>.tup [RosterState.v r.1,V.i r.2])) H (.inr rfl) (.cons (.cell rfl rfl (Nat.le_of_ble_eq_true rfl)) (.cons (.tmp rfl) (.nil))) rfl rfl
 conv=>whnf
 refine ask_c (p_ref21_Check_v _) H rfl rfl (fun v17 H=>?_);conv=>whnf
 refine tst_c H (fun b18 H=>?_) (fun b18 H=>?_)
 ·conv=>whnf
  refine ask_c (p_ref21_Check_v _) H rfl rfl (fun v19 H=>?_);conv=>whnf
  refine lq_ ?_;conv=>whnf
  refine FootQ.mk ⟨rfl,?_⟩;conv=>whnf
  refine finR_c (enc:=(fun r:RosterState × Int=>.tup [RosterState.v r.1,V.i r.2])) H ?_;conv=>whnf
  exact ⟨_,.tup (.cons (fzagg (.cons (.id rfl) (.cons (.id rfl) (.cons (.slw) (.cons (.slw) (.nil))))) rfl) (.cons (.c (.id rfl)) (.nil)))⟩
 conv=>whnf
 refine ask_c (p_ref09_IsBare_v _) H rfl rfl (fun v20 H=>?_);conv=>whnf
 refine Tst.not ?_
 refine tst_d H (fun b21 H=>?_) (fun b21 H=>?_)
 ·conv=>whnf
  refine lq_ ?_;conv=>whnf
  refine finR_c (enc:=(fun r:RosterState × Int=>.tup [RosterState.v r.1,V.i r.2])) H ?_;conv=>whnf
  exact ⟨_,.tup (.cons (fzagg (.cons (.id rfl) (.cons (.id rfl) (.cons (.slw) (.cons (.slw) (.nil))))) rfl) (.cons (.c (.id rfl)) (.nil)))⟩
 conv=>whnf
 refine ask_c (p_ref19_Check_v _) H rfl rfl (fun v22 H=>?_);conv=>whnf
 refine tst_c H (fun b23 H=>?_) (fun b23 H=>?_)
 ·conv=>whnf
  refine ask_c (p_ref19_Check_v _) H rfl rfl (fun v24 H=>?_);conv=>whnf
  refine lq_ ?_;conv=>whnf
  refine FootQ.mk ⟨rfl,?_⟩;conv=>whnf
  refine finR_c (enc:=(fun r:RosterState × Int=>.tup [RosterState.v r.1,V.i r.2])) H ?_;conv=>whnf
  exact ⟨_,.tup (.cons (fzagg (.cons (.id rfl) (.cons (.id rfl) (.cons (.slw) (.cons (.slw) (.nil))))) rfl) (.cons (.c (.id rfl)) (.nil)))⟩
 conv=>whnf
 refine Tst.not ?_
 refine Tst.isF b4 ?_;conv=>whnf
 iterate 2 (refine Tst.T ?_;conv=>whnf)
 refine LenQ.M ?_;conv=>whnf
 iterate 2 (refine Tst.T ?_;conv=>whnf)
 refine tst_d H (fun b25 H=>?_) (fun b25 H=>?_)
 ·conv=>whnf
  iterate 3 (refine Tst.F ?_;conv=>whnf)
  refine tst_c H (fun b30 H=>?_) (fun b30 H=>?_)
  ·conv=>whnf
   refine lq_ ?_;conv=>whnf
   refine finR_c (enc:=(fun r:RosterState × Int=>.tup [RosterState.v r.1,V.i r.2])) H ?_;conv=>whnf
   exact ⟨_,.tup (.cons (fzagg (.cons (.id rfl) (.cons (.id rfl) (.cons (.slw) (.cons (.slw) (.nil))))) rfl) (.cons (.c (.id rfl)) (.nil)))⟩
  conv=>whnf
  refine tst_c H (fun b31 H=>?_) (fun b31 H=>?_)
  ·conv=>whnf
   refine lq_ ?_;conv=>whnf
   refine finR_c (enc:=(fun r:RosterState × Int=>.tup [RosterState.v r.1,V.i r.2])) H ?_;conv=>whnf
   exact ⟨_,.tup (.cons (fzagg (.cons (.id rfl) (.cons (.id rfl) (.cons (.slw) (.cons (.slw) (.nil))))) rfl) (.cons (.c (.id rfl)) (.nil)))⟩
  conv=>whnf
  refine lq_ ?_;conv=>whnf
  refine ask_c (p_ref21_change_v _ _) H rfl rfl (fun v32 H=>?_);conv=>whnf
  refine lq_ ?_;conv=>whnf
  exact fin0_c (enc:=(fun r:RosterState × Int=>.tup [RosterState.v r.1,V.i r.2])) H (.inr rfl) (.cons (.cell rfl rfl (Nat.le_of_ble_eq_true rfl)) (.cons (.tmp rfl) (.nil))) rfl rfl
 conv=>whnf
 iterate 2 (refine Tst.T ?_;conv=>whnf)
 refine tst_c H (fun b26 H=>?_) (fun b26 H=>?_)
 ·conv=>whnf
  refine lq_ ?_;conv=>whnf
  refine finR_c (enc:=(fun r:RosterState × Int=>.tup [RosterState.v r.1,V.i r.2])) H ?_;conv=>whnf
  exact ⟨_,.tup (.cons (fzagg (.cons (.id rfl) (.cons (.id rfl) (.cons (.slw) (.cons (.slw) (.nil))))) rfl) (.cons (.c (.id rfl)) (.nil)))⟩
 conv=>whnf
 refine tst_c H (fun b27 H=>?_) (fun b27 H=>?_)
 ·conv=>whnf
  refine lq_ ?_;conv=>whnf
  refine finR_c (enc:=(fun r:RosterState × Int=>.tup [RosterState.v r.1,V.i r.2])) H ?_;conv=>whnf
  exact ⟨_,.tup (.cons (fzagg (.cons (.id rfl) (.cons (.id rfl) (.cons (.slw) (.cons (.slw) (.nil))))) rfl) (.cons (.c (.id rfl)) (.nil)))⟩
 conv=>whnf
 refine tst_c H (fun b28 H=>?_) (fun b28 H=>?_)
 ·conv=>whnf
  refine lq_ ?_;conv=>whnf
  refine finR_c (enc:=(fun r:RosterState × Int=>.tup [RosterState.v r.1,V.i r.2])) H ?_;conv=>whnf
  exact ⟨_,.tup (.cons (fzagg (.cons (.id rfl) (.cons (.id rfl) (.cons (.slw) (.cons (.slw) (.nil))))) rfl) (.cons (.c (.id rfl)) (.nil)))⟩
 conv=>whnf
 refine lq_ ?_;conv=>whnf
 refine ask_c (p_ref21_change_v _ _) H rfl rfl (fun v29 H=>?_);conv=>whnf
 refine lq_ ?_;conv=>whnf
 exact fin0_c (enc:=(fun r:RosterState × Int=>.tup [RosterState.v r.1,V.i r.2])) H (.inr rfl) (.cons (.cell rfl rfl (Nat.le_of_ble_eq_true rfl)) (.cons (.tmp rfl) (.nil))) rfl rfl
end Go.Proofs.YtpmoioopjbfhkaaGreat

namespace Go.Proofs.YtpmoioopjbfhkaaGreat
open Go.RowKit
set_option maxRecDepth 1000000
set_option maxHeartbeats 4000000
def gc57:BCode:=(.seq (R_ 4 [O_ 3 (.bx (t_ 0)) 0,O_ 4 (.bx (t_ 1)) 1,O_ 6 (.al (.agg [(.lit (.int .i64 0)),(.lit (.int .i64 0)),(.sl [] true),(.sl [] true),(.lit (.int .i64 0)),(.lit (.int .i64 0)),(.sl [] true),(.sl [] true)])) 2,O_ 7 (.al (.agg [(.lit (.bool false)),(.lit (.bool false)),(.lit (.bool false)),(.lit (.bool false))])) 3,O_ 8 (.mv (i_ 0)) 4]) (.seq (.block 0 (.seq (R_ 0 [O_ 16 (.ld 2 true (t_ 3)) 0,O_ 17 (.ld 8 true (t_ 4)) 0,O_ 18 (.cl 65 [(t_ 16),(t_ 17)]) 0,O_ 19 (.bin .neq (t_ 18) (i_ 0)) 0,O_ 15 (.mv (t_ 19)) 0]) (.cond (t_ 15) (.seq (.reg 0 [O_ 20 (.ld 8 true (t_ 4)) 0,O_ 21 (.bd [(.lit (.bool false)),(.lit (.bool false)),(.lit (.bool false)),(.lit (.bool false))] []) 0,O_ 22 (.ld 2 true (t_ 3)) 0,O_ 23 (.ld 8 true (t_ 4)) 0,O_ 24 (.cl 65 [(t_ 22),(t_ 23)]) 0,U_ (.st 8 (t_ 6) (t_ 20)) 0,U_ (.st 4 (t_ 7) (t_ 21)) 0,O_ 8 (.mv (t_ 24)) 0] (some [[],[],[],[],[3,2],[2,3,4,0],[0,4,3,2,5,1],[1,5,0,6,2,3,4]]) 0 []) .ret) (.seq (R_ 0 [O_ 26 (.mv (t_ 2)) 0,O_ 27 (.bin .lss (t_ 26) (.const (.int .u8 7))) 0,O_ 28 (.mv (t_ 27)) 0,⟨(some 29),.mv (t_ 2),(some (28,false)),0⟩,⟨(some 30),.bin .gtr (t_ 29) (.const (.int .u8 10)),(some (28,false)),0⟩,O_ 31 (.pick (t_ 28) (b_ true) (t_ 30)) 0,O_ 25 (.mv (t_ 31)) 0]) (.cond (t_ 25) (.seq (R_ 0 [O_ 32 (.ld 8 true (t_ 4)) 0,O_ 33 (.bd [(.lit (.bool false)),(.lit (.bool false)),(.lit (.bool false)),(.lit (.bool false))] []) 0,U_ (.st 8 (t_ 6) (t_ 32)) 0,U_ (.st 4 (t_ 7) (t_ 33)) 0,O_ 8 (.mv (i_ 12)) 0]) .ret) .skip))))) (.seq (R_ 1 [O_ 9 (.al (.agg [(.lit (.bool false)),(.lit (.bool false)),(.lit (.bool false)),(.lit (.bool false))])) 0]) (.seq (.reg 0 [O_ 34 (.fa 0 (t_ 4)) 0,O_ 35 (.ld 4 true (t_ 34)) 0,O_ 36 (.fa 1 (t_ 3)) 0,O_ 37 (.ld 1 false (t_ 36)) 0,O_ 38 (.cl 132 [(t_ 35),(t_ 37)]) 0,O_ 39 (.fa 4 (t_ 4)) 0,O_ 40 (.ld 4 true (t_ 39)) 0,O_ 41 (.fa 0 (t_ 3)) 0,O_ 42 (.ld 1 false (t_ 41)) 0,O_ 43 (.cl 132 [(t_ 40),(t_ 42)]) 0,O_ 10 (.mv (t_ 38)) 0,O_ 11 (.mv (t_ 43)) 0] (some [[],[0],[],[2],[2,3,0,1],[],[5],[],[7],[1,0,3,2,4,7,8,5,6],[6,5,8,7,9,1,0,3,2,4],[10,6,5,8,7,4,2,3,0,1,9]]) 0 []) (.seq (R_ 0 [O_ 45 (.mv (t_ 10)) 0,O_ 46 (.mv (t_ 2)) 0,O_ 47 (.cl 133 [(t_ 45),(t_ 46)]) 0,O_ 44 (.mv (t_ 47)) 0,O_ 48 (.ex (t_ 44) 0) 0,O_ 49 (.ex (t_ 44) 1) 0,O_ 10 (.mv (t_ 48)) 0,O_ 50 (.fa 0 (t_ 9)) 0,U_ (.st 1 (t_ 50) (t_ 49)) 0]) (.seq (.seq (R_ 0 [O_ 51 (.fa 0 (t_ 9)) 0,O_ 52 (.ld 1 false (t_ 51)) 0]) (.cond (t_ 52) (R_ 0 [O_ 54 (.mv (t_ 11)) 0,O_ 55 (.mv (t_ 2)) 0,O_ 56 (.cl 134 [(t_ 54),(t_ 55)]) 0,O_ 53 (.mv (t_ 56)) 0,O_ 57 (.ex (t_ 53) 0) 0,O_ 58 (.ex (t_ 53) 1) 0,O_ 11 (.mv (t_ 57)) 0,O_ 59 (.fa 1 (t_ 9)) 0,U_ (.st 1 (t_ 59) (t_ 58)) 0]) .skip)) (.seq (R_ 1 [O_ 61 (.fa 0 (t_ 4)) 0,O_ 62 (.ld 4 true (t_ 61)) 0,O_ 63 (.fa 1 (t_ 3)) 0,O_ 64 (.ld 1 false (t_ 63)) 0,O_ 65 (.mv (t_ 10)) 0,O_ 66 (.cl 42 [(t_ 62),(t_ 64),(t_ 65)]) 0,O_ 60 (.mv (t_ 66)) 0,O_ 67 (.ex (t_ 60) 0) 0,O_ 68 (.ex (t_ 60) 1) 0,O_ 12 (.al (.agg [(.lit (.int .i64 0)),(.lit (.int .i64 0)),(.sl [] true),(.sl [] true)])) 0,U_ (.st 4 (t_ 12) (t_ 67)) 1,O_ 13 (.mv (t_ 68)) 1]) (.seq (.seq (R_ 0 [O_ 69 (.mv (t_ 13)) 0,O_ 70 (.bin .neq (t_ 69) (i_ 0)) 0]) (.cond (t_ 70) (.seq (R_ 0 [O_ 71 (.ld 8 true (t_ 4)) 0,O_ 72 (.bd [(.lit (.bool false)),(.lit (.bool false)),(.lit (.bool false)),(.lit (.bool false))] []) 0,O_ 73 (.mv (t_ 13)) 0,U_ (.st 8 (t_ 6) (t_ 71)) 0,U_ (.st 4 (t_ 7) (t_ 72)) 0,O_ 8 (.mv (t_ 73)) 0]) .ret) .skip)) (.seq (R_ 1 [O_ 75 (.fa 4 (t_ 4)) 0,O_ 76 (.ld 4 true (t_ 75)) 0,O_ 77 (.fa 0 (t_ 3)) 0,O_ 78 (.ld 1 false (t_ 77)) 0,O_ 79 (.mv (t_ 11)) 0,O_ 80 (.cl 42 [(t_ 76),(t_ 78),(t_ 79)]) 0,O_ 74 (.mv (t_ 80)) 0,O_ 81 (.ex (t_ 74) 0) 0,O_ 82 (.ex (t_ 74) 1) 0,O_ 14 (.al (.agg [(.lit (.int .i64 0)),(.lit (.int .i64 0)),(.sl [] true),(.sl [] true)])) 0,U_ (.st 4 (t_ 14) (t_ 81)) 1,O_ 13 (.mv (t_ 82)) 1]) (.seq (.seq (R_ 0 [O_ 83 (.mv (t_ 13)) 0,O_ 84 (.bin .neq (t_ 83) (i_ 0)) 0]) (.cond (t_ 84) (.seq (R_ 0 [O_ 85 (.ld 8 true (t_ 4)) 0,O_ 86 (.bd [(.lit (.bool false)),(.lit (.bool false)),(.lit (.bool false)),(.lit (.bool false))] []) 0,O_ 87 (.mv (t_ 13)) 0,U_ (.st 8 (t_ 6) (t_ 85)) 0,U_ (.st 4 (t_ 7) (t_ 86)) 0,O_ 8 (.mv (t_ 87)) 0]) .ret) .skip)) (.seq (.reg 0 [O_ 88 (.fa 0 (t_ 12)) 0,O_ 89 (.ld 1 false (t_ 88)) 0,O_ 90 (.fa 0 (t_ 4)) 0,O_ 91 (.fa 0 (t_ 90)) 0,O_ 92 (.ld 1 false (t_ 91)) 0,O_ 93 (.bin .neq (t_ 89) (t_ 92)) 0,O_ 94 (.fa 0 (t_ 14)) 0,O_ 95 (.ld 1 false (t_ 94)) 0,O_ 96 (.fa 4 (t_ 4)) 0,O_ 97 (.fa 0 (t_ 96)) 0,O_ 98 (.ld 1 false (t_ 97)) 0,O_ 99 (.bin .neq (t_ 95) (t_ 98)) 0,O_ 100 (.fa 2 (t_ 9)) 0,U_ (.st 1 (t_ 100) (t_ 93)) 0,O_ 101 (.fa 3 (t_ 9)) 0,U_ (.st 1 (t_ 101) (t_ 99)) 0] (some [[],[0],[],[2],[2,3],[3,2,4,0,1],[],[6],[],[8],[8,9],[9,8,10,6,7],[5,4,3,2,1,0],[0,1,2,3,4,5,12],[13,12,11,10,9,8,7,6,5,4,3,2,1,0],[0,1,2,3,4,5,6,7,8,9,10,11,12,13,14]]) 0 []) (.seq (.reg 0 [O_ 102 (.ld 4 true (t_ 12)) 0,O_ 103 (.ld 4 true (t_ 14)) 0,O_ 104 (.bd [(.lit (.int .i64 0)),(.lit (.int .i64 0)),(.sl [] true),(.sl [] true),(.lit (.int .i64 0)),(.lit (.int .i64 0)),(.sl [] true),(.sl [] true)] [(0,4,(t_ 102)),(4,4,(t_ 103))]) 0,O_ 105 (.ld 4 true (t_ 9)) 0,U_ (.st 8 (t_ 6) (t_ 104)) 0,U_ (.st 4 (t_ 7) (t_ 105)) 0,O_ 8 (.mv (i_ 0)) 0] (some [[],[],[1,0],[],[0,1,2],[2,1,0,4,3],[3,4,0,1,2,5]]) 0 []) .ret))))))))))))
theorem gc57_ok:compF Tryz.prog Tryz.f57=some (gc57.er,106,[.cell 6 8 true,.cell 7 4 true,.tmp 8]):=by unfold gc57;kernel_rfl
theorem p_ref22_Say_v {u1 u2 u3 u4:Bool} (a0:Ref22Names) (a1:Ref22State) (a2:Int):CallsO Tryz.prog 57 [.agg [.s a0.A,.s a0.B],.agg [.i a1.A.Ver,.i a1.A.Floor,.sl (List.map ItemItem.v a1.A.Items) u1,.sl (List.map RosterGone.v a1.A.Gone) u2,.i a1.B.Ver,.i a1.B.Floor,.sl (List.map ItemItem.v a1.B.Items) u3,.sl (List.map RosterGone.v a1.B.Gone) u4],.y8 a2] (fun r:Ref22State × PairDone × Int=>.tup [Ref22State.v r.1,PairDone.v r.2.1,V.i r.2.2]) (p_ref22_Say a0 a1 a2):=by
 refine callsO_comp mix Tryz.func57 gc57_ok fun r H=>?_
 rw [p_ref22_Say] at H
 conv=>whnf
 refine ask_c (p_ref22_Check_v _ _) H rfl rfl (fun v1 H=>?_);conv=>whnf
 refine tst_c H (fun b2 H=>?_) (fun b2 H=>?_)
 ·conv=>whnf
  refine ask_c (p_ref22_Check_v _ _) H rfl rfl (fun v3 H=>?_);conv=>whnf
  refine lq_ ?_;conv=>whnf
  refine lq_ ?_;conv=>whnf
  refine FootQ.mk ⟨rfl,?_⟩;conv=>whnf
  refine finR_c (enc:=(fun r:Ref22State × PairDone × Int=>.tup [Ref22State.v r.1,PairDone.v r.2.1,V.i r.2.2])) H ?_;conv=>whnf
  exact ⟨_,.tup (.cons (fzagg (.cons (.id rfl) (.cons (.id rfl) (.cons (.slw) (.cons (.slw) (.cons (.id rfl) (.cons (.id rfl) (.cons (.slw) (.cons (.slw) (.nil))))))))) rfl) (.cons (fzagg (.cons (.id rfl) (.cons (.id rfl) (.cons (.id rfl) (.cons (.id rfl) (.nil))))) rfl) (.cons (.c (.id rfl)) (.nil))))⟩
 conv=>whnf
 refine tst_c H (fun b4 H=>?_) (fun b4 H=>?_)
 ·conv=>whnf
  iterate 3 (refine Tst.T ?_;conv=>whnf)
  refine lq_ ?_;conv=>whnf
  refine lq_ ?_;conv=>whnf
  refine finR_c (enc:=(fun r:Ref22State × PairDone × Int=>.tup [Ref22State.v r.1,PairDone.v r.2.1,V.i r.2.2])) H ?_;conv=>whnf
  exact ⟨_,.tup (.cons (fzagg (.cons (.id rfl) (.cons (.id rfl) (.cons (.slw) (.cons (.slw) (.cons (.id rfl) (.cons (.id rfl) (.cons (.slw) (.cons (.slw) (.nil))))))))) rfl) (.cons (fzagg (.cons (.id rfl) (.cons (.id rfl) (.cons (.id rfl) (.cons (.id rfl) (.nil))))) rfl) (.cons (.c (.id rfl)) (.nil))))⟩
 conv=>whnf
 iterate 2 (refine Tst.F ?_;conv=>whnf)
 refine tst_c H (fun b5 H=>?_) (fun b5 H=>?_)
 ·conv=>whnf
  refine lq_ ?_;conv=>whnf
  refine lq_ ?_;conv=>whnf
  refine finR_c (enc:=(fun r:Ref22State × PairDone × Int=>.tup [Ref22State.v r.1,PairDone.v r.2.1,V.i r.2.2])) H ?_;conv=>whnf
  exact ⟨_,.tup (.cons (fzagg (.cons (.id rfl) (.cons (.id rfl) (.cons (.slw) (.cons (.slw) (.cons (.id rfl) (.cons (.id rfl) (.cons (.slw) (.cons (.slw) (.nil))))))))) rfl) (.cons (fzagg (.cons (.id rfl) (.cons (.id rfl) (.cons (.id rfl) (.cons (.id rfl) (.nil))))) rfl) (.cons (.c (.id rfl)) (.nil))))⟩
 conv=>whnf
 refine ask_c (p_ref22_has_v _ _) H rfl rfl (fun v6 H=>?_);conv=>whnf
 refine ask_c (p_ref22_has_v _ _) H rfl rfl (fun v7 H=>?_);conv=>whnf
 refine FootQ.mk ⟨rfl,?_⟩;conv=>whnf
 refine ask_c (p_ref19_Out_v _ _) H rfl rfl (fun v8 H=>?_);conv=>whnf
 refine lq_ ?_;conv=>whnf
 refine tst_d H (fun b9 H=>?_) (fun b9 H=>?_)
 ·conv=>whnf
  refine ask_c (p_ref21_Sub_v _ _ _) H rfl rfl (fun v15 H=>?_);conv=>whnf
  refine lq_ ?_;conv=>whnf
  refine tst_c H (fun b16 H=>?_) (fun b16 H=>?_)
  ·conv=>whnf
   refine lq_ ?_;conv=>whnf
   refine lq_ ?_;conv=>whnf
   refine finR_c (enc:=(fun r:Ref22State × PairDone × Int=>.tup [Ref22State.v r.1,PairDone.v r.2.1,V.i r.2.2])) H ?_;conv=>whnf
   exact ⟨_,.tup (.cons (fzagg (.cons (.id rfl) (.cons (.id rfl) (.cons (.slw) (.cons (.slw) (.cons (.id rfl) (.cons (.id rfl) (.cons (.slw) (.cons (.slw) (.nil))))))))) rfl) (.cons (fzagg (.cons (.id rfl) (.cons (.id rfl) (.cons (.id rfl) (.cons (.id rfl) (.nil))))) rfl) (.cons (.c (.id rfl)) (.nil))))⟩
  conv=>whnf
  refine ask_c (p_ref21_Sub_v _ _ _) H rfl rfl (fun v17 H=>?_);conv=>whnf
  refine lq_ ?_;conv=>whnf
  refine tst_c H (fun b18 H=>?_) (fun b18 H=>?_)
  ·conv=>whnf
   refine lq_ ?_;conv=>whnf
   refine lq_ ?_;conv=>whnf
   refine finR_c (enc:=(fun r:Ref22State × PairDone × Int=>.tup [Ref22State.v r.1,PairDone.v r.2.1,V.i r.2.2])) H ?_;conv=>whnf
   exact ⟨_,.tup (.cons (fzagg (.cons (.id rfl) (.cons (.id rfl) (.cons (.slw) (.cons (.slw) (.cons (.id rfl) (.cons (.id rfl) (.cons (.slw) (.cons (.slw) (.nil))))))))) rfl) (.cons (fzagg (.cons (.id rfl) (.cons (.id rfl) (.cons (.id rfl) (.cons (.id rfl) (.nil))))) rfl) (.cons (.c (.id rfl)) (.nil))))⟩
  conv=>whnf
  refine lq_ ?_;conv=>whnf
  refine lq_ ?_;conv=>whnf
  refine FootQ.mk ⟨rfl,?_⟩;conv=>whnf
  refine lq_ ?_;conv=>whnf
  refine lq_ ?_;conv=>whnf
  refine FootQ.mk ⟨rfl,?_⟩;conv=>whnf
  exact fin0_c (enc:=(fun r:Ref22State × PairDone × Int=>.tup [Ref22State.v r.1,PairDone.v r.2.1,V.i r.2.2])) H (.inr rfl) (.cons (.cell rfl rfl (Nat.le_of_ble_eq_true rfl)) (.cons (.cell rfl rfl (Nat.le_of_ble_eq_true rfl)) (.cons (.tmp rfl) (.nil)))) rfl rfl
 conv=>whnf
 refine ask_c (p_ref19_In_v _ _) H rfl rfl (fun v10 H=>?_);conv=>whnf
 refine lq_ ?_;conv=>whnf
 refine ask_c (p_ref21_Sub_v _ _ _) H rfl rfl (fun v11 H=>?_);conv=>whnf
 refine lq_ ?_;conv=>whnf
 refine tst_c H (fun b12 H=>?_) (fun b12 H=>?_)
 ·conv=>whnf
  refine lq_ ?_;conv=>whnf
  refine lq_ ?_;conv=>whnf
  refine finR_c (enc:=(fun r:Ref22State × PairDone × Int=>.tup [Ref22State.v r.1,PairDone.v r.2.1,V.i r.2.2])) H ?_;conv=>whnf
  exact ⟨_,.tup (.cons (fzagg (.cons (.id rfl) (.cons (.id rfl) (.cons (.slw) (.cons (.slw) (.cons (.id rfl) (.cons (.id rfl) (.cons (.slw) (.cons (.slw) (.nil))))))))) rfl) (.cons (fzagg (.cons (.id rfl) (.cons (.id rfl) (.cons (.id rfl) (.cons (.id rfl) (.nil))))) rfl) (.cons (.c (.id rfl)) (.nil))))⟩
 conv=>whnf
 refine ask_c (p_ref21_Sub_v _ _ _) H rfl rfl (fun v13 H=>?_);conv=>whnf
 refine lq_ ?_;conv=>whnf
 refine tst_c H (fun b14 H=>?_) (fun b14 H=>?_)
 ·conv=>whnf
  refine lq_ ?_;conv=>whnf
  refine lq_ ?_;conv=>whnf
  refine finR_c (enc:=(fun r:Ref22State × PairDone × Int=>.tup [Ref22State.v r.1,PairDone.v r.2.1,V.i r.2.2])) H ?_;conv=>whnf
  exact ⟨_,.tup (.cons (fzagg (.cons (.id rfl) (.cons (.id rfl) (.cons (.slw) (.cons (.slw) (.cons (.id rfl) (.cons (.id rfl) (.cons (.slw) (.cons (.slw) (.nil))))))))) rfl) (.cons (fzagg (.cons (.id rfl) (.cons (.id rfl) (.cons (.id rfl) (.cons (.id rfl) (.nil))))) rfl) (.cons (.c (.id rfl)) (.nil))))⟩
 conv=>whnf
 refine lq_ ?_;conv=>whnf
 refine lq_ ?_;conv=>whnf
 refine FootQ.mk ⟨rfl,?_⟩;conv=>whnf
 refine lq_ ?_;conv=>whnf
 refine lq_ ?_;conv=>whnf
 refine FootQ.mk ⟨rfl,?_⟩;conv=>whnf
 exact fin0_c (enc:=(fun r:Ref22State × PairDone × Int=>.tup [Ref22State.v r.1,PairDone.v r.2.1,V.i r.2.2])) H (.inr rfl) (.cons (.cell rfl rfl (Nat.le_of_ble_eq_true rfl)) (.cons (.cell rfl rfl (Nat.le_of_ble_eq_true rfl)) (.cons (.tmp rfl) (.nil)))) rfl rfl
end Go.Proofs.YtpmoioopjbfhkaaGreat

namespace Go.Proofs.YtpmoioopjbfhkaaGreat
open Go.RowKit
set_option maxRecDepth 100000
set_option maxHeartbeats 4000000
def gc32:BCode:=(.seq (R_ 0 [O_ 4 (.mv (b_ false)) 0]) (.seq (.seq (R_ 0 [O_ 6 (.mv (t_ 0)) 0,O_ 7 (.lens (t_ 6)) 0,O_ 8 (.mv (t_ 1)) 0,O_ 9 (.lens (t_ 8)) 0,O_ 10 (.bin .neq (t_ 7) (t_ 9)) 0]) (.cond (t_ 10) (.seq (R_ 0 [O_ 4 (.mv (b_ false)) 0]) .ret) .skip)) (.seq (.seq (R_ 0 [O_ 5 (.mv (i_ 0)) 0]) (.block 0 (.loop (.seq (.seq (R_ 0 [O_ 11 (.mv (t_ 5)) 0,O_ 12 (.mv (t_ 0)) 0,O_ 13 (.lens (t_ 12)) 0,O_ 14 (.bin .lss (t_ 11) (t_ 13)) 0]) (.cond (t_ 14) .skip (.exit 0))) (.seq (.block 1 (.seq (.reg 0 [O_ 17 (.mv (t_ 0)) 0,O_ 18 (.mv (t_ 5)) 0,O_ 19 (.ixs 5 (t_ 17) (t_ 18)) 0,O_ 20 (.ld 5 true (t_ 19)) 0,O_ 21 (.mv (t_ 1)) 0,O_ 22 (.mv (t_ 5)) 0,O_ 23 (.ixs 5 (t_ 21) (t_ 22)) 0,O_ 24 (.ld 5 true (t_ 23)) 0,O_ 25 (.eqa true [2,2,1,1,0] (t_ 20) (t_ 24)) 0] (some [[],[],[1,0],[0,1,2],[],[],[5,4],[4,5,6],[6,5,4,7,2,1,0,3]]) 0 []) (.cond (t_ 25) (.seq (R_ 0 [O_ 4 (.mv (b_ false)) 0]) .ret) .skip))) (R_ 0 [O_ 15 (.mv (t_ 5)) 0,O_ 16 (.bin .add (t_ 15) (i_ 1)) 0,O_ 5 (.mv (t_ 16)) 0])))))) (.seq (R_ 0 [O_ 4 (.mv (b_ true)) 0]) .ret))))
theorem gc32_ok:compF Tryz.prog Tryz.f32=some (gc32.er,26,[.tmp 4]):=by unfold gc32;kernel_rfl
theorem p_ref20_SameItems_v {u1 u2:Bool} (a0:List ItemItem) (a1:List ItemItem):CallsO Tryz.prog 32 [.sl (List.map ItemItem.v a0) u1,.sl (List.map ItemItem.v a1) u2] V.b (p_ref20_SameItems a0 a1):=by
 refine callsO_comp mix Tryz.func32 gc32_ok fun r H=>?_
 rw [p_ref20_SameItems] at H
 conv=>whnf
 iterate 2 (refine LenQ.M ?_;conv=>whnf)
 refine tst_c H (fun b1 H=>?_) (fun b1 H=>?_)
 ·conv=>whnf
  exact fb_ H
 conv=>whnf
 obtain ⟨o3,HL4,HQ5⟩:=bind_c H
 refine loop_c [4,5] [11,12,13,14,15,16,17,18,19,20,21,22,23,24,25] [11,12,13,14,15,16,17,18,19,20,21,22,23,24,25] (fun n vals st=>(∃ y7,p_ref20_SameItems_l1  a0 a1 n y7=some o3∧vals=[.b false,.i y7]∧st=[])) fuel 0 [] (⟨_,HL4,rfl,rfl⟩) (Nat.zero_le _) rfl (by kernel_rfl) (by kernel_rfl) rfl trivial ?_
 rintro (_ | n6) _ _ (⟨y7,H,rfl,rfl⟩)
 ·rw [p_ref20_SameItems_l1] at H;cases H
 rw [p_ref20_SameItems_l1] at H
 conv=>whnf
 refine LenQ.M ?_;conv=>whnf
 refine tst_d H (fun b8 H=>?_) (fun b8 H=>?_)
 ·conv=>whnf
  obtain rfl:=Option.some.inj H
  have H:=HQ5
  try dsimp only at H
  exact fb_ H
 conv=>whnf
 refine ixs_c (f:=ItemItem.v) H (fun _=>rfl) (fun x9 H=>?_);conv=>whnf
 refine ixs_c (f:=ItemItem.v) H (fun _=>rfl) (fun x10 H=>?_);conv=>whnf
 refine FootQ.mk ⟨rfl,?_⟩;conv=>whnf
 refine Tst.not ?_
 refine tst_d H (fun b11 H=>?_) (fun b11 H=>?_)
 ·conv=>whnf
  obtain rfl:=Option.some.inj H
  have H:=HQ5
  try dsimp only at H
  exact fb_ H
 conv=>whnf
 refine Ari.w ?_;conv=>whnf
 exact again_c [11,12,13,14,15,16,17,18,19,20,21,22,23,24,25] n6 0 [] (⟨_,H,rfl,rfl⟩) (Nat.lt_succ_self _) (Nat.zero_le _) rfl (by kernel_rfl) (by kernel_rfl) rfl trivial
end Go.Proofs.YtpmoioopjbfhkaaGreat

