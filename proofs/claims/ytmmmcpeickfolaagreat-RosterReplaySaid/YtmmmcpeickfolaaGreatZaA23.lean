/- A part of the proof: 2 texts joined. -/
import Derived.Test.YtmmmcpeickfolaaGreatZaA16
import Derived.Test.YtmmmcpeickfolaaGreatZaA19
import Derived.Test.YtmmmcpeickfolaaGreatZaA21
import Derived.Test.YtmmmcpeickfolaaGreatZaA10
import Derived.KernelRfl
import Derived.Test.YtmmmcpeickfolaaGreatZaA18
set_option linter.all false
namespace Go.Proofs.YtmmmcpeickfolaaGreat
open Go.RowKit
set_option maxRecDepth 100000
set_option maxHeartbeats 4000000
def gc74:BCode:=(.seq (R_ 2 [O_ 2 (.bx (t_ 0)) 0,O_ 4 (.al (.agg [(.lit (.int .i64 0)),(.lit (.int .i64 0)),(.sl [] true),(.sl [] true)])) 1,O_ 5 (.mv (i_ 0)) 2]) (.seq (.reg 1 [O_ 11 (.ld 4 true (t_ 2)) 0,O_ 12 (.cl 123 [(t_ 11)]) 0,O_ 6 (.al (.agg [(.lit (.int .i64 0)),(.lit (.int .i64 0)),(.sl [] true),(.sl [] true)])) 0,U_ (.st 4 (t_ 6) (t_ 12)) 1] none 2 []) (.seq (.seq (R_ 0 [O_ 13 (.ld 4 true (t_ 2)) 0,O_ 14 (.cl 45 [(t_ 13)]) 0,O_ 7 (.mv (t_ 14)) 0]) (.seq (R_ 0 [O_ 15 (.mv (t_ 7)) 0,O_ 16 (.bin .neq (t_ 15) (i_ 0)) 0]) (.cond (t_ 16) (.seq (R_ 0 [O_ 17 (.ld 4 true (t_ 6)) 0,O_ 18 (.mv (t_ 7)) 0,U_ (.st 4 (t_ 4) (t_ 17)) 0,O_ 5 (.mv (t_ 18)) 0]) .ret) .skip))) (.seq (.seq (R_ 0 [O_ 20 (.ld 4 true (t_ 2)) 0,O_ 21 (.mv (t_ 1)) 0,O_ 22 (.cl 128 [(t_ 20),(t_ 21)]) 0,O_ 19 (.mv (t_ 22)) 0,O_ 23 (.ex (t_ 19) 0) 0,O_ 24 (.ex (t_ 19) 1) 0,O_ 8 (.mv (t_ 23)) 0,O_ 9 (.mv (t_ 24)) 0]) (.seq (R_ 0 [O_ 25 (.mv (t_ 9)) 0,O_ 26 (.un .not (t_ 25)) 0]) (.cond (t_ 26) (.seq (R_ 0 [O_ 27 (.ld 4 true (t_ 6)) 0,U_ (.st 4 (t_ 4) (t_ 27)) 0,O_ 5 (.mv (i_ 6)) 0]) .ret) .skip))) (.join (.seq (R_ 0 [O_ 28 (.ld 4 true (t_ 2)) 0,O_ 29 (.cl 125 [(t_ 28),(b_ true),(b_ false)]) 0,O_ 10 (.mv (t_ 29)) 0]) (.seq (R_ 0 [O_ 30 (.mv (t_ 10)) 0,O_ 31 (.bin .neq (t_ 30) (i_ 0)) 0]) (.cond (t_ 31) (.seq (R_ 0 [O_ 32 (.ld 4 true (t_ 6)) 0,O_ 33 (.mv (t_ 10)) 0,U_ (.st 4 (t_ 4) (t_ 32)) 0,O_ 5 (.mv (t_ 33)) 0]) .ret) .skip))) (.seq (R_ 0 [O_ 34 (.ld 4 true (t_ 6)) 0,O_ 35 (.mv (t_ 1)) 0,O_ 36 (.bd [(.lit (.string ⟨#[]⟩)),(.lit (.string ⟨#[]⟩)),(.lit (.int .i64 0)),(.lit (.int .i64 0)),(.lit (.bool false))] [(0,1,(t_ 35))]) 0,O_ 37 (.cl 126 [(t_ 34),(t_ 36)]) 0,U_ (.st 4 (t_ 4) (t_ 37)) 0,O_ 5 (.mv (i_ 0)) 0]) .ret))))))
theorem gc74_ok:compF Tryz.prog Tryz.f74=some (gc74.er,38,[.cell 4 4 true,.tmp 5]):=by unfold gc74;kernel_rfl
theorem p_roster_Drop_v {u1 u2:Bool} (a0:RosterState) (a1:ByteArray):CallsO Tryz.prog 74 [.agg [.i a0.Ver,.i a0.Floor,.sl (List.map ItemItem.v a0.Items) u1,.sl (List.map RosterGone.v a0.Gone) u2],.s a1] (fun r:RosterState × Int=>.tup [RosterState.v r.1,V.i r.2]) (p_roster_Drop a0 a1):=by
 refine callsO_comp mix Tryz.func74 gc74_ok fun r H=>?_
 rw [p_roster_Drop] at H
 conv=>whnf
 refine p_roster_State_own_c (i:=3) (j:=4) H (by decide) rfl rfl (fun H=>?_) (fun G H=>?_) (fun I H=>?_) (fun I G H=>?_)
 ·try dsimp only at H
  conv=>whnf
  refine lq_ ?_;conv=>whnf
  refine ask_c (p_roster_Check_v _) H rfl rfl (fun v1 H=>?_);conv=>whnf
  refine tst_c H (fun b2 H=>?_) (fun b2 H=>?_)
  ·conv=>whnf
   refine lq_ ?_;conv=>whnf
   refine finR_c (enc:=(fun r:RosterState × Int=>.tup [RosterState.v r.1,V.i r.2])) H ?_;conv=>whnf
   exact ⟨_,.tup (.cons (fzagg (.cons (.id rfl) (.cons (.id rfl) (.cons (.slw) (.cons (.slw) (.nil))))) rfl) (.cons (.c (.id rfl)) (.nil)))⟩
  conv=>whnf
  refine ask_c (p_roster_State_find_v _ _) H rfl rfl (fun v3 H=>?_);conv=>whnf
  refine Tst.not ?_
  refine tst_d H (fun b4 H=>?_) (fun b4 H=>?_)
  ·conv=>whnf
   refine lq_ ?_;conv=>whnf
   refine finR_c (enc:=(fun r:RosterState × Int=>.tup [RosterState.v r.1,V.i r.2])) H ?_;conv=>whnf
   exact ⟨_,.tup (.cons (fzagg (.cons (.id rfl) (.cons (.id rfl) (.cons (.slw) (.cons (.slw) (.nil))))) rfl) (.cons (.c (.id rfl)) (.nil)))⟩
  conv=>whnf
  obtain ⟨K5,hK6,o7,HL8,HQ9⟩:=join0_c H
  refine join_c [5,4,6] [10,28,29,30,31,32,33,2] (fun vals st=>(K5 (.inr ())=some r∧vals=[.i (0:Int),.ptr 0 0,.ptr 1 0]∧st=[.live [.i (0:Int),.i (0:Int),.sl (List.map ItemItem.v []) true,.sl (List.map RosterGone.v []) true] 0,.live [.i a0.Ver,.i a0.Floor,.sl (List.map ItemItem.v []) true,.sl (List.map RosterGone.v []) true] 0,.dead,.dead,.dead])) ?_ ?_
  ·have H:=HL8
   conv=>whnf
   refine ask_c (p_roster_State_may_v _ _ _) H rfl rfl (fun v11 H=>?_);conv=>whnf
   refine tst_d H (fun b12 H=>?_) (fun b12 H=>?_)
   ·conv=>whnf
    obtain rfl:=Option.some.inj H
    exact arrive_c [10,28,29,30,31,32,33,2] 5 [1,2,0,0,0] (⟨HQ9,rfl,rfl⟩) (Nat.zero_le _) rfl (by kernel_rfl) (by kernel_rfl) rfl ⟨⟨rfl,rfl,rfl⟩,⟨⟨rfl,rfl,rfl⟩,trivial⟩⟩
   conv=>whnf
   refine lq_ ?_;conv=>whnf
   obtain rfl:=Option.some.inj H
   have H:=HQ9
   rw [hK6] at H
   try dsimp only at H
   refine finR_c (enc:=(fun r:RosterState × Int=>.tup [RosterState.v r.1,V.i r.2])) H ?_;conv=>whnf
   exact ⟨_,.tup (.cons (fzagg (.cons (.id rfl) (.cons (.id rfl) (.cons (.slw) (.cons (.slw) (.nil))))) rfl) (.cons (.c (.id rfl)) (.nil)))⟩
  rintro _ _ (⟨H,rfl,rfl⟩)
  rw [hK6] at H
  try dsimp only at H
  conv=>whnf
  refine askW_c (fun s hs=>p_roster_State_change_nn _ _ _ rfl rfl rfl s hs) H rfl rfl rfl (fun v13 H=>?_);conv=>whnf
  refine lq_ ?_;conv=>whnf
  exact fin0_c (enc:=(fun r:RosterState × Int=>.tup [RosterState.v r.1,V.i r.2])) H (.inr rfl) (.cons (.cell rfl rfl (Nat.le_of_ble_eq_true rfl)) (.cons (.tmp rfl) (.nil))) rfl rfl
 ·try dsimp only at H
  conv=>whnf
  refine lq_ ?_;conv=>whnf
  refine ask_c (p_roster_Check_v _) H rfl rfl (fun v14 H=>?_);conv=>whnf
  refine tst_c H (fun b15 H=>?_) (fun b15 H=>?_)
  ·conv=>whnf
   refine lq_ ?_;conv=>whnf
   refine finRz_c (enc:=(fun r:RosterState × Int=>.tup [RosterState.v r.1,V.i r.2])) [4] H ?_;conv=>whnf
   refine ⟨Nat.zero_le _,?_⟩;conv=>whnf
   exact ⟨_,.tup (.cons (fzagg (.cons (.id rfl) (.cons (.id rfl) (.cons (.slw) (.cons (fzown (f:=RosterGone.v) (l:=G) rfl rfl (fun _=>rfl) (fun _=>rfl)) (.nil))))) rfl) (.cons (.c (.id rfl)) (.nil)))⟩
  conv=>whnf
  refine ask_c (p_roster_State_find_v _ _) H rfl rfl (fun v16 H=>?_);conv=>whnf
  refine Tst.not ?_
  refine tst_d H (fun b17 H=>?_) (fun b17 H=>?_)
  ·conv=>whnf
   refine lq_ ?_;conv=>whnf
   refine finRz_c (enc:=(fun r:RosterState × Int=>.tup [RosterState.v r.1,V.i r.2])) [4] H ?_;conv=>whnf
   refine ⟨Nat.zero_le _,?_⟩;conv=>whnf
   exact ⟨_,.tup (.cons (fzagg (.cons (.id rfl) (.cons (.id rfl) (.cons (.slw) (.cons (fzown (f:=RosterGone.v) (l:=G) rfl rfl (fun _=>rfl) (fun _=>rfl)) (.nil))))) rfl) (.cons (.c (.id rfl)) (.nil)))⟩
  conv=>whnf
  obtain ⟨K18,hK19,o20,HL21,HQ22⟩:=join0_c H
  refine join_c [5,4,6] [10,28,29,30,31,32,33,2,12] (fun vals st=>(K18 (.inr ())=some r∧vals=[.i (0:Int),.ptr 0 0,.ptr 1 0]∧st=[.live [.i (0:Int),.i (0:Int),.sl (List.map ItemItem.v []) true,.sl (List.map RosterGone.v []) true] 0,.live [.i a0.Ver,.i a0.Floor,.sl (List.map ItemItem.v []) true,.osl 3 0 (List.length G) 2 false] 0,.dead,.live (cellsM RosterGone.v G) 0,.dead])) ?_ ?_
  ·have H:=HL21
   conv=>whnf
   refine ask_c (p_roster_State_may_v _ _ _) H rfl rfl (fun v24 H=>?_);conv=>whnf
   refine tst_d H (fun b25 H=>?_) (fun b25 H=>?_)
   ·conv=>whnf
    obtain rfl:=Option.some.inj H
    exact arrive_c [10,28,29,30,31,32,33,2,12] 5 [1,2,0,4,0] (⟨HQ22,rfl,rfl⟩) (Nat.zero_le _) rfl (by kernel_rfl) (by kernel_rfl) rfl ⟨⟨rfl,rfl,rfl⟩,⟨⟨rfl,rfl,rfl⟩,wkB_live0 rfl (cellsM_idlt (f:=RosterGone.v) (fun _=>rfl) _) rfl trivial⟩⟩
   conv=>whnf
   refine lq_ ?_;conv=>whnf
   obtain rfl:=Option.some.inj H
   have H:=HQ22
   rw [hK19] at H
   try dsimp only at H
   refine finRz_c (enc:=(fun r:RosterState × Int=>.tup [RosterState.v r.1,V.i r.2])) [4] H ?_;conv=>whnf
   refine ⟨Nat.zero_le _,?_⟩;conv=>whnf
   exact ⟨_,.tup (.cons (fzagg (.cons (.id rfl) (.cons (.id rfl) (.cons (.slw) (.cons (fzown (f:=RosterGone.v) (l:=G) rfl rfl (fun _=>rfl) (fun _=>rfl)) (.nil))))) rfl) (.cons (.c (.id rfl)) (.nil)))⟩
  rintro _ _ (⟨H,rfl,rfl⟩)
  rw [hK19] at H
  try dsimp only at H
  conv=>whnf
  refine askW_c (fun s hs=>p_roster_State_change_no _ _ _ _ rfl rfl rfl s hs) H rfl rfl rfl (fun v26 H=>?_);conv=>whnf
  refine lq_ ?_;conv=>whnf
  exact fin0_c (enc:=(fun r:RosterState × Int=>.tup [RosterState.v r.1,V.i r.2])) H (.inr rfl) (.cons (.cell rfl rfl (Nat.le_of_ble_eq_true rfl)) (.cons (.tmp rfl) (.nil))) rfl rfl
 ·try dsimp only at H
  conv=>whnf
  refine lq_ ?_;conv=>whnf
  refine ask_c (p_roster_Check_v _) H rfl rfl (fun v27 H=>?_);conv=>whnf
  refine tst_c H (fun b28 H=>?_) (fun b28 H=>?_)
  ·conv=>whnf
   refine lq_ ?_;conv=>whnf
   refine finRz_c (enc:=(fun r:RosterState × Int=>.tup [RosterState.v r.1,V.i r.2])) [3] H ?_;conv=>whnf
   refine ⟨Nat.zero_le _,?_⟩;conv=>whnf
   exact ⟨_,.tup (.cons (fzagg (.cons (.id rfl) (.cons (.id rfl) (.cons (fzown (f:=ItemItem.v) (l:=I) rfl rfl (fun _=>rfl) (fun _=>rfl)) (.cons (.slw) (.nil))))) rfl) (.cons (.c (.id rfl)) (.nil)))⟩
  conv=>whnf
  refine ask_c (p_roster_State_find_v _ _) H rfl rfl (fun v29 H=>?_);conv=>whnf
  refine Tst.not ?_
  refine tst_d H (fun b30 H=>?_) (fun b30 H=>?_)
  ·conv=>whnf
   refine lq_ ?_;conv=>whnf
   refine finRz_c (enc:=(fun r:RosterState × Int=>.tup [RosterState.v r.1,V.i r.2])) [3] H ?_;conv=>whnf
   refine ⟨Nat.zero_le _,?_⟩;conv=>whnf
   exact ⟨_,.tup (.cons (fzagg (.cons (.id rfl) (.cons (.id rfl) (.cons (fzown (f:=ItemItem.v) (l:=I) rfl rfl (fun _=>rfl) (fun _=>rfl)) (.cons (.slw) (.nil))))) rfl) (.cons (.c (.id rfl)) (.nil)))⟩
  conv=>whnf
  obtain ⟨K31,hK32,o33,HL34,HQ35⟩:=join0_c H
  refine join_c [5,4,6] [10,28,29,30,31,32,33,2,12] (fun vals st=>(K31 (.inr ())=some r∧vals=[.i (0:Int),.ptr 0 0,.ptr 1 0]∧st=[.live [.i (0:Int),.i (0:Int),.sl (List.map ItemItem.v []) true,.sl (List.map RosterGone.v []) true] 0,.live [.i a0.Ver,.i a0.Floor,.osl 2 0 (List.length I) 5 false,.sl (List.map RosterGone.v []) true] 0,.live (cellsM ItemItem.v I) 0,.dead,.dead])) ?_ ?_
  ·have H:=HL34
   conv=>whnf
   refine ask_c (p_roster_State_may_v _ _ _) H rfl rfl (fun v37 H=>?_);conv=>whnf
   refine tst_d H (fun b38 H=>?_) (fun b38 H=>?_)
   ·conv=>whnf
    obtain rfl:=Option.some.inj H
    exact arrive_c [10,28,29,30,31,32,33,2,12] 5 [1,2,3,0,0] (⟨HQ35,rfl,rfl⟩) (Nat.zero_le _) rfl (by kernel_rfl) (by kernel_rfl) rfl ⟨⟨rfl,rfl,rfl⟩,⟨⟨rfl,rfl,rfl⟩,wkB_live0 rfl (cellsM_idlt (f:=ItemItem.v) (fun _=>rfl) _) rfl trivial⟩⟩
   conv=>whnf
   refine lq_ ?_;conv=>whnf
   obtain rfl:=Option.some.inj H
   have H:=HQ35
   rw [hK32] at H
   try dsimp only at H
   refine finRz_c (enc:=(fun r:RosterState × Int=>.tup [RosterState.v r.1,V.i r.2])) [3] H ?_;conv=>whnf
   refine ⟨Nat.zero_le _,?_⟩;conv=>whnf
   exact ⟨_,.tup (.cons (fzagg (.cons (.id rfl) (.cons (.id rfl) (.cons (fzown (f:=ItemItem.v) (l:=I) rfl rfl (fun _=>rfl) (fun _=>rfl)) (.cons (.slw) (.nil))))) rfl) (.cons (.c (.id rfl)) (.nil)))⟩
  rintro _ _ (⟨H,rfl,rfl⟩)
  rw [hK32] at H
  try dsimp only at H
  conv=>whnf
  refine askW_c (fun s hs=>p_roster_State_change_on _ _ _ _ rfl rfl rfl s hs) H rfl rfl rfl (fun v39 H=>?_);conv=>whnf
  refine lq_ ?_;conv=>whnf
  exact fin0_c (enc:=(fun r:RosterState × Int=>.tup [RosterState.v r.1,V.i r.2])) H (.inr rfl) (.cons (.cell rfl rfl (Nat.le_of_ble_eq_true rfl)) (.cons (.tmp rfl) (.nil))) rfl rfl
 try dsimp only at H
 conv=>whnf
 refine lq_ ?_;conv=>whnf
 refine ask_c (p_roster_Check_v _) H rfl rfl (fun v40 H=>?_);conv=>whnf
 refine tst_c H (fun b41 H=>?_) (fun b41 H=>?_)
 ·conv=>whnf
  refine lq_ ?_;conv=>whnf
  refine finRz_c (enc:=(fun r:RosterState × Int=>.tup [RosterState.v r.1,V.i r.2])) [3,4] H ?_;conv=>whnf
  refine ⟨Nat.zero_le _,?_⟩;conv=>whnf
  refine ⟨Nat.zero_le _,?_⟩;conv=>whnf
  exact ⟨_,.tup (.cons (fzagg (.cons (.id rfl) (.cons (.id rfl) (.cons (fzown (f:=ItemItem.v) (l:=I) rfl rfl (fun _=>rfl) (fun _=>rfl)) (.cons (fzown (f:=RosterGone.v) (l:=G) rfl rfl (fun _=>rfl) (fun _=>rfl)) (.nil))))) rfl) (.cons (.c (.id rfl)) (.nil)))⟩
 conv=>whnf
 refine ask_c (p_roster_State_find_v _ _) H rfl rfl (fun v42 H=>?_);conv=>whnf
 refine Tst.not ?_
 refine tst_d H (fun b43 H=>?_) (fun b43 H=>?_)
 ·conv=>whnf
  refine lq_ ?_;conv=>whnf
  refine finRz_c (enc:=(fun r:RosterState × Int=>.tup [RosterState.v r.1,V.i r.2])) [3,4] H ?_;conv=>whnf
  refine ⟨Nat.zero_le _,?_⟩;conv=>whnf
  refine ⟨Nat.zero_le _,?_⟩;conv=>whnf
  exact ⟨_,.tup (.cons (fzagg (.cons (.id rfl) (.cons (.id rfl) (.cons (fzown (f:=ItemItem.v) (l:=I) rfl rfl (fun _=>rfl) (fun _=>rfl)) (.cons (fzown (f:=RosterGone.v) (l:=G) rfl rfl (fun _=>rfl) (fun _=>rfl)) (.nil))))) rfl) (.cons (.c (.id rfl)) (.nil)))⟩
 conv=>whnf
 obtain ⟨K44,hK45,o46,HL47,HQ48⟩:=join0_c H
 refine join_c [5,4,6] [10,28,29,30,31,32,33,2,12] (fun vals st=>(K44 (.inr ())=some r∧vals=[.i (0:Int),.ptr 0 0,.ptr 1 0]∧st=[.live [.i (0:Int),.i (0:Int),.sl (List.map ItemItem.v []) true,.sl (List.map RosterGone.v []) true] 0,.live [.i a0.Ver,.i a0.Floor,.osl 2 0 (List.length I) 5 false,.osl 3 0 (List.length G) 2 false] 0,.live (cellsM ItemItem.v I) 0,.live (cellsM RosterGone.v G) 0,.dead])) ?_ ?_
 ·have H:=HL47
  conv=>whnf
  refine ask_c (p_roster_State_may_v _ _ _) H rfl rfl (fun v50 H=>?_);conv=>whnf
  refine tst_d H (fun b51 H=>?_) (fun b51 H=>?_)
  ·conv=>whnf
   obtain rfl:=Option.some.inj H
   exact arrive_c [10,28,29,30,31,32,33,2,12] 5 [1,2,3,4,0] (⟨HQ48,rfl,rfl⟩) (Nat.zero_le _) rfl (by kernel_rfl) (by kernel_rfl) rfl ⟨⟨rfl,rfl,rfl⟩,⟨⟨rfl,rfl,rfl⟩,wkB_live0 rfl (cellsM_idlt (f:=ItemItem.v) (fun _=>rfl) _) rfl (wkB_live0 rfl (cellsM_idlt (f:=RosterGone.v) (fun _=>rfl) _) rfl trivial)⟩⟩
  conv=>whnf
  refine lq_ ?_;conv=>whnf
  obtain rfl:=Option.some.inj H
  have H:=HQ48
  rw [hK45] at H
  try dsimp only at H
  refine finRz_c (enc:=(fun r:RosterState × Int=>.tup [RosterState.v r.1,V.i r.2])) [3,4] H ?_;conv=>whnf
  refine ⟨Nat.zero_le _,?_⟩;conv=>whnf
  refine ⟨Nat.zero_le _,?_⟩;conv=>whnf
  exact ⟨_,.tup (.cons (fzagg (.cons (.id rfl) (.cons (.id rfl) (.cons (fzown (f:=ItemItem.v) (l:=I) rfl rfl (fun _=>rfl) (fun _=>rfl)) (.cons (fzown (f:=RosterGone.v) (l:=G) rfl rfl (fun _=>rfl) (fun _=>rfl)) (.nil))))) rfl) (.cons (.c (.id rfl)) (.nil)))⟩
 rintro _ _ (⟨H,rfl,rfl⟩)
 rw [hK45] at H
 try dsimp only at H
 conv=>whnf
 refine askW_c (fun s hs=>p_roster_State_change_oo _ _ _ _ _ rfl rfl rfl s hs) H rfl rfl rfl (fun v52 H=>?_);conv=>whnf
 refine lq_ ?_;conv=>whnf
 exact fin0_c (enc:=(fun r:RosterState × Int=>.tup [RosterState.v r.1,V.i r.2])) H (.inr rfl) (.cons (.cell rfl rfl (Nat.le_of_ble_eq_true rfl)) (.cons (.tmp rfl) (.nil))) rfl rfl
def gc79:BCode:=(.seq (R_ 1 [O_ 2 (.bx (t_ 0)) 0,O_ 4 (.mv (.const (.slice none 0 0))) 1]) (.seq (.seq (R_ 0 [O_ 8 (.ld 4 true (t_ 2)) 0,O_ 9 (.cl 45 [(t_ 8)]) 0,O_ 10 (.bin .neq (t_ 9) (i_ 0)) 0]) (.cond (t_ 10) (.seq (R_ 0 [O_ 4 (.mv (.const (.slice none 0 0))) 0]) .ret) .skip)) (.seq (R_ 0 [O_ 5 (.mv (.const (.slice none 0 0))) 0]) (.seq (.seq (R_ 0 [O_ 11 (.fa 2 (t_ 2)) 0,O_ 12 (.ld 1 false (t_ 11)) 0,O_ 13 (.lens (t_ 12)) 0,O_ 14 (.mv (i_ 0)) 0]) (.block 0 (.loop (.seq (R_ 0 [O_ 15 (.bin .lss (t_ 14) (t_ 13)) 0]) (.seq (.cond (t_ 15) .skip (.exit 0)) (.seq (.block 1 (.seq (R_ 1 [O_ 16 (.ixs 5 (t_ 12) (t_ 14)) 0,O_ 17 (.ld 5 true (t_ 16)) 0,O_ 7 (.al (.agg [(.lit (.string ⟨#[]⟩)),(.lit (.string ⟨#[]⟩)),(.lit (.int .i64 0)),(.lit (.int .i64 0)),(.lit (.bool false))])) 0,U_ (.st 5 (t_ 7) (t_ 17)) 1]) (.seq (R_ 0 [O_ 18 (.mv (t_ 1)) 0,O_ 19 (.ld 5 true (t_ 7)) 0,O_ 20 (.cv (t_ 18) [(t_ 19)]) 0]) (.cond (t_ 20) (R_ 2 [O_ 21 (.mv (t_ 5)) 0,O_ 22 (.ld 5 true (t_ 7)) 0,O_ 23 (.bs 5 1 [(.lit (.string ⟨#[]⟩)),(.lit (.string ⟨#[]⟩)),(.lit (.int .i64 0)),(.lit (.int .i64 0)),(.lit (.bool false))] [(0,(t_ 22))]) 0,O_ 24 (.ap 5 56 (t_ 21) (t_ 23)) 1,O_ 5 (.mv (t_ 24)) 2]) .skip)))) (R_ 0 [O_ 25 (.bin .add (t_ 14) (i_ 1)) 0,O_ 14 (.mv (t_ 25)) 0]))))))) (.seq (R_ 0 [O_ 26 (.mv (t_ 5)) 0,O_ 4 (.mv (t_ 26)) 0]) .ret)))))
theorem gc79_ok:compF Tryz.prog Tryz.f79=some (gc79.er,27,[.tmp 4]):=by unfold gc79;kernel_rfl
theorem p_roster_State_some_v {u1 u2:Bool} (a0:RosterState) (a1:ItemItem→Option Bool) {a1_g:Nat} {a1_k:List V} (a1_h:Clo1 Tryz.prog a1_g a1_k ItemItem.v V.b a1):CallsO Tryz.prog 79 [.agg [.i a0.Ver,.i a0.Floor,.sl (List.map ItemItem.v a0.Items) u1,.sl (List.map RosterGone.v a0.Gone) u2],.clo (.func a1_g) a1_k] (fun l:List ItemItem=>V.sl (l.map ItemItem.v) false) (p_roster_State_some a0 a1):=by
 refine callsO_comp mix Tryz.func79 gc79_ok fun r H=>?_
 rw [p_roster_State_some] at H
 conv=>whnf
 refine ask_c (p_roster_Check_v _) H rfl rfl (fun v1 H=>?_);conv=>whnf
 refine tst_c H (fun b2 H=>?_) (fun b2 H=>?_)
 ·conv=>whnf
  refine finR_c (enc:=(fun l:List ItemItem=>V.sl (l.map ItemItem.v) false)) H ?_;conv=>whnf
  exact ⟨_,.v (.c (.slw))⟩
 conv=>whnf
 refine LenQ.M ?_;conv=>whnf
 obtain ⟨o4,HL5,HQ6⟩:=bind_c H
 refine loop_c [5,14] [7,15,16,17,18,19,20,21,22,23,24,25,2,11] [7,15,16,17,18,19,20,21,22,23,24,25,2,11] (fun n vals st=>(∃ y8,p_roster_State_some_l1  a1 a0.Items (a0.Items.length:Int) n [] y8=some o4∧vals=[.sl (List.map ItemItem.v []) true,.i y8]∧st=[])∨(∃ y14 y15,p_roster_State_some_l1  a1 a0.Items (a0.Items.length:Int) n y14 y15=some o4∧vals=[.osl 0 0 (List.length y14) 5 false,.i y15]∧st=[.live (cellsM ItemItem.v y14) (cellsM ItemItem.v y14).length])) fuel 0 [] (.inl (⟨_,HL5,rfl,rfl⟩)) (Nat.zero_le _) rfl (by simp only [maskF,setF,List.set_cons_zero,List.set_cons_succ,V.ren.renL,V.ren,renL_id _ a1_h.own] <;> rfl) (by simp only [maskF,setF,List.set_cons_zero,List.set_cons_succ,V.idlt.belowL,V.idlt,fun n=>idltL_up (n:=n) _ a1_h.own] <;> rfl) rfl trivial ?_
 rintro (_ | n7) _ _ (⟨y8,H,rfl,rfl⟩ | ⟨y14,y15,H,rfl,rfl⟩)
 ·rw [p_roster_State_some_l1] at H;cases H
 ·rw [p_roster_State_some_l1] at H;cases H
 ·rw [p_roster_State_some_l1] at H
  conv=>whnf
  refine tst_d H (fun b9 H=>?_) (fun b9 H=>?_)
  ·conv=>whnf
   obtain rfl:=Option.some.inj H
   have H:=HQ6
   try dsimp only at H
   refine finR_c (enc:=(fun l:List ItemItem=>V.sl (l.map ItemItem.v) false)) H ?_;conv=>whnf
   exact ⟨_,.v (.c (.slw))⟩
  conv=>whnf
  refine ixs_c (f:=ItemItem.v) H (fun _=>rfl) (fun x10 H=>?_);conv=>whnf
  refine lq_ ?_;conv=>whnf
  refine askC_c a1_h H (.cons (fzagg (.cons (.id rfl) (.cons (.id rfl) (.cons (.id rfl) (.cons (.id rfl) (.cons (.id rfl) (.nil)))))) rfl) (.nil)) (fun v11 H=>?_);conv=>whnf
  refine tst_d H (fun b12 H=>?_) (fun b12 H=>?_)
  ·conv=>whnf
   refine Ari.w ?_;conv=>whnf
   exact again_c [7,15,16,17,18,19,20,21,22,23,24,25,2,11] n7 0 [] (.inl (⟨_,H,rfl,rfl⟩)) (Nat.lt_succ_self _) (Nat.zero_le _) rfl (by simp only [maskF,setF,List.set_cons_zero,List.set_cons_succ,V.ren.renL,V.ren,renL_id _ a1_h.own] <;> rfl) (by simp only [maskF,setF,List.set_cons_zero,List.set_cons_succ,V.idlt.belowL,V.idlt,fun n=>idltL_up (n:=n) _ a1_h.own] <;> rfl) rfl trivial
  conv=>whnf
  refine appN_c (f:=ItemItem.v) H (fun _=>rfl) (srcM (f:=ItemItem.v) (fun _=>rfl) [] true) rfl (.v (srcOwn (f:=ItemItem.v) (l:=[x10]) (fun _=>rfl) rfl rfl rfl)) (by decide) rfl (by simp) (fun l13 H=>?_);conv=>whnf
  refine Ari.w ?_;conv=>whnf
  exact again_c [7,15,16,17,18,19,20,21,22,23,24,25,2,11] n7 1 [2] (.inr (⟨_,_,H,rfl,rfl⟩)) (Nat.lt_succ_self _) (Nat.zero_le _) rfl (by simp only [maskF,setF,List.set_cons_zero,List.set_cons_succ,V.ren.renL,V.ren,renL_id _ a1_h.own] <;> rfl) (by simp only [maskF,setF,List.set_cons_zero,List.set_cons_succ,V.idlt.belowL,V.idlt,fun n=>idltL_up (n:=n) _ a1_h.own] <;> rfl) rfl (wkB_live0 rfl (cellsM_idlt (f:=ItemItem.v) (fun _=>rfl) _) rfl trivial)
 rw [p_roster_State_some_l1] at H
 conv=>whnf
 refine tst_d H (fun b16 H=>?_) (fun b16 H=>?_)
 ·conv=>whnf
  obtain rfl:=Option.some.inj H
  have H:=HQ6
  try dsimp only at H
  refine finR_c (enc:=(fun l:List ItemItem=>V.sl (l.map ItemItem.v) false)) H ?_;conv=>whnf
  exact ⟨_,.v (.c (fzown (f:=ItemItem.v) (l:=y14) rfl rfl (fun _=>rfl) (fun _=>rfl)))⟩
 conv=>whnf
 refine ixs_c (f:=ItemItem.v) H (fun _=>rfl) (fun x17 H=>?_);conv=>whnf
 refine lq_ ?_;conv=>whnf
 refine askC_c a1_h H (.cons (fzagg (.cons (.id rfl) (.cons (.id rfl) (.cons (.id rfl) (.cons (.id rfl) (.cons (.id rfl) (.nil)))))) rfl) (.nil)) (fun v18 H=>?_);conv=>whnf
 refine tst_d H (fun b19 H=>?_) (fun b19 H=>?_)
 ·conv=>whnf
  refine Ari.w ?_;conv=>whnf
  exact again_c [7,15,16,17,18,19,20,21,22,23,24,25,2,11] n7 1 [] (.inr (⟨_,_,H,rfl,rfl⟩)) (Nat.lt_succ_self _) (Nat.zero_le _) rfl (by simp only [maskF,setF,List.set_cons_zero,List.set_cons_succ,V.ren.renL,V.ren,renL_id _ a1_h.own] <;> rfl) (by simp only [maskF,setF,List.set_cons_zero,List.set_cons_succ,V.idlt.belowL,V.idlt,fun n=>idltL_up (n:=n) _ a1_h.own] <;> rfl) rfl (wkB_live0 rfl (cellsM_idlt (f:=ItemItem.v) (fun _=>rfl) _) rfl trivial)
 conv=>whnf
 refine appO_c (f:=ItemItem.v) H (fun _=>rfl) rfl (Nat.le_refl _) (.v (srcOwn (f:=ItemItem.v) (l:=[x17]) (fun _=>rfl) rfl rfl rfl)) (by decide) rfl (by simp) (fun l20 H=>?_);conv=>whnf
 refine Ari.w ?_;conv=>whnf
 exact again_c [7,15,16,17,18,19,20,21,22,23,24,25,2,11] n7 1 [3] (.inr (⟨_,_,H,rfl,rfl⟩)) (Nat.lt_succ_self _) (Nat.zero_le _) rfl (by simp only [maskF,setF,List.set_cons_zero,List.set_cons_succ,V.ren.renL,V.ren,renL_id _ a1_h.own] <;> rfl) (by simp only [maskF,setF,List.set_cons_zero,List.set_cons_succ,V.idlt.belowL,V.idlt,fun n=>idltL_up (n:=n) _ a1_h.own] <;> rfl) rfl (wkB_live0 rfl (cellsM_idlt (f:=ItemItem.v) (fun _=>rfl) _) rfl trivial)
def gc129:BCode:=(.seq (R_ 0 [O_ 2 (.mv (.const (.slice none 0 0))) 0]) (.seq (R_ 0 [O_ 3 (.mv (.const (.slice none 0 0))) 0]) (.seq (.seq (R_ 0 [O_ 6 (.mv (t_ 0)) 0,O_ 7 (.lens (t_ 6)) 0,O_ 8 (.mv (i_ 0)) 0]) (.block 0 (.loop (.seq (R_ 0 [O_ 9 (.bin .lss (t_ 8) (t_ 7)) 0]) (.seq (.cond (t_ 9) .skip (.exit 0)) (.seq (.block 1 (.seq (R_ 1 [O_ 10 (.ixs 5 (t_ 6) (t_ 8)) 0,O_ 11 (.ld 5 true (t_ 10)) 0,O_ 5 (.al (.agg [(.lit (.string ⟨#[]⟩)),(.lit (.string ⟨#[]⟩)),(.lit (.int .i64 0)),(.lit (.int .i64 0)),(.lit (.bool false))])) 0,U_ (.st 5 (t_ 5) (t_ 11)) 1]) (R_ 2 [O_ 12 (.mv (t_ 3)) 0,O_ 13 (.fa 0 (t_ 5)) 0,O_ 14 (.ld 1 false (t_ 13)) 0,O_ 15 (.bs 1 1 [(.lit (.string ⟨#[]⟩))] [(0,(t_ 14))]) 0,O_ 16 (.ap 1 16 (t_ 12) (t_ 15)) 1,O_ 3 (.mv (t_ 16)) 2]))) (R_ 0 [O_ 17 (.bin .add (t_ 8) (i_ 1)) 0,O_ 8 (.mv (t_ 17)) 0]))))))) (.seq (R_ 0 [O_ 18 (.mv (t_ 3)) 0,O_ 2 (.mv (t_ 18)) 0]) .ret))))
theorem gc129_ok:compF Tryz.prog Tryz.f129=some (gc129.er,19,[.tmp 2]):=by unfold gc129;kernel_rfl
theorem p_roster_contacts_v {u1:Bool} (a0:List ItemItem):CallsO Tryz.prog 129 [.sl (List.map ItemItem.v a0) u1] (fun l:List ByteArray=>V.sl (l.map V.s) false) (p_roster_contacts a0):=by
 refine callsO_comp mix Tryz.func129 gc129_ok fun r H=>?_
 rw [p_roster_contacts] at H
 conv=>whnf
 refine LenQ.M ?_;conv=>whnf
 obtain ⟨o2,HL3,HQ4⟩:=bind_c H
 refine loop_c [3,8] [5,9,10,11,12,13,14,15,16,17] [5,9,10,11,12,13,14,15,16,17] (fun n vals st=>(∃ y6,p_roster_contacts_l1  a0 (a0.length:Int) n [] y6=some o2∧vals=[.sl (List.map V.s []) true,.i y6]∧st=[])∨(∃ y10 y11,p_roster_contacts_l1  a0 (a0.length:Int) n y10 y11=some o2∧vals=[.osl 0 0 (List.length y10) 1 false,.i y11]∧st=[.live (cellsM V.s y10) (cellsM V.s y10).length])) fuel 0 [] (.inl (⟨_,HL3,rfl,rfl⟩)) (Nat.zero_le _) rfl (by kernel_rfl) (by kernel_rfl) rfl trivial ?_
 rintro (_ | n5) _ _ (⟨y6,H,rfl,rfl⟩ | ⟨y10,y11,H,rfl,rfl⟩)
 ·rw [p_roster_contacts_l1] at H;cases H
 ·rw [p_roster_contacts_l1] at H;cases H
 ·rw [p_roster_contacts_l1] at H
  conv=>whnf
  refine tst_d H (fun b7 H=>?_) (fun b7 H=>?_)
  ·conv=>whnf
   obtain rfl:=Option.some.inj H
   have H:=HQ4
   try dsimp only at H
   refine finR_c (enc:=(fun l:List ByteArray=>V.sl (l.map V.s) false)) H ?_;conv=>whnf
   exact ⟨_,.v (.c (.slw))⟩
  conv=>whnf
  refine ixs_c (f:=ItemItem.v) H (fun _=>rfl) (fun x8 H=>?_);conv=>whnf
  refine lq_ ?_;conv=>whnf
  refine appN_c (f:=V.s) H (fun _=>rfl) (srcM (f:=V.s) (fun _=>rfl) [] true) rfl (.v (srcOwn (f:=V.s) (l:=[x8.Contact]) (fun _=>rfl) rfl rfl rfl)) (by decide) rfl (by simp) (fun l9 H=>?_);conv=>whnf
  refine Ari.w ?_;conv=>whnf
  exact again_c [5,9,10,11,12,13,14,15,16,17] n5 1 [2] (.inr (⟨_,_,H,rfl,rfl⟩)) (Nat.lt_succ_self _) (Nat.zero_le _) rfl (by kernel_rfl) (by kernel_rfl) rfl (wkB_live0 rfl (cellsM_idlt (f:=V.s) (fun _=>rfl) _) rfl trivial)
 rw [p_roster_contacts_l1] at H
 conv=>whnf
 refine tst_d H (fun b12 H=>?_) (fun b12 H=>?_)
 ·conv=>whnf
  obtain rfl:=Option.some.inj H
  have H:=HQ4
  try dsimp only at H
  refine finR_c (enc:=(fun l:List ByteArray=>V.sl (l.map V.s) false)) H ?_;conv=>whnf
  exact ⟨_,.v (.c (fzown (f:=V.s) (l:=y10) rfl rfl (fun _=>rfl) (fun _=>rfl)))⟩
 conv=>whnf
 refine ixs_c (f:=ItemItem.v) H (fun _=>rfl) (fun x13 H=>?_);conv=>whnf
 refine lq_ ?_;conv=>whnf
 refine appO_c (f:=V.s) H (fun _=>rfl) rfl (Nat.le_refl _) (.v (srcOwn (f:=V.s) (l:=[x13.Contact]) (fun _=>rfl) rfl rfl rfl)) (by decide) rfl (by simp) (fun l14 H=>?_);conv=>whnf
 refine Ari.w ?_;conv=>whnf
 exact again_c [5,9,10,11,12,13,14,15,16,17] n5 1 [3] (.inr (⟨_,_,H,rfl,rfl⟩)) (Nat.lt_succ_self _) (Nat.zero_le _) rfl (by kernel_rfl) (by kernel_rfl) rfl (wkB_live0 rfl (cellsM_idlt (f:=V.s) (fun _=>rfl) _) rfl trivial)
end Go.Proofs.YtmmmcpeickfolaaGreat

namespace Go.Proofs.YtmmmcpeickfolaaGreat
open Go.RowKit
set_option maxRecDepth 100000
set_option maxHeartbeats 4000000
def gc76:BCode:=(.seq (R_ 1 [O_ 1 (.bx (t_ 0)) 0,O_ 2 (.mv (.const (.slice none 0 0))) 1]) (.seq (R_ 0 [O_ 3 (.ld 4 true (t_ 1)) 0,O_ 4 (.cl 79 [(t_ 3),(.func 130)]) 0,O_ 5 (.cl 129 [(t_ 4)]) 0,O_ 2 (.mv (t_ 5)) 0]) .ret))
theorem gc76_ok:compF Tryz.prog Tryz.f76=some (gc76.er,6,[.tmp 2]):=by unfold gc76;kernel_rfl
theorem p_roster_Sees_v {u1 u2:Bool} (a0:RosterState):CallsO Tryz.prog 76 [.agg [.i a0.Ver,.i a0.Floor,.sl (List.map ItemItem.v a0.Items) u1,.sl (List.map RosterGone.v a0.Gone) u2]] (fun l:List ByteArray=>V.sl (l.map V.s) false) (p_roster_Sees a0):=by
 refine callsO_comp mix Tryz.func76 gc76_ok fun r H=>?_
 rw [p_roster_Sees] at H
 conv=>whnf
 refine askF_c (p_roster_State_some_v _ _ ⟨⟨_,Tryz.func130,by kernel_rfl,by kernel_rfl⟩,rfl,fun x0=>p_item_Sees_v _⟩) H (.cons (fzagg (.cons (.id rfl) (.cons (.id rfl) (.cons (.slw) (.cons (.slw) (.nil))))) rfl) (.cons (.c (.clo (.nil))) (.nil))) (fun v1 H=>?_);conv=>whnf
 refine ask_c (p_roster_contacts_v _) H rfl rfl (fun v2 H=>?_);conv=>whnf
 exact fin0_c (enc:=(fun l:List ByteArray=>V.sl (l.map V.s) false)) H (.inr rfl) (.cons (.tmp rfl) (.nil)) rfl rfl
def gc77:BCode:=(.seq (R_ 1 [O_ 1 (.bx (t_ 0)) 0,O_ 2 (.mv (.const (.slice none 0 0))) 1]) (.seq (R_ 0 [O_ 3 (.ld 4 true (t_ 1)) 0,O_ 4 (.cl 79 [(t_ 3),(.func 131)]) 0,O_ 5 (.cl 129 [(t_ 4)]) 0,O_ 2 (.mv (t_ 5)) 0]) .ret))
theorem gc77_ok:compF Tryz.prog Tryz.f77=some (gc77.er,6,[.tmp 2]):=by unfold gc77;kernel_rfl
theorem p_roster_Seen_v {u1 u2:Bool} (a0:RosterState):CallsO Tryz.prog 77 [.agg [.i a0.Ver,.i a0.Floor,.sl (List.map ItemItem.v a0.Items) u1,.sl (List.map RosterGone.v a0.Gone) u2]] (fun l:List ByteArray=>V.sl (l.map V.s) false) (p_roster_Seen a0):=by
 refine callsO_comp mix Tryz.func77 gc77_ok fun r H=>?_
 rw [p_roster_Seen] at H
 conv=>whnf
 refine askF_c (p_roster_State_some_v _ _ ⟨⟨_,Tryz.func131,by kernel_rfl,by kernel_rfl⟩,rfl,fun x0=>p_item_Seen_v _⟩) H (.cons (fzagg (.cons (.id rfl) (.cons (.id rfl) (.cons (.slw) (.cons (.slw) (.nil))))) rfl) (.cons (.c (.clo (.nil))) (.nil))) (fun v1 H=>?_);conv=>whnf
 refine ask_c (p_roster_contacts_v _) H rfl rfl (fun v2 H=>?_);conv=>whnf
 exact fin0_c (enc:=(fun l:List ByteArray=>V.sl (l.map V.s) false)) H (.inr rfl) (.cons (.tmp rfl) (.nil)) rfl rfl
def gc43:BCode:=(.seq (R_ 1 [O_ 1 (.bx (t_ 0)) 0,O_ 2 (.mv (.const (.slice none 0 0))) 1]) (.seq (R_ 0 [O_ 3 (.ld 4 true (t_ 1)) 0,O_ 4 (.cl 79 [(t_ 3),(.func 80)]) 0,O_ 2 (.mv (t_ 4)) 0]) .ret))
theorem gc43_ok:compF Tryz.prog Tryz.f43=some (gc43.er,5,[.tmp 2]):=by unfold gc43;kernel_rfl
theorem p_roster_Listed_v {u1 u2:Bool} (a0:RosterState):CallsO Tryz.prog 43 [.agg [.i a0.Ver,.i a0.Floor,.sl (List.map ItemItem.v a0.Items) u1,.sl (List.map RosterGone.v a0.Gone) u2]] (fun l:List ItemItem=>V.sl (l.map ItemItem.v) false) (p_roster_Listed a0):=by
 refine callsO_comp mix Tryz.func43 gc43_ok fun r H=>?_
 rw [p_roster_Listed] at H
 conv=>whnf
 refine askF_c (p_roster_State_some_v _ _ ⟨⟨_,Tryz.func80,by kernel_rfl,by kernel_rfl⟩,rfl,fun x0=>p_item_Listed_v _⟩) H (.cons (fzagg (.cons (.id rfl) (.cons (.id rfl) (.cons (.slw) (.cons (.slw) (.nil))))) rfl) (.cons (.c (.clo (.nil))) (.nil))) (fun v1 H=>?_);conv=>whnf
 exact fin0_c (enc:=(fun l:List ItemItem=>V.sl (l.map ItemItem.v) false)) H (.inr rfl) (.cons (.tmp rfl) (.nil)) rfl rfl
def gc87:BCode:=(.seq (R_ 1 [O_ 2 (.bx (t_ 0)) 0,O_ 4 (.mv (b_ false)) 1]) (.seq (R_ 0 [O_ 5 (.fa 1 (t_ 2)) 0,O_ 6 (.ld 1 false (t_ 5)) 0,O_ 7 (.mv (t_ 1)) 0,O_ 8 (.bin .gtr (t_ 6) (t_ 7)) 0,O_ 4 (.mv (t_ 8)) 0]) .ret))
theorem gc87_ok:compF Tryz.prog Tryz.f87=some (gc87.er,9,[.tmp 4]):=by unfold gc87;kernel_rfl
theorem p_roster_Gone_newer_v (a0:RosterGone) (a1:Int):CallsO Tryz.prog 87 [.agg [.s a0.Contact,.i a0.Ver],.i a1] V.b (p_roster_Gone_newer a0 a1):=by
 refine callsO_comp mix Tryz.func87 gc87_ok fun r H=>?_
 rw [p_roster_Gone_newer] at H
 conv=>whnf
 exact fb_ H
def gc88:BCode:=(.seq (R_ 1 [O_ 2 (.bx (t_ 0)) 0,O_ 3 (.mv (b_ false)) 1]) (.seq (R_ 0 [O_ 4 (.fa 3 (t_ 2)) 0,O_ 5 (.ld 1 false (t_ 4)) 0,O_ 6 (.ld 1 false (t_ 1)) 0,O_ 7 (.bin .gtr (t_ 5) (t_ 6)) 0,O_ 8 (.mv (t_ 7)) 0,⟨(some 9),.ld 5 true (t_ 2),(some (8,true)),0⟩,⟨(some 10),.cl 80 [(t_ 9)],(some (8,true)),0⟩,O_ 11 (.pick (t_ 8) (t_ 10) (b_ false)) 0,O_ 3 (.mv (t_ 11)) 0]) .ret))
theorem gc88_ok:compF Tryz.prog Tryz.f88=some (gc88.er,12,[.tmp 3]):=by unfold gc88;kernel_rfl
theorem p_roster_Since_1_v (a0:ItemItem) (c0:Int):CallsO Tryz.prog 88 [.agg [.s a0.Contact,.s a0.Name,.i a0.Sub,.i a0.Ver,.b a0.Own],.eptr [.i c0]] V.b (p_roster_Since_1 a0 c0):=by
 refine callsO_comp mix Tryz.func88 gc88_ok fun r H=>?_
 rw [p_roster_Since_1] at H
 conv=>whnf
 refine tst_d H (fun b1 H=>?_) (fun b1 H=>?_)
 ·conv=>whnf
  iterate 2 (refine Tst.F ?_;conv=>whnf)
  exact fb_ H
 conv=>whnf
 refine Tst.T ?_;conv=>whnf
 refine ask_c (p_item_Listed_v _) H rfl rfl (fun v2 H=>?_);conv=>whnf
 refine Tst.T ?_;conv=>whnf
 exact fb_ H
def gc46:BCode:=(.seq (R_ 2 [O_ 2 (.bx (t_ 0)) 0,O_ 3 (.bx (t_ 1)) 1,O_ 4 (.mv (.const (.slice none 0 0))) 2,O_ 5 (.mv (.const (.slice none 0 0))) 2,O_ 6 (.mv (b_ false)) 2]) (.seq (.seq (R_ 0 [O_ 11 (.ld 1 false (t_ 3)) 0,O_ 12 (.fa 1 (t_ 2)) 0,O_ 13 (.ld 1 false (t_ 12)) 0,O_ 14 (.bin .lss (t_ 11) (t_ 13)) 0,O_ 15 (.mv (t_ 14)) 0,⟨(some 16),.ld 1 false (t_ 3),(some (15,false)),0⟩,⟨(some 17),.fa 0 (t_ 2),(some (15,false)),0⟩,⟨(some 18),.ld 1 false (t_ 17),(some (15,false)),0⟩,⟨(some 19),.bin .gtr (t_ 16) (t_ 18),(some (15,false)),0⟩,O_ 20 (.pick (t_ 15) (b_ true) (t_ 19)) 0,O_ 21 (.mv (t_ 20)) 0,⟨(some 22),.ld 4 true (t_ 2),(some (21,false)),0⟩,⟨(some 23),.cl 45 [(t_ 22)],(some (21,false)),0⟩,⟨(some 24),.bin .neq (t_ 23) (i_ 0),(some (21,false)),0⟩,O_ 25 (.pick (t_ 21) (b_ true) (t_ 24)) 0]) (.cond (t_ 25) (.seq (R_ 0 [O_ 26 (.ld 4 true (t_ 2)) 0,O_ 27 (.cl 43 [(t_ 26)]) 0,O_ 4 (.mv (t_ 27)) 0,O_ 5 (.mv (.const (.slice none 0 0))) 0,O_ 6 (.mv (b_ true)) 0]) .ret) .skip)) (.seq (R_ 0 [O_ 7 (.mv (.func 87)) 0]) (.seq (R_ 0 [O_ 8 (.mv (.const (.slice none 0 0))) 0]) (.seq (.seq (R_ 0 [O_ 28 (.fa 3 (t_ 2)) 0,O_ 29 (.ld 1 false (t_ 28)) 0,O_ 30 (.lens (t_ 29)) 0,O_ 31 (.mv (i_ 0)) 0]) (.block 0 (.loop (.seq (R_ 0 [O_ 32 (.bin .lss (t_ 31) (t_ 30)) 0]) (.seq (.cond (t_ 32) .skip (.exit 0)) (.seq (.block 1 (.seq (R_ 1 [O_ 33 (.ixs 2 (t_ 29) (t_ 31)) 0,O_ 34 (.ld 2 true (t_ 33)) 0,O_ 10 (.al (.agg [(.lit (.string ⟨#[]⟩)),(.lit (.int .i64 0))])) 0,U_ (.st 2 (t_ 10) (t_ 34)) 1]) (.seq (R_ 0 [O_ 35 (.mv (t_ 7)) 0,O_ 36 (.ld 2 true (t_ 10)) 0,O_ 37 (.ld 1 false (t_ 3)) 0,O_ 38 (.cv (t_ 35) [(t_ 36),(t_ 37)]) 0]) (.cond (t_ 38) (R_ 2 [O_ 39 (.mv (t_ 8)) 0,O_ 40 (.ld 2 true (t_ 10)) 0,O_ 41 (.bs 2 1 [(.lit (.string ⟨#[]⟩)),(.lit (.int .i64 0))] [(0,(t_ 40))]) 0,O_ 42 (.ap 2 24 (t_ 39) (t_ 41)) 1,O_ 8 (.mv (t_ 42)) 2]) .skip)))) (R_ 0 [O_ 43 (.bin .add (t_ 31) (i_ 1)) 0,O_ 31 (.mv (t_ 43)) 0]))))))) (.seq (.reg 0 [O_ 44 (.ld 4 true (t_ 2)) 0,O_ 45 (.mf (.func 88) [(t_ 3)]) 0,O_ 46 (.cl 79 [(t_ 44),(t_ 45)]) 0,O_ 47 (.mv (t_ 8)) 0,O_ 4 (.mv (t_ 46)) 0,O_ 5 (.mv (t_ 47)) 0,O_ 6 (.mv (b_ false)) 0] none 0 [3]) .ret))))))
theorem gc46_ok:compF Tryz.prog Tryz.f46=some (gc46.er,48,[.tmp 4,.tmp 5,.tmp 6]):=by unfold gc46;kernel_rfl
theorem p_roster_Since_v {u1 u2:Bool} (a0:RosterState) (a1:Int):CallsO Tryz.prog 46 [.agg [.i a0.Ver,.i a0.Floor,.sl (List.map ItemItem.v a0.Items) u1,.sl (List.map RosterGone.v a0.Gone) u2],.i a1] (fun r:(List ItemItem) × (List RosterGone) × Bool=>.tup [(fun l:List ItemItem=>V.sl (l.map ItemItem.v) false) r.1,(fun l:List RosterGone=>V.sl (l.map RosterGone.v) false) r.2.1,V.b r.2.2]) (p_roster_Since a0 a1):=by
 refine callsO_comp mix Tryz.func46 gc46_ok fun r H=>?_
 rw [p_roster_Since] at H
 conv=>whnf
 refine tst_c H (fun b1 H=>?_) (fun b1 H=>?_)
 ·conv=>whnf
  iterate 9 (refine Tst.T ?_;conv=>whnf)
  refine ask_c (p_roster_Listed_v _) H rfl rfl (fun v2 H=>?_);conv=>whnf
  refine finR_c (enc:=(fun r:(List ItemItem) × (List RosterGone) × Bool=>.tup [(fun l:List ItemItem=>V.sl (l.map ItemItem.v) false) r.1,(fun l:List RosterGone=>V.sl (l.map RosterGone.v) false) r.2.1,V.b r.2.2])) H ?_;conv=>whnf
  exact ⟨_,.tup (.cons (.c (.id rfl)) (.cons (.c (.slw)) (.cons (.c (.id rfl)) (.nil))))⟩
 conv=>whnf
 iterate 4 (refine Tst.F ?_;conv=>whnf)
 refine tst_c H (fun b3 H=>?_) (fun b3 H=>?_)
 ·conv=>whnf
  iterate 4 (refine Tst.T ?_;conv=>whnf)
  refine ask_c (p_roster_Listed_v _) H rfl rfl (fun v4 H=>?_);conv=>whnf
  refine finR_c (enc:=(fun r:(List ItemItem) × (List RosterGone) × Bool=>.tup [(fun l:List ItemItem=>V.sl (l.map ItemItem.v) false) r.1,(fun l:List RosterGone=>V.sl (l.map RosterGone.v) false) r.2.1,V.b r.2.2])) H ?_;conv=>whnf
  exact ⟨_,.tup (.cons (.c (.id rfl)) (.cons (.c (.slw)) (.cons (.c (.id rfl)) (.nil))))⟩
 conv=>whnf
 refine Tst.F ?_;conv=>whnf
 refine ask_c (p_roster_Check_v _) H rfl rfl (fun v5 H=>?_);conv=>whnf
 iterate 2 (refine Tst.F ?_;conv=>whnf)
 refine tst_c H (fun b6 H=>?_) (fun b6 H=>?_)
 ·conv=>whnf
  refine ask_c (p_roster_Listed_v _) H rfl rfl (fun v7 H=>?_);conv=>whnf
  refine finR_c (enc:=(fun r:(List ItemItem) × (List RosterGone) × Bool=>.tup [(fun l:List ItemItem=>V.sl (l.map ItemItem.v) false) r.1,(fun l:List RosterGone=>V.sl (l.map RosterGone.v) false) r.2.1,V.b r.2.2])) H ?_;conv=>whnf
  exact ⟨_,.tup (.cons (.c (.id rfl)) (.cons (.c (.slw)) (.cons (.c (.id rfl)) (.nil))))⟩
 conv=>whnf
 refine LenQ.M ?_;conv=>whnf
 obtain ⟨o9,HL10,HQ11⟩:=bind_c H
 refine loop_c [8,31] [10,32,33,34,35,36,37,38,39,40,41,42,43,12,17,28] [10,32,33,34,35,36,37,38,39,40,41,42,43,12,17,28] (fun n vals st=>(∃ y13,p_roster_Since_l1  a0.Gone (a0.Gone.length:Int) a1 n [] y13=some o9∧vals=[.sl (List.map RosterGone.v []) true,.i y13]∧st=[.live [.i a0.Ver,.i a0.Floor,.sl (List.map ItemItem.v a0.Items) u1,.sl (List.map RosterGone.v a0.Gone) u2] 0,.live [.i a1] 0])∨(∃ y19 y20,p_roster_Since_l1  a0.Gone (a0.Gone.length:Int) a1 n y19 y20=some o9∧vals=[.osl 2 0 (List.length y19) 2 false,.i y20]∧st=[.live [.i a0.Ver,.i a0.Floor,.sl (List.map ItemItem.v a0.Items) u1,.sl (List.map RosterGone.v a0.Gone) u2] 0,.live [.i a1] 0,.live (cellsM RosterGone.v y19) (cellsM RosterGone.v y19).length])) fuel 2 [] (.inl (⟨_,HL10,rfl,rfl⟩)) (Nat.zero_le _) rfl (by kernel_rfl) (by kernel_rfl) rfl ⟨⟨rfl,rfl,rfl⟩,⟨⟨rfl,rfl,rfl⟩,trivial⟩⟩ ?_
 rintro (_ | n12) _ _ (⟨y13,H,rfl,rfl⟩ | ⟨y19,y20,H,rfl,rfl⟩)
 ·rw [p_roster_Since_l1] at H;cases H
 ·rw [p_roster_Since_l1] at H;cases H
 ·rw [p_roster_Since_l1] at H
  conv=>whnf
  refine tst_d H (fun b14 H=>?_) (fun b14 H=>?_)
  ·conv=>whnf
   obtain rfl:=Option.some.inj H
   have H:=HQ11
   try dsimp only at H
   refine ⟨Nat.zero_le _,?_⟩;conv=>whnf
   refine askF_c (p_roster_State_some_v _ _ ⟨⟨_,Tryz.func88,by kernel_rfl,by kernel_rfl⟩,rfl,fun x0=>p_roster_Since_1_v _ _⟩) H (.cons (fzagg (.cons (.id rfl) (.cons (.id rfl) (.cons (.slw) (.cons (.slw) (.nil))))) rfl) (.cons (.c (.clo (.cons (.ptr rfl (Nat.le_of_ble_eq_true rfl) (.cons (.id rfl) (.nil))) (.nil)))) (.nil))) (fun v21 H=>?_);conv=>whnf
   refine finR_c (enc:=(fun r:(List ItemItem) × (List RosterGone) × Bool=>.tup [(fun l:List ItemItem=>V.sl (l.map ItemItem.v) false) r.1,(fun l:List RosterGone=>V.sl (l.map RosterGone.v) false) r.2.1,V.b r.2.2])) H ?_;conv=>whnf
   exact ⟨_,.tup (.cons (.c (.id rfl)) (.cons (.c (.slw)) (.cons (.c (.id rfl)) (.nil))))⟩
  conv=>whnf
  refine ixs_c (f:=RosterGone.v) H (fun _=>rfl) (fun x15 H=>?_);conv=>whnf
  refine lq_ ?_;conv=>whnf
  refine ⟨⟨_,Tryz.func87,by kernel_rfl,by kernel_rfl⟩,ask_c (p_roster_Gone_newer_v _ _) H rfl rfl (fun v16 H=>?_)⟩;conv=>whnf
  refine tst_d H (fun b17 H=>?_) (fun b17 H=>?_)
  ·conv=>whnf
   refine Ari.w ?_;conv=>whnf
   exact again_c [10,32,33,34,35,36,37,38,39,40,41,42,43,12,17,28] n12 2 [] (.inl (⟨_,H,rfl,rfl⟩)) (Nat.lt_succ_self _) (Nat.zero_le _) rfl (by kernel_rfl) (by kernel_rfl) rfl ⟨⟨rfl,rfl,rfl⟩,⟨⟨rfl,rfl,rfl⟩,trivial⟩⟩
  conv=>whnf
  refine appN_c (f:=RosterGone.v) H (fun _=>rfl) (srcM (f:=RosterGone.v) (fun _=>rfl) [] true) rfl (.v (srcOwn (f:=RosterGone.v) (l:=[x15]) (fun _=>rfl) rfl rfl rfl)) (by decide) rfl (by simp) (fun l18 H=>?_);conv=>whnf
  refine Ari.w ?_;conv=>whnf
  exact again_c [10,32,33,34,35,36,37,38,39,40,41,42,43,12,17,28] n12 3 [0,1,4] (.inr (⟨_,_,H,rfl,rfl⟩)) (Nat.lt_succ_self _) (Nat.zero_le _) rfl (by kernel_rfl) (by kernel_rfl) rfl ⟨⟨rfl,rfl,rfl⟩,⟨⟨rfl,rfl,rfl⟩,wkB_live0 rfl (cellsM_idlt (f:=RosterGone.v) (fun _=>rfl) _) rfl trivial⟩⟩
 rw [p_roster_Since_l1] at H
 conv=>whnf
 refine tst_d H (fun b22 H=>?_) (fun b22 H=>?_)
 ·conv=>whnf
  obtain rfl:=Option.some.inj H
  have H:=HQ11
  try dsimp only at H
  refine ⟨Nat.zero_le _,?_⟩;conv=>whnf
  refine askF_c (p_roster_State_some_v _ _ ⟨⟨_,Tryz.func88,by kernel_rfl,by kernel_rfl⟩,rfl,fun x0=>p_roster_Since_1_v _ _⟩) H (.cons (fzagg (.cons (.id rfl) (.cons (.id rfl) (.cons (.slw) (.cons (.slw) (.nil))))) rfl) (.cons (.c (.clo (.cons (.ptr rfl (Nat.le_of_ble_eq_true rfl) (.cons (.id rfl) (.nil))) (.nil)))) (.nil))) (fun v27 H=>?_);conv=>whnf
  refine finR_c (enc:=(fun r:(List ItemItem) × (List RosterGone) × Bool=>.tup [(fun l:List ItemItem=>V.sl (l.map ItemItem.v) false) r.1,(fun l:List RosterGone=>V.sl (l.map RosterGone.v) false) r.2.1,V.b r.2.2])) H ?_;conv=>whnf
  exact ⟨_,.tup (.cons (.c (.id rfl)) (.cons (.c (fzown (f:=RosterGone.v) (l:=y19) rfl rfl (fun _=>rfl) (fun _=>rfl))) (.cons (.c (.id rfl)) (.nil))))⟩
 conv=>whnf
 refine ixs_c (f:=RosterGone.v) H (fun _=>rfl) (fun x23 H=>?_);conv=>whnf
 refine lq_ ?_;conv=>whnf
 refine ⟨⟨_,Tryz.func87,by kernel_rfl,by kernel_rfl⟩,ask_c (p_roster_Gone_newer_v _ _) H rfl rfl (fun v24 H=>?_)⟩;conv=>whnf
 refine tst_d H (fun b25 H=>?_) (fun b25 H=>?_)
 ·conv=>whnf
  refine Ari.w ?_;conv=>whnf
  exact again_c [10,32,33,34,35,36,37,38,39,40,41,42,43,12,17,28] n12 3 [] (.inr (⟨_,_,H,rfl,rfl⟩)) (Nat.lt_succ_self _) (Nat.zero_le _) rfl (by kernel_rfl) (by kernel_rfl) rfl ⟨⟨rfl,rfl,rfl⟩,⟨⟨rfl,rfl,rfl⟩,wkB_live0 rfl (cellsM_idlt (f:=RosterGone.v) (fun _=>rfl) _) rfl trivial⟩⟩
 conv=>whnf
 refine appO_c (f:=RosterGone.v) H (fun _=>rfl) rfl (Nat.le_refl _) (.v (srcOwn (f:=RosterGone.v) (l:=[x23]) (fun _=>rfl) rfl rfl rfl)) (by decide) rfl (by simp) (fun l26 H=>?_);conv=>whnf
 refine Ari.w ?_;conv=>whnf
 exact again_c [10,32,33,34,35,36,37,38,39,40,41,42,43,12,17,28] n12 3 [0,1,5] (.inr (⟨_,_,H,rfl,rfl⟩)) (Nat.lt_succ_self _) (Nat.zero_le _) rfl (by kernel_rfl) (by kernel_rfl) rfl ⟨⟨rfl,rfl,rfl⟩,⟨⟨rfl,rfl,rfl⟩,wkB_live0 rfl (cellsM_idlt (f:=RosterGone.v) (fun _=>rfl) _) rfl trivial⟩⟩
def gc132:BCode:=(.seq (R_ 0 [O_ 4 (.mv (b_ false)) 0]) (.seq (.seq (R_ 0 [O_ 6 (.mv (t_ 0)) 0,O_ 7 (.lens (t_ 6)) 0,O_ 8 (.mv (t_ 1)) 0,O_ 9 (.lens (t_ 8)) 0,O_ 10 (.bin .neq (t_ 7) (t_ 9)) 0]) (.cond (t_ 10) (.seq (R_ 0 [O_ 4 (.mv (b_ false)) 0]) .ret) .skip)) (.seq (.seq (R_ 0 [O_ 11 (.mv (t_ 0)) 0,O_ 12 (.lens (t_ 11)) 0,O_ 13 (.mv (i_ 0)) 0]) (.block 0 (.loop (.seq (R_ 0 [O_ 14 (.bin .lss (t_ 13) (t_ 12)) 0]) (.seq (.cond (t_ 14) .skip (.exit 0)) (.seq (.block 1 (.seq (R_ 0 [O_ 15 (.mv (t_ 13)) 0,O_ 5 (.mv (t_ 15)) 0]) (.seq (.reg 0 [O_ 16 (.mv (t_ 0)) 0,O_ 17 (.mv (t_ 5)) 0,O_ 18 (.ixs 5 (t_ 16) (t_ 17)) 0,O_ 19 (.ld 5 true (t_ 18)) 0,O_ 20 (.mv (t_ 1)) 0,O_ 21 (.mv (t_ 5)) 0,O_ 22 (.ixs 5 (t_ 20) (t_ 21)) 0,O_ 23 (.ld 5 true (t_ 22)) 0,O_ 24 (.eqa true [2,2,1,1,0] (t_ 19) (t_ 23)) 0] (some [[],[],[1,0],[0,1,2],[],[],[5,4],[4,5,6],[6,5,4,7,2,1,0,3]]) 0 []) (.cond (t_ 24) (.seq (R_ 0 [O_ 4 (.mv (b_ false)) 0]) .ret) .skip)))) (R_ 0 [O_ 25 (.bin .add (t_ 13) (i_ 1)) 0,O_ 13 (.mv (t_ 25)) 0]))))))) (.seq (R_ 0 [O_ 4 (.mv (b_ true)) 0]) .ret))))
theorem gc132_ok:compF Tryz.prog Tryz.f132=some (gc132.er,26,[.tmp 4]):=by unfold gc132;kernel_rfl
theorem p_slices_Equal_item_Item_v {u1 u2:Bool} (a0:List ItemItem) (a1:List ItemItem):CallsO Tryz.prog 132 [.sl (List.map ItemItem.v a0) u1,.sl (List.map ItemItem.v a1) u2] V.b (p_slices_Equal_item_Item a0 a1):=by
 refine callsO_comp mix Tryz.func132 gc132_ok fun r H=>?_
 rw [p_slices_Equal_item_Item] at H
 conv=>whnf
 iterate 2 (refine LenQ.M ?_;conv=>whnf)
 refine tst_c H (fun b1 H=>?_) (fun b1 H=>?_)
 ·conv=>whnf
  exact fb_ H
 conv=>whnf
 refine LenQ.M ?_;conv=>whnf
 obtain ⟨o3,HL4,HQ5⟩:=bind_c H
 refine loop_c [4,13] [5,14,15,16,17,18,19,20,21,22,23,24,25] [5,14,15,16,17,18,19,20,21,22,23,24,25] (fun n vals st=>(∃ y7,p_slices_Equal_item_Item_l1  a0 a1 (a0.length:Int) n y7=some o3∧vals=[.b false,.i y7]∧st=[])) fuel 0 [] (⟨_,HL4,rfl,rfl⟩) (Nat.zero_le _) rfl (by kernel_rfl) (by kernel_rfl) rfl trivial ?_
 rintro (_ | n6) _ _ (⟨y7,H,rfl,rfl⟩)
 ·rw [p_slices_Equal_item_Item_l1] at H;cases H
 rw [p_slices_Equal_item_Item_l1] at H
 conv=>whnf
 refine tst_d H (fun b8 H=>?_) (fun b8 H=>?_)
 ·conv=>whnf
  obtain rfl:=Option.some.inj H
  have H:=HQ5
  try dsimp only at H
  exact fb_ H
 conv=>whnf
 refine ixs_c (f:=ItemItem.v) H (fun _=>rfl) (fun x9 H=>?_);conv=>whnf
 refine ixs_c (f:=ItemItem.v) H (fun _=>rfl) (fun x10 H=>?_);conv=>whnf
 refine FootQ.mk ⟨rfl,?_⟩;conv=>whnf
 refine Tst.not ?_
 refine tst_d H (fun b11 H=>?_) (fun b11 H=>?_)
 ·conv=>whnf
  obtain rfl:=Option.some.inj H
  have H:=HQ5
  try dsimp only at H
  exact fb_ H
 conv=>whnf
 refine Ari.w ?_;conv=>whnf
 exact again_c [5,14,15,16,17,18,19,20,21,22,23,24,25] n6 0 [] (⟨_,H,rfl,rfl⟩) (Nat.lt_succ_self _) (Nat.zero_le _) rfl (by kernel_rfl) (by kernel_rfl) rfl trivial
def gc133:BCode:=(.seq (R_ 0 [O_ 4 (.mv (b_ false)) 0]) (.seq (.seq (R_ 0 [O_ 6 (.mv (t_ 0)) 0,O_ 7 (.lens (t_ 6)) 0,O_ 8 (.mv (t_ 1)) 0,O_ 9 (.lens (t_ 8)) 0,O_ 10 (.bin .neq (t_ 7) (t_ 9)) 0]) (.cond (t_ 10) (.seq (R_ 0 [O_ 4 (.mv (b_ false)) 0]) .ret) .skip)) (.seq (.seq (R_ 0 [O_ 11 (.mv (t_ 0)) 0,O_ 12 (.lens (t_ 11)) 0,O_ 13 (.mv (i_ 0)) 0]) (.block 0 (.loop (.seq (R_ 0 [O_ 14 (.bin .lss (t_ 13) (t_ 12)) 0]) (.seq (.cond (t_ 14) .skip (.exit 0)) (.seq (.block 1 (.seq (R_ 0 [O_ 15 (.mv (t_ 13)) 0,O_ 5 (.mv (t_ 15)) 0]) (.seq (.reg 0 [O_ 16 (.mv (t_ 0)) 0,O_ 17 (.mv (t_ 5)) 0,O_ 18 (.ixs 2 (t_ 16) (t_ 17)) 0,O_ 19 (.ld 2 true (t_ 18)) 0,O_ 20 (.mv (t_ 1)) 0,O_ 21 (.mv (t_ 5)) 0,O_ 22 (.ixs 2 (t_ 20) (t_ 21)) 0,O_ 23 (.ld 2 true (t_ 22)) 0,O_ 24 (.eqa true [2,1] (t_ 19) (t_ 23)) 0] (some [[],[],[1,0],[0,1,2],[],[],[5,4],[4,5,6],[6,5,4,7,2,1,0,3]]) 0 []) (.cond (t_ 24) (.seq (R_ 0 [O_ 4 (.mv (b_ false)) 0]) .ret) .skip)))) (R_ 0 [O_ 25 (.bin .add (t_ 13) (i_ 1)) 0,O_ 13 (.mv (t_ 25)) 0]))))))) (.seq (R_ 0 [O_ 4 (.mv (b_ true)) 0]) .ret))))
theorem gc133_ok:compF Tryz.prog Tryz.f133=some (gc133.er,26,[.tmp 4]):=by unfold gc133;kernel_rfl
theorem p_slices_Equal_roster_Gone_v {u1 u2:Bool} (a0:List RosterGone) (a1:List RosterGone):CallsO Tryz.prog 133 [.sl (List.map RosterGone.v a0) u1,.sl (List.map RosterGone.v a1) u2] V.b (p_slices_Equal_roster_Gone a0 a1):=by
 refine callsO_comp mix Tryz.func133 gc133_ok fun r H=>?_
 rw [p_slices_Equal_roster_Gone] at H
 conv=>whnf
 iterate 2 (refine LenQ.M ?_;conv=>whnf)
 refine tst_c H (fun b1 H=>?_) (fun b1 H=>?_)
 ·conv=>whnf
  exact fb_ H
 conv=>whnf
 refine LenQ.M ?_;conv=>whnf
 obtain ⟨o3,HL4,HQ5⟩:=bind_c H
 refine loop_c [4,13] [5,14,15,16,17,18,19,20,21,22,23,24,25] [5,14,15,16,17,18,19,20,21,22,23,24,25] (fun n vals st=>(∃ y7,p_slices_Equal_roster_Gone_l1  a0 a1 (a0.length:Int) n y7=some o3∧vals=[.b false,.i y7]∧st=[])) fuel 0 [] (⟨_,HL4,rfl,rfl⟩) (Nat.zero_le _) rfl (by kernel_rfl) (by kernel_rfl) rfl trivial ?_
 rintro (_ | n6) _ _ (⟨y7,H,rfl,rfl⟩)
 ·rw [p_slices_Equal_roster_Gone_l1] at H;cases H
 rw [p_slices_Equal_roster_Gone_l1] at H
 conv=>whnf
 refine tst_d H (fun b8 H=>?_) (fun b8 H=>?_)
 ·conv=>whnf
  obtain rfl:=Option.some.inj H
  have H:=HQ5
  try dsimp only at H
  exact fb_ H
 conv=>whnf
 refine ixs_c (f:=RosterGone.v) H (fun _=>rfl) (fun x9 H=>?_);conv=>whnf
 refine ixs_c (f:=RosterGone.v) H (fun _=>rfl) (fun x10 H=>?_);conv=>whnf
 refine FootQ.mk ⟨rfl,?_⟩;conv=>whnf
 refine Tst.not ?_
 refine tst_d H (fun b11 H=>?_) (fun b11 H=>?_)
 ·conv=>whnf
  obtain rfl:=Option.some.inj H
  have H:=HQ5
  try dsimp only at H
  exact fb_ H
 conv=>whnf
 refine Ari.w ?_;conv=>whnf
 exact again_c [5,14,15,16,17,18,19,20,21,22,23,24,25] n6 0 [] (⟨_,H,rfl,rfl⟩) (Nat.lt_succ_self _) (Nat.zero_le _) rfl (by kernel_rfl) (by kernel_rfl) rfl trivial
def gc78:BCode:=(.seq (R_ 2 [O_ 2 (.bx (t_ 0)) 0,O_ 3 (.bx (t_ 1)) 1,O_ 4 (.mv (b_ false)) 2]) (.seq (R_ 0 [O_ 5 (.fa 0 (t_ 2)) 0,O_ 6 (.ld 1 false (t_ 5)) 0,O_ 7 (.fa 0 (t_ 3)) 0,O_ 8 (.ld 1 false (t_ 7)) 0,O_ 9 (.bin .eql (t_ 6) (t_ 8)) 0,O_ 10 (.mv (t_ 9)) 0,⟨(some 11),.fa 1 (t_ 2),(some (10,true)),0⟩,⟨(some 12),.ld 1 false (t_ 11),(some (10,true)),0⟩,⟨(some 13),.fa 1 (t_ 3),(some (10,true)),0⟩,⟨(some 14),.ld 1 false (t_ 13),(some (10,true)),0⟩,⟨(some 15),.bin .eql (t_ 12) (t_ 14),(some (10,true)),0⟩,O_ 16 (.pick (t_ 10) (t_ 15) (b_ false)) 0,O_ 17 (.mv (t_ 16)) 0,⟨(some 18),.fa 2 (t_ 2),(some (17,true)),0⟩,⟨(some 19),.ld 1 false (t_ 18),(some (17,true)),0⟩,⟨(some 20),.fa 2 (t_ 3),(some (17,true)),0⟩,⟨(some 21),.ld 1 false (t_ 20),(some (17,true)),0⟩,⟨(some 22),.cl 132 [(t_ 19),(t_ 21)],(some (17,true)),0⟩,O_ 23 (.pick (t_ 17) (t_ 22) (b_ false)) 0,O_ 24 (.mv (t_ 23)) 0,⟨(some 25),.fa 3 (t_ 2),(some (24,true)),0⟩,⟨(some 26),.ld 1 false (t_ 25),(some (24,true)),0⟩,⟨(some 27),.fa 3 (t_ 3),(some (24,true)),0⟩,⟨(some 28),.ld 1 false (t_ 27),(some (24,true)),0⟩,⟨(some 29),.cl 133 [(t_ 26),(t_ 28)],(some (24,true)),0⟩,O_ 30 (.pick (t_ 24) (t_ 29) (b_ false)) 0,O_ 4 (.mv (t_ 30)) 0]) .ret))
theorem gc78_ok:compF Tryz.prog Tryz.f78=some (gc78.er,31,[.tmp 4]):=by unfold gc78;kernel_rfl
theorem p_roster_Same_v {u1 u2 u3 u4:Bool} (a0:RosterState) (a1:RosterState):CallsO Tryz.prog 78 [.agg [.i a0.Ver,.i a0.Floor,.sl (List.map ItemItem.v a0.Items) u1,.sl (List.map RosterGone.v a0.Gone) u2],.agg [.i a1.Ver,.i a1.Floor,.sl (List.map ItemItem.v a1.Items) u3,.sl (List.map RosterGone.v a1.Gone) u4]] V.b (p_roster_Same a0 a1):=by
 refine callsO_comp mix Tryz.func78 gc78_ok fun r H=>?_
 rw [p_roster_Same] at H
 conv=>whnf
 refine tst_d H (fun b1 H=>?_) (fun b1 H=>?_)
 ·conv=>whnf
  iterate 17 (refine Tst.F ?_;conv=>whnf)
  exact fb_ H
 conv=>whnf
 iterate 5 (refine Tst.T ?_;conv=>whnf)
 refine tst_d H (fun b2 H=>?_) (fun b2 H=>?_)
 ·conv=>whnf
  iterate 11 (refine Tst.F ?_;conv=>whnf)
  exact fb_ H
 conv=>whnf
 iterate 4 (refine Tst.T ?_;conv=>whnf)
 refine ask_c (p_slices_Equal_item_Item_v _ _) H rfl rfl (fun v3 H=>?_);conv=>whnf
 refine Tst.T ?_;conv=>whnf
 refine tst_d H (fun b4 H=>?_) (fun b4 H=>?_)
 ·conv=>whnf
  iterate 5 (refine Tst.F ?_;conv=>whnf)
  exact fb_ H
 conv=>whnf
 iterate 4 (refine Tst.T ?_;conv=>whnf)
 refine ask_c (p_slices_Equal_roster_Gone_v _ _) H rfl rfl (fun v5 H=>?_);conv=>whnf
 refine Tst.T ?_;conv=>whnf
 exact fb_ H
end Go.Proofs.YtmmmcpeickfolaaGreat

