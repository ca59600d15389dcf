/- A part of the proof: 2 texts joined. -/
import Derived.Test.YtmmmcpeickfolaaGreatZaA16
import Derived.Test.YtmmmcpeickfolaaGreatZaA18
import Derived.Test.YtmmmcpeickfolaaGreatZaA19
import Derived.Test.YtmmmcpeickfolaaGreatZaA21
import Derived.Test.YtmmmcpeickfolaaGreatZaA10
import Derived.KernelRfl
import Derived.Test.YtmmmcpeickfolaaGreatZaA12
set_option linter.all false
namespace Go.Proofs.YtmmmcpeickfolaaGreat
open Go.RowKit
set_option maxRecDepth 100000
set_option maxHeartbeats 4000000
def gc72:BCode:=(.seq (R_ 2 [O_ 3 (.bx (t_ 0)) 0,O_ 6 (.al (.agg [(.lit (.int .i64 0)),(.lit (.int .i64 0)),(.sl [] true),(.sl [] true)])) 1,O_ 7 (.mv (i_ 0)) 2]) (.seq (.reg 1 [O_ 15 (.ld 4 true (t_ 3)) 0,O_ 16 (.cl 123 [(t_ 15)]) 0,O_ 8 (.al (.agg [(.lit (.int .i64 0)),(.lit (.int .i64 0)),(.sl [] true),(.sl [] true)])) 0,U_ (.st 4 (t_ 8) (t_ 16)) 1] none 2 []) (.seq (.seq (R_ 0 [O_ 17 (.ld 4 true (t_ 3)) 0,O_ 18 (.cl 45 [(t_ 17)]) 0,O_ 9 (.mv (t_ 18)) 0]) (.seq (R_ 0 [O_ 19 (.mv (t_ 9)) 0,O_ 20 (.bin .neq (t_ 19) (i_ 0)) 0]) (.cond (t_ 20) (.seq (R_ 0 [O_ 21 (.ld 4 true (t_ 8)) 0,O_ 22 (.mv (t_ 9)) 0,U_ (.st 4 (t_ 6) (t_ 21)) 0,O_ 7 (.mv (t_ 22)) 0]) .ret) .skip))) (.seq (R_ 1 [O_ 24 (.ld 4 true (t_ 3)) 0,O_ 25 (.mv (t_ 1)) 0,O_ 26 (.cl 75 [(t_ 24),(t_ 25)]) 0,O_ 23 (.mv (t_ 26)) 0,O_ 27 (.ex (t_ 23) 0) 0,O_ 28 (.ex (t_ 23) 1) 0,O_ 10 (.al (.agg [(.lit (.string ⟨#[]⟩)),(.lit (.string ⟨#[]⟩)),(.lit (.int .i64 0)),(.lit (.int .i64 0)),(.lit (.bool false))])) 0,U_ (.st 5 (t_ 10) (t_ 27)) 1,O_ 11 (.mv (t_ 28)) 1]) (.seq (R_ 1 [O_ 29 (.mv (t_ 1)) 0,O_ 30 (.mv (t_ 2)) 0,O_ 31 (.fa 2 (t_ 10)) 0,O_ 32 (.ld 1 false (t_ 31)) 0,O_ 33 (.bd [(.lit (.string ⟨#[]⟩)),(.lit (.string ⟨#[]⟩)),(.lit (.int .i64 0)),(.lit (.int .i64 0)),(.lit (.bool false))] [(0,1,(t_ 29)),(1,1,(t_ 30)),(2,1,(t_ 32)),(4,1,(b_ true))]) 0,O_ 12 (.al (.agg [(.lit (.string ⟨#[]⟩)),(.lit (.string ⟨#[]⟩)),(.lit (.int .i64 0)),(.lit (.int .i64 0)),(.lit (.bool false))])) 0,U_ (.st 5 (t_ 12) (t_ 33)) 1]) (.seq (.seq (R_ 0 [O_ 34 (.ld 5 true (t_ 12)) 0,O_ 35 (.cl 124 [(t_ 34)]) 0,O_ 13 (.mv (t_ 35)) 0]) (.seq (R_ 0 [O_ 36 (.mv (t_ 13)) 0,O_ 37 (.bin .neq (t_ 36) (i_ 0)) 0]) (.cond (t_ 37) (.seq (R_ 0 [O_ 38 (.ld 4 true (t_ 8)) 0,O_ 39 (.mv (t_ 13)) 0,U_ (.st 4 (t_ 6) (t_ 38)) 0,O_ 7 (.mv (t_ 39)) 0]) .ret) .skip))) (.seq (.seq (R_ 0 [O_ 40 (.ld 4 true (t_ 3)) 0,O_ 41 (.mv (t_ 11)) 0,O_ 42 (.cl 125 [(t_ 40),(t_ 41),(b_ true)]) 0,O_ 14 (.mv (t_ 42)) 0]) (.seq (R_ 0 [O_ 43 (.mv (t_ 14)) 0,O_ 44 (.bin .neq (t_ 43) (i_ 0)) 0]) (.cond (t_ 44) (.seq (R_ 0 [O_ 45 (.ld 4 true (t_ 8)) 0,O_ 46 (.mv (t_ 14)) 0,U_ (.st 4 (t_ 6) (t_ 45)) 0,O_ 7 (.mv (t_ 46)) 0]) .ret) .skip))) (.join (.seq (R_ 0 [O_ 47 (.fa 4 (t_ 10)) 0,O_ 48 (.ld 1 false (t_ 47)) 0,O_ 49 (.mv (t_ 48)) 0,⟨(some 50),.fa 1 (t_ 10),(some (49,true)),0⟩,⟨(some 51),.ld 1 false (t_ 50),(some (49,true)),0⟩,⟨(some 52),.mv (t_ 2),(some (49,true)),0⟩,⟨(some 53),.bin .eql (t_ 51) (t_ 52),(some (49,true)),0⟩,O_ 54 (.pick (t_ 49) (t_ 53) (b_ false)) 0]) (.cond (t_ 54) (.seq (R_ 0 [O_ 55 (.ld 4 true (t_ 8)) 0,U_ (.st 4 (t_ 6) (t_ 55)) 0,O_ 7 (.mv (i_ 0)) 0]) .ret) .skip)) (.seq (R_ 0 [O_ 56 (.ld 4 true (t_ 8)) 0,O_ 57 (.ld 5 true (t_ 12)) 0,O_ 58 (.cl 126 [(t_ 56),(t_ 57)]) 0,U_ (.st 4 (t_ 6) (t_ 58)) 0,O_ 7 (.mv (i_ 0)) 0]) .ret)))))))))
theorem gc72_ok:compF Tryz.prog Tryz.f72=some (gc72.er,59,[.cell 6 4 true,.tmp 7]):=by unfold gc72;kernel_rfl
theorem p_roster_Set_v {u1 u2:Bool} (a0:RosterState) (a1:ByteArray) (a2:ByteArray):CallsO Tryz.prog 72 [.agg [.i a0.Ver,.i a0.Floor,.sl (List.map ItemItem.v a0.Items) u1,.sl (List.map RosterGone.v a0.Gone) u2],.s a1,.s a2] (fun r:RosterState × Int=>.tup [RosterState.v r.1,V.i r.2]) (p_roster_Set a0 a1 a2):=by
 refine callsO_comp mix Tryz.func72 gc72_ok fun r H=>?_
 rw [p_roster_Set] at H
 conv=>whnf
 refine p_roster_State_own_c (i:=3) (j:=4) H (by decide) rfl rfl (fun H=>?_) (fun G H=>?_) (fun I H=>?_) (fun I G H=>?_)
 ·try dsimp only at H
  conv=>whnf
  refine lq_ ?_;conv=>whnf
  refine ask_c (p_roster_Check_v _) H rfl rfl (fun v1 H=>?_);conv=>whnf
  refine tst_c H (fun b2 H=>?_) (fun b2 H=>?_)
  ·conv=>whnf
   refine lq_ ?_;conv=>whnf
   refine finR_c (enc:=(fun r:RosterState × Int=>.tup [RosterState.v r.1,V.i r.2])) H ?_;conv=>whnf
   exact ⟨_,.tup (.cons (fzagg (.cons (.id rfl) (.cons (.id rfl) (.cons (.slw) (.cons (.slw) (.nil))))) rfl) (.cons (.c (.id rfl)) (.nil)))⟩
  conv=>whnf
  refine ask_c (p_roster_Find_v _ _) H rfl rfl (fun v3 H=>?_);conv=>whnf
  refine lq_ ?_;conv=>whnf
  refine lq_ ?_;conv=>whnf
  refine ask_c (p_item_Check_v _) H rfl rfl (fun v4 H=>?_);conv=>whnf
  refine tst_c H (fun b5 H=>?_) (fun b5 H=>?_)
  ·conv=>whnf
   refine lq_ ?_;conv=>whnf
   refine finR_c (enc:=(fun r:RosterState × Int=>.tup [RosterState.v r.1,V.i r.2])) H ?_;conv=>whnf
   exact ⟨_,.tup (.cons (fzagg (.cons (.id rfl) (.cons (.id rfl) (.cons (.slw) (.cons (.slw) (.nil))))) rfl) (.cons (.c (.id rfl)) (.nil)))⟩
  conv=>whnf
  refine ask_c (p_roster_State_may_v _ _ _) H rfl rfl (fun v6 H=>?_);conv=>whnf
  refine tst_c H (fun b7 H=>?_) (fun b7 H=>?_)
  ·conv=>whnf
   refine lq_ ?_;conv=>whnf
   refine finR_c (enc:=(fun r:RosterState × Int=>.tup [RosterState.v r.1,V.i r.2])) H ?_;conv=>whnf
   exact ⟨_,.tup (.cons (fzagg (.cons (.id rfl) (.cons (.id rfl) (.cons (.slw) (.cons (.slw) (.nil))))) rfl) (.cons (.c (.id rfl)) (.nil)))⟩
  conv=>whnf
  obtain ⟨K8,hK9,o10,HL11,HQ12⟩:=join0_c H
  refine join_c [7,6,8,12] [47,48,49,50,51,52,53,54,55,3,10,31] (fun vals st=>(K8 (.inr ())=some r∧vals=[.i (0:Int),.ptr 0 0,.ptr 1 0,.ptr 4 0]∧st=[.live [.i (0:Int),.i (0:Int),.sl (List.map ItemItem.v []) true,.sl (List.map RosterGone.v []) true] 0,.live [.i a0.Ver,.i a0.Floor,.sl (List.map ItemItem.v []) true,.sl (List.map RosterGone.v []) true] 0,.dead,.dead,.live [.s a1,.s a2,.i v3.1.Sub,.i (0:Int),.b true] 0])) ?_ ?_
  ·have H:=HL11
   conv=>whnf
   refine tst_d H (fun b14 H=>?_) (fun b14 H=>?_)
   ·conv=>whnf
    iterate 5 (refine Tst.F ?_;conv=>whnf)
    obtain rfl:=Option.some.inj H
    exact arrive_c [47,48,49,50,51,52,53,54,55,3,10,31] 5 [1,2,0,0,6] (⟨HQ12,rfl,rfl⟩) (Nat.zero_le _) rfl (by kernel_rfl) (by kernel_rfl) rfl ⟨⟨rfl,rfl,rfl⟩,⟨⟨rfl,rfl,rfl⟩,⟨⟨rfl,rfl,rfl⟩,trivial⟩⟩⟩
   conv=>whnf
   iterate 4 (refine Tst.T ?_;conv=>whnf)
   refine tst_d H (fun b15 H=>?_) (fun b15 H=>?_)
   ·conv=>whnf
    obtain rfl:=Option.some.inj H
    exact arrive_c [47,48,49,50,51,52,53,54,55,3,10,31] 5 [1,2,0,0,6] (⟨HQ12,rfl,rfl⟩) (Nat.zero_le _) rfl (by kernel_rfl) (by kernel_rfl) rfl ⟨⟨rfl,rfl,rfl⟩,⟨⟨rfl,rfl,rfl⟩,⟨⟨rfl,rfl,rfl⟩,trivial⟩⟩⟩
   conv=>whnf
   refine lq_ ?_;conv=>whnf
   obtain rfl:=Option.some.inj H
   have H:=HQ12
   rw [hK9] at H
   try dsimp only at H
   refine finR_c (enc:=(fun r:RosterState × Int=>.tup [RosterState.v r.1,V.i r.2])) H ?_;conv=>whnf
   exact ⟨_,.tup (.cons (fzagg (.cons (.id rfl) (.cons (.id rfl) (.cons (.slw) (.cons (.slw) (.nil))))) rfl) (.cons (.c (.id rfl)) (.nil)))⟩
  rintro _ _ (⟨H,rfl,rfl⟩)
  rw [hK9] at H
  try dsimp only at H
  conv=>whnf
  refine askW_c (fun s hs=>p_roster_State_change_nn _ _ _ rfl rfl rfl s hs) H rfl rfl rfl (fun v16 H=>?_);conv=>whnf
  refine lq_ ?_;conv=>whnf
  exact fin0_c (enc:=(fun r:RosterState × Int=>.tup [RosterState.v r.1,V.i r.2])) H (.inr rfl) (.cons (.cell rfl rfl (Nat.le_of_ble_eq_true rfl)) (.cons (.tmp rfl) (.nil))) rfl rfl
 ·try dsimp only at H
  conv=>whnf
  refine lq_ ?_;conv=>whnf
  refine ask_c (p_roster_Check_v _) H rfl rfl (fun v17 H=>?_);conv=>whnf
  refine tst_c H (fun b18 H=>?_) (fun b18 H=>?_)
  ·conv=>whnf
   refine lq_ ?_;conv=>whnf
   refine finRz_c (enc:=(fun r:RosterState × Int=>.tup [RosterState.v r.1,V.i r.2])) [4] H ?_;conv=>whnf
   refine ⟨Nat.zero_le _,?_⟩;conv=>whnf
   exact ⟨_,.tup (.cons (fzagg (.cons (.id rfl) (.cons (.id rfl) (.cons (.slw) (.cons (fzown (f:=RosterGone.v) (l:=G) rfl rfl (fun _=>rfl) (fun _=>rfl)) (.nil))))) rfl) (.cons (.c (.id rfl)) (.nil)))⟩
  conv=>whnf
  refine ask_c (p_roster_Find_v _ _) H rfl rfl (fun v19 H=>?_);conv=>whnf
  refine lq_ ?_;conv=>whnf
  refine lq_ ?_;conv=>whnf
  refine ask_c (p_item_Check_v _) H rfl rfl (fun v20 H=>?_);conv=>whnf
  refine tst_c H (fun b21 H=>?_) (fun b21 H=>?_)
  ·conv=>whnf
   refine lq_ ?_;conv=>whnf
   refine finRz_c (enc:=(fun r:RosterState × Int=>.tup [RosterState.v r.1,V.i r.2])) [4] H ?_;conv=>whnf
   refine ⟨Nat.zero_le _,?_⟩;conv=>whnf
   exact ⟨_,.tup (.cons (fzagg (.cons (.id rfl) (.cons (.id rfl) (.cons (.slw) (.cons (fzown (f:=RosterGone.v) (l:=G) rfl rfl (fun _=>rfl) (fun _=>rfl)) (.nil))))) rfl) (.cons (.c (.id rfl)) (.nil)))⟩
  conv=>whnf
  refine ask_c (p_roster_State_may_v _ _ _) H rfl rfl (fun v22 H=>?_);conv=>whnf
  refine tst_c H (fun b23 H=>?_) (fun b23 H=>?_)
  ·conv=>whnf
   refine lq_ ?_;conv=>whnf
   refine finRz_c (enc:=(fun r:RosterState × Int=>.tup [RosterState.v r.1,V.i r.2])) [4] H ?_;conv=>whnf
   refine ⟨Nat.zero_le _,?_⟩;conv=>whnf
   exact ⟨_,.tup (.cons (fzagg (.cons (.id rfl) (.cons (.id rfl) (.cons (.slw) (.cons (fzown (f:=RosterGone.v) (l:=G) rfl rfl (fun _=>rfl) (fun _=>rfl)) (.nil))))) rfl) (.cons (.c (.id rfl)) (.nil)))⟩
  conv=>whnf
  obtain ⟨K24,hK25,o26,HL27,HQ28⟩:=join0_c H
  refine join_c [7,6,8,12] [47,48,49,50,51,52,53,54,55,3,10,16,31] (fun vals st=>(K24 (.inr ())=some r∧vals=[.i (0:Int),.ptr 0 0,.ptr 1 0,.ptr 4 0]∧st=[.live [.i (0:Int),.i (0:Int),.sl (List.map ItemItem.v []) true,.sl (List.map RosterGone.v []) true] 0,.live [.i a0.Ver,.i a0.Floor,.sl (List.map ItemItem.v []) true,.osl 3 0 (List.length G) 2 false] 0,.dead,.live (cellsM RosterGone.v G) 0,.live [.s a1,.s a2,.i v19.1.Sub,.i (0:Int),.b true] 0])) ?_ ?_
  ·have H:=HL27
   conv=>whnf
   refine tst_d H (fun b30 H=>?_) (fun b30 H=>?_)
   ·conv=>whnf
    iterate 5 (refine Tst.F ?_;conv=>whnf)
    obtain rfl:=Option.some.inj H
    exact arrive_c [47,48,49,50,51,52,53,54,55,3,10,16,31] 5 [1,2,0,4,6] (⟨HQ28,rfl,rfl⟩) (Nat.zero_le _) rfl (by kernel_rfl) (by kernel_rfl) rfl ⟨⟨rfl,rfl,rfl⟩,⟨⟨rfl,rfl,rfl⟩,wkB_live0 rfl (cellsM_idlt (f:=RosterGone.v) (fun _=>rfl) _) rfl ⟨⟨rfl,rfl,rfl⟩,trivial⟩⟩⟩
   conv=>whnf
   iterate 4 (refine Tst.T ?_;conv=>whnf)
   refine tst_d H (fun b31 H=>?_) (fun b31 H=>?_)
   ·conv=>whnf
    obtain rfl:=Option.some.inj H
    exact arrive_c [47,48,49,50,51,52,53,54,55,3,10,16,31] 5 [1,2,0,4,6] (⟨HQ28,rfl,rfl⟩) (Nat.zero_le _) rfl (by kernel_rfl) (by kernel_rfl) rfl ⟨⟨rfl,rfl,rfl⟩,⟨⟨rfl,rfl,rfl⟩,wkB_live0 rfl (cellsM_idlt (f:=RosterGone.v) (fun _=>rfl) _) rfl ⟨⟨rfl,rfl,rfl⟩,trivial⟩⟩⟩
   conv=>whnf
   refine lq_ ?_;conv=>whnf
   obtain rfl:=Option.some.inj H
   have H:=HQ28
   rw [hK25] at H
   try dsimp only at H
   refine finRz_c (enc:=(fun r:RosterState × Int=>.tup [RosterState.v r.1,V.i r.2])) [4] H ?_;conv=>whnf
   refine ⟨Nat.zero_le _,?_⟩;conv=>whnf
   exact ⟨_,.tup (.cons (fzagg (.cons (.id rfl) (.cons (.id rfl) (.cons (.slw) (.cons (fzown (f:=RosterGone.v) (l:=G) rfl rfl (fun _=>rfl) (fun _=>rfl)) (.nil))))) rfl) (.cons (.c (.id rfl)) (.nil)))⟩
  rintro _ _ (⟨H,rfl,rfl⟩)
  rw [hK25] at H
  try dsimp only at H
  conv=>whnf
  refine askW_c (fun s hs=>p_roster_State_change_no _ _ _ _ rfl rfl rfl s hs) H rfl rfl rfl (fun v32 H=>?_);conv=>whnf
  refine lq_ ?_;conv=>whnf
  exact fin0_c (enc:=(fun r:RosterState × Int=>.tup [RosterState.v r.1,V.i r.2])) H (.inr rfl) (.cons (.cell rfl rfl (Nat.le_of_ble_eq_true rfl)) (.cons (.tmp rfl) (.nil))) rfl rfl
 ·try dsimp only at H
  conv=>whnf
  refine lq_ ?_;conv=>whnf
  refine ask_c (p_roster_Check_v _) H rfl rfl (fun v33 H=>?_);conv=>whnf
  refine tst_c H (fun b34 H=>?_) (fun b34 H=>?_)
  ·conv=>whnf
   refine lq_ ?_;conv=>whnf
   refine finRz_c (enc:=(fun r:RosterState × Int=>.tup [RosterState.v r.1,V.i r.2])) [3] H ?_;conv=>whnf
   refine ⟨Nat.zero_le _,?_⟩;conv=>whnf
   exact ⟨_,.tup (.cons (fzagg (.cons (.id rfl) (.cons (.id rfl) (.cons (fzown (f:=ItemItem.v) (l:=I) rfl rfl (fun _=>rfl) (fun _=>rfl)) (.cons (.slw) (.nil))))) rfl) (.cons (.c (.id rfl)) (.nil)))⟩
  conv=>whnf
  refine ask_c (p_roster_Find_v _ _) H rfl rfl (fun v35 H=>?_);conv=>whnf
  refine lq_ ?_;conv=>whnf
  refine lq_ ?_;conv=>whnf
  refine ask_c (p_item_Check_v _) H rfl rfl (fun v36 H=>?_);conv=>whnf
  refine tst_c H (fun b37 H=>?_) (fun b37 H=>?_)
  ·conv=>whnf
   refine lq_ ?_;conv=>whnf
   refine finRz_c (enc:=(fun r:RosterState × Int=>.tup [RosterState.v r.1,V.i r.2])) [3] H ?_;conv=>whnf
   refine ⟨Nat.zero_le _,?_⟩;conv=>whnf
   exact ⟨_,.tup (.cons (fzagg (.cons (.id rfl) (.cons (.id rfl) (.cons (fzown (f:=ItemItem.v) (l:=I) rfl rfl (fun _=>rfl) (fun _=>rfl)) (.cons (.slw) (.nil))))) rfl) (.cons (.c (.id rfl)) (.nil)))⟩
  conv=>whnf
  refine ask_c (p_roster_State_may_v _ _ _) H rfl rfl (fun v38 H=>?_);conv=>whnf
  refine tst_c H (fun b39 H=>?_) (fun b39 H=>?_)
  ·conv=>whnf
   refine lq_ ?_;conv=>whnf
   refine finRz_c (enc:=(fun r:RosterState × Int=>.tup [RosterState.v r.1,V.i r.2])) [3] H ?_;conv=>whnf
   refine ⟨Nat.zero_le _,?_⟩;conv=>whnf
   exact ⟨_,.tup (.cons (fzagg (.cons (.id rfl) (.cons (.id rfl) (.cons (fzown (f:=ItemItem.v) (l:=I) rfl rfl (fun _=>rfl) (fun _=>rfl)) (.cons (.slw) (.nil))))) rfl) (.cons (.c (.id rfl)) (.nil)))⟩
  conv=>whnf
  obtain ⟨K40,hK41,o42,HL43,HQ44⟩:=join0_c H
  refine join_c [7,6,8,12] [47,48,49,50,51,52,53,54,55,3,10,16,31] (fun vals st=>(K40 (.inr ())=some r∧vals=[.i (0:Int),.ptr 0 0,.ptr 1 0,.ptr 4 0]∧st=[.live [.i (0:Int),.i (0:Int),.sl (List.map ItemItem.v []) true,.sl (List.map RosterGone.v []) true] 0,.live [.i a0.Ver,.i a0.Floor,.osl 2 0 (List.length I) 5 false,.sl (List.map RosterGone.v []) true] 0,.live (cellsM ItemItem.v I) 0,.dead,.live [.s a1,.s a2,.i v35.1.Sub,.i (0:Int),.b true] 0])) ?_ ?_
  ·have H:=HL43
   conv=>whnf
   refine tst_d H (fun b46 H=>?_) (fun b46 H=>?_)
   ·conv=>whnf
    iterate 5 (refine Tst.F ?_;conv=>whnf)
    obtain rfl:=Option.some.inj H
    exact arrive_c [47,48,49,50,51,52,53,54,55,3,10,16,31] 5 [1,2,3,0,6] (⟨HQ44,rfl,rfl⟩) (Nat.zero_le _) rfl (by kernel_rfl) (by kernel_rfl) rfl ⟨⟨rfl,rfl,rfl⟩,⟨⟨rfl,rfl,rfl⟩,wkB_live0 rfl (cellsM_idlt (f:=ItemItem.v) (fun _=>rfl) _) rfl ⟨⟨rfl,rfl,rfl⟩,trivial⟩⟩⟩
   conv=>whnf
   iterate 4 (refine Tst.T ?_;conv=>whnf)
   refine tst_d H (fun b47 H=>?_) (fun b47 H=>?_)
   ·conv=>whnf
    obtain rfl:=Option.some.inj H
    exact arrive_c [47,48,49,50,51,52,53,54,55,3,10,16,31] 5 [1,2,3,0,6] (⟨HQ44,rfl,rfl⟩) (Nat.zero_le _) rfl (by kernel_rfl) (by kernel_rfl) rfl ⟨⟨rfl,rfl,rfl⟩,⟨⟨rfl,rfl,rfl⟩,wkB_live0 rfl (cellsM_idlt (f:=ItemItem.v) (fun _=>rfl) _) rfl ⟨⟨rfl,rfl,rfl⟩,trivial⟩⟩⟩
   conv=>whnf
   refine lq_ ?_;conv=>whnf
   obtain rfl:=Option.some.inj H
   have H:=HQ44
   rw [hK41] at H
   try dsimp only at H
   refine finRz_c (enc:=(fun r:RosterState × Int=>.tup [RosterState.v r.1,V.i r.2])) [3] H ?_;conv=>whnf
   refine ⟨Nat.zero_le _,?_⟩;conv=>whnf
   exact ⟨_,.tup (.cons (fzagg (.cons (.id rfl) (.cons (.id rfl) (.cons (fzown (f:=ItemItem.v) (l:=I) rfl rfl (fun _=>rfl) (fun _=>rfl)) (.cons (.slw) (.nil))))) rfl) (.cons (.c (.id rfl)) (.nil)))⟩
  rintro _ _ (⟨H,rfl,rfl⟩)
  rw [hK41] at H
  try dsimp only at H
  conv=>whnf
  refine askW_c (fun s hs=>p_roster_State_change_on _ _ _ _ rfl rfl rfl s hs) H rfl rfl rfl (fun v48 H=>?_);conv=>whnf
  refine lq_ ?_;conv=>whnf
  exact fin0_c (enc:=(fun r:RosterState × Int=>.tup [RosterState.v r.1,V.i r.2])) H (.inr rfl) (.cons (.cell rfl rfl (Nat.le_of_ble_eq_true rfl)) (.cons (.tmp rfl) (.nil))) rfl rfl
 try dsimp only at H
 conv=>whnf
 refine lq_ ?_;conv=>whnf
 refine ask_c (p_roster_Check_v _) H rfl rfl (fun v49 H=>?_);conv=>whnf
 refine tst_c H (fun b50 H=>?_) (fun b50 H=>?_)
 ·conv=>whnf
  refine lq_ ?_;conv=>whnf
  refine finRz_c (enc:=(fun r:RosterState × Int=>.tup [RosterState.v r.1,V.i r.2])) [3,4] H ?_;conv=>whnf
  refine ⟨Nat.zero_le _,?_⟩;conv=>whnf
  refine ⟨Nat.zero_le _,?_⟩;conv=>whnf
  exact ⟨_,.tup (.cons (fzagg (.cons (.id rfl) (.cons (.id rfl) (.cons (fzown (f:=ItemItem.v) (l:=I) rfl rfl (fun _=>rfl) (fun _=>rfl)) (.cons (fzown (f:=RosterGone.v) (l:=G) rfl rfl (fun _=>rfl) (fun _=>rfl)) (.nil))))) rfl) (.cons (.c (.id rfl)) (.nil)))⟩
 conv=>whnf
 refine ask_c (p_roster_Find_v _ _) H rfl rfl (fun v51 H=>?_);conv=>whnf
 refine lq_ ?_;conv=>whnf
 refine lq_ ?_;conv=>whnf
 refine ask_c (p_item_Check_v _) H rfl rfl (fun v52 H=>?_);conv=>whnf
 refine tst_c H (fun b53 H=>?_) (fun b53 H=>?_)
 ·conv=>whnf
  refine lq_ ?_;conv=>whnf
  refine finRz_c (enc:=(fun r:RosterState × Int=>.tup [RosterState.v r.1,V.i r.2])) [3,4] H ?_;conv=>whnf
  refine ⟨Nat.zero_le _,?_⟩;conv=>whnf
  refine ⟨Nat.zero_le _,?_⟩;conv=>whnf
  exact ⟨_,.tup (.cons (fzagg (.cons (.id rfl) (.cons (.id rfl) (.cons (fzown (f:=ItemItem.v) (l:=I) rfl rfl (fun _=>rfl) (fun _=>rfl)) (.cons (fzown (f:=RosterGone.v) (l:=G) rfl rfl (fun _=>rfl) (fun _=>rfl)) (.nil))))) rfl) (.cons (.c (.id rfl)) (.nil)))⟩
 conv=>whnf
 refine ask_c (p_roster_State_may_v _ _ _) H rfl rfl (fun v54 H=>?_);conv=>whnf
 refine tst_c H (fun b55 H=>?_) (fun b55 H=>?_)
 ·conv=>whnf
  refine lq_ ?_;conv=>whnf
  refine finRz_c (enc:=(fun r:RosterState × Int=>.tup [RosterState.v r.1,V.i r.2])) [3,4] H ?_;conv=>whnf
  refine ⟨Nat.zero_le _,?_⟩;conv=>whnf
  refine ⟨Nat.zero_le _,?_⟩;conv=>whnf
  exact ⟨_,.tup (.cons (fzagg (.cons (.id rfl) (.cons (.id rfl) (.cons (fzown (f:=ItemItem.v) (l:=I) rfl rfl (fun _=>rfl) (fun _=>rfl)) (.cons (fzown (f:=RosterGone.v) (l:=G) rfl rfl (fun _=>rfl) (fun _=>rfl)) (.nil))))) rfl) (.cons (.c (.id rfl)) (.nil)))⟩
 conv=>whnf
 obtain ⟨K56,hK57,o58,HL59,HQ60⟩:=join0_c H
 refine join_c [7,6,8,12] [47,48,49,50,51,52,53,54,55,3,10,16,31] (fun vals st=>(K56 (.inr ())=some r∧vals=[.i (0:Int),.ptr 0 0,.ptr 1 0,.ptr 4 0]∧st=[.live [.i (0:Int),.i (0:Int),.sl (List.map ItemItem.v []) true,.sl (List.map RosterGone.v []) true] 0,.live [.i a0.Ver,.i a0.Floor,.osl 2 0 (List.length I) 5 false,.osl 3 0 (List.length G) 2 false] 0,.live (cellsM ItemItem.v I) 0,.live (cellsM RosterGone.v G) 0,.live [.s a1,.s a2,.i v51.1.Sub,.i (0:Int),.b true] 0])) ?_ ?_
 ·have H:=HL59
  conv=>whnf
  refine tst_d H (fun b62 H=>?_) (fun b62 H=>?_)
  ·conv=>whnf
   iterate 5 (refine Tst.F ?_;conv=>whnf)
   obtain rfl:=Option.some.inj H
   exact arrive_c [47,48,49,50,51,52,53,54,55,3,10,16,31] 5 [1,2,3,4,6] (⟨HQ60,rfl,rfl⟩) (Nat.zero_le _) rfl (by kernel_rfl) (by kernel_rfl) rfl ⟨⟨rfl,rfl,rfl⟩,⟨⟨rfl,rfl,rfl⟩,wkB_live0 rfl (cellsM_idlt (f:=ItemItem.v) (fun _=>rfl) _) rfl (wkB_live0 rfl (cellsM_idlt (f:=RosterGone.v) (fun _=>rfl) _) rfl ⟨⟨rfl,rfl,rfl⟩,trivial⟩)⟩⟩
  conv=>whnf
  iterate 4 (refine Tst.T ?_;conv=>whnf)
  refine tst_d H (fun b63 H=>?_) (fun b63 H=>?_)
  ·conv=>whnf
   obtain rfl:=Option.some.inj H
   exact arrive_c [47,48,49,50,51,52,53,54,55,3,10,16,31] 5 [1,2,3,4,6] (⟨HQ60,rfl,rfl⟩) (Nat.zero_le _) rfl (by kernel_rfl) (by kernel_rfl) rfl ⟨⟨rfl,rfl,rfl⟩,⟨⟨rfl,rfl,rfl⟩,wkB_live0 rfl (cellsM_idlt (f:=ItemItem.v) (fun _=>rfl) _) rfl (wkB_live0 rfl (cellsM_idlt (f:=RosterGone.v) (fun _=>rfl) _) rfl ⟨⟨rfl,rfl,rfl⟩,trivial⟩)⟩⟩
  conv=>whnf
  refine lq_ ?_;conv=>whnf
  obtain rfl:=Option.some.inj H
  have H:=HQ60
  rw [hK57] at H
  try dsimp only at H
  refine finRz_c (enc:=(fun r:RosterState × Int=>.tup [RosterState.v r.1,V.i r.2])) [3,4] H ?_;conv=>whnf
  refine ⟨Nat.zero_le _,?_⟩;conv=>whnf
  refine ⟨Nat.zero_le _,?_⟩;conv=>whnf
  exact ⟨_,.tup (.cons (fzagg (.cons (.id rfl) (.cons (.id rfl) (.cons (fzown (f:=ItemItem.v) (l:=I) rfl rfl (fun _=>rfl) (fun _=>rfl)) (.cons (fzown (f:=RosterGone.v) (l:=G) rfl rfl (fun _=>rfl) (fun _=>rfl)) (.nil))))) rfl) (.cons (.c (.id rfl)) (.nil)))⟩
 rintro _ _ (⟨H,rfl,rfl⟩)
 rw [hK57] at H
 try dsimp only at H
 conv=>whnf
 refine askW_c (fun s hs=>p_roster_State_change_oo _ _ _ _ _ rfl rfl rfl s hs) H rfl rfl rfl (fun v64 H=>?_);conv=>whnf
 refine lq_ ?_;conv=>whnf
 exact fin0_c (enc:=(fun r:RosterState × Int=>.tup [RosterState.v r.1,V.i r.2])) H (.inr rfl) (.cons (.cell rfl rfl (Nat.le_of_ble_eq_true rfl)) (.cons (.tmp rfl) (.nil))) rfl rfl
end Go.Proofs.YtmmmcpeickfolaaGreat

namespace Go.Proofs.YtmmmcpeickfolaaGreat
open Go.RowKit
set_option maxRecDepth 100000
set_option maxHeartbeats 4000000
def gc73:BCode:=(.seq (R_ 2 [O_ 3 (.bx (t_ 0)) 0,O_ 6 (.al (.agg [(.lit (.int .i64 0)),(.lit (.int .i64 0)),(.sl [] true),(.sl [] true)])) 1,O_ 7 (.mv (i_ 0)) 2]) (.seq (.reg 1 [O_ 14 (.ld 4 true (t_ 3)) 0,O_ 15 (.cl 123 [(t_ 14)]) 0,O_ 8 (.al (.agg [(.lit (.int .i64 0)),(.lit (.int .i64 0)),(.sl [] true),(.sl [] true)])) 0,U_ (.st 4 (t_ 8) (t_ 15)) 1] none 2 []) (.seq (.seq (R_ 0 [O_ 16 (.ld 4 true (t_ 3)) 0,O_ 17 (.cl 45 [(t_ 16)]) 0,O_ 9 (.mv (t_ 17)) 0]) (.seq (R_ 0 [O_ 18 (.mv (t_ 9)) 0,O_ 19 (.bin .neq (t_ 18) (i_ 0)) 0]) (.cond (t_ 19) (.seq (R_ 0 [O_ 20 (.ld 4 true (t_ 8)) 0,O_ 21 (.mv (t_ 9)) 0,U_ (.st 4 (t_ 6) (t_ 20)) 0,O_ 7 (.mv (t_ 21)) 0]) .ret) .skip))) (.seq (.seq (R_ 0 [O_ 22 (.mv (t_ 1)) 0,O_ 23 (.cl 70 [(t_ 22)]) 0,O_ 24 (.un .not (t_ 23)) 0]) (.cond (t_ 24) (.seq (R_ 0 [O_ 25 (.ld 4 true (t_ 8)) 0,U_ (.st 4 (t_ 6) (t_ 25)) 0,O_ 7 (.mv (i_ 11)) 0]) .ret) .skip)) (.seq (.seq (R_ 0 [O_ 26 (.mv (t_ 2)) 0,O_ 27 (.cl 127 [(t_ 26)]) 0,O_ 10 (.mv (t_ 27)) 0]) (.seq (R_ 0 [O_ 28 (.mv (t_ 10)) 0,O_ 29 (.bin .neq (t_ 28) (i_ 0)) 0]) (.cond (t_ 29) (.seq (R_ 0 [O_ 30 (.ld 4 true (t_ 8)) 0,O_ 31 (.mv (t_ 10)) 0,U_ (.st 4 (t_ 6) (t_ 30)) 0,O_ 7 (.mv (t_ 31)) 0]) .ret) .skip))) (.seq (R_ 1 [O_ 33 (.ld 4 true (t_ 3)) 0,O_ 34 (.mv (t_ 1)) 0,O_ 35 (.cl 75 [(t_ 33),(t_ 34)]) 0,O_ 32 (.mv (t_ 35)) 0,O_ 36 (.ex (t_ 32) 0) 0,O_ 37 (.ex (t_ 32) 1) 0,O_ 11 (.al (.agg [(.lit (.string ⟨#[]⟩)),(.lit (.string ⟨#[]⟩)),(.lit (.int .i64 0)),(.lit (.int .i64 0)),(.lit (.bool false))])) 0,U_ (.st 5 (t_ 11) (t_ 36)) 1,O_ 12 (.mv (t_ 37)) 1]) (.seq (.seq (R_ 0 [O_ 38 (.ld 4 true (t_ 3)) 0,O_ 39 (.mv (t_ 12)) 0,O_ 40 (.mv (t_ 2)) 0,O_ 41 (.bin .neq (t_ 40) (i_ 0)) 0,O_ 42 (.cl 125 [(t_ 38),(t_ 39),(t_ 41)]) 0,O_ 13 (.mv (t_ 42)) 0]) (.seq (R_ 0 [O_ 43 (.mv (t_ 13)) 0,O_ 44 (.bin .neq (t_ 43) (i_ 0)) 0]) (.cond (t_ 44) (.seq (R_ 0 [O_ 45 (.ld 4 true (t_ 8)) 0,O_ 46 (.mv (t_ 13)) 0,U_ (.st 4 (t_ 6) (t_ 45)) 0,O_ 7 (.mv (t_ 46)) 0]) .ret) .skip))) (.seq (.seq (R_ 0 [O_ 47 (.fa 2 (t_ 11)) 0,O_ 48 (.ld 1 false (t_ 47)) 0,O_ 49 (.mv (t_ 2)) 0,O_ 50 (.bin .eql (t_ 48) (t_ 49)) 0]) (.cond (t_ 50) (.seq (R_ 0 [O_ 51 (.ld 4 true (t_ 8)) 0,U_ (.st 4 (t_ 6) (t_ 51)) 0,O_ 7 (.mv (i_ 0)) 0]) .ret) .skip)) (.join (R_ 0 [O_ 52 (.mv (t_ 1)) 0,O_ 53 (.mv (t_ 2)) 0,O_ 54 (.fa 0 (t_ 11)) 0,U_ (.st 1 (t_ 54) (t_ 52)) 0,O_ 55 (.fa 2 (t_ 11)) 0,U_ (.st 1 (t_ 55) (t_ 53)) 0]) (.seq (R_ 0 [O_ 56 (.ld 4 true (t_ 8)) 0,O_ 57 (.ld 5 true (t_ 11)) 0,O_ 58 (.cl 126 [(t_ 56),(t_ 57)]) 0,U_ (.st 4 (t_ 6) (t_ 58)) 0,O_ 7 (.mv (i_ 0)) 0]) .ret))))))))))
theorem gc73_ok:compF Tryz.prog Tryz.f73=some (gc73.er,59,[.cell 6 4 true,.tmp 7]):=by unfold gc73;kernel_rfl
theorem p_roster_Sub_v {u1 u2:Bool} (a0:RosterState) (a1:ByteArray) (a2:Int):CallsO Tryz.prog 73 [.agg [.i a0.Ver,.i a0.Floor,.sl (List.map ItemItem.v a0.Items) u1,.sl (List.map RosterGone.v a0.Gone) u2],.s a1,.i a2] (fun r:RosterState × Int=>.tup [RosterState.v r.1,V.i r.2]) (p_roster_Sub a0 a1 a2):=by
 refine callsO_comp mix Tryz.func73 gc73_ok fun r H=>?_
 rw [p_roster_Sub] at H
 conv=>whnf
 refine p_roster_State_own_c (i:=3) (j:=4) H (by decide) rfl rfl (fun H=>?_) (fun G H=>?_) (fun I H=>?_) (fun I G H=>?_)
 ·try dsimp only at H
  conv=>whnf
  refine lq_ ?_;conv=>whnf
  refine ask_c (p_roster_Check_v _) H rfl rfl (fun v1 H=>?_);conv=>whnf
  refine tst_c H (fun b2 H=>?_) (fun b2 H=>?_)
  ·conv=>whnf
   refine lq_ ?_;conv=>whnf
   refine finR_c (enc:=(fun r:RosterState × Int=>.tup [RosterState.v r.1,V.i r.2])) H ?_;conv=>whnf
   exact ⟨_,.tup (.cons (fzagg (.cons (.id rfl) (.cons (.id rfl) (.cons (.slw) (.cons (.slw) (.nil))))) rfl) (.cons (.c (.id rfl)) (.nil)))⟩
  conv=>whnf
  refine ask_c (p_addr_IsBare_v _) H rfl rfl (fun v3 H=>?_);conv=>whnf
  refine Tst.not ?_
  refine tst_d H (fun b4 H=>?_) (fun b4 H=>?_)
  ·conv=>whnf
   refine lq_ ?_;conv=>whnf
   refine finR_c (enc:=(fun r:RosterState × Int=>.tup [RosterState.v r.1,V.i r.2])) H ?_;conv=>whnf
   exact ⟨_,.tup (.cons (fzagg (.cons (.id rfl) (.cons (.id rfl) (.cons (.slw) (.cons (.slw) (.nil))))) rfl) (.cons (.c (.id rfl)) (.nil)))⟩
  conv=>whnf
  refine ask_c (p_subs_Check_v _) H rfl rfl (fun v5 H=>?_);conv=>whnf
  refine tst_c H (fun b6 H=>?_) (fun b6 H=>?_)
  ·conv=>whnf
   refine lq_ ?_;conv=>whnf
   refine finR_c (enc:=(fun r:RosterState × Int=>.tup [RosterState.v r.1,V.i r.2])) H ?_;conv=>whnf
   exact ⟨_,.tup (.cons (fzagg (.cons (.id rfl) (.cons (.id rfl) (.cons (.slw) (.cons (.slw) (.nil))))) rfl) (.cons (.c (.id rfl)) (.nil)))⟩
  conv=>whnf
  refine ask_c (p_roster_Find_v _ _) H rfl rfl (fun v7 H=>?_);conv=>whnf
  refine lq_ ?_;conv=>whnf
  refine ask_c (p_roster_State_may_v _ _ _) H rfl rfl (fun v8 H=>?_);conv=>whnf
  refine tst_c H (fun b9 H=>?_) (fun b9 H=>?_)
  ·conv=>whnf
   refine lq_ ?_;conv=>whnf
   refine finR_c (enc:=(fun r:RosterState × Int=>.tup [RosterState.v r.1,V.i r.2])) H ?_;conv=>whnf
   exact ⟨_,.tup (.cons (fzagg (.cons (.id rfl) (.cons (.id rfl) (.cons (.slw) (.cons (.slw) (.nil))))) rfl) (.cons (.c (.id rfl)) (.nil)))⟩
  conv=>whnf
  refine tst_c H (fun b10 H=>?_) (fun b10 H=>?_)
  ·conv=>whnf
   refine lq_ ?_;conv=>whnf
   refine finR_c (enc:=(fun r:RosterState × Int=>.tup [RosterState.v r.1,V.i r.2])) H ?_;conv=>whnf
   exact ⟨_,.tup (.cons (fzagg (.cons (.id rfl) (.cons (.id rfl) (.cons (.slw) (.cons (.slw) (.nil))))) rfl) (.cons (.c (.id rfl)) (.nil)))⟩
  conv=>whnf
  obtain ⟨K11,hK12,o13,HL14,HQ15⟩:=join0_c H
  refine join_c [6,8,11] [52,53,54,55,3,47] (fun vals st=>(K11 ()=some r∧vals=[.ptr 0 0,.ptr 1 0,.ptr 4 0]∧st=[.live [.i (0:Int),.i (0:Int),.sl (List.map ItemItem.v []) true,.sl (List.map RosterGone.v []) true] 0,.live [.i a0.Ver,.i a0.Floor,.sl (List.map ItemItem.v []) true,.sl (List.map RosterGone.v []) true] 0,.dead,.dead,.live [.s a1,.s v7.1.Name,.i a2,.i v7.1.Ver,.b v7.1.Own] 0])) ?_ ?_
  ·have H:=HL14
   conv=>whnf
   refine lq_ ?_;conv=>whnf
   refine lq_ ?_;conv=>whnf
   obtain rfl:=Option.some.inj H
   exact arrive_c [52,53,54,55,3,47] 5 [1,2,0,0,5] (⟨HQ15,rfl,rfl⟩) (Nat.zero_le _) rfl (by kernel_rfl) (by kernel_rfl) rfl ⟨⟨rfl,rfl,rfl⟩,⟨⟨rfl,rfl,rfl⟩,⟨⟨rfl,rfl,rfl⟩,trivial⟩⟩⟩
  rintro _ _ (⟨H,rfl,rfl⟩)
  rw [hK12] at H
  try dsimp only at H
  conv=>whnf
  refine askW_c (fun s hs=>p_roster_State_change_nn _ _ _ rfl rfl rfl s hs) H rfl rfl rfl (fun v17 H=>?_);conv=>whnf
  refine lq_ ?_;conv=>whnf
  exact fin0_c (enc:=(fun r:RosterState × Int=>.tup [RosterState.v r.1,V.i r.2])) H (.inr rfl) (.cons (.cell rfl rfl (Nat.le_of_ble_eq_true rfl)) (.cons (.tmp rfl) (.nil))) rfl rfl
 ·try dsimp only at H
  conv=>whnf
  refine lq_ ?_;conv=>whnf
  refine ask_c (p_roster_Check_v _) H rfl rfl (fun v18 H=>?_);conv=>whnf
  refine tst_c H (fun b19 H=>?_) (fun b19 H=>?_)
  ·conv=>whnf
   refine lq_ ?_;conv=>whnf
   refine finRz_c (enc:=(fun r:RosterState × Int=>.tup [RosterState.v r.1,V.i r.2])) [4] H ?_;conv=>whnf
   refine ⟨Nat.zero_le _,?_⟩;conv=>whnf
   exact ⟨_,.tup (.cons (fzagg (.cons (.id rfl) (.cons (.id rfl) (.cons (.slw) (.cons (fzown (f:=RosterGone.v) (l:=G) rfl rfl (fun _=>rfl) (fun _=>rfl)) (.nil))))) rfl) (.cons (.c (.id rfl)) (.nil)))⟩
  conv=>whnf
  refine ask_c (p_addr_IsBare_v _) H rfl rfl (fun v20 H=>?_);conv=>whnf
  refine Tst.not ?_
  refine tst_d H (fun b21 H=>?_) (fun b21 H=>?_)
  ·conv=>whnf
   refine lq_ ?_;conv=>whnf
   refine finRz_c (enc:=(fun r:RosterState × Int=>.tup [RosterState.v r.1,V.i r.2])) [4] H ?_;conv=>whnf
   refine ⟨Nat.zero_le _,?_⟩;conv=>whnf
   exact ⟨_,.tup (.cons (fzagg (.cons (.id rfl) (.cons (.id rfl) (.cons (.slw) (.cons (fzown (f:=RosterGone.v) (l:=G) rfl rfl (fun _=>rfl) (fun _=>rfl)) (.nil))))) rfl) (.cons (.c (.id rfl)) (.nil)))⟩
  conv=>whnf
  refine ask_c (p_subs_Check_v _) H rfl rfl (fun v22 H=>?_);conv=>whnf
  refine tst_c H (fun b23 H=>?_) (fun b23 H=>?_)
  ·conv=>whnf
   refine lq_ ?_;conv=>whnf
   refine finRz_c (enc:=(fun r:RosterState × Int=>.tup [RosterState.v r.1,V.i r.2])) [4] H ?_;conv=>whnf
   refine ⟨Nat.zero_le _,?_⟩;conv=>whnf
   exact ⟨_,.tup (.cons (fzagg (.cons (.id rfl) (.cons (.id rfl) (.cons (.slw) (.cons (fzown (f:=RosterGone.v) (l:=G) rfl rfl (fun _=>rfl) (fun _=>rfl)) (.nil))))) rfl) (.cons (.c (.id rfl)) (.nil)))⟩
  conv=>whnf
  refine ask_c (p_roster_Find_v _ _) H rfl rfl (fun v24 H=>?_);conv=>whnf
  refine lq_ ?_;conv=>whnf
  refine ask_c (p_roster_State_may_v _ _ _) H rfl rfl (fun v25 H=>?_);conv=>whnf
  refine tst_c H (fun b26 H=>?_) (fun b26 H=>?_)
  ·conv=>whnf
   refine lq_ ?_;conv=>whnf
   refine finRz_c (enc:=(fun r:RosterState × Int=>.tup [RosterState.v r.1,V.i r.2])) [4] H ?_;conv=>whnf
   refine ⟨Nat.zero_le _,?_⟩;conv=>whnf
   exact ⟨_,.tup (.cons (fzagg (.cons (.id rfl) (.cons (.id rfl) (.cons (.slw) (.cons (fzown (f:=RosterGone.v) (l:=G) rfl rfl (fun _=>rfl) (fun _=>rfl)) (.nil))))) rfl) (.cons (.c (.id rfl)) (.nil)))⟩
  conv=>whnf
  refine tst_c H (fun b27 H=>?_) (fun b27 H=>?_)
  ·conv=>whnf
   refine lq_ ?_;conv=>whnf
   refine finRz_c (enc:=(fun r:RosterState × Int=>.tup [RosterState.v r.1,V.i r.2])) [4] H ?_;conv=>whnf
   refine ⟨Nat.zero_le _,?_⟩;conv=>whnf
   exact ⟨_,.tup (.cons (fzagg (.cons (.id rfl) (.cons (.id rfl) (.cons (.slw) (.cons (fzown (f:=RosterGone.v) (l:=G) rfl rfl (fun _=>rfl) (fun _=>rfl)) (.nil))))) rfl) (.cons (.c (.id rfl)) (.nil)))⟩
  conv=>whnf
  obtain ⟨K28,hK29,o30,HL31,HQ32⟩:=join0_c H
  refine join_c [6,8,11] [52,53,54,55,3,15,47] (fun vals st=>(K28 ()=some r∧vals=[.ptr 0 0,.ptr 1 0,.ptr 4 0]∧st=[.live [.i (0:Int),.i (0:Int),.sl (List.map ItemItem.v []) true,.sl (List.map RosterGone.v []) true] 0,.live [.i a0.Ver,.i a0.Floor,.sl (List.map ItemItem.v []) true,.osl 3 0 (List.length G) 2 false] 0,.dead,.live (cellsM RosterGone.v G) 0,.live [.s a1,.s v24.1.Name,.i a2,.i v24.1.Ver,.b v24.1.Own] 0])) ?_ ?_
  ·have H:=HL31
   conv=>whnf
   refine lq_ ?_;conv=>whnf
   refine lq_ ?_;conv=>whnf
   obtain rfl:=Option.some.inj H
   exact arrive_c [52,53,54,55,3,15,47] 5 [1,2,0,4,5] (⟨HQ32,rfl,rfl⟩) (Nat.zero_le _) rfl (by kernel_rfl) (by kernel_rfl) rfl ⟨⟨rfl,rfl,rfl⟩,⟨⟨rfl,rfl,rfl⟩,wkB_live0 rfl (cellsM_idlt (f:=RosterGone.v) (fun _=>rfl) _) rfl ⟨⟨rfl,rfl,rfl⟩,trivial⟩⟩⟩
  rintro _ _ (⟨H,rfl,rfl⟩)
  rw [hK29] at H
  try dsimp only at H
  conv=>whnf
  refine askW_c (fun s hs=>p_roster_State_change_no _ _ _ _ rfl rfl rfl s hs) H rfl rfl rfl (fun v34 H=>?_);conv=>whnf
  refine lq_ ?_;conv=>whnf
  exact fin0_c (enc:=(fun r:RosterState × Int=>.tup [RosterState.v r.1,V.i r.2])) H (.inr rfl) (.cons (.cell rfl rfl (Nat.le_of_ble_eq_true rfl)) (.cons (.tmp rfl) (.nil))) rfl rfl
 ·try dsimp only at H
  conv=>whnf
  refine lq_ ?_;conv=>whnf
  refine ask_c (p_roster_Check_v _) H rfl rfl (fun v35 H=>?_);conv=>whnf
  refine tst_c H (fun b36 H=>?_) (fun b36 H=>?_)
  ·conv=>whnf
   refine lq_ ?_;conv=>whnf
   refine finRz_c (enc:=(fun r:RosterState × Int=>.tup [RosterState.v r.1,V.i r.2])) [3] H ?_;conv=>whnf
   refine ⟨Nat.zero_le _,?_⟩;conv=>whnf
   exact ⟨_,.tup (.cons (fzagg (.cons (.id rfl) (.cons (.id rfl) (.cons (fzown (f:=ItemItem.v) (l:=I) rfl rfl (fun _=>rfl) (fun _=>rfl)) (.cons (.slw) (.nil))))) rfl) (.cons (.c (.id rfl)) (.nil)))⟩
  conv=>whnf
  refine ask_c (p_addr_IsBare_v _) H rfl rfl (fun v37 H=>?_);conv=>whnf
  refine Tst.not ?_
  refine tst_d H (fun b38 H=>?_) (fun b38 H=>?_)
  ·conv=>whnf
   refine lq_ ?_;conv=>whnf
   refine finRz_c (enc:=(fun r:RosterState × Int=>.tup [RosterState.v r.1,V.i r.2])) [3] H ?_;conv=>whnf
   refine ⟨Nat.zero_le _,?_⟩;conv=>whnf
   exact ⟨_,.tup (.cons (fzagg (.cons (.id rfl) (.cons (.id rfl) (.cons (fzown (f:=ItemItem.v) (l:=I) rfl rfl (fun _=>rfl) (fun _=>rfl)) (.cons (.slw) (.nil))))) rfl) (.cons (.c (.id rfl)) (.nil)))⟩
  conv=>whnf
  refine ask_c (p_subs_Check_v _) H rfl rfl (fun v39 H=>?_);conv=>whnf
  refine tst_c H (fun b40 H=>?_) (fun b40 H=>?_)
  ·conv=>whnf
   refine lq_ ?_;conv=>whnf
   refine finRz_c (enc:=(fun r:RosterState × Int=>.tup [RosterState.v r.1,V.i r.2])) [3] H ?_;conv=>whnf
   refine ⟨Nat.zero_le _,?_⟩;conv=>whnf
   exact ⟨_,.tup (.cons (fzagg (.cons (.id rfl) (.cons (.id rfl) (.cons (fzown (f:=ItemItem.v) (l:=I) rfl rfl (fun _=>rfl) (fun _=>rfl)) (.cons (.slw) (.nil))))) rfl) (.cons (.c (.id rfl)) (.nil)))⟩
  conv=>whnf
  refine ask_c (p_roster_Find_v _ _) H rfl rfl (fun v41 H=>?_);conv=>whnf
  refine lq_ ?_;conv=>whnf
  refine ask_c (p_roster_State_may_v _ _ _) H rfl rfl (fun v42 H=>?_);conv=>whnf
  refine tst_c H (fun b43 H=>?_) (fun b43 H=>?_)
  ·conv=>whnf
   refine lq_ ?_;conv=>whnf
   refine finRz_c (enc:=(fun r:RosterState × Int=>.tup [RosterState.v r.1,V.i r.2])) [3] H ?_;conv=>whnf
   refine ⟨Nat.zero_le _,?_⟩;conv=>whnf
   exact ⟨_,.tup (.cons (fzagg (.cons (.id rfl) (.cons (.id rfl) (.cons (fzown (f:=ItemItem.v) (l:=I) rfl rfl (fun _=>rfl) (fun _=>rfl)) (.cons (.slw) (.nil))))) rfl) (.cons (.c (.id rfl)) (.nil)))⟩
  conv=>whnf
  refine tst_c H (fun b44 H=>?_) (fun b44 H=>?_)
  ·conv=>whnf
   refine lq_ ?_;conv=>whnf
   refine finRz_c (enc:=(fun r:RosterState × Int=>.tup [RosterState.v r.1,V.i r.2])) [3] H ?_;conv=>whnf
   refine ⟨Nat.zero_le _,?_⟩;conv=>whnf
   exact ⟨_,.tup (.cons (fzagg (.cons (.id rfl) (.cons (.id rfl) (.cons (fzown (f:=ItemItem.v) (l:=I) rfl rfl (fun _=>rfl) (fun _=>rfl)) (.cons (.slw) (.nil))))) rfl) (.cons (.c (.id rfl)) (.nil)))⟩
  conv=>whnf
  obtain ⟨K45,hK46,o47,HL48,HQ49⟩:=join0_c H
  refine join_c [6,8,11] [52,53,54,55,3,15,47] (fun vals st=>(K45 ()=some r∧vals=[.ptr 0 0,.ptr 1 0,.ptr 4 0]∧st=[.live [.i (0:Int),.i (0:Int),.sl (List.map ItemItem.v []) true,.sl (List.map RosterGone.v []) true] 0,.live [.i a0.Ver,.i a0.Floor,.osl 2 0 (List.length I) 5 false,.sl (List.map RosterGone.v []) true] 0,.live (cellsM ItemItem.v I) 0,.dead,.live [.s a1,.s v41.1.Name,.i a2,.i v41.1.Ver,.b v41.1.Own] 0])) ?_ ?_
  ·have H:=HL48
   conv=>whnf
   refine lq_ ?_;conv=>whnf
   refine lq_ ?_;conv=>whnf
   obtain rfl:=Option.some.inj H
   exact arrive_c [52,53,54,55,3,15,47] 5 [1,2,3,0,5] (⟨HQ49,rfl,rfl⟩) (Nat.zero_le _) rfl (by kernel_rfl) (by kernel_rfl) rfl ⟨⟨rfl,rfl,rfl⟩,⟨⟨rfl,rfl,rfl⟩,wkB_live0 rfl (cellsM_idlt (f:=ItemItem.v) (fun _=>rfl) _) rfl ⟨⟨rfl,rfl,rfl⟩,trivial⟩⟩⟩
  rintro _ _ (⟨H,rfl,rfl⟩)
  rw [hK46] at H
  try dsimp only at H
  conv=>whnf
  refine askW_c (fun s hs=>p_roster_State_change_on _ _ _ _ rfl rfl rfl s hs) H rfl rfl rfl (fun v51 H=>?_);conv=>whnf
  refine lq_ ?_;conv=>whnf
  exact fin0_c (enc:=(fun r:RosterState × Int=>.tup [RosterState.v r.1,V.i r.2])) H (.inr rfl) (.cons (.cell rfl rfl (Nat.le_of_ble_eq_true rfl)) (.cons (.tmp rfl) (.nil))) rfl rfl
 try dsimp only at H
 conv=>whnf
 refine lq_ ?_;conv=>whnf
 refine ask_c (p_roster_Check_v _) H rfl rfl (fun v52 H=>?_);conv=>whnf
 refine tst_c H (fun b53 H=>?_) (fun b53 H=>?_)
 ·conv=>whnf
  refine lq_ ?_;conv=>whnf
  refine finRz_c (enc:=(fun r:RosterState × Int=>.tup [RosterState.v r.1,V.i r.2])) [3,4] H ?_;conv=>whnf
  refine ⟨Nat.zero_le _,?_⟩;conv=>whnf
  refine ⟨Nat.zero_le _,?_⟩;conv=>whnf
  exact ⟨_,.tup (.cons (fzagg (.cons (.id rfl) (.cons (.id rfl) (.cons (fzown (f:=ItemItem.v) (l:=I) rfl rfl (fun _=>rfl) (fun _=>rfl)) (.cons (fzown (f:=RosterGone.v) (l:=G) rfl rfl (fun _=>rfl) (fun _=>rfl)) (.nil))))) rfl) (.cons (.c (.id rfl)) (.nil)))⟩
 conv=>whnf
 refine ask_c (p_addr_IsBare_v _) H rfl rfl (fun v54 H=>?_);conv=>whnf
 refine Tst.not ?_
 refine tst_d H (fun b55 H=>?_) (fun b55 H=>?_)
 ·conv=>whnf
  refine lq_ ?_;conv=>whnf
  refine finRz_c (enc:=(fun r:RosterState × Int=>.tup [RosterState.v r.1,V.i r.2])) [3,4] H ?_;conv=>whnf
  refine ⟨Nat.zero_le _,?_⟩;conv=>whnf
  refine ⟨Nat.zero_le _,?_⟩;conv=>whnf
  exact ⟨_,.tup (.cons (fzagg (.cons (.id rfl) (.cons (.id rfl) (.cons (fzown (f:=ItemItem.v) (l:=I) rfl rfl (fun _=>rfl) (fun _=>rfl)) (.cons (fzown (f:=RosterGone.v) (l:=G) rfl rfl (fun _=>rfl) (fun _=>rfl)) (.nil))))) rfl) (.cons (.c (.id rfl)) (.nil)))⟩
 conv=>whnf
 refine ask_c (p_subs_Check_v _) H rfl rfl (fun v56 H=>?_);conv=>whnf
 refine tst_c H (fun b57 H=>?_) (fun b57 H=>?_)
 ·conv=>whnf
  refine lq_ ?_;conv=>whnf
  refine finRz_c (enc:=(fun r:RosterState × Int=>.tup [RosterState.v r.1,V.i r.2])) [3,4] H ?_;conv=>whnf
  refine ⟨Nat.zero_le _,?_⟩;conv=>whnf
  refine ⟨Nat.zero_le _,?_⟩;conv=>whnf
  exact ⟨_,.tup (.cons (fzagg (.cons (.id rfl) (.cons (.id rfl) (.cons (fzown (f:=ItemItem.v) (l:=I) rfl rfl (fun _=>rfl) (fun _=>rfl)) (.cons (fzown (f:=RosterGone.v) (l:=G) rfl rfl (fun _=>rfl) (fun _=>rfl)) (.nil))))) rfl) (.cons (.c (.id rfl)) (.nil)))⟩
 conv=>whnf
 refine ask_c (p_roster_Find_v _ _) H rfl rfl (fun v58 H=>?_);conv=>whnf
 refine lq_ ?_;conv=>whnf
 refine ask_c (p_roster_State_may_v _ _ _) H rfl rfl (fun v59 H=>?_);conv=>whnf
 refine tst_c H (fun b60 H=>?_) (fun b60 H=>?_)
 ·conv=>whnf
  refine lq_ ?_;conv=>whnf
  refine finRz_c (enc:=(fun r:RosterState × Int=>.tup [RosterState.v r.1,V.i r.2])) [3,4] H ?_;conv=>whnf
  refine ⟨Nat.zero_le _,?_⟩;conv=>whnf
  refine ⟨Nat.zero_le _,?_⟩;conv=>whnf
  exact ⟨_,.tup (.cons (fzagg (.cons (.id rfl) (.cons (.id rfl) (.cons (fzown (f:=ItemItem.v) (l:=I) rfl rfl (fun _=>rfl) (fun _=>rfl)) (.cons (fzown (f:=RosterGone.v) (l:=G) rfl rfl (fun _=>rfl) (fun _=>rfl)) (.nil))))) rfl) (.cons (.c (.id rfl)) (.nil)))⟩
 conv=>whnf
 refine tst_c H (fun b61 H=>?_) (fun b61 H=>?_)
 ·conv=>whnf
  refine lq_ ?_;conv=>whnf
  refine finRz_c (enc:=(fun r:RosterState × Int=>.tup [RosterState.v r.1,V.i r.2])) [3,4] H ?_;conv=>whnf
  refine ⟨Nat.zero_le _,?_⟩;conv=>whnf
  refine ⟨Nat.zero_le _,?_⟩;conv=>whnf
  exact ⟨_,.tup (.cons (fzagg (.cons (.id rfl) (.cons (.id rfl) (.cons (fzown (f:=ItemItem.v) (l:=I) rfl rfl (fun _=>rfl) (fun _=>rfl)) (.cons (fzown (f:=RosterGone.v) (l:=G) rfl rfl (fun _=>rfl) (fun _=>rfl)) (.nil))))) rfl) (.cons (.c (.id rfl)) (.nil)))⟩
 conv=>whnf
 obtain ⟨K62,hK63,o64,HL65,HQ66⟩:=join0_c H
 refine join_c [6,8,11] [52,53,54,55,3,15,47] (fun vals st=>(K62 ()=some r∧vals=[.ptr 0 0,.ptr 1 0,.ptr 4 0]∧st=[.live [.i (0:Int),.i (0:Int),.sl (List.map ItemItem.v []) true,.sl (List.map RosterGone.v []) true] 0,.live [.i a0.Ver,.i a0.Floor,.osl 2 0 (List.length I) 5 false,.osl 3 0 (List.length G) 2 false] 0,.live (cellsM ItemItem.v I) 0,.live (cellsM RosterGone.v G) 0,.live [.s a1,.s v58.1.Name,.i a2,.i v58.1.Ver,.b v58.1.Own] 0])) ?_ ?_
 ·have H:=HL65
  conv=>whnf
  refine lq_ ?_;conv=>whnf
  refine lq_ ?_;conv=>whnf
  obtain rfl:=Option.some.inj H
  exact arrive_c [52,53,54,55,3,15,47] 5 [1,2,3,4,5] (⟨HQ66,rfl,rfl⟩) (Nat.zero_le _) rfl (by kernel_rfl) (by kernel_rfl) rfl ⟨⟨rfl,rfl,rfl⟩,⟨⟨rfl,rfl,rfl⟩,wkB_live0 rfl (cellsM_idlt (f:=ItemItem.v) (fun _=>rfl) _) rfl (wkB_live0 rfl (cellsM_idlt (f:=RosterGone.v) (fun _=>rfl) _) rfl ⟨⟨rfl,rfl,rfl⟩,trivial⟩)⟩⟩
 rintro _ _ (⟨H,rfl,rfl⟩)
 rw [hK63] at H
 try dsimp only at H
 conv=>whnf
 refine askW_c (fun s hs=>p_roster_State_change_oo _ _ _ _ _ rfl rfl rfl s hs) H rfl rfl rfl (fun v68 H=>?_);conv=>whnf
 refine lq_ ?_;conv=>whnf
 exact fin0_c (enc:=(fun r:RosterState × Int=>.tup [RosterState.v r.1,V.i r.2])) H (.inr rfl) (.cons (.cell rfl rfl (Nat.le_of_ble_eq_true rfl)) (.cons (.tmp rfl) (.nil))) rfl rfl
end Go.Proofs.YtmmmcpeickfolaaGreat

