/- A part of the proof: 4 texts joined. -/
import Derived.Test.YtmmmcpeickfolaaYaA16
import Derived.Test.YtmmmcpeickfolaaYaA12
import Derived.Test.YtmmmcpeickfolaaYaA18
import Derived.Test.YtmmmcpeickfolaaYaA19
import Derived.Test.YtmmmcpeickfolaaYaA21
import Derived.Test.YtmmmcpeickfolaaYaA10
import Derived.KernelRfl
import Derived.Test.YtmmmcpeickfolaaYaA13
set_option linter.all false
namespace Go.Proofs.Ytmmmcpeickfolaa
open Go.RowKit
set_option maxRecDepth 100000
set_option maxHeartbeats 4000000
def gc18:BCode:=(.seq (R_ 2 [O_ 3 (.bx (t_ 0)) 0,O_ 6 (.al (.agg [(.lit (.int .i64 0)),(.lit (.int .i64 0)),(.sl [] true),(.sl [] true)])) 1,O_ 7 (.mv (i_ 0)) 2]) (.seq (.reg 1 [O_ 14 (.ld 4 true (t_ 3)) 0,O_ 15 (.cl 51 [(t_ 14)]) 0,O_ 8 (.al (.agg [(.lit (.int .i64 0)),(.lit (.int .i64 0)),(.sl [] true),(.sl [] true)])) 0,U_ (.st 4 (t_ 8) (t_ 15)) 1] none 2 []) (.seq (.seq (R_ 0 [O_ 16 (.ld 4 true (t_ 3)) 0,O_ 17 (.cl 49 [(t_ 16)]) 0,O_ 9 (.mv (t_ 17)) 0]) (.seq (R_ 0 [O_ 18 (.mv (t_ 9)) 0,O_ 19 (.bin .neq (t_ 18) (i_ 0)) 0]) (.cond (t_ 19) (.seq (R_ 0 [O_ 20 (.ld 4 true (t_ 8)) 0,O_ 21 (.mv (t_ 9)) 0,U_ (.st 4 (t_ 6) (t_ 20)) 0,O_ 7 (.mv (t_ 21)) 0]) .ret) .skip))) (.seq (.seq (R_ 0 [O_ 22 (.mv (t_ 1)) 0,O_ 23 (.cl 40 [(t_ 22)]) 0,O_ 24 (.un .not (t_ 23)) 0]) (.cond (t_ 24) (.seq (R_ 0 [O_ 25 (.ld 4 true (t_ 8)) 0,U_ (.st 4 (t_ 6) (t_ 25)) 0,O_ 7 (.mv (i_ 11)) 0]) .ret) .skip)) (.seq (.seq (R_ 0 [O_ 26 (.mv (t_ 2)) 0,O_ 27 (.cl 19 [(t_ 26)]) 0,O_ 10 (.mv (t_ 27)) 0]) (.seq (R_ 0 [O_ 28 (.mv (t_ 10)) 0,O_ 29 (.bin .neq (t_ 28) (i_ 0)) 0]) (.cond (t_ 29) (.seq (R_ 0 [O_ 30 (.ld 4 true (t_ 8)) 0,O_ 31 (.mv (t_ 10)) 0,U_ (.st 4 (t_ 6) (t_ 30)) 0,O_ 7 (.mv (t_ 31)) 0]) .ret) .skip))) (.seq (R_ 1 [O_ 33 (.ld 4 true (t_ 3)) 0,O_ 34 (.mv (t_ 1)) 0,O_ 35 (.cl 22 [(t_ 33),(t_ 34)]) 0,O_ 32 (.mv (t_ 35)) 0,O_ 36 (.ex (t_ 32) 0) 0,O_ 37 (.ex (t_ 32) 1) 0,O_ 11 (.al (.agg [(.lit (.string ⟨#[]⟩)),(.lit (.string ⟨#[]⟩)),(.lit (.int .i64 0)),(.lit (.int .i64 0)),(.lit (.bool false))])) 0,U_ (.st 5 (t_ 11) (t_ 36)) 1,O_ 12 (.mv (t_ 37)) 1]) (.seq (.seq (R_ 0 [O_ 38 (.ld 4 true (t_ 3)) 0,O_ 39 (.mv (t_ 12)) 0,O_ 40 (.mv (t_ 2)) 0,O_ 41 (.bin .neq (t_ 40) (i_ 0)) 0,O_ 42 (.cl 52 [(t_ 38),(t_ 39),(t_ 41)]) 0,O_ 13 (.mv (t_ 42)) 0]) (.seq (R_ 0 [O_ 43 (.mv (t_ 13)) 0,O_ 44 (.bin .neq (t_ 43) (i_ 0)) 0]) (.cond (t_ 44) (.seq (R_ 0 [O_ 45 (.ld 4 true (t_ 8)) 0,O_ 46 (.mv (t_ 13)) 0,U_ (.st 4 (t_ 6) (t_ 45)) 0,O_ 7 (.mv (t_ 46)) 0]) .ret) .skip))) (.seq (.seq (R_ 0 [O_ 47 (.fa 2 (t_ 11)) 0,O_ 48 (.ld 1 false (t_ 47)) 0,O_ 49 (.mv (t_ 2)) 0,O_ 50 (.bin .eql (t_ 48) (t_ 49)) 0]) (.cond (t_ 50) (.seq (R_ 0 [O_ 51 (.ld 4 true (t_ 8)) 0,U_ (.st 4 (t_ 6) (t_ 51)) 0,O_ 7 (.mv (i_ 0)) 0]) .ret) .skip)) (.join (R_ 0 [O_ 52 (.mv (t_ 1)) 0,O_ 53 (.mv (t_ 2)) 0,O_ 54 (.fa 0 (t_ 11)) 0,U_ (.st 1 (t_ 54) (t_ 52)) 0,O_ 55 (.fa 2 (t_ 11)) 0,U_ (.st 1 (t_ 55) (t_ 53)) 0]) (.seq (R_ 0 [O_ 56 (.ld 4 true (t_ 8)) 0,O_ 57 (.ld 5 true (t_ 11)) 0,O_ 58 (.cl 53 [(t_ 56),(t_ 57)]) 0,U_ (.st 4 (t_ 6) (t_ 58)) 0,O_ 7 (.mv (i_ 0)) 0]) .ret))))))))))
theorem gc18_ok:compF Try.prog Try.f18=some (gc18.er,59,[.cell 6 4 true,.tmp 7]):=by unfold gc18;kernel_rfl
theorem p_roster_Sub_v {u1 u2:Bool} (a0:RosterState) (a1:ByteArray) (a2:Int):CallsO Try.prog 18 [.agg [.i a0.Ver,.i a0.Floor,.sl (List.map ItemItem.v a0.Items) u1,.sl (List.map RosterGone.v a0.Gone) u2],.s a1,.i a2] (fun r:RosterState × Int=>.tup [RosterState.v r.1,V.i r.2]) (p_roster_Sub a0 a1 a2):=by
 refine callsO_comp mix Try.func18 gc18_ok fun r H=>?_
 rw [p_roster_Sub] at H
 conv=>whnf
 refine p_roster_State_own_c (i:=3) (j:=4) H (by decide) rfl rfl (fun H=>?_) (fun G H=>?_) (fun I H=>?_) (fun I G H=>?_)
 ·try dsimp only at H
  conv=>whnf
  refine lq_ ?_;conv=>whnf
  refine ask_c (p_roster_Check_v _) H rfl rfl (fun v1 H=>?_);conv=>whnf
  refine tst_c H (fun b2 H=>?_) (fun b2 H=>?_)
  ·conv=>whnf
   refine lq_ ?_;conv=>whnf
   refine finR_c (enc:=(fun r:RosterState × Int=>.tup [RosterState.v r.1,V.i r.2])) H ?_;conv=>whnf
   exact ⟨_,.tup (.cons (fzagg (.cons (.id rfl) (.cons (.id rfl) (.cons (.slw) (.cons (.slw) (.nil))))) rfl) (.cons (.c (.id rfl)) (.nil)))⟩
  conv=>whnf
  refine ask_c (p_addr_IsBare_v _) H rfl rfl (fun v3 H=>?_);conv=>whnf
  refine Tst.not ?_
  refine tst_d H (fun b4 H=>?_) (fun b4 H=>?_)
  ·conv=>whnf
   refine lq_ ?_;conv=>whnf
   refine finR_c (enc:=(fun r:RosterState × Int=>.tup [RosterState.v r.1,V.i r.2])) H ?_;conv=>whnf
   exact ⟨_,.tup (.cons (fzagg (.cons (.id rfl) (.cons (.id rfl) (.cons (.slw) (.cons (.slw) (.nil))))) rfl) (.cons (.c (.id rfl)) (.nil)))⟩
  conv=>whnf
  refine ask_c (p_subs_Check_v _) H rfl rfl (fun v5 H=>?_);conv=>whnf
  refine tst_c H (fun b6 H=>?_) (fun b6 H=>?_)
  ·conv=>whnf
   refine lq_ ?_;conv=>whnf
   refine finR_c (enc:=(fun r:RosterState × Int=>.tup [RosterState.v r.1,V.i r.2])) H ?_;conv=>whnf
   exact ⟨_,.tup (.cons (fzagg (.cons (.id rfl) (.cons (.id rfl) (.cons (.slw) (.cons (.slw) (.nil))))) rfl) (.cons (.c (.id rfl)) (.nil)))⟩
  conv=>whnf
  refine ask_c (p_roster_Find_v _ _) H rfl rfl (fun v7 H=>?_);conv=>whnf
  refine lq_ ?_;conv=>whnf
  refine ask_c (p_roster_State_may_v _ _ _) H rfl rfl (fun v8 H=>?_);conv=>whnf
  refine tst_c H (fun b9 H=>?_) (fun b9 H=>?_)
  ·conv=>whnf
   refine lq_ ?_;conv=>whnf
   refine finR_c (enc:=(fun r:RosterState × Int=>.tup [RosterState.v r.1,V.i r.2])) H ?_;conv=>whnf
   exact ⟨_,.tup (.cons (fzagg (.cons (.id rfl) (.cons (.id rfl) (.cons (.slw) (.cons (.slw) (.nil))))) rfl) (.cons (.c (.id rfl)) (.nil)))⟩
  conv=>whnf
  refine tst_c H (fun b10 H=>?_) (fun b10 H=>?_)
  ·conv=>whnf
   refine lq_ ?_;conv=>whnf
   refine finR_c (enc:=(fun r:RosterState × Int=>.tup [RosterState.v r.1,V.i r.2])) H ?_;conv=>whnf
   exact ⟨_,.tup (.cons (fzagg (.cons (.id rfl) (.cons (.id rfl) (.cons (.slw) (.cons (.slw) (.nil))))) rfl) (.cons (.c (.id rfl)) (.nil)))⟩
  conv=>whnf
  obtain ⟨K11,hK12,o13,HL14,HQ15⟩:=join0_c H
  refine join_c [6,8,11] [52,53,54,55,3,47] (fun vals st=>(K11 ()=some r∧vals=[.ptr 0 0,.ptr 1 0,.ptr 4 0]∧st=[.live [.i (0:Int),.i (0:Int),.sl (List.map ItemItem.v []) true,.sl (List.map RosterGone.v []) true] 0,.live [.i a0.Ver,.i a0.Floor,.sl (List.map ItemItem.v []) true,.sl (List.map RosterGone.v []) true] 0,.dead,.dead,.live [.s a1,.s v7.1.Name,.i a2,.i v7.1.Ver,.b v7.1.Own] 0])) ?_ ?_
  ·have H:=HL14
   conv=>whnf
   refine lq_ ?_;conv=>whnf
   refine lq_ ?_;conv=>whnf
   obtain rfl:=Option.some.inj H
   exact arrive_c [52,53,54,55,3,47] 5 [1,2,0,0,5] (⟨HQ15,rfl,rfl⟩) (Nat.zero_le _) rfl (by kernel_rfl) (by kernel_rfl) rfl ⟨⟨rfl,rfl,rfl⟩,⟨⟨rfl,rfl,rfl⟩,⟨⟨rfl,rfl,rfl⟩,trivial⟩⟩⟩
  rintro _ _ (⟨H,rfl,rfl⟩)
  rw [hK12] at H
  try dsimp only at H
  conv=>whnf
  refine askW_c (fun s hs=>p_roster_State_change_nn _ _ _ rfl rfl rfl s hs) H rfl rfl rfl (fun v17 H=>?_);conv=>whnf
  refine lq_ ?_;conv=>whnf
  exact fin0_c (enc:=(fun r:RosterState × Int=>.tup [RosterState.v r.1,V.i r.2])) H (.inr rfl) (.cons (.cell rfl rfl (Nat.le_of_ble_eq_true rfl)) (.cons (.tmp rfl) (.nil))) rfl rfl
 ·try dsimp only at H
  conv=>whnf
  refine lq_ ?_;conv=>whnf
  refine ask_c (p_roster_Check_v _) H rfl rfl (fun v18 H=>?_);conv=>whnf
  refine tst_c H (fun b19 H=>?_) (fun b19 H=>?_)
  ·conv=>whnf
   refine lq_ ?_;conv=>whnf
   refine finRz_c (enc:=(fun r:RosterState × Int=>.tup [RosterState.v r.1,V.i r.2])) [4] H ?_;conv=>whnf
   refine ⟨Nat.zero_le _,?_⟩;conv=>whnf
   exact ⟨_,.tup (.cons (fzagg (.cons (.id rfl) (.cons (.id rfl) (.cons (.slw) (.cons (fzown (f:=RosterGone.v) (l:=G) rfl rfl (fun _=>rfl) (fun _=>rfl)) (.nil))))) rfl) (.cons (.c (.id rfl)) (.nil)))⟩
  conv=>whnf
  refine ask_c (p_addr_IsBare_v _) H rfl rfl (fun v20 H=>?_);conv=>whnf
  refine Tst.not ?_
  refine tst_d H (fun b21 H=>?_) (fun b21 H=>?_)
  ·conv=>whnf
   refine lq_ ?_;conv=>whnf
   refine finRz_c (enc:=(fun r:RosterState × Int=>.tup [RosterState.v r.1,V.i r.2])) [4] H ?_;conv=>whnf
   refine ⟨Nat.zero_le _,?_⟩;conv=>whnf
   exact ⟨_,.tup (.cons (fzagg (.cons (.id rfl) (.cons (.id rfl) (.cons (.slw) (.cons (fzown (f:=RosterGone.v) (l:=G) rfl rfl (fun _=>rfl) (fun _=>rfl)) (.nil))))) rfl) (.cons (.c (.id rfl)) (.nil)))⟩
  conv=>whnf
  refine ask_c (p_subs_Check_v _) H rfl rfl (fun v22 H=>?_);conv=>whnf
  refine tst_c H (fun b23 H=>?_) (fun b23 H=>?_)
  ·conv=>whnf
   refine lq_ ?_;conv=>whnf
   refine finRz_c (enc:=(fun r:RosterState × Int=>.tup [RosterState.v r.1,V.i r.2])) [4] H ?_;conv=>whnf
   refine ⟨Nat.zero_le _,?_⟩;conv=>whnf
   exact ⟨_,.tup (.cons (fzagg (.cons (.id rfl) (.cons (.id rfl) (.cons (.slw) (.cons (fzown (f:=RosterGone.v) (l:=G) rfl rfl (fun _=>rfl) (fun _=>rfl)) (.nil))))) rfl) (.cons (.c (.id rfl)) (.nil)))⟩
  conv=>whnf
  refine ask_c (p_roster_Find_v _ _) H rfl rfl (fun v24 H=>?_);conv=>whnf
  refine lq_ ?_;conv=>whnf
  refine ask_c (p_roster_State_may_v _ _ _) H rfl rfl (fun v25 H=>?_);conv=>whnf
  refine tst_c H (fun b26 H=>?_) (fun b26 H=>?_)
  ·conv=>whnf
   refine lq_ ?_;conv=>whnf
   refine finRz_c (enc:=(fun r:RosterState × Int=>.tup [RosterState.v r.1,V.i r.2])) [4] H ?_;conv=>whnf
   refine ⟨Nat.zero_le _,?_⟩;conv=>whnf
   exact ⟨_,.tup (.cons (fzagg (.cons (.id rfl) (.cons (.id rfl) (.cons (.slw) (.cons (fzown (f:=RosterGone.v) (l:=G) rfl rfl (fun _=>rfl) (fun _=>rfl)) (.nil))))) rfl) (.cons (.c (.id rfl)) (.nil)))⟩
  conv=>whnf
  refine tst_c H (fun b27 H=>?_) (fun b27 H=>?_)
  ·conv=>whnf
   refine lq_ ?_;conv=>whnf
   refine finRz_c (enc:=(fun r:RosterState × Int=>.tup [RosterState.v r.1,V.i r.2])) [4] H ?_;conv=>whnf
   refine ⟨Nat.zero_le _,?_⟩;conv=>whnf
   exact ⟨_,.tup (.cons (fzagg (.cons (.id rfl) (.cons (.id rfl) (.cons (.slw) (.cons (fzown (f:=RosterGone.v) (l:=G) rfl rfl (fun _=>rfl) (fun _=>rfl)) (.nil))))) rfl) (.cons (.c (.id rfl)) (.nil)))⟩
  conv=>whnf
  obtain ⟨K28,hK29,o30,HL31,HQ32⟩:=join0_c H
  refine join_c [6,8,11] [52,53,54,55,3,15,47] (fun vals st=>(K28 ()=some r∧vals=[.ptr 0 0,.ptr 1 0,.ptr 4 0]∧st=[.live [.i (0:Int),.i (0:Int),.sl (List.map ItemItem.v []) true,.sl (List.map RosterGone.v []) true] 0,.live [.i a0.Ver,.i a0.Floor,.sl (List.map ItemItem.v []) true,.osl 3 0 (List.length G) 2 false] 0,.dead,.live (cellsM RosterGone.v G) 0,.live [.s a1,.s v24.1.Name,.i a2,.i v24.1.Ver,.b v24.1.Own] 0])) ?_ ?_
  ·have H:=HL31
   conv=>whnf
   refine lq_ ?_;conv=>whnf
   refine lq_ ?_;conv=>whnf
   obtain rfl:=Option.some.inj H
   exact arrive_c [52,53,54,55,3,15,47] 5 [1,2,0,4,5] (⟨HQ32,rfl,rfl⟩) (Nat.zero_le _) rfl (by kernel_rfl) (by kernel_rfl) rfl ⟨⟨rfl,rfl,rfl⟩,⟨⟨rfl,rfl,rfl⟩,wkB_live0 rfl (cellsM_idlt (f:=RosterGone.v) (fun _=>rfl) _) rfl ⟨⟨rfl,rfl,rfl⟩,trivial⟩⟩⟩
  rintro _ _ (⟨H,rfl,rfl⟩)
  rw [hK29] at H
  try dsimp only at H
  conv=>whnf
  refine askW_c (fun s hs=>p_roster_State_change_no _ _ _ _ rfl rfl rfl s hs) H rfl rfl rfl (fun v34 H=>?_);conv=>whnf
  refine lq_ ?_;conv=>whnf
  exact fin0_c (enc:=(fun r:RosterState × Int=>.tup [RosterState.v r.1,V.i r.2])) H (.inr rfl) (.cons (.cell rfl rfl (Nat.le_of_ble_eq_true rfl)) (.cons (.tmp rfl) (.nil))) rfl rfl
 ·try dsimp only at H
  conv=>whnf
  refine lq_ ?_;conv=>whnf
  refine ask_c (p_roster_Check_v _) H rfl rfl (fun v35 H=>?_);conv=>whnf
  refine tst_c H (fun b36 H=>?_) (fun b36 H=>?_)
  ·conv=>whnf
   refine lq_ ?_;conv=>whnf
   refine finRz_c (enc:=(fun r:RosterState × Int=>.tup [RosterState.v r.1,V.i r.2])) [3] H ?_;conv=>whnf
   refine ⟨Nat.zero_le _,?_⟩;conv=>whnf
   exact ⟨_,.tup (.cons (fzagg (.cons (.id rfl) (.cons (.id rfl) (.cons (fzown (f:=ItemItem.v) (l:=I) rfl rfl (fun _=>rfl) (fun _=>rfl)) (.cons (.slw) (.nil))))) rfl) (.cons (.c (.id rfl)) (.nil)))⟩
  conv=>whnf
  refine ask_c (p_addr_IsBare_v _) H rfl rfl (fun v37 H=>?_);conv=>whnf
  refine Tst.not ?_
  refine tst_d H (fun b38 H=>?_) (fun b38 H=>?_)
  ·conv=>whnf
   refine lq_ ?_;conv=>whnf
   refine finRz_c (enc:=(fun r:RosterState × Int=>.tup [RosterState.v r.1,V.i r.2])) [3] H ?_;conv=>whnf
   refine ⟨Nat.zero_le _,?_⟩;conv=>whnf
   exact ⟨_,.tup (.cons (fzagg (.cons (.id rfl) (.cons (.id rfl) (.cons (fzown (f:=ItemItem.v) (l:=I) rfl rfl (fun _=>rfl) (fun _=>rfl)) (.cons (.slw) (.nil))))) rfl) (.cons (.c (.id rfl)) (.nil)))⟩
  conv=>whnf
  refine ask_c (p_subs_Check_v _) H rfl rfl (fun v39 H=>?_);conv=>whnf
  refine tst_c H (fun b40 H=>?_) (fun b40 H=>?_)
  ·conv=>whnf
   refine lq_ ?_;conv=>whnf
   refine finRz_c (enc:=(fun r:RosterState × Int=>.tup [RosterState.v r.1,V.i r.2])) [3] H ?_;conv=>whnf
   refine ⟨Nat.zero_le _,?_⟩;conv=>whnf
   exact ⟨_,.tup (.cons (fzagg (.cons (.id rfl) (.cons (.id rfl) (.cons (fzown (f:=ItemItem.v) (l:=I) rfl rfl (fun _=>rfl) (fun _=>rfl)) (.cons (.slw) (.nil))))) rfl) (.cons (.c (.id rfl)) (.nil)))⟩
  conv=>whnf
  refine ask_c (p_roster_Find_v _ _) H rfl rfl (fun v41 H=>?_);conv=>whnf
  refine lq_ ?_;conv=>whnf
  refine ask_c (p_roster_State_may_v _ _ _) H rfl rfl (fun v42 H=>?_);conv=>whnf
  refine tst_c H (fun b43 H=>?_) (fun b43 H=>?_)
  ·conv=>whnf
   refine lq_ ?_;conv=>whnf
   refine finRz_c (enc:=(fun r:RosterState × Int=>.tup [RosterState.v r.1,V.i r.2])) [3] H ?_;conv=>whnf
   refine ⟨Nat.zero_le _,?_⟩;conv=>whnf
   exact ⟨_,.tup (.cons (fzagg (.cons (.id rfl) (.cons (.id rfl) (.cons (fzown (f:=ItemItem.v) (l:=I) rfl rfl (fun _=>rfl) (fun _=>rfl)) (.cons (.slw) (.nil))))) rfl) (.cons (.c (.id rfl)) (.nil)))⟩
  conv=>whnf
  refine tst_c H (fun b44 H=>?_) (fun b44 H=>?_)
  ·conv=>whnf
   refine lq_ ?_;conv=>whnf
   refine finRz_c (enc:=(fun r:RosterState × Int=>.tup [RosterState.v r.1,V.i r.2])) [3] H ?_;conv=>whnf
   refine ⟨Nat.zero_le _,?_⟩;conv=>whnf
   exact ⟨_,.tup (.cons (fzagg (.cons (.id rfl) (.cons (.id rfl) (.cons (fzown (f:=ItemItem.v) (l:=I) rfl rfl (fun _=>rfl) (fun _=>rfl)) (.cons (.slw) (.nil))))) rfl) (.cons (.c (.id rfl)) (.nil)))⟩
  conv=>whnf
  obtain ⟨K45,hK46,o47,HL48,HQ49⟩:=join0_c H
  refine join_c [6,8,11] [52,53,54,55,3,15,47] (fun vals st=>(K45 ()=some r∧vals=[.ptr 0 0,.ptr 1 0,.ptr 4 0]∧st=[.live [.i (0:Int),.i (0:Int),.sl (List.map ItemItem.v []) true,.sl (List.map RosterGone.v []) true] 0,.live [.i a0.Ver,.i a0.Floor,.osl 2 0 (List.length I) 5 false,.sl (List.map RosterGone.v []) true] 0,.live (cellsM ItemItem.v I) 0,.dead,.live [.s a1,.s v41.1.Name,.i a2,.i v41.1.Ver,.b v41.1.Own] 0])) ?_ ?_
  ·have H:=HL48
   conv=>whnf
   refine lq_ ?_;conv=>whnf
   refine lq_ ?_;conv=>whnf
   obtain rfl:=Option.some.inj H
   exact arrive_c [52,53,54,55,3,15,47] 5 [1,2,3,0,5] (⟨HQ49,rfl,rfl⟩) (Nat.zero_le _) rfl (by kernel_rfl) (by kernel_rfl) rfl ⟨⟨rfl,rfl,rfl⟩,⟨⟨rfl,rfl,rfl⟩,wkB_live0 rfl (cellsM_idlt (f:=ItemItem.v) (fun _=>rfl) _) rfl ⟨⟨rfl,rfl,rfl⟩,trivial⟩⟩⟩
  rintro _ _ (⟨H,rfl,rfl⟩)
  rw [hK46] at H
  try dsimp only at H
  conv=>whnf
  refine askW_c (fun s hs=>p_roster_State_change_on _ _ _ _ rfl rfl rfl s hs) H rfl rfl rfl (fun v51 H=>?_);conv=>whnf
  refine lq_ ?_;conv=>whnf
  exact fin0_c (enc:=(fun r:RosterState × Int=>.tup [RosterState.v r.1,V.i r.2])) H (.inr rfl) (.cons (.cell rfl rfl (Nat.le_of_ble_eq_true rfl)) (.cons (.tmp rfl) (.nil))) rfl rfl
 try dsimp only at H
 conv=>whnf
 refine lq_ ?_;conv=>whnf
 refine ask_c (p_roster_Check_v _) H rfl rfl (fun v52 H=>?_);conv=>whnf
 refine tst_c H (fun b53 H=>?_) (fun b53 H=>?_)
 ·conv=>whnf
  refine lq_ ?_;conv=>whnf
  refine finRz_c (enc:=(fun r:RosterState × Int=>.tup [RosterState.v r.1,V.i r.2])) [3,4] H ?_;conv=>whnf
  refine ⟨Nat.zero_le _,?_⟩;conv=>whnf
  refine ⟨Nat.zero_le _,?_⟩;conv=>whnf
  exact ⟨_,.tup (.cons (fzagg (.cons (.id rfl) (.cons (.id rfl) (.cons (fzown (f:=ItemItem.v) (l:=I) rfl rfl (fun _=>rfl) (fun _=>rfl)) (.cons (fzown (f:=RosterGone.v) (l:=G) rfl rfl (fun _=>rfl) (fun _=>rfl)) (.nil))))) rfl) (.cons (.c (.id rfl)) (.nil)))⟩
 conv=>whnf
 refine ask_c (p_addr_IsBare_v _) H rfl rfl (fun v54 H=>?_);conv=>whnf
 refine Tst.not ?_
 refine tst_d H (fun b55 H=>?_) (fun b55 H=>?_)
 ·conv=>whnf
  refine lq_ ?_;conv=>whnf
  refine finRz_c (enc:=(fun r:RosterState × Int=>.tup [RosterState.v r.1,V.i r.2])) [3,4] H ?_;conv=>whnf
  refine ⟨Nat.zero_le _,?_⟩;conv=>whnf
  refine ⟨Nat.zero_le _,?_⟩;conv=>whnf
  exact ⟨_,.tup (.cons (fzagg (.cons (.id rfl) (.cons (.id rfl) (.cons (fzown (f:=ItemItem.v) (l:=I) rfl rfl (fun _=>rfl) (fun _=>rfl)) (.cons (fzown (f:=RosterGone.v) (l:=G) rfl rfl (fun _=>rfl) (fun _=>rfl)) (.nil))))) rfl) (.cons (.c (.id rfl)) (.nil)))⟩
 conv=>whnf
 refine ask_c (p_subs_Check_v _) H rfl rfl (fun v56 H=>?_);conv=>whnf
 refine tst_c H (fun b57 H=>?_) (fun b57 H=>?_)
 ·conv=>whnf
  refine lq_ ?_;conv=>whnf
  refine finRz_c (enc:=(fun r:RosterState × Int=>.tup [RosterState.v r.1,V.i r.2])) [3,4] H ?_;conv=>whnf
  refine ⟨Nat.zero_le _,?_⟩;conv=>whnf
  refine ⟨Nat.zero_le _,?_⟩;conv=>whnf
  exact ⟨_,.tup (.cons (fzagg (.cons (.id rfl) (.cons (.id rfl) (.cons (fzown (f:=ItemItem.v) (l:=I) rfl rfl (fun _=>rfl) (fun _=>rfl)) (.cons (fzown (f:=RosterGone.v) (l:=G) rfl rfl (fun _=>rfl) (fun _=>rfl)) (.nil))))) rfl) (.cons (.c (.id rfl)) (.nil)))⟩
 conv=>whnf
 refine ask_c (p_roster_Find_v _ _) H rfl rfl (fun v58 H=>?_);conv=>whnf
 refine lq_ ?_;conv=>whnf
 refine ask_c (p_roster_State_may_v _ _ _) H rfl rfl (fun v59 H=>?_);conv=>whnf
 refine tst_c H (fun b60 H=>?_) (fun b60 H=>?_)
 ·conv=>whnf
  refine lq_ ?_;conv=>whnf
  refine finRz_c (enc:=(fun r:RosterState × Int=>.tup [RosterState.v r.1,V.i r.2])) [3,4] H ?_;conv=>whnf
  refine ⟨Nat.zero_le _,?_⟩;conv=>whnf
  refine ⟨Nat.zero_le _,?_⟩;conv=>whnf
  exact ⟨_,.tup (.cons (fzagg (.cons (.id rfl) (.cons (.id rfl) (.cons (fzown (f:=ItemItem.v) (l:=I) rfl rfl (fun _=>rfl) (fun _=>rfl)) (.cons (fzown (f:=RosterGone.v) (l:=G) rfl rfl (fun _=>rfl) (fun _=>rfl)) (.nil))))) rfl) (.cons (.c (.id rfl)) (.nil)))⟩
 conv=>whnf
 refine tst_c H (fun b61 H=>?_) (fun b61 H=>?_)
 ·conv=>whnf
  refine lq_ ?_;conv=>whnf
  refine finRz_c (enc:=(fun r:RosterState × Int=>.tup [RosterState.v r.1,V.i r.2])) [3,4] H ?_;conv=>whnf
  refine ⟨Nat.zero_le _,?_⟩;conv=>whnf
  refine ⟨Nat.zero_le _,?_⟩;conv=>whnf
  exact ⟨_,.tup (.cons (fzagg (.cons (.id rfl) (.cons (.id rfl) (.cons (fzown (f:=ItemItem.v) (l:=I) rfl rfl (fun _=>rfl) (fun _=>rfl)) (.cons (fzown (f:=RosterGone.v) (l:=G) rfl rfl (fun _=>rfl) (fun _=>rfl)) (.nil))))) rfl) (.cons (.c (.id rfl)) (.nil)))⟩
 conv=>whnf
 obtain ⟨K62,hK63,o64,HL65,HQ66⟩:=join0_c H
 refine join_c [6,8,11] [52,53,54,55,3,15,47] (fun vals st=>(K62 ()=some r∧vals=[.ptr 0 0,.ptr 1 0,.ptr 4 0]∧st=[.live [.i (0:Int),.i (0:Int),.sl (List.map ItemItem.v []) true,.sl (List.map RosterGone.v []) true] 0,.live [.i a0.Ver,.i a0.Floor,.osl 2 0 (List.length I) 5 false,.osl 3 0 (List.length G) 2 false] 0,.live (cellsM ItemItem.v I) 0,.live (cellsM RosterGone.v G) 0,.live [.s a1,.s v58.1.Name,.i a2,.i v58.1.Ver,.b v58.1.Own] 0])) ?_ ?_
 ·have H:=HL65
  conv=>whnf
  refine lq_ ?_;conv=>whnf
  refine lq_ ?_;conv=>whnf
  obtain rfl:=Option.some.inj H
  exact arrive_c [52,53,54,55,3,15,47] 5 [1,2,3,4,5] (⟨HQ66,rfl,rfl⟩) (Nat.zero_le _) rfl (by kernel_rfl) (by kernel_rfl) rfl ⟨⟨rfl,rfl,rfl⟩,⟨⟨rfl,rfl,rfl⟩,wkB_live0 rfl (cellsM_idlt (f:=ItemItem.v) (fun _=>rfl) _) rfl (wkB_live0 rfl (cellsM_idlt (f:=RosterGone.v) (fun _=>rfl) _) rfl ⟨⟨rfl,rfl,rfl⟩,trivial⟩)⟩⟩
 rintro _ _ (⟨H,rfl,rfl⟩)
 rw [hK63] at H
 try dsimp only at H
 conv=>whnf
 refine askW_c (fun s hs=>p_roster_State_change_oo _ _ _ _ _ rfl rfl rfl s hs) H rfl rfl rfl (fun v68 H=>?_);conv=>whnf
 refine lq_ ?_;conv=>whnf
 exact fin0_c (enc:=(fun r:RosterState × Int=>.tup [RosterState.v r.1,V.i r.2])) H (.inr rfl) (.cons (.cell rfl rfl (Nat.le_of_ble_eq_true rfl)) (.cons (.tmp rfl) (.nil))) rfl rfl
end Go.Proofs.Ytmmmcpeickfolaa

namespace Go.Proofs.Ytmmmcpeickfolaa
open Go.RowKit
set_option maxRecDepth 100000
set_option maxHeartbeats 4000000
def gc31:BCode:=(.seq (R_ 2 [O_ 2 (.bx (t_ 0)) 0,O_ 3 (.bx (t_ 1)) 1,O_ 4 (.mv (i_ 0)) 2]) (.seq (.seq (R_ 0 [O_ 6 (.fa 0 (t_ 2)) 0,O_ 7 (.ld 1 false (t_ 6)) 0,O_ 8 (.cl 40 [(t_ 7)]) 0,O_ 9 (.un .not (t_ 8)) 0,O_ 10 (.mv (t_ 9)) 0,⟨(some 11),.fa 1 (t_ 2),(some (10,false)),0⟩,⟨(some 12),.ld 1 false (t_ 11),(some (10,false)),0⟩,⟨(some 13),.cl 40 [(t_ 12)],(some (10,false)),0⟩,⟨(some 14),.un .not (t_ 13),(some (10,false)),0⟩,O_ 15 (.pick (t_ 10) (b_ true) (t_ 14)) 0]) (.cond (t_ 15) (.seq (R_ 0 [O_ 4 (.mv (i_ 11)) 0]) .ret) .skip)) (.seq (.seq (R_ 0 [O_ 16 (.fa 0 (t_ 2)) 0,O_ 17 (.ld 1 false (t_ 16)) 0,O_ 18 (.fa 1 (t_ 2)) 0,O_ 19 (.ld 1 false (t_ 18)) 0,O_ 20 (.bin .eql (t_ 17) (t_ 19)) 0]) (.cond (t_ 20) (.seq (R_ 0 [O_ 4 (.mv (i_ 2)) 0]) .ret) .skip)) (.seq (.seq (R_ 0 [O_ 21 (.fa 0 (t_ 3)) 0,O_ 22 (.ld 4 true (t_ 21)) 0,O_ 23 (.cl 49 [(t_ 22)]) 0,O_ 5 (.mv (t_ 23)) 0]) (.seq (R_ 0 [O_ 24 (.mv (t_ 5)) 0,O_ 25 (.bin .neq (t_ 24) (i_ 0)) 0]) (.cond (t_ 25) (.seq (R_ 0 [O_ 26 (.mv (t_ 5)) 0,O_ 4 (.mv (t_ 26)) 0]) .ret) .skip))) (.seq (R_ 0 [O_ 27 (.fa 4 (t_ 3)) 0,O_ 28 (.ld 4 true (t_ 27)) 0,O_ 29 (.cl 49 [(t_ 28)]) 0,O_ 4 (.mv (t_ 29)) 0]) .ret)))))
theorem gc31_ok:compF Try.prog Try.f31=some (gc31.er,30,[.tmp 4]):=by unfold gc31;kernel_rfl
theorem p_pair_Check_v {u1 u2 u3 u4:Bool} (a0:Ref22Names) (a1:Ref22State):CallsO Try.prog 31 [.agg [.s a0.A,.s a0.B],.agg [.i a1.A.Ver,.i a1.A.Floor,.sl (List.map ItemItem.v a1.A.Items) u1,.sl (List.map RosterGone.v a1.A.Gone) u2,.i a1.B.Ver,.i a1.B.Floor,.sl (List.map ItemItem.v a1.B.Items) u3,.sl (List.map RosterGone.v a1.B.Gone) u4]] V.i (p_pair_Check a0 a1):=by
 refine callsO_comp mix Try.func31 gc31_ok fun r H=>?_
 rw [p_pair_Check] at H
 conv=>whnf
 refine ask_c (p_addr_IsBare_v _) H rfl rfl (fun v1 H=>?_);conv=>whnf
 refine Tst.not ?_
 refine tst_d H (fun b2 H=>?_) (fun b2 H=>?_)
 ·conv=>whnf
  iterate 5 (refine Tst.T ?_;conv=>whnf)
  exact fi_ H
 conv=>whnf
 iterate 2 (refine Tst.F ?_;conv=>whnf)
 refine ask_c (p_addr_IsBare_v _) H rfl rfl (fun v3 H=>?_);conv=>whnf
 iterate 2 (refine Tst.F ?_;conv=>whnf)
 refine Tst.not ?_
 refine tst_d H (fun b4 H=>?_) (fun b4 H=>?_)
 ·conv=>whnf
  exact fi_ H
 conv=>whnf
 refine tst_c H (fun b5 H=>?_) (fun b5 H=>?_)
 ·conv=>whnf
  exact fi_ H
 conv=>whnf
 refine ask_c (p_roster_Check_v _) H rfl rfl (fun v6 H=>?_);conv=>whnf
 refine tst_c H (fun b7 H=>?_) (fun b7 H=>?_)
 ·conv=>whnf
  exact fi_ H
 conv=>whnf
 refine ask_c (p_roster_Check_v _) H rfl rfl (fun v8 H=>?_);conv=>whnf
 exact fi_ H
def gc65:BCode:=(.seq (R_ 0 [O_ 2 (.mv (b_ false)) 0]) (.seq (R_ 0 [O_ 3 (.mv (t_ 0)) 0,O_ 4 (.bin .leq (.const (.int .u8 7)) (t_ 3)) 0,O_ 5 (.mv (t_ 4)) 0,⟨(some 6),.mv (t_ 0),(some (5,true)),0⟩,⟨(some 7),.bin .leq (t_ 6) (.const (.int .u8 10)),(some (5,true)),0⟩,O_ 8 (.pick (t_ 5) (t_ 7) (b_ false)) 0,O_ 2 (.mv (t_ 8)) 0]) .ret))
theorem gc65_ok:compF Try.prog Try.f65=some (gc65.er,9,[.tmp 2]):=by unfold gc65;kernel_rfl
theorem p_pair_said_v (a0:Int):CallsO Try.prog 65 [.y8 a0] V.b (p_pair_said a0):=by
 refine callsO_comp mix Try.func65 gc65_ok fun r H=>?_
 rw [p_pair_said] at H
 conv=>whnf
 refine tst_c H (fun b1 H=>?_) (fun b1 H=>?_)
 ·conv=>whnf
  iterate 2 (refine Tst.T ?_;conv=>whnf)
  exact fb_ H
 conv=>whnf
 iterate 2 (refine Tst.F ?_;conv=>whnf)
 exact fb_ H
def gc64:BCode:=(.seq (R_ 2 [O_ 2 (.bx (t_ 0)) 0,O_ 3 (.bx (t_ 1)) 1,O_ 4 (.mv (i_ 0)) 2]) (.seq (R_ 1 [O_ 8 (.fa 0 (t_ 2)) 0,O_ 9 (.ld 4 true (t_ 8)) 0,O_ 10 (.fa 1 (t_ 3)) 0,O_ 11 (.ld 1 false (t_ 10)) 0,O_ 12 (.cl 22 [(t_ 9),(t_ 11)]) 0,O_ 7 (.mv (t_ 12)) 0,O_ 13 (.ex (t_ 7) 0) 0,O_ 14 (.ex (t_ 7) 1) 0,O_ 5 (.al (.agg [(.lit (.string ⟨#[]⟩)),(.lit (.string ⟨#[]⟩)),(.lit (.int .i64 0)),(.lit (.int .i64 0)),(.lit (.bool false))])) 0,U_ (.st 5 (t_ 5) (t_ 13)) 1,O_ 6 (.mv (t_ 14)) 1]) (.seq (R_ 0 [O_ 15 (.fa 2 (t_ 5)) 0,O_ 16 (.ld 1 false (t_ 15)) 0,O_ 4 (.mv (t_ 16)) 0]) .ret)))
theorem gc64_ok:compF Try.prog Try.f64=some (gc64.er,17,[.tmp 4]):=by unfold gc64;kernel_rfl
theorem p_pair_State_has_v {u1 u2 u3 u4:Bool} (a0:Ref22State) (a1:Ref22Names):CallsO Try.prog 64 [.agg [.i a0.A.Ver,.i a0.A.Floor,.sl (List.map ItemItem.v a0.A.Items) u1,.sl (List.map RosterGone.v a0.A.Gone) u2,.i a0.B.Ver,.i a0.B.Floor,.sl (List.map ItemItem.v a0.B.Items) u3,.sl (List.map RosterGone.v a0.B.Gone) u4],.agg [.s a1.A,.s a1.B]] V.i (p_pair_State_has a0 a1):=by
 refine callsO_comp mix Try.func64 gc64_ok fun r H=>?_
 rw [p_pair_State_has] at H
 conv=>whnf
 refine ask_c (p_roster_Find_v _ _) H rfl rfl (fun v1 H=>?_);conv=>whnf
 refine lq_ ?_;conv=>whnf
 exact fi_ H
def gc63:BCode:=(.seq (R_ 2 [O_ 1 (.bx (t_ 0)) 0,O_ 2 (.al (.agg [(.lit (.int .i64 0)),(.lit (.int .i64 0)),(.sl [] true),(.sl [] true),(.lit (.int .i64 0)),(.lit (.int .i64 0)),(.sl [] true),(.sl [] true)])) 1]) (.seq (R_ 0 [O_ 3 (.fa 4 (t_ 1)) 0,O_ 4 (.ld 4 true (t_ 3)) 0,O_ 5 (.fa 0 (t_ 1)) 0,O_ 6 (.ld 4 true (t_ 5)) 0,O_ 7 (.bd [(.lit (.int .i64 0)),(.lit (.int .i64 0)),(.sl [] true),(.sl [] true),(.lit (.int .i64 0)),(.lit (.int .i64 0)),(.sl [] true),(.sl [] true)] [(0,4,(t_ 4)),(4,4,(t_ 6))]) 0,U_ (.st 8 (t_ 2) (t_ 7)) 0]) .ret))
theorem gc63_ok:compF Try.prog Try.f63=some (gc63.er,8,[.cell 2 8 true]):=by unfold gc63;kernel_rfl
theorem p_pair_State_turn_v {u1 u2 u3 u4:Bool} (a0:Ref22State):CallsO Try.prog 63 [.agg [.i a0.A.Ver,.i a0.A.Floor,.sl (List.map ItemItem.v a0.A.Items) u1,.sl (List.map RosterGone.v a0.A.Gone) u2,.i a0.B.Ver,.i a0.B.Floor,.sl (List.map ItemItem.v a0.B.Items) u3,.sl (List.map RosterGone.v a0.B.Gone) u4]] Ref22State.v (p_pair_State_turn a0):=by
 refine callsO_comp mix Try.func63 gc63_ok fun r H=>?_
 rw [p_pair_State_turn] at H
 conv=>whnf
 refine lq_ ?_;conv=>whnf
 refine finR_c (enc:=Ref22State.v) H ?_;conv=>whnf
 exact ⟨_,.v (fzagg (.cons (.id rfl) (.cons (.id rfl) (.cons (.slw) (.cons (.slw) (.cons (.id rfl) (.cons (.id rfl) (.cons (.slw) (.cons (.slw) (.nil))))))))) rfl)⟩
def gc62:BCode:=(.seq (R_ 2 [O_ 1 (.bx (t_ 0)) 0,O_ 2 (.al (.agg [(.lit (.string ⟨#[]⟩)),(.lit (.string ⟨#[]⟩))])) 1]) (.seq (R_ 0 [O_ 3 (.fa 1 (t_ 1)) 0,O_ 4 (.ld 1 false (t_ 3)) 0,O_ 5 (.fa 0 (t_ 1)) 0,O_ 6 (.ld 1 false (t_ 5)) 0,O_ 7 (.bd [(.lit (.string ⟨#[]⟩)),(.lit (.string ⟨#[]⟩))] [(0,1,(t_ 4)),(1,1,(t_ 6))]) 0,U_ (.st 2 (t_ 2) (t_ 7)) 0]) .ret))
theorem gc62_ok:compF Try.prog Try.f62=some (gc62.er,8,[.cell 2 2 true]):=by unfold gc62;kernel_rfl
theorem p_pair_Names_turn_v (a0:Ref22Names):CallsO Try.prog 62 [.agg [.s a0.A,.s a0.B]] Ref22Names.v (p_pair_Names_turn a0):=by
 refine callsO_comp mix Try.func62 gc62_ok fun r H=>?_
 rw [p_pair_Names_turn] at H
 conv=>whnf
 refine lq_ ?_;conv=>whnf
 exact fin0_c (enc:=Ref22Names.v) H (.inr rfl) (.cons (.cell rfl rfl (Nat.le_of_ble_eq_true rfl)) (.nil)) rfl rfl
def gc68:BCode:=(.seq (R_ 3 [O_ 4 (.bx (t_ 0)) 0,O_ 5 (.bx (t_ 1)) 1,O_ 8 (.al (.agg [(.lit (.int .i64 0)),(.lit (.int .i64 0)),(.sl [] true),(.sl [] true),(.lit (.int .i64 0)),(.lit (.int .i64 0)),(.sl [] true),(.sl [] true)])) 2,O_ 9 (.mv (i_ 0)) 3]) (.seq (R_ 1 [O_ 14 (.fa 0 (t_ 4)) 0,O_ 15 (.ld 4 true (t_ 14)) 0,O_ 16 (.fa 1 (t_ 5)) 0,O_ 17 (.ld 1 false (t_ 16)) 0,O_ 18 (.mv (t_ 2)) 0,O_ 19 (.cl 18 [(t_ 15),(t_ 17),(t_ 18)]) 0,O_ 13 (.mv (t_ 19)) 0,O_ 20 (.ex (t_ 13) 0) 0,O_ 21 (.ex (t_ 13) 1) 0,O_ 10 (.al (.agg [(.lit (.int .i64 0)),(.lit (.int .i64 0)),(.sl [] true),(.sl [] true)])) 0,U_ (.st 4 (t_ 10) (t_ 20)) 1,O_ 11 (.mv (t_ 21)) 1]) (.seq (.seq (R_ 0 [O_ 22 (.mv (t_ 11)) 0,O_ 23 (.bin .neq (t_ 22) (i_ 0)) 0]) (.cond (t_ 23) (.seq (R_ 0 [O_ 24 (.ld 8 true (t_ 4)) 0,O_ 25 (.mv (t_ 11)) 0,U_ (.st 8 (t_ 8) (t_ 24)) 0,O_ 9 (.mv (t_ 25)) 0]) .ret) .skip)) (.seq (R_ 1 [O_ 27 (.fa 4 (t_ 4)) 0,O_ 28 (.ld 4 true (t_ 27)) 0,O_ 29 (.fa 0 (t_ 5)) 0,O_ 30 (.ld 1 false (t_ 29)) 0,O_ 31 (.mv (t_ 3)) 0,O_ 32 (.cl 18 [(t_ 28),(t_ 30),(t_ 31)]) 0,O_ 26 (.mv (t_ 32)) 0,O_ 33 (.ex (t_ 26) 0) 0,O_ 34 (.ex (t_ 26) 1) 0,O_ 12 (.al (.agg [(.lit (.int .i64 0)),(.lit (.int .i64 0)),(.sl [] true),(.sl [] true)])) 0,U_ (.st 4 (t_ 12) (t_ 33)) 1,O_ 11 (.mv (t_ 34)) 1]) (.seq (.seq (R_ 0 [O_ 35 (.mv (t_ 11)) 0,O_ 36 (.bin .neq (t_ 35) (i_ 0)) 0]) (.cond (t_ 36) (.seq (R_ 0 [O_ 37 (.ld 8 true (t_ 4)) 0,O_ 38 (.mv (t_ 11)) 0,U_ (.st 8 (t_ 8) (t_ 37)) 0,O_ 9 (.mv (t_ 38)) 0]) .ret) .skip)) (.seq (R_ 0 [O_ 39 (.ld 4 true (t_ 10)) 0,O_ 40 (.ld 4 true (t_ 12)) 0,O_ 41 (.bd [(.lit (.int .i64 0)),(.lit (.int .i64 0)),(.sl [] true),(.sl [] true),(.lit (.int .i64 0)),(.lit (.int .i64 0)),(.sl [] true),(.sl [] true)] [(0,4,(t_ 39)),(4,4,(t_ 40))]) 0,U_ (.st 8 (t_ 8) (t_ 41)) 0,O_ 9 (.mv (i_ 0)) 0]) .ret))))))
theorem gc68_ok:compF Try.prog Try.f68=some (gc68.er,42,[.cell 8 8 true,.tmp 9]):=by unfold gc68;kernel_rfl
theorem p_pair_State_set_v {u1 u2 u3 u4:Bool} (a0:Ref22State) (a1:Ref22Names) (a2:Int) (a3:Int):CallsO Try.prog 68 [.agg [.i a0.A.Ver,.i a0.A.Floor,.sl (List.map ItemItem.v a0.A.Items) u1,.sl (List.map RosterGone.v a0.A.Gone) u2,.i a0.B.Ver,.i a0.B.Floor,.sl (List.map ItemItem.v a0.B.Items) u3,.sl (List.map RosterGone.v a0.B.Gone) u4],.agg [.s a1.A,.s a1.B],.i a2,.i a3] (fun r:Ref22State × Int=>.tup [Ref22State.v r.1,V.i r.2]) (p_pair_State_set a0 a1 a2 a3):=by
 refine callsO_comp mix Try.func68 gc68_ok fun r H=>?_
 rw [p_pair_State_set] at H
 conv=>whnf
 refine ask_c (p_roster_Sub_v _ _ _) H rfl rfl (fun v1 H=>?_);conv=>whnf
 refine lq_ ?_;conv=>whnf
 refine tst_c H (fun b2 H=>?_) (fun b2 H=>?_)
 ·conv=>whnf
  refine lq_ ?_;conv=>whnf
  refine finR_c (enc:=(fun r:Ref22State × Int=>.tup [Ref22State.v r.1,V.i r.2])) H ?_;conv=>whnf
  exact ⟨_,.tup (.cons (fzagg (.cons (.id rfl) (.cons (.id rfl) (.cons (.slw) (.cons (.slw) (.cons (.id rfl) (.cons (.id rfl) (.cons (.slw) (.cons (.slw) (.nil))))))))) rfl) (.cons (.c (.id rfl)) (.nil)))⟩
 conv=>whnf
 refine ask_c (p_roster_Sub_v _ _ _) H rfl rfl (fun v3 H=>?_);conv=>whnf
 refine lq_ ?_;conv=>whnf
 refine tst_d H (fun b4 H=>?_) (fun b4 H=>?_)
 ·conv=>whnf
  refine lq_ ?_;conv=>whnf
  exact fin0_c (enc:=(fun r:Ref22State × Int=>.tup [Ref22State.v r.1,V.i r.2])) H (.inr rfl) (.cons (.cell rfl rfl (Nat.le_of_ble_eq_true rfl)) (.cons (.tmp rfl) (.nil))) rfl rfl
 conv=>whnf
 refine lq_ ?_;conv=>whnf
 refine finR_c (enc:=(fun r:Ref22State × Int=>.tup [Ref22State.v r.1,V.i r.2])) H ?_;conv=>whnf
 exact ⟨_,.tup (.cons (fzagg (.cons (.id rfl) (.cons (.id rfl) (.cons (.slw) (.cons (.slw) (.cons (.id rfl) (.cons (.id rfl) (.cons (.slw) (.cons (.slw) (.nil))))))))) rfl) (.cons (.c (.id rfl)) (.nil)))⟩
def gc29:BCode:=(.seq (R_ 4 [O_ 3 (.bx (t_ 0)) 0,O_ 4 (.bx (t_ 1)) 1,O_ 6 (.al (.agg [(.lit (.int .i64 0)),(.lit (.int .i64 0)),(.sl [] true),(.sl [] true),(.lit (.int .i64 0)),(.lit (.int .i64 0)),(.sl [] true),(.sl [] true)])) 2,O_ 7 (.al (.agg [(.lit (.bool false)),(.lit (.bool false)),(.lit (.bool false)),(.lit (.bool false))])) 3,O_ 8 (.mv (i_ 0)) 4]) (.seq (.seq (R_ 0 [O_ 16 (.ld 2 true (t_ 3)) 0,O_ 17 (.ld 8 true (t_ 4)) 0,O_ 18 (.cl 31 [(t_ 16),(t_ 17)]) 0,O_ 9 (.mv (t_ 18)) 0]) (.seq (R_ 0 [O_ 19 (.mv (t_ 9)) 0,O_ 20 (.bin .neq (t_ 19) (i_ 0)) 0]) (.cond (t_ 20) (.seq (R_ 0 [O_ 21 (.ld 8 true (t_ 4)) 0,O_ 22 (.bd [(.lit (.bool false)),(.lit (.bool false)),(.lit (.bool false)),(.lit (.bool false))] []) 0,O_ 23 (.mv (t_ 9)) 0,U_ (.st 8 (t_ 6) (t_ 21)) 0,U_ (.st 4 (t_ 7) (t_ 22)) 0,O_ 8 (.mv (t_ 23)) 0]) .ret) .skip))) (.seq (.seq (R_ 0 [O_ 24 (.mv (t_ 2)) 0,O_ 25 (.cl 65 [(t_ 24)]) 0,O_ 26 (.un .not (t_ 25)) 0]) (.cond (t_ 26) (.seq (R_ 0 [O_ 27 (.ld 8 true (t_ 4)) 0,O_ 28 (.bd [(.lit (.bool false)),(.lit (.bool false)),(.lit (.bool false)),(.lit (.bool false))] []) 0,U_ (.st 8 (t_ 6) (t_ 27)) 0,U_ (.st 4 (t_ 7) (t_ 28)) 0,O_ 8 (.mv (i_ 12)) 0]) .ret) .skip)) (.seq (R_ 0 [O_ 30 (.ld 8 true (t_ 4)) 0,O_ 31 (.ld 2 true (t_ 3)) 0,O_ 32 (.cl 64 [(t_ 30),(t_ 31)]) 0,O_ 33 (.mv (t_ 2)) 0,O_ 34 (.cl 66 [(t_ 32),(t_ 33)]) 0,O_ 29 (.mv (t_ 34)) 0,O_ 35 (.ex (t_ 29) 0) 0,O_ 36 (.ex (t_ 29) 1) 0,O_ 10 (.mv (t_ 35)) 0,O_ 11 (.mv (t_ 36)) 0]) (.seq (.reg 0 [O_ 37 (.ld 8 true (t_ 4)) 0,O_ 38 (.cl 63 [(t_ 37)]) 0,O_ 39 (.ld 2 true (t_ 3)) 0,O_ 40 (.cl 62 [(t_ 39)]) 0,O_ 41 (.cl 64 [(t_ 38),(t_ 40)]) 0,O_ 12 (.mv (t_ 41)) 0,O_ 13 (.mv (b_ false)) 0] (some [[],[0],[],[0,1,2],[2,3,0,1],[1,0,3,2,4],[4,2,3,0,1,5]]) 0 []) (.seq (.seq (R_ 0 [O_ 42 (.mv (t_ 11)) 0]) (.cond (t_ 42) (R_ 0 [O_ 44 (.mv (t_ 12)) 0,O_ 45 (.mv (t_ 2)) 0,O_ 46 (.cl 67 [(t_ 44),(t_ 45)]) 0,O_ 43 (.mv (t_ 46)) 0,O_ 47 (.ex (t_ 43) 0) 0,O_ 48 (.ex (t_ 43) 1) 0,O_ 12 (.mv (t_ 47)) 0,O_ 13 (.mv (t_ 48)) 0]) .skip)) (.seq (R_ 1 [O_ 50 (.ld 8 true (t_ 4)) 0,O_ 51 (.ld 2 true (t_ 3)) 0,O_ 52 (.mv (t_ 10)) 0,O_ 53 (.mv (t_ 12)) 0,O_ 54 (.cl 68 [(t_ 50),(t_ 51),(t_ 52),(t_ 53)]) 0,O_ 49 (.mv (t_ 54)) 0,O_ 55 (.ex (t_ 49) 0) 0,O_ 56 (.ex (t_ 49) 1) 0,O_ 14 (.al (.agg [(.lit (.int .i64 0)),(.lit (.int .i64 0)),(.sl [] true),(.sl [] true),(.lit (.int .i64 0)),(.lit (.int .i64 0)),(.sl [] true),(.sl [] true)])) 0,U_ (.st 8 (t_ 14) (t_ 55)) 1,O_ 15 (.mv (t_ 56)) 1]) (.seq (.seq (R_ 0 [O_ 57 (.mv (t_ 15)) 0,O_ 58 (.bin .neq (t_ 57) (i_ 0)) 0]) (.cond (t_ 58) (.seq (R_ 0 [O_ 59 (.ld 8 true (t_ 4)) 0,O_ 60 (.bd [(.lit (.bool false)),(.lit (.bool false)),(.lit (.bool false)),(.lit (.bool false))] []) 0,O_ 61 (.mv (t_ 15)) 0,U_ (.st 8 (t_ 6) (t_ 59)) 0,U_ (.st 4 (t_ 7) (t_ 60)) 0,O_ 8 (.mv (t_ 61)) 0]) .ret) .skip)) (.seq (.reg 0 [O_ 62 (.ld 8 true (t_ 14)) 0,O_ 63 (.mv (t_ 11)) 0,O_ 64 (.mv (t_ 13)) 0,O_ 65 (.fa 0 (t_ 14)) 0,O_ 66 (.fa 0 (t_ 65)) 0,O_ 67 (.ld 1 false (t_ 66)) 0,O_ 68 (.fa 0 (t_ 4)) 0,O_ 69 (.fa 0 (t_ 68)) 0,O_ 70 (.ld 1 false (t_ 69)) 0,O_ 71 (.bin .neq (t_ 67) (t_ 70)) 0,O_ 72 (.fa 4 (t_ 14)) 0,O_ 73 (.fa 0 (t_ 72)) 0,O_ 74 (.ld 1 false (t_ 73)) 0,O_ 75 (.fa 4 (t_ 4)) 0,O_ 76 (.fa 0 (t_ 75)) 0,O_ 77 (.ld 1 false (t_ 76)) 0,O_ 78 (.bin .neq (t_ 74) (t_ 77)) 0,O_ 79 (.bd [(.lit (.bool false)),(.lit (.bool false)),(.lit (.bool false)),(.lit (.bool false))] [(0,1,(t_ 63)),(1,1,(t_ 64)),(2,1,(t_ 71)),(3,1,(t_ 78))]) 0,U_ (.st 8 (t_ 6) (t_ 62)) 0,U_ (.st 4 (t_ 7) (t_ 79)) 0,O_ 8 (.mv (i_ 0)) 0] (some [[],[],[],[],[3],[3,4],[],[6],[6,7],[7,6,8,4,3,5],[],[10],[10,11],[],[13],[13,14],[14,13,15,11,10,12],[12,10,11,15,13,14,16,5,3,4,8,6,7,9,2,1],[0],[0,18,1,2,9,7,6,8,4,3,5,16,14,13,15,11,10,12,17],[17,12,10,11,15,13,14,16,5,3,4,8,6,7,9,2,1,18,0,19]]) 0 []) .ret)))))))))
theorem gc29_ok:compF Try.prog Try.f29=some (gc29.er,80,[.cell 6 8 true,.cell 7 4 true,.tmp 8]):=by unfold gc29;kernel_rfl
theorem p_pair_Say_v {u1 u2 u3 u4:Bool} (a0:Ref22Names) (a1:Ref22State) (a2:Int):CallsO Try.prog 29 [.agg [.s a0.A,.s a0.B],.agg [.i a1.A.Ver,.i a1.A.Floor,.sl (List.map ItemItem.v a1.A.Items) u1,.sl (List.map RosterGone.v a1.A.Gone) u2,.i a1.B.Ver,.i a1.B.Floor,.sl (List.map ItemItem.v a1.B.Items) u3,.sl (List.map RosterGone.v a1.B.Gone) u4],.y8 a2] (fun r:Ref22State × PairDone × Int=>.tup [Ref22State.v r.1,PairDone.v r.2.1,V.i r.2.2]) (p_pair_Say a0 a1 a2):=by
 refine callsO_comp mix Try.func29 gc29_ok fun r H=>?_
 rw [p_pair_Say] at H
 conv=>whnf
 refine ask_c (p_pair_Check_v _ _) H rfl rfl (fun v1 H=>?_);conv=>whnf
 refine tst_c H (fun b2 H=>?_) (fun b2 H=>?_)
 ·conv=>whnf
  refine lq_ ?_;conv=>whnf
  refine lq_ ?_;conv=>whnf
  refine finR_c (enc:=(fun r:Ref22State × PairDone × Int=>.tup [Ref22State.v r.1,PairDone.v r.2.1,V.i r.2.2])) H ?_;conv=>whnf
  exact ⟨_,.tup (.cons (fzagg (.cons (.id rfl) (.cons (.id rfl) (.cons (.slw) (.cons (.slw) (.cons (.id rfl) (.cons (.id rfl) (.cons (.slw) (.cons (.slw) (.nil))))))))) rfl) (.cons (fzagg (.cons (.id rfl) (.cons (.id rfl) (.cons (.id rfl) (.cons (.id rfl) (.nil))))) rfl) (.cons (.c (.id rfl)) (.nil))))⟩
 conv=>whnf
 refine ask_c (p_pair_said_v _) H rfl rfl (fun v3 H=>?_);conv=>whnf
 refine Tst.not ?_
 refine tst_d H (fun b4 H=>?_) (fun b4 H=>?_)
 ·conv=>whnf
  refine lq_ ?_;conv=>whnf
  refine lq_ ?_;conv=>whnf
  refine finR_c (enc:=(fun r:Ref22State × PairDone × Int=>.tup [Ref22State.v r.1,PairDone.v r.2.1,V.i r.2.2])) H ?_;conv=>whnf
  exact ⟨_,.tup (.cons (fzagg (.cons (.id rfl) (.cons (.id rfl) (.cons (.slw) (.cons (.slw) (.cons (.id rfl) (.cons (.id rfl) (.cons (.slw) (.cons (.slw) (.nil))))))))) rfl) (.cons (fzagg (.cons (.id rfl) (.cons (.id rfl) (.cons (.id rfl) (.cons (.id rfl) (.nil))))) rfl) (.cons (.c (.id rfl)) (.nil))))⟩
 conv=>whnf
 refine ask_c (p_pair_State_has_v _ _) H rfl rfl (fun v5 H=>?_);conv=>whnf
 refine ask_c (p_subs_Out_v _ _) H rfl rfl (fun v6 H=>?_);conv=>whnf
 refine ask_c (p_pair_State_turn_v _) H rfl rfl (fun v7 H=>?_);conv=>whnf
 refine ask_c (p_pair_Names_turn_v _) H rfl rfl (fun v8 H=>?_);conv=>whnf
 refine ask_c (p_pair_State_has_v _ _) H rfl rfl (fun v9 H=>?_);conv=>whnf
 refine FootQ.mk ⟨rfl,?_⟩;conv=>whnf
 refine tst_d H (fun b10 H=>?_) (fun b10 H=>?_)
 ·conv=>whnf
  refine ask_c (p_pair_State_set_v _ _ _ _) H rfl rfl (fun v14 H=>?_);conv=>whnf
  refine lq_ ?_;conv=>whnf
  refine tst_d H (fun b15 H=>?_) (fun b15 H=>?_)
  ·conv=>whnf
   refine lq_ ?_;conv=>whnf
   refine lq_ ?_;conv=>whnf
   refine FootQ.mk ⟨rfl,?_⟩;conv=>whnf
   exact fin0_c (enc:=(fun r:Ref22State × PairDone × Int=>.tup [Ref22State.v r.1,PairDone.v r.2.1,V.i r.2.2])) H (.inr rfl) (.cons (.cell rfl rfl (Nat.le_of_ble_eq_true rfl)) (.cons (.cell rfl rfl (Nat.le_of_ble_eq_true rfl)) (.cons (.tmp rfl) (.nil)))) rfl rfl
  conv=>whnf
  refine lq_ ?_;conv=>whnf
  refine lq_ ?_;conv=>whnf
  refine finR_c (enc:=(fun r:Ref22State × PairDone × Int=>.tup [Ref22State.v r.1,PairDone.v r.2.1,V.i r.2.2])) H ?_;conv=>whnf
  exact ⟨_,.tup (.cons (fzagg (.cons (.id rfl) (.cons (.id rfl) (.cons (.slw) (.cons (.slw) (.cons (.id rfl) (.cons (.id rfl) (.cons (.slw) (.cons (.slw) (.nil))))))))) rfl) (.cons (fzagg (.cons (.id rfl) (.cons (.id rfl) (.cons (.id rfl) (.cons (.id rfl) (.nil))))) rfl) (.cons (.c (.id rfl)) (.nil))))⟩
 conv=>whnf
 refine ask_c (p_subs_In_v _ _) H rfl rfl (fun v11 H=>?_);conv=>whnf
 refine ask_c (p_pair_State_set_v _ _ _ _) H rfl rfl (fun v12 H=>?_);conv=>whnf
 refine lq_ ?_;conv=>whnf
 refine tst_d H (fun b13 H=>?_) (fun b13 H=>?_)
 ·conv=>whnf
  refine lq_ ?_;conv=>whnf
  refine lq_ ?_;conv=>whnf
  refine FootQ.mk ⟨rfl,?_⟩;conv=>whnf
  exact fin0_c (enc:=(fun r:Ref22State × PairDone × Int=>.tup [Ref22State.v r.1,PairDone.v r.2.1,V.i r.2.2])) H (.inr rfl) (.cons (.cell rfl rfl (Nat.le_of_ble_eq_true rfl)) (.cons (.cell rfl rfl (Nat.le_of_ble_eq_true rfl)) (.cons (.tmp rfl) (.nil)))) rfl rfl
 conv=>whnf
 refine lq_ ?_;conv=>whnf
 refine lq_ ?_;conv=>whnf
 refine finR_c (enc:=(fun r:Ref22State × PairDone × Int=>.tup [Ref22State.v r.1,PairDone.v r.2.1,V.i r.2.2])) H ?_;conv=>whnf
 exact ⟨_,.tup (.cons (fzagg (.cons (.id rfl) (.cons (.id rfl) (.cons (.slw) (.cons (.slw) (.cons (.id rfl) (.cons (.id rfl) (.cons (.slw) (.cons (.slw) (.nil))))))))) rfl) (.cons (fzagg (.cons (.id rfl) (.cons (.id rfl) (.cons (.id rfl) (.cons (.id rfl) (.nil))))) rfl) (.cons (.c (.id rfl)) (.nil))))⟩
end Go.Proofs.Ytmmmcpeickfolaa

namespace Go.Proofs.Ytmmmcpeickfolaa
open Go.RowKit
set_option maxRecDepth 100000
set_option maxHeartbeats 4000000
def gc69:BCode:=(.seq (R_ 0 [O_ 4 (.mv (b_ false)) 0]) (.seq (R_ 0 [O_ 5 (.mv (t_ 0)) 0,O_ 6 (.cl 19 [(t_ 5)]) 0,O_ 7 (.bin .eql (t_ 6) (i_ 0)) 0,O_ 8 (.mv (t_ 7)) 0,⟨(some 9),.mv (t_ 1),(some (8,true)),0⟩,⟨(some 10),.cl 19 [(t_ 9)],(some (8,true)),0⟩,⟨(some 11),.bin .eql (t_ 10) (i_ 0),(some (8,true)),0⟩,O_ 12 (.pick (t_ 8) (t_ 11) (b_ false)) 0,O_ 13 (.mv (t_ 12)) 0,⟨(some 14),.mv (t_ 0),(some (13,true)),0⟩,⟨(some 15),.cl 112 [(t_ 14)],(some (13,true)),0⟩,⟨(some 16),.mv (t_ 1),(some (13,true)),0⟩,⟨(some 17),.bin .eql (t_ 15) (t_ 16),(some (13,true)),0⟩,O_ 18 (.pick (t_ 13) (t_ 17) (b_ false)) 0,O_ 4 (.mv (t_ 18)) 0]) .ret))
theorem gc69_ok:compF Try.prog Try.f69=some (gc69.er,19,[.tmp 4]):=by unfold gc69;kernel_rfl
theorem p_subs_Agree_v (a0:Int) (a1:Int):CallsO Try.prog 69 [.i a0,.i a1] V.b (p_subs_Agree a0 a1):=by
 refine callsO_comp mix Try.func69 gc69_ok fun r H=>?_
 rw [p_subs_Agree] at H
 conv=>whnf
 refine ask_c (p_subs_Check_v _) H rfl rfl (fun v1 H=>?_);conv=>whnf
 refine tst_d H (fun b2 H=>?_) (fun b2 H=>?_)
 ·conv=>whnf
  iterate 8 (refine Tst.F ?_;conv=>whnf)
  exact fb_ H
 conv=>whnf
 refine Tst.T ?_;conv=>whnf
 refine ask_c (p_subs_Check_v _) H rfl rfl (fun v3 H=>?_);conv=>whnf
 iterate 2 (refine Tst.T ?_;conv=>whnf)
 refine tst_d H (fun b4 H=>?_) (fun b4 H=>?_)
 ·conv=>whnf
  iterate 4 (refine Tst.F ?_;conv=>whnf)
  exact fb_ H
 conv=>whnf
 refine Tst.T ?_;conv=>whnf
 refine ask_c (p_subs_Mirror_v _) H rfl rfl (fun v5 H=>?_);conv=>whnf
 iterate 3 (refine Tst.T ?_;conv=>whnf)
 exact fb_ H
end Go.Proofs.Ytmmmcpeickfolaa

namespace Go.Proofs.Ytmmmcpeickfolaa
open Go.RowKit
set_option maxRecDepth 100000
set_option maxHeartbeats 4000000
def gc20:BCode:=(.seq (R_ 2 [O_ 2 (.bx (t_ 0)) 0,O_ 4 (.al (.agg [(.lit (.int .i64 0)),(.lit (.int .i64 0)),(.sl [] true),(.sl [] true)])) 1,O_ 5 (.mv (i_ 0)) 2]) (.seq (.reg 1 [O_ 11 (.ld 4 true (t_ 2)) 0,O_ 12 (.cl 51 [(t_ 11)]) 0,O_ 6 (.al (.agg [(.lit (.int .i64 0)),(.lit (.int .i64 0)),(.sl [] true),(.sl [] true)])) 0,U_ (.st 4 (t_ 6) (t_ 12)) 1] none 2 []) (.seq (.seq (R_ 0 [O_ 13 (.ld 4 true (t_ 2)) 0,O_ 14 (.cl 49 [(t_ 13)]) 0,O_ 7 (.mv (t_ 14)) 0]) (.seq (R_ 0 [O_ 15 (.mv (t_ 7)) 0,O_ 16 (.bin .neq (t_ 15) (i_ 0)) 0]) (.cond (t_ 16) (.seq (R_ 0 [O_ 17 (.ld 4 true (t_ 6)) 0,O_ 18 (.mv (t_ 7)) 0,U_ (.st 4 (t_ 4) (t_ 17)) 0,O_ 5 (.mv (t_ 18)) 0]) .ret) .skip))) (.seq (.seq (R_ 0 [O_ 20 (.ld 4 true (t_ 2)) 0,O_ 21 (.mv (t_ 1)) 0,O_ 22 (.cl 54 [(t_ 20),(t_ 21)]) 0,O_ 19 (.mv (t_ 22)) 0,O_ 23 (.ex (t_ 19) 0) 0,O_ 24 (.ex (t_ 19) 1) 0,O_ 8 (.mv (t_ 23)) 0,O_ 9 (.mv (t_ 24)) 0]) (.seq (R_ 0 [O_ 25 (.mv (t_ 9)) 0,O_ 26 (.un .not (t_ 25)) 0]) (.cond (t_ 26) (.seq (R_ 0 [O_ 27 (.ld 4 true (t_ 6)) 0,U_ (.st 4 (t_ 4) (t_ 27)) 0,O_ 5 (.mv (i_ 6)) 0]) .ret) .skip))) (.join (.seq (R_ 0 [O_ 28 (.ld 4 true (t_ 2)) 0,O_ 29 (.cl 52 [(t_ 28),(b_ true),(b_ false)]) 0,O_ 10 (.mv (t_ 29)) 0]) (.seq (R_ 0 [O_ 30 (.mv (t_ 10)) 0,O_ 31 (.bin .neq (t_ 30) (i_ 0)) 0]) (.cond (t_ 31) (.seq (R_ 0 [O_ 32 (.ld 4 true (t_ 6)) 0,O_ 33 (.mv (t_ 10)) 0,U_ (.st 4 (t_ 4) (t_ 32)) 0,O_ 5 (.mv (t_ 33)) 0]) .ret) .skip))) (.seq (R_ 0 [O_ 34 (.ld 4 true (t_ 6)) 0,O_ 35 (.mv (t_ 1)) 0,O_ 36 (.bd [(.lit (.string ⟨#[]⟩)),(.lit (.string ⟨#[]⟩)),(.lit (.int .i64 0)),(.lit (.int .i64 0)),(.lit (.bool false))] [(0,1,(t_ 35))]) 0,O_ 37 (.cl 53 [(t_ 34),(t_ 36)]) 0,U_ (.st 4 (t_ 4) (t_ 37)) 0,O_ 5 (.mv (i_ 0)) 0]) .ret))))))
theorem gc20_ok:compF Try.prog Try.f20=some (gc20.er,38,[.cell 4 4 true,.tmp 5]):=by unfold gc20;kernel_rfl
theorem p_roster_Drop_v {u1 u2:Bool} (a0:RosterState) (a1:ByteArray):CallsO Try.prog 20 [.agg [.i a0.Ver,.i a0.Floor,.sl (List.map ItemItem.v a0.Items) u1,.sl (List.map RosterGone.v a0.Gone) u2],.s a1] (fun r:RosterState × Int=>.tup [RosterState.v r.1,V.i r.2]) (p_roster_Drop a0 a1):=by
 refine callsO_comp mix Try.func20 gc20_ok fun r H=>?_
 rw [p_roster_Drop] at H
 conv=>whnf
 refine p_roster_State_own_c (i:=3) (j:=4) H (by decide) rfl rfl (fun H=>?_) (fun G H=>?_) (fun I H=>?_) (fun I G H=>?_)
 ·try dsimp only at H
  conv=>whnf
  refine lq_ ?_;conv=>whnf
  refine ask_c (p_roster_Check_v _) H rfl rfl (fun v1 H=>?_);conv=>whnf
  refine tst_c H (fun b2 H=>?_) (fun b2 H=>?_)
  ·conv=>whnf
   refine lq_ ?_;conv=>whnf
   refine finR_c (enc:=(fun r:RosterState × Int=>.tup [RosterState.v r.1,V.i r.2])) H ?_;conv=>whnf
   exact ⟨_,.tup (.cons (fzagg (.cons (.id rfl) (.cons (.id rfl) (.cons (.slw) (.cons (.slw) (.nil))))) rfl) (.cons (.c (.id rfl)) (.nil)))⟩
  conv=>whnf
  refine ask_c (p_roster_State_find_v _ _) H rfl rfl (fun v3 H=>?_);conv=>whnf
  refine Tst.not ?_
  refine tst_d H (fun b4 H=>?_) (fun b4 H=>?_)
  ·conv=>whnf
   refine lq_ ?_;conv=>whnf
   refine finR_c (enc:=(fun r:RosterState × Int=>.tup [RosterState.v r.1,V.i r.2])) H ?_;conv=>whnf
   exact ⟨_,.tup (.cons (fzagg (.cons (.id rfl) (.cons (.id rfl) (.cons (.slw) (.cons (.slw) (.nil))))) rfl) (.cons (.c (.id rfl)) (.nil)))⟩
  conv=>whnf
  obtain ⟨K5,hK6,o7,HL8,HQ9⟩:=join0_c H
  refine join_c [5,4,6] [10,28,29,30,31,32,33,2] (fun vals st=>(K5 (.inr ())=some r∧vals=[.i (0:Int),.ptr 0 0,.ptr 1 0]∧st=[.live [.i (0:Int),.i (0:Int),.sl (List.map ItemItem.v []) true,.sl (List.map RosterGone.v []) true] 0,.live [.i a0.Ver,.i a0.Floor,.sl (List.map ItemItem.v []) true,.sl (List.map RosterGone.v []) true] 0,.dead,.dead,.dead])) ?_ ?_
  ·have H:=HL8
   conv=>whnf
   refine ask_c (p_roster_State_may_v _ _ _) H rfl rfl (fun v11 H=>?_);conv=>whnf
   refine tst_d H (fun b12 H=>?_) (fun b12 H=>?_)
   ·conv=>whnf
    obtain rfl:=Option.some.inj H
    exact arrive_c [10,28,29,30,31,32,33,2] 5 [1,2,0,0,0] (⟨HQ9,rfl,rfl⟩) (Nat.zero_le _) rfl (by kernel_rfl) (by kernel_rfl) rfl ⟨⟨rfl,rfl,rfl⟩,⟨⟨rfl,rfl,rfl⟩,trivial⟩⟩
   conv=>whnf
   refine lq_ ?_;conv=>whnf
   obtain rfl:=Option.some.inj H
   have H:=HQ9
   rw [hK6] at H
   try dsimp only at H
   refine finR_c (enc:=(fun r:RosterState × Int=>.tup [RosterState.v r.1,V.i r.2])) H ?_;conv=>whnf
   exact ⟨_,.tup (.cons (fzagg (.cons (.id rfl) (.cons (.id rfl) (.cons (.slw) (.cons (.slw) (.nil))))) rfl) (.cons (.c (.id rfl)) (.nil)))⟩
  rintro _ _ (⟨H,rfl,rfl⟩)
  rw [hK6] at H
  try dsimp only at H
  conv=>whnf
  refine askW_c (fun s hs=>p_roster_State_change_nn _ _ _ rfl rfl rfl s hs) H rfl rfl rfl (fun v13 H=>?_);conv=>whnf
  refine lq_ ?_;conv=>whnf
  exact fin0_c (enc:=(fun r:RosterState × Int=>.tup [RosterState.v r.1,V.i r.2])) H (.inr rfl) (.cons (.cell rfl rfl (Nat.le_of_ble_eq_true rfl)) (.cons (.tmp rfl) (.nil))) rfl rfl
 ·try dsimp only at H
  conv=>whnf
  refine lq_ ?_;conv=>whnf
  refine ask_c (p_roster_Check_v _) H rfl rfl (fun v14 H=>?_);conv=>whnf
  refine tst_c H (fun b15 H=>?_) (fun b15 H=>?_)
  ·conv=>whnf
   refine lq_ ?_;conv=>whnf
   refine finRz_c (enc:=(fun r:RosterState × Int=>.tup [RosterState.v r.1,V.i r.2])) [4] H ?_;conv=>whnf
   refine ⟨Nat.zero_le _,?_⟩;conv=>whnf
   exact ⟨_,.tup (.cons (fzagg (.cons (.id rfl) (.cons (.id rfl) (.cons (.slw) (.cons (fzown (f:=RosterGone.v) (l:=G) rfl rfl (fun _=>rfl) (fun _=>rfl)) (.nil))))) rfl) (.cons (.c (.id rfl)) (.nil)))⟩
  conv=>whnf
  refine ask_c (p_roster_State_find_v _ _) H rfl rfl (fun v16 H=>?_);conv=>whnf
  refine Tst.not ?_
  refine tst_d H (fun b17 H=>?_) (fun b17 H=>?_)
  ·conv=>whnf
   refine lq_ ?_;conv=>whnf
   refine finRz_c (enc:=(fun r:RosterState × Int=>.tup [RosterState.v r.1,V.i r.2])) [4] H ?_;conv=>whnf
   refine ⟨Nat.zero_le _,?_⟩;conv=>whnf
   exact ⟨_,.tup (.cons (fzagg (.cons (.id rfl) (.cons (.id rfl) (.cons (.slw) (.cons (fzown (f:=RosterGone.v) (l:=G) rfl rfl (fun _=>rfl) (fun _=>rfl)) (.nil))))) rfl) (.cons (.c (.id rfl)) (.nil)))⟩
  conv=>whnf
  obtain ⟨K18,hK19,o20,HL21,HQ22⟩:=join0_c H
  refine join_c [5,4,6] [10,28,29,30,31,32,33,2,12] (fun vals st=>(K18 (.inr ())=some r∧vals=[.i (0:Int),.ptr 0 0,.ptr 1 0]∧st=[.live [.i (0:Int),.i (0:Int),.sl (List.map ItemItem.v []) true,.sl (List.map RosterGone.v []) true] 0,.live [.i a0.Ver,.i a0.Floor,.sl (List.map ItemItem.v []) true,.osl 3 0 (List.length G) 2 false] 0,.dead,.live (cellsM RosterGone.v G) 0,.dead])) ?_ ?_
  ·have H:=HL21
   conv=>whnf
   refine ask_c (p_roster_State_may_v _ _ _) H rfl rfl (fun v24 H=>?_);conv=>whnf
   refine tst_d H (fun b25 H=>?_) (fun b25 H=>?_)
   ·conv=>whnf
    obtain rfl:=Option.some.inj H
    exact arrive_c [10,28,29,30,31,32,33,2,12] 5 [1,2,0,4,0] (⟨HQ22,rfl,rfl⟩) (Nat.zero_le _) rfl (by kernel_rfl) (by kernel_rfl) rfl ⟨⟨rfl,rfl,rfl⟩,⟨⟨rfl,rfl,rfl⟩,wkB_live0 rfl (cellsM_idlt (f:=RosterGone.v) (fun _=>rfl) _) rfl trivial⟩⟩
   conv=>whnf
   refine lq_ ?_;conv=>whnf
   obtain rfl:=Option.some.inj H
   have H:=HQ22
   rw [hK19] at H
   try dsimp only at H
   refine finRz_c (enc:=(fun r:RosterState × Int=>.tup [RosterState.v r.1,V.i r.2])) [4] H ?_;conv=>whnf
   refine ⟨Nat.zero_le _,?_⟩;conv=>whnf
   exact ⟨_,.tup (.cons (fzagg (.cons (.id rfl) (.cons (.id rfl) (.cons (.slw) (.cons (fzown (f:=RosterGone.v) (l:=G) rfl rfl (fun _=>rfl) (fun _=>rfl)) (.nil))))) rfl) (.cons (.c (.id rfl)) (.nil)))⟩
  rintro _ _ (⟨H,rfl,rfl⟩)
  rw [hK19] at H
  try dsimp only at H
  conv=>whnf
  refine askW_c (fun s hs=>p_roster_State_change_no _ _ _ _ rfl rfl rfl s hs) H rfl rfl rfl (fun v26 H=>?_);conv=>whnf
  refine lq_ ?_;conv=>whnf
  exact fin0_c (enc:=(fun r:RosterState × Int=>.tup [RosterState.v r.1,V.i r.2])) H (.inr rfl) (.cons (.cell rfl rfl (Nat.le_of_ble_eq_true rfl)) (.cons (.tmp rfl) (.nil))) rfl rfl
 ·try dsimp only at H
  conv=>whnf
  refine lq_ ?_;conv=>whnf
  refine ask_c (p_roster_Check_v _) H rfl rfl (fun v27 H=>?_);conv=>whnf
  refine tst_c H (fun b28 H=>?_) (fun b28 H=>?_)
  ·conv=>whnf
   refine lq_ ?_;conv=>whnf
   refine finRz_c (enc:=(fun r:RosterState × Int=>.tup [RosterState.v r.1,V.i r.2])) [3] H ?_;conv=>whnf
   refine ⟨Nat.zero_le _,?_⟩;conv=>whnf
   exact ⟨_,.tup (.cons (fzagg (.cons (.id rfl) (.cons (.id rfl) (.cons (fzown (f:=ItemItem.v) (l:=I) rfl rfl (fun _=>rfl) (fun _=>rfl)) (.cons (.slw) (.nil))))) rfl) (.cons (.c (.id rfl)) (.nil)))⟩
  conv=>whnf
  refine ask_c (p_roster_State_find_v _ _) H rfl rfl (fun v29 H=>?_);conv=>whnf
  refine Tst.not ?_
  refine tst_d H (fun b30 H=>?_) (fun b30 H=>?_)
  ·conv=>whnf
   refine lq_ ?_;conv=>whnf
   refine finRz_c (enc:=(fun r:RosterState × Int=>.tup [RosterState.v r.1,V.i r.2])) [3] H ?_;conv=>whnf
   refine ⟨Nat.zero_le _,?_⟩;conv=>whnf
   exact ⟨_,.tup (.cons (fzagg (.cons (.id rfl) (.cons (.id rfl) (.cons (fzown (f:=ItemItem.v) (l:=I) rfl rfl (fun _=>rfl) (fun _=>rfl)) (.cons (.slw) (.nil))))) rfl) (.cons (.c (.id rfl)) (.nil)))⟩
  conv=>whnf
  obtain ⟨K31,hK32,o33,HL34,HQ35⟩:=join0_c H
  refine join_c [5,4,6] [10,28,29,30,31,32,33,2,12] (fun vals st=>(K31 (.inr ())=some r∧vals=[.i (0:Int),.ptr 0 0,.ptr 1 0]∧st=[.live [.i (0:Int),.i (0:Int),.sl (List.map ItemItem.v []) true,.sl (List.map RosterGone.v []) true] 0,.live [.i a0.Ver,.i a0.Floor,.osl 2 0 (List.length I) 5 false,.sl (List.map RosterGone.v []) true] 0,.live (cellsM ItemItem.v I) 0,.dead,.dead])) ?_ ?_
  ·have H:=HL34
   conv=>whnf
   refine ask_c (p_roster_State_may_v _ _ _) H rfl rfl (fun v37 H=>?_);conv=>whnf
   refine tst_d H (fun b38 H=>?_) (fun b38 H=>?_)
   ·conv=>whnf
    obtain rfl:=Option.some.inj H
    exact arrive_c [10,28,29,30,31,32,33,2,12] 5 [1,2,3,0,0] (⟨HQ35,rfl,rfl⟩) (Nat.zero_le _) rfl (by kernel_rfl) (by kernel_rfl) rfl ⟨⟨rfl,rfl,rfl⟩,⟨⟨rfl,rfl,rfl⟩,wkB_live0 rfl (cellsM_idlt (f:=ItemItem.v) (fun _=>rfl) _) rfl trivial⟩⟩
   conv=>whnf
   refine lq_ ?_;conv=>whnf
   obtain rfl:=Option.some.inj H
   have H:=HQ35
   rw [hK32] at H
   try dsimp only at H
   refine finRz_c (enc:=(fun r:RosterState × Int=>.tup [RosterState.v r.1,V.i r.2])) [3] H ?_;conv=>whnf
   refine ⟨Nat.zero_le _,?_⟩;conv=>whnf
   exact ⟨_,.tup (.cons (fzagg (.cons (.id rfl) (.cons (.id rfl) (.cons (fzown (f:=ItemItem.v) (l:=I) rfl rfl (fun _=>rfl) (fun _=>rfl)) (.cons (.slw) (.nil))))) rfl) (.cons (.c (.id rfl)) (.nil)))⟩
  rintro _ _ (⟨H,rfl,rfl⟩)
  rw [hK32] at H
  try dsimp only at H
  conv=>whnf
  refine askW_c (fun s hs=>p_roster_State_change_on _ _ _ _ rfl rfl rfl s hs) H rfl rfl rfl (fun v39 H=>?_);conv=>whnf
  refine lq_ ?_;conv=>whnf
  exact fin0_c (enc:=(fun r:RosterState × Int=>.tup [RosterState.v r.1,V.i r.2])) H (.inr rfl) (.cons (.cell rfl rfl (Nat.le_of_ble_eq_true rfl)) (.cons (.tmp rfl) (.nil))) rfl rfl
 try dsimp only at H
 conv=>whnf
 refine lq_ ?_;conv=>whnf
 refine ask_c (p_roster_Check_v _) H rfl rfl (fun v40 H=>?_);conv=>whnf
 refine tst_c H (fun b41 H=>?_) (fun b41 H=>?_)
 ·conv=>whnf
  refine lq_ ?_;conv=>whnf
  refine finRz_c (enc:=(fun r:RosterState × Int=>.tup [RosterState.v r.1,V.i r.2])) [3,4] H ?_;conv=>whnf
  refine ⟨Nat.zero_le _,?_⟩;conv=>whnf
  refine ⟨Nat.zero_le _,?_⟩;conv=>whnf
  exact ⟨_,.tup (.cons (fzagg (.cons (.id rfl) (.cons (.id rfl) (.cons (fzown (f:=ItemItem.v) (l:=I) rfl rfl (fun _=>rfl) (fun _=>rfl)) (.cons (fzown (f:=RosterGone.v) (l:=G) rfl rfl (fun _=>rfl) (fun _=>rfl)) (.nil))))) rfl) (.cons (.c (.id rfl)) (.nil)))⟩
 conv=>whnf
 refine ask_c (p_roster_State_find_v _ _) H rfl rfl (fun v42 H=>?_);conv=>whnf
 refine Tst.not ?_
 refine tst_d H (fun b43 H=>?_) (fun b43 H=>?_)
 ·conv=>whnf
  refine lq_ ?_;conv=>whnf
  refine finRz_c (enc:=(fun r:RosterState × Int=>.tup [RosterState.v r.1,V.i r.2])) [3,4] H ?_;conv=>whnf
  refine ⟨Nat.zero_le _,?_⟩;conv=>whnf
  refine ⟨Nat.zero_le _,?_⟩;conv=>whnf
  exact ⟨_,.tup (.cons (fzagg (.cons (.id rfl) (.cons (.id rfl) (.cons (fzown (f:=ItemItem.v) (l:=I) rfl rfl (fun _=>rfl) (fun _=>rfl)) (.cons (fzown (f:=RosterGone.v) (l:=G) rfl rfl (fun _=>rfl) (fun _=>rfl)) (.nil))))) rfl) (.cons (.c (.id rfl)) (.nil)))⟩
 conv=>whnf
 obtain ⟨K44,hK45,o46,HL47,HQ48⟩:=join0_c H
 refine join_c [5,4,6] [10,28,29,30,31,32,33,2,12] (fun vals st=>(K44 (.inr ())=some r∧vals=[.i (0:Int),.ptr 0 0,.ptr 1 0]∧st=[.live [.i (0:Int),.i (0:Int),.sl (List.map ItemItem.v []) true,.sl (List.map RosterGone.v []) true] 0,.live [.i a0.Ver,.i a0.Floor,.osl 2 0 (List.length I) 5 false,.osl 3 0 (List.length G) 2 false] 0,.live (cellsM ItemItem.v I) 0,.live (cellsM RosterGone.v G) 0,.dead])) ?_ ?_
 ·have H:=HL47
  conv=>whnf
  refine ask_c (p_roster_State_may_v _ _ _) H rfl rfl (fun v50 H=>?_);conv=>whnf
  refine tst_d H (fun b51 H=>?_) (fun b51 H=>?_)
  ·conv=>whnf
   obtain rfl:=Option.some.inj H
   exact arrive_c [10,28,29,30,31,32,33,2,12] 5 [1,2,3,4,0] (⟨HQ48,rfl,rfl⟩) (Nat.zero_le _) rfl (by kernel_rfl) (by kernel_rfl) rfl ⟨⟨rfl,rfl,rfl⟩,⟨⟨rfl,rfl,rfl⟩,wkB_live0 rfl (cellsM_idlt (f:=ItemItem.v) (fun _=>rfl) _) rfl (wkB_live0 rfl (cellsM_idlt (f:=RosterGone.v) (fun _=>rfl) _) rfl trivial)⟩⟩
  conv=>whnf
  refine lq_ ?_;conv=>whnf
  obtain rfl:=Option.some.inj H
  have H:=HQ48
  rw [hK45] at H
  try dsimp only at H
  refine finRz_c (enc:=(fun r:RosterState × Int=>.tup [RosterState.v r.1,V.i r.2])) [3,4] H ?_;conv=>whnf
  refine ⟨Nat.zero_le _,?_⟩;conv=>whnf
  refine ⟨Nat.zero_le _,?_⟩;conv=>whnf
  exact ⟨_,.tup (.cons (fzagg (.cons (.id rfl) (.cons (.id rfl) (.cons (fzown (f:=ItemItem.v) (l:=I) rfl rfl (fun _=>rfl) (fun _=>rfl)) (.cons (fzown (f:=RosterGone.v) (l:=G) rfl rfl (fun _=>rfl) (fun _=>rfl)) (.nil))))) rfl) (.cons (.c (.id rfl)) (.nil)))⟩
 rintro _ _ (⟨H,rfl,rfl⟩)
 rw [hK45] at H
 try dsimp only at H
 conv=>whnf
 refine askW_c (fun s hs=>p_roster_State_change_oo _ _ _ _ _ rfl rfl rfl s hs) H rfl rfl rfl (fun v52 H=>?_);conv=>whnf
 refine lq_ ?_;conv=>whnf
 exact fin0_c (enc:=(fun r:RosterState × Int=>.tup [RosterState.v r.1,V.i r.2])) H (.inr rfl) (.cons (.cell rfl rfl (Nat.le_of_ble_eq_true rfl)) (.cons (.tmp rfl) (.nil))) rfl rfl
end Go.Proofs.Ytmmmcpeickfolaa

