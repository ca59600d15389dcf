/- A part of the proof: 5 texts joined. -/
import Derived.Test.YtmmmcpeickfolaaYbA16
import Derived.Test.YtmmmcpeickfolaaYbA18
import Derived.Test.YtmmmcpeickfolaaYbA10
import Derived.KernelRfl
import Derived.Test.YtmmmcpeickfolaaYbA13
import Derived.Lib.SliceRun
import Derived.Test.YtmmmcpeickfolaaYbA15
import Derived.Test.YtmmmcpeickfolaaYbA14
import Derived.Deep.RegionLaw
set_option linter.all false
namespace Go.Proofs.Ytmmmcpeickfolaa
open Go.RowKit
set_option maxRecDepth 100000
set_option maxHeartbeats 4000000
def gc95:BCode:=(.seq (R_ 1 [O_ 1 (.bx (t_ 0)) 0,O_ 2 (.mv (b_ false)) 1]) (.seq (R_ 0 [O_ 9 (.fa 1 (t_ 1)) 0,O_ 10 (.ld 1 false (t_ 9)) 0,O_ 3 (.mv (t_ 10)) 0]) (.seq (.seq (R_ 0 [O_ 11 (.fa 3 (t_ 1)) 0,O_ 12 (.ld 1 false (t_ 11)) 0,O_ 13 (.lens (t_ 12)) 0,O_ 14 (.mv (i_ 0)) 0]) (.block 0 (.loop (.seq (R_ 0 [O_ 15 (.bin .lss (t_ 14) (t_ 13)) 0]) (.seq (.cond (t_ 15) .skip (.exit 0)) (.seq (.block 1 (.seq (R_ 1 [O_ 16 (.mv (t_ 14)) 0,O_ 17 (.ixs 2 (t_ 12) (t_ 14)) 0,O_ 18 (.ld 2 true (t_ 17)) 0,O_ 5 (.al (.agg [(.lit (.string ⟨#[]⟩)),(.lit (.int .i64 0))])) 0,O_ 4 (.mv (t_ 16)) 1,U_ (.st 2 (t_ 5) (t_ 18)) 1]) (.seq (.seq (R_ 0 [O_ 19 (.fa 1 (t_ 5)) 0,O_ 20 (.ld 1 false (t_ 19)) 0,O_ 21 (.mv (t_ 3)) 0,O_ 22 (.bin .leq (t_ 20) (t_ 21)) 0,O_ 23 (.mv (t_ 22)) 0,⟨(some 24),.fa 1 (t_ 5),(some (23,false)),0⟩,⟨(some 25),.ld 1 false (t_ 24),(some (23,false)),0⟩,⟨(some 26),.fa 0 (t_ 1),(some (23,false)),0⟩,⟨(some 27),.ld 1 false (t_ 26),(some (23,false)),0⟩,⟨(some 28),.bin .gtr (t_ 25) (t_ 27),(some (23,false)),0⟩,O_ 29 (.pick (t_ 23) (b_ true) (t_ 28)) 0]) (.cond (t_ 29) (.seq (R_ 0 [O_ 2 (.mv (b_ false)) 0]) .ret) .skip)) (.seq (R_ 0 [O_ 30 (.fa 1 (t_ 5)) 0,O_ 31 (.ld 1 false (t_ 30)) 0,O_ 3 (.mv (t_ 31)) 0]) (.seq (.seq (.reg 0 [O_ 32 (.fa 3 (t_ 1)) 0,O_ 33 (.ld 1 false (t_ 32)) 0,O_ 34 (.mv (t_ 4)) 0,O_ 35 (.sls 2 (t_ 33) none (some (t_ 34)) none) 0,O_ 36 (.mf (.func 129) [(t_ 5)]) 0,O_ 37 (.cl 92 [(t_ 35),(t_ 36)]) 0] none 0 [5]) (.cond (t_ 37) (.seq (R_ 0 [O_ 2 (.mv (b_ false)) 0]) .ret) .skip)) (.seq (.seq (R_ 0 [O_ 38 (.ld 4 true (t_ 1)) 0,O_ 39 (.fa 1 (t_ 5)) 0,O_ 40 (.ld 1 false (t_ 39)) 0,O_ 41 (.cl 128 [(t_ 38),(t_ 40)]) 0,O_ 6 (.mv (t_ 41)) 0]) (.seq (.reg 0 [O_ 42 (.mv (t_ 6)) 0,O_ 43 (.bin .geq (t_ 42) (i_ 0)) 0,O_ 44 (.mv (t_ 43)) 0,⟨(some 45),.fa 2 (t_ 1),(some (44,true)),0⟩,⟨(some 46),.ld 1 false (t_ 45),(some (44,true)),0⟩,⟨(some 47),.mv (t_ 6),(some (44,true)),0⟩,⟨(some 48),.ixs 5 (t_ 46) (t_ 47),(some (44,true)),0⟩,⟨(some 49),.fa 0 (t_ 48),(some (44,true)),0⟩,⟨(some 50),.ld 1 false (t_ 49),(some (44,true)),0⟩,⟨(some 51),.fa 0 (t_ 5),(some (44,true)),0⟩,⟨(some 52),.ld 1 false (t_ 51),(some (44,true)),0⟩,⟨(some 53),.bin .neq (t_ 50) (t_ 52),(some (44,true)),0⟩,O_ 54 (.pick (t_ 44) (t_ 53) (b_ false)) 0] (some [[],[0],[0,1],[1,0,2],[2,0,1,3],[1,0,2],[5,3,1,0,2,4],[4,2,0,1,3,5,6],[6,5,3,1,0,2,4,7],[1,0,2],[2,0,1,9],[9,10,7,4,2,0,1,3,5,6,8],[8,6,5,3,4,7,10,9,11,1,0,2]]) 0 []) (.cond (t_ 54) (.seq (R_ 0 [O_ 2 (.mv (b_ false)) 0]) .ret) .skip))) (.seq (R_ 0 [O_ 56 (.ld 4 true (t_ 1)) 0,O_ 57 (.fa 0 (t_ 5)) 0,O_ 58 (.ld 1 false (t_ 57)) 0,O_ 59 (.cl 54 [(t_ 56),(t_ 58)]) 0,O_ 55 (.mv (t_ 59)) 0,O_ 60 (.ex (t_ 55) 0) 0,O_ 61 (.ex (t_ 55) 1) 0,O_ 7 (.mv (t_ 60)) 0,O_ 8 (.mv (t_ 61)) 0]) (.seq (R_ 0 [O_ 62 (.mv (t_ 8)) 0,O_ 63 (.mv (t_ 62)) 0,⟨(some 64),.fa 2 (t_ 1),(some (63,true)),0⟩,⟨(some 65),.ld 1 false (t_ 64),(some (63,true)),0⟩,⟨(some 66),.mv (t_ 7),(some (63,true)),0⟩,⟨(some 67),.ixs 5 (t_ 65) (t_ 66),(some (63,true)),0⟩,⟨(some 68),.ld 5 true (t_ 67),(some (63,true)),0⟩,⟨(some 69),.cl 90 [(t_ 68)],(some (63,true)),0⟩,O_ 70 (.pick (t_ 63) (t_ 69) (b_ false)) 0]) (.cond (t_ 70) (.seq (R_ 0 [O_ 2 (.mv (b_ false)) 0]) .ret) .skip))))))))) (R_ 0 [O_ 71 (.bin .add (t_ 14) (i_ 1)) 0,O_ 14 (.mv (t_ 71)) 0]))))))) (.seq (R_ 0 [O_ 2 (.mv (b_ true)) 0]) .ret))))
theorem gc95_ok:compF Try.prog Try.f95=some (gc95.er,72,[.tmp 2]):=by unfold gc95;kernel_rfl
theorem p_roster_State_left_v {u1 u2:Bool} (a0:RosterState):CallsO Try.prog 95 [.agg [.i a0.Ver,.i a0.Floor,.sl (List.map ItemItem.v a0.Items) u1,.sl (List.map RosterGone.v a0.Gone) u2]] V.b (p_roster_State_left a0):=by
 refine callsO_comp mix Try.func95 gc95_ok fun r H=>?_
 rw [p_roster_State_left] at H
 conv=>whnf
 refine LenQ.M ?_;conv=>whnf
 obtain ⟨o2,HL3,HQ4⟩:=bind_c H
 refine loop_c [2,3,14] [4,5,6,7,8,15,16,17,18,19,20,21,22,23,24,25,26,27,28,29,30,31,32,33,34,35,36,37,38,39,40,41,42,43,44,45,46,47,48,49,50,51,52,53,54,55,56,57,58,59,60,61,62,63,64,65,66,67,68,69,70,71,9,11] [4,5,6,7,8,15,16,17,18,19,20,21,22,23,24,25,26,27,28,29,30,31,32,33,34,35,36,37,38,39,40,41,42,43,44,45,46,47,48,49,50,51,52,53,54,55,56,57,58,59,60,61,62,63,64,65,66,67,68,69,70,71,9,11] (fun n vals st=>(∃ y6 y7,p_roster_State_left_l1  a0.Gone (a0.Gone.length:Int) a0 n y6 y7=some o2∧vals=[.b false,.i y6,.i y7]∧st=[.live [.i a0.Ver,.i a0.Floor,.sl (List.map ItemItem.v a0.Items) u1,.sl (List.map RosterGone.v a0.Gone) u2] 0])) fuel 1 [] (⟨_,_,HL3,rfl,rfl⟩) (Nat.zero_le _) rfl (by kernel_rfl) (by kernel_rfl) rfl ⟨⟨rfl,rfl,rfl⟩,trivial⟩ ?_
 rintro (_ | n5) _ _ (⟨y6,y7,H,rfl,rfl⟩)
 ·rw [p_roster_State_left_l1] at H;cases H
 rw [p_roster_State_left_l1] at H
 conv=>whnf
 refine tst_d H (fun b8 H=>?_) (fun b8 H=>?_)
 ·conv=>whnf
  obtain rfl:=Option.some.inj H
  have H:=HQ4
  try dsimp only at H
  exact fb_ H
 conv=>whnf
 refine ixs_c (f:=RosterGone.v) H (fun _=>rfl) (fun x9 H=>?_);conv=>whnf
 refine lq_ ?_;conv=>whnf
 refine tst_c H (fun b10 H=>?_) (fun b10 H=>?_)
 ·conv=>whnf
  iterate 6 (refine Tst.T ?_;conv=>whnf)
  obtain rfl:=Option.some.inj H
  have H:=HQ4
  try dsimp only at H
  exact fb_ H
 conv=>whnf
 iterate 5 (refine Tst.F ?_;conv=>whnf)
 refine tst_c H (fun b11 H=>?_) (fun b11 H=>?_)
 ·conv=>whnf
  obtain rfl:=Option.some.inj H
  have H:=HQ4
  try dsimp only at H
  exact fb_ H
 conv=>whnf
 refine ⟨Nat.zero_le _,?_⟩;conv=>whnf
 refine slsH_c (f:=RosterGone.v) H (fun _=>rfl) (fun x12 H=>?_);conv=>whnf
 refine askF_c (p_slices_ContainsFunc_roster_Gone_v _ _ ⟨⟨_,Try.func129,by kernel_rfl,by kernel_rfl⟩,rfl,fun x0=>p_roster_State_left_1_v _ _⟩) H (.cons (.c (.id rfl)) (.cons (.c (.clo (.cons (.ptr rfl (Nat.le_of_ble_eq_true rfl) (.cons (.id rfl) (.cons (.id rfl) (.nil)))) (.nil)))) (.nil))) (fun v13 H=>?_);conv=>whnf
 refine tst_c H (fun b14 H=>?_) (fun b14 H=>?_)
 ·conv=>whnf
  obtain rfl:=Option.some.inj H
  have H:=HQ4
  try dsimp only at H
  exact fb_ H
 conv=>whnf
 refine ask_c (p_roster_State_of_v _ _) H rfl rfl (fun v15 H=>?_);conv=>whnf
 refine tst_d H (fun b16 H=>?_) (fun b16 H=>?_)
 ·conv=>whnf
  iterate 9 (refine Tst.F ?_;conv=>whnf)
  refine FootQ.mk ⟨rfl,?_⟩;conv=>whnf
  refine Tst.F ?_;conv=>whnf
  refine ask_c (p_roster_State_find_v _ _) H rfl rfl (fun v24 H=>?_);conv=>whnf
  refine tst_d H (fun b25 H=>?_) (fun b25 H=>?_)
  ·conv=>whnf
   iterate 7 (refine Tst.F ?_;conv=>whnf)
   refine Ari.w ?_;conv=>whnf
   exact again_c [4,5,6,7,8,15,16,17,18,19,20,21,22,23,24,25,26,27,28,29,30,31,32,33,34,35,36,37,38,39,40,41,42,43,44,45,46,47,48,49,50,51,52,53,54,55,56,57,58,59,60,61,62,63,64,65,66,67,68,69,70,71,9,11] n5 1 [] (⟨_,_,H,rfl,rfl⟩) (Nat.lt_succ_self _) (Nat.zero_le _) rfl (by kernel_rfl) (by kernel_rfl) rfl ⟨⟨rfl,rfl,rfl⟩,trivial⟩
  conv=>whnf
  iterate 3 (refine Tst.T ?_;conv=>whnf)
  refine ixs_c (f:=ItemItem.v) H (fun _=>rfl) (fun x26 H=>?_);conv=>whnf
  iterate 2 (refine Tst.T ?_;conv=>whnf)
  refine ask_c (p_item_Listed_v _) H rfl rfl (fun v27 H=>?_);conv=>whnf
  refine Tst.T ?_;conv=>whnf
  refine tst_c H (fun b28 H=>?_) (fun b28 H=>?_)
  ·conv=>whnf
   obtain rfl:=Option.some.inj H
   have H:=HQ4
   try dsimp only at H
   exact fb_ H
  conv=>whnf
  refine Ari.w ?_;conv=>whnf
  exact again_c [4,5,6,7,8,15,16,17,18,19,20,21,22,23,24,25,26,27,28,29,30,31,32,33,34,35,36,37,38,39,40,41,42,43,44,45,46,47,48,49,50,51,52,53,54,55,56,57,58,59,60,61,62,63,64,65,66,67,68,69,70,71,9,11] n5 1 [] (⟨_,_,H,rfl,rfl⟩) (Nat.lt_succ_self _) (Nat.zero_le _) rfl (by kernel_rfl) (by kernel_rfl) rfl ⟨⟨rfl,rfl,rfl⟩,trivial⟩
 conv=>whnf
 iterate 3 (refine Tst.T ?_;conv=>whnf)
 refine ixs_c (f:=ItemItem.v) H (fun _=>rfl) (fun x17 H=>?_);conv=>whnf
 refine Tst.T ?_;conv=>whnf
 refine lq_ ?_;conv=>whnf
 iterate 5 (refine Tst.T ?_;conv=>whnf)
 refine FootQ.mk ⟨rfl,?_⟩;conv=>whnf
 refine Tst.not ?_
 refine tst_d H (fun b18 H=>?_) (fun b18 H=>?_)
 ·conv=>whnf
  obtain rfl:=Option.some.inj H
  have H:=HQ4
  try dsimp only at H
  exact fb_ H
 conv=>whnf
 refine ask_c (p_roster_State_find_v _ _) H rfl rfl (fun v19 H=>?_);conv=>whnf
 refine tst_d H (fun b20 H=>?_) (fun b20 H=>?_)
 ·conv=>whnf
  iterate 7 (refine Tst.F ?_;conv=>whnf)
  refine Ari.w ?_;conv=>whnf
  exact again_c [4,5,6,7,8,15,16,17,18,19,20,21,22,23,24,25,26,27,28,29,30,31,32,33,34,35,36,37,38,39,40,41,42,43,44,45,46,47,48,49,50,51,52,53,54,55,56,57,58,59,60,61,62,63,64,65,66,67,68,69,70,71,9,11] n5 1 [] (⟨_,_,H,rfl,rfl⟩) (Nat.lt_succ_self _) (Nat.zero_le _) rfl (by kernel_rfl) (by kernel_rfl) rfl ⟨⟨rfl,rfl,rfl⟩,trivial⟩
 conv=>whnf
 iterate 3 (refine Tst.T ?_;conv=>whnf)
 refine ixs_c (f:=ItemItem.v) H (fun _=>rfl) (fun x21 H=>?_);conv=>whnf
 iterate 2 (refine Tst.T ?_;conv=>whnf)
 refine ask_c (p_item_Listed_v _) H rfl rfl (fun v22 H=>?_);conv=>whnf
 refine Tst.T ?_;conv=>whnf
 refine tst_c H (fun b23 H=>?_) (fun b23 H=>?_)
 ·conv=>whnf
  obtain rfl:=Option.some.inj H
  have H:=HQ4
  try dsimp only at H
  exact fb_ H
 conv=>whnf
 refine Ari.w ?_;conv=>whnf
 exact again_c [4,5,6,7,8,15,16,17,18,19,20,21,22,23,24,25,26,27,28,29,30,31,32,33,34,35,36,37,38,39,40,41,42,43,44,45,46,47,48,49,50,51,52,53,54,55,56,57,58,59,60,61,62,63,64,65,66,67,68,69,70,71,9,11] n5 1 [] (⟨_,_,H,rfl,rfl⟩) (Nat.lt_succ_self _) (Nat.zero_le _) rfl (by kernel_rfl) (by kernel_rfl) rfl ⟨⟨rfl,rfl,rfl⟩,trivial⟩
def gc49:BCode:=(.seq (R_ 1 [O_ 1 (.bx (t_ 0)) 0,O_ 2 (.mv (i_ 0)) 1]) (.seq (.block 0 (.seq (.seq (R_ 0 [O_ 5 (.fa 2 (t_ 1)) 0,O_ 6 (.ld 1 false (t_ 5)) 0,O_ 7 (.lens (t_ 6)) 0,O_ 8 (.bin .gtr (t_ 7) (i_ 12)) 0,O_ 4 (.mv (t_ 8)) 0]) (.cond (t_ 4) .skip (R_ 0 [O_ 9 (.fa 3 (t_ 1)) 0,O_ 10 (.ld 1 false (t_ 9)) 0,O_ 11 (.lens (t_ 10)) 0,O_ 12 (.bin .gtr (t_ 11) (i_ 8)) 0,O_ 4 (.mv (t_ 12)) 0]))) (.cond (t_ 4) (.seq (R_ 0 [O_ 2 (.mv (i_ 5)) 0]) .ret) (.seq (.seq (R_ 0 [O_ 14 (.fa 0 (t_ 1)) 0,O_ 15 (.ld 1 false (t_ 14)) 0,O_ 16 (.bin .lss (t_ 15) (i_ 0)) 0,O_ 13 (.mv (t_ 16)) 0]) (.cond (t_ 13) .skip (.seq (R_ 0 [O_ 17 (.fa 0 (t_ 1)) 0,O_ 18 (.ld 1 false (t_ 17)) 0,O_ 19 (.bin .gtr (t_ 18) (i_ 1099511627776)) 0,O_ 13 (.mv (t_ 19)) 0]) (.cond (t_ 13) .skip (.seq (R_ 0 [O_ 20 (.fa 1 (t_ 1)) 0,O_ 21 (.ld 1 false (t_ 20)) 0,O_ 22 (.bin .lss (t_ 21) (i_ 0)) 0,O_ 13 (.mv (t_ 22)) 0]) (.cond (t_ 13) .skip (R_ 0 [O_ 23 (.fa 1 (t_ 1)) 0,O_ 24 (.ld 1 false (t_ 23)) 0,O_ 25 (.fa 0 (t_ 1)) 0,O_ 26 (.ld 1 false (t_ 25)) 0,O_ 27 (.bin .gtr (t_ 24) (t_ 26)) 0,O_ 13 (.mv (t_ 27)) 0]))))))) (.cond (t_ 13) (.seq (R_ 0 [O_ 2 (.mv (i_ 8)) 0]) .ret) .skip))))) (.seq (.seq (R_ 0 [O_ 28 (.ld 4 true (t_ 1)) 0,O_ 29 (.cl 91 [(t_ 28)]) 0,O_ 3 (.mv (t_ 29)) 0]) (.seq (R_ 0 [O_ 30 (.mv (t_ 3)) 0,O_ 31 (.bin .neq (t_ 30) (i_ 0)) 0]) (.cond (t_ 31) (.seq (R_ 0 [O_ 32 (.mv (t_ 3)) 0,O_ 2 (.mv (t_ 32)) 0]) .ret) .skip))) (.seq (.block 1 (.seq (R_ 0 [O_ 34 (.fa 3 (t_ 1)) 0,O_ 35 (.ld 1 false (t_ 34)) 0,O_ 36 (.cl 92 [(t_ 35),(.func 93)]) 0,O_ 33 (.mv (t_ 36)) 0]) (.cond (t_ 33) (.seq (R_ 0 [O_ 2 (.mv (i_ 11)) 0]) .ret) (.seq (.seq (R_ 0 [O_ 38 (.ld 4 true (t_ 1)) 0,O_ 39 (.cl 94 [(t_ 38)]) 0,O_ 40 (.un .not (t_ 39)) 0,O_ 37 (.mv (t_ 40)) 0]) (.cond (t_ 37) .skip (R_ 0 [O_ 41 (.ld 4 true (t_ 1)) 0,O_ 42 (.cl 95 [(t_ 41)]) 0,O_ 43 (.un .not (t_ 42)) 0,O_ 37 (.mv (t_ 43)) 0]))) (.cond (t_ 37) (.seq (R_ 0 [O_ 2 (.mv (i_ 10)) 0]) .ret) .skip))))) (.seq (R_ 0 [O_ 2 (.mv (i_ 0)) 0]) .ret)))))
theorem gc49_ok:compF Try.prog Try.f49=some (gc49.er,44,[.tmp 2]):=by unfold gc49;kernel_rfl
theorem p_roster_Check_v {u1 u2:Bool} (a0:RosterState):CallsO Try.prog 49 [.agg [.i a0.Ver,.i a0.Floor,.sl (List.map ItemItem.v a0.Items) u1,.sl (List.map RosterGone.v a0.Gone) u2]] V.i (p_roster_Check a0):=by
 refine callsO_comp mix Try.func49 gc49_ok fun r H=>?_
 rw [p_roster_Check] at H
 conv=>whnf
 refine LenQ.M ?_;conv=>whnf
 refine tst_c H (fun b1 H=>?_) (fun b1 H=>?_)
 ·conv=>whnf
  refine Tst.T ?_;conv=>whnf
  exact fi_ H
 conv=>whnf
 refine LenQ.M ?_;conv=>whnf
 refine tst_c H (fun b2 H=>?_) (fun b2 H=>?_)
 ·conv=>whnf
  exact fi_ H
 conv=>whnf
 refine tst_c H (fun b3 H=>?_) (fun b3 H=>?_)
 ·conv=>whnf
  refine Tst.T ?_;conv=>whnf
  exact fi_ H
 conv=>whnf
 refine tst_c H (fun b4 H=>?_) (fun b4 H=>?_)
 ·conv=>whnf
  refine Tst.T ?_;conv=>whnf
  exact fi_ H
 conv=>whnf
 refine tst_c H (fun b5 H=>?_) (fun b5 H=>?_)
 ·conv=>whnf
  refine Tst.T ?_;conv=>whnf
  exact fi_ H
 conv=>whnf
 refine tst_c H (fun b6 H=>?_) (fun b6 H=>?_)
 ·conv=>whnf
  exact fi_ H
 conv=>whnf
 refine ask_c (p_roster_State_errors_v _) H rfl rfl (fun v7 H=>?_);conv=>whnf
 refine tst_c H (fun b8 H=>?_) (fun b8 H=>?_)
 ·conv=>whnf
  exact fi_ H
 conv=>whnf
 refine askF_c (p_slices_ContainsFunc_roster_Gone_v _ _ ⟨⟨_,Try.func93,by kernel_rfl,by kernel_rfl⟩,rfl,fun x0=>p_roster_Check_1_v _⟩) H (.cons (.c (.slw)) (.cons (.c (.clo (.nil))) (.nil))) (fun v9 H=>?_);conv=>whnf
 refine tst_c H (fun b10 H=>?_) (fun b10 H=>?_)
 ·conv=>whnf
  exact fi_ H
 conv=>whnf
 refine ask_c (p_roster_State_rise_v _) H rfl rfl (fun v11 H=>?_);conv=>whnf
 refine Tst.not ?_
 refine tst_d H (fun b12 H=>?_) (fun b12 H=>?_)
 ·conv=>whnf
  refine Tst.T ?_;conv=>whnf
  exact fi_ H
 conv=>whnf
 refine ask_c (p_roster_State_left_v _) H rfl rfl (fun v13 H=>?_);conv=>whnf
 refine Tst.not ?_
 refine tst_c H (fun b14 H=>?_) (fun b14 H=>?_)
 ·conv=>whnf
  exact fi_ H
 conv=>whnf
 exact fi_ H
def gc22:BCode:=(.seq (R_ 2 [O_ 2 (.bx (t_ 0)) 0,O_ 4 (.al (.agg [(.lit (.string ⟨#[]⟩)),(.lit (.string ⟨#[]⟩)),(.lit (.int .i64 0)),(.lit (.int .i64 0)),(.lit (.bool false))])) 1,O_ 5 (.mv (b_ false)) 2]) (.seq (.seq (R_ 0 [O_ 8 (.ld 4 true (t_ 2)) 0,O_ 9 (.cl 49 [(t_ 8)]) 0,O_ 10 (.bin .neq (t_ 9) (i_ 0)) 0]) (.cond (t_ 10) (.seq (R_ 0 [O_ 11 (.bd [(.lit (.string ⟨#[]⟩)),(.lit (.string ⟨#[]⟩)),(.lit (.int .i64 0)),(.lit (.int .i64 0)),(.lit (.bool false))] []) 0,U_ (.st 5 (t_ 4) (t_ 11)) 0,O_ 5 (.mv (b_ false)) 0]) .ret) .skip)) (.seq (R_ 0 [O_ 13 (.ld 4 true (t_ 2)) 0,O_ 14 (.mv (t_ 1)) 0,O_ 15 (.cl 54 [(t_ 13),(t_ 14)]) 0,O_ 12 (.mv (t_ 15)) 0,O_ 16 (.ex (t_ 12) 0) 0,O_ 17 (.ex (t_ 12) 1) 0,O_ 6 (.mv (t_ 16)) 0,O_ 7 (.mv (t_ 17)) 0]) (.seq (.seq (R_ 0 [O_ 18 (.mv (t_ 7)) 0,O_ 19 (.un .not (t_ 18)) 0]) (.cond (t_ 19) (.seq (R_ 0 [O_ 20 (.bd [(.lit (.string ⟨#[]⟩)),(.lit (.string ⟨#[]⟩)),(.lit (.int .i64 0)),(.lit (.int .i64 0)),(.lit (.bool false))] []) 0,U_ (.st 5 (t_ 4) (t_ 20)) 0,O_ 5 (.mv (b_ false)) 0]) .ret) .skip)) (.seq (R_ 0 [O_ 21 (.fa 2 (t_ 2)) 0,O_ 22 (.ld 1 false (t_ 21)) 0,O_ 23 (.mv (t_ 6)) 0,O_ 24 (.ixs 5 (t_ 22) (t_ 23)) 0,O_ 25 (.ld 5 true (t_ 24)) 0,U_ (.st 5 (t_ 4) (t_ 25)) 0,O_ 5 (.mv (b_ true)) 0]) .ret)))))
theorem gc22_ok:compF Try.prog Try.f22=some (gc22.er,26,[.cell 4 5 true,.tmp 5]):=by unfold gc22;kernel_rfl
theorem p_roster_Find_v {u1 u2:Bool} (a0:RosterState) (a1:ByteArray):CallsO Try.prog 22 [.agg [.i a0.Ver,.i a0.Floor,.sl (List.map ItemItem.v a0.Items) u1,.sl (List.map RosterGone.v a0.Gone) u2],.s a1] (fun r:ItemItem × Bool=>.tup [ItemItem.v r.1,V.b r.2]) (p_roster_Find a0 a1):=by
 refine callsO_comp mix Try.func22 gc22_ok fun r H=>?_
 rw [p_roster_Find] at H
 conv=>whnf
 refine ask_c (p_roster_Check_v _) H rfl rfl (fun v1 H=>?_);conv=>whnf
 refine tst_c H (fun b2 H=>?_) (fun b2 H=>?_)
 ·conv=>whnf
  refine lq_ ?_;conv=>whnf
  exact fin0_c (enc:=(fun r:ItemItem × Bool=>.tup [ItemItem.v r.1,V.b r.2])) H (.inr rfl) (.cons (.cell rfl rfl (Nat.le_of_ble_eq_true rfl)) (.cons (.tmp rfl) (.nil))) rfl rfl
 conv=>whnf
 refine ask_c (p_roster_State_find_v _ _) H rfl rfl (fun v3 H=>?_);conv=>whnf
 refine Tst.not ?_
 refine tst_d H (fun b4 H=>?_) (fun b4 H=>?_)
 ·conv=>whnf
  refine lq_ ?_;conv=>whnf
  exact fin0_c (enc:=(fun r:ItemItem × Bool=>.tup [ItemItem.v r.1,V.b r.2])) H (.inr rfl) (.cons (.cell rfl rfl (Nat.le_of_ble_eq_true rfl)) (.cons (.tmp rfl) (.nil))) rfl rfl
 conv=>whnf
 refine ixs_c (f:=ItemItem.v) H (fun _=>rfl) (fun x5 H=>?_);conv=>whnf
 refine lq_ ?_;conv=>whnf
 exact fin0_c (enc:=(fun r:ItemItem × Bool=>.tup [ItemItem.v r.1,V.b r.2])) H (.inr rfl) (.cons (.cell rfl rfl (Nat.le_of_ble_eq_true rfl)) (.cons (.tmp rfl) (.nil))) rfl rfl
def gc52:BCode:=(.seq (R_ 1 [O_ 3 (.bx (t_ 0)) 0,O_ 6 (.mv (i_ 0)) 1]) (.seq (.block 0 (.seq (R_ 0 [O_ 8 (.mv (t_ 2)) 0,O_ 9 (.mv (t_ 8)) 0,⟨(some 10),.mv (t_ 1),(some (9,true)),0⟩,⟨(some 11),.un .not (t_ 10),(some (9,true)),0⟩,O_ 12 (.pick (t_ 9) (t_ 11) (b_ false)) 0,O_ 13 (.mv (t_ 12)) 0,⟨(some 14),.fa 2 (t_ 3),(some (13,true)),0⟩,⟨(some 15),.ld 1 false (t_ 14),(some (13,true)),0⟩,⟨(some 16),.lens (t_ 15),(some (13,true)),0⟩,⟨(some 17),.bin .geq (t_ 16) (i_ 12),(some (13,true)),0⟩,O_ 18 (.pick (t_ 13) (t_ 17) (b_ false)) 0,O_ 7 (.mv (t_ 18)) 0]) (.cond (t_ 7) (.seq (R_ 0 [O_ 6 (.mv (i_ 7)) 0]) .ret) (.seq (R_ 0 [O_ 20 (.fa 0 (t_ 3)) 0,O_ 21 (.ld 1 false (t_ 20)) 0,O_ 22 (.bin .geq (t_ 21) (i_ 1099511627776)) 0,O_ 19 (.mv (t_ 22)) 0]) (.cond (t_ 19) (.seq (R_ 0 [O_ 6 (.mv (i_ 9)) 0]) .ret) .skip))))) (.seq (R_ 0 [O_ 6 (.mv (i_ 0)) 0]) .ret)))
theorem gc52_ok:compF Try.prog Try.f52=some (gc52.er,23,[.tmp 6]):=by unfold gc52;kernel_rfl
theorem p_roster_State_may_v {u1 u2:Bool} (a0:RosterState) (a1:Bool) (a2:Bool):CallsO Try.prog 52 [.agg [.i a0.Ver,.i a0.Floor,.sl (List.map ItemItem.v a0.Items) u1,.sl (List.map RosterGone.v a0.Gone) u2],.b a1,.b a2] V.i (p_roster_State_may a0 a1 a2):=by
 refine callsO_comp mix Try.func52 gc52_ok fun r H=>?_
 rw [p_roster_State_may] at H
 conv=>whnf
 refine tst_d H (fun b1 H=>?_) (fun b1 H=>?_)
 ·conv=>whnf
  iterate 8 (refine Tst.F ?_;conv=>whnf)
  refine tst_c H (fun b6 H=>?_) (fun b6 H=>?_)
  ·conv=>whnf
   exact fi_ H
  conv=>whnf
  exact fi_ H
 conv=>whnf
 iterate 2 (refine Tst.T ?_;conv=>whnf)
 refine Tst.not ?_
 refine tst_c H (fun b2 H=>?_) (fun b2 H=>?_)
 ·conv=>whnf
  iterate 5 (refine Tst.F ?_;conv=>whnf)
  refine tst_c H (fun b3 H=>?_) (fun b3 H=>?_)
  ·conv=>whnf
   exact fi_ H
  conv=>whnf
  exact fi_ H
 conv=>whnf
 iterate 2 (refine Tst.T ?_;conv=>whnf)
 refine LenQ.M ?_;conv=>whnf
 iterate 2 (refine Tst.T ?_;conv=>whnf)
 refine tst_c H (fun b4 H=>?_) (fun b4 H=>?_)
 ·conv=>whnf
  exact fi_ H
 conv=>whnf
 refine tst_c H (fun b5 H=>?_) (fun b5 H=>?_)
 ·conv=>whnf
  exact fi_ H
 conv=>whnf
 exact fi_ H
end Go.Proofs.Ytmmmcpeickfolaa

namespace Go.Proofs.Ytmmmcpeickfolaa
open Go.RowKit Go.Lib
set_option maxHeartbeats 4000000
set_option maxRecDepth 100000
theorem cloS98 (A:Addr) (n c:Nat) (cs:List Value) (w:World) (hn:0 < n) (hbig:n≤1000000) (hcl:cs.length=n * 5) (hcs:∀ j v,cs[j]?=some v→w.cell? (A.add j)=some v) (h1:∀ v ∈ cs,v.oneCell'=true) :
  Calls Try.prog 98 #[.slice (some A) n c] w fun e w'=>∃ ZS:Array Value,e=.returned (.slice (some ⟨w.heap.size + 1,0,none⟩) n (grownCap (w.alloc (.cells #[] 62)) n 0 62))∧w'=(w.alloc (.cells #[] 62)).drew.alloc (.cells (cs.toArray++ZS) 62)∧grownCap (w.alloc (.cells #[] 62)) n 0 62 * 5≤(cs.toArray++ZS).size:=by
 have tS:Try.prog.underlying 48=some (.slice 62):=by kernel_rfl
 have uS:=run_underlying tS
 have qS:∀ (w:World) (a:Option Addr) (n c n' c' : Nat),(binOp .eql 48 (.slice a n c) (.slice none n' c')).run Try.prog w=.ok (.bool a.isNone) w:=fun w a n c n' c'=>Lib.run_eql_slice_nil w _ _ a n c n' c' tS
 have mixed:Try.prog.follows .mixedOrders=true:=mix
 obtain ⟨i0,z,hi0,hzs,hz0,hzc,hzb⟩:=infB_ok (P:=Try.prog) (e:=62) (es:=5) (by kernel_rfl)
 have hsrc:Src Try.prog i0.size 48 (.slice (some A) n c) n cs (w.alloc (.cells #[] 62)):=by
  rw [hzs]
  exact Src.ofSlice _ tS A n c cs (by omega) (fun j u hj=>Lib.cell?_alloc_some _ (hcs j u hj)) h1
 have hold:(Builtin.firstCells i0.size 0 (.slice (some ⟨w.heap.size,0,none⟩) 0 0)).run Try.prog (w.alloc (.cells #[] 62)).drew=.ok ([]:List Value).toArray (w.alloc (.cells #[] 62)).drew:=by
  rw [hzs]
  exact run_firstCells_some _ 5 0 ⟨w.heap.size,0,none⟩ 0 0 [] (by simp) (fun j v hj=>by simp at hj)
 have hrun:∀ ty,(Builtin.append_ #[48,48] ty #[.slice (some ⟨w.heap.size,0,none⟩) 0 0,.slice (some A) n c]).run Try.prog (w.alloc (.cells #[] 62))=_:=fun ty =>
  run_append_grow_src (w.alloc (.cells #[] 62)) 48 48 ty 62 i0 z tS hi0 hz0 (some ⟨w.heap.size,0,none⟩) 0 0 [] hold _ n cs hsrc (by omega) (by omega) (growslice_fits (by omega) (grown_bound (by omega) hzb))
 simp only [Nat.zero_add,List.nil_append,World.size_alloc] at hrun
 have hge:=grownCap_ge (w.alloc (.cells #[] 62)) n 0 62
 have hsz:grownCap (w.alloc (.cells #[] 62)) n 0 62 * 5≤(cs.toArray++Builtin.zeroCells z.cells (grownCap (w.alloc (.cells #[] 62)) n 0 62 - n)).size:=by
  simp only [Array.size_append,size_zeroCells,hzc,List.size_toArray,hcl]
  omega
 obtain ⟨ZS,hrun,hsz⟩ : ∃ ZS:Array Value,(∀ ty,(Builtin.append_ #[48,48] ty #[.slice (some ⟨w.heap.size,0,none⟩) 0 0,.slice (some A) n c]).run Try.prog (w.alloc (.cells #[] 62))=.ok (.slice (some ⟨w.heap.size + 1,0,none⟩) n (grownCap (w.alloc (.cells #[] 62)) n 0 62)) ((w.alloc (.cells #[] 62)).drew.alloc (.cells (cs.toArray++ZS) 62)))∧grownCap (w.alloc (.cells #[] 62)) n 0 62 * 5≤(cs.toArray++ZS).size:=⟨_,hrun,hsz⟩
 have main:Calls Try.prog 98 #[.slice (some A) n c] w fun e w'=>e=.returned (.slice (some ⟨w.heap.size + 1,0,none⟩) n (grownCap (w.alloc (.cells #[] 62)) n 0 62))∧w'=(w.alloc (.cells #[] 62)).drew.alloc (.cells (cs.toArray++ZS) 62):=by
  clear hsz hold hsrc hz0 hcs
  go_enter Try.func98,Try.ntmps98
  go_wp2_with (at_builtin;refine Lib.wpList_append_run _ rfl _ _ _ _ rfl _ _ rfl rfl _ _ (hrun _) ?_)
  go_ret
  exact ⟨rfl,rfl⟩
 refine main.mono ?_
 rintro e w' ⟨rfl,rfl⟩
 exact ⟨ZS,rfl,rfl,hsz⟩
theorem cloZ98 (A:Addr) (c:Nat) (w:World):Calls Try.prog 98 #[.slice (some A) 0 c] w fun e w'=>e=.returned (.slice (some ⟨w.heap.size,0,none⟩) 0 0)∧∃ q,w'=(w.alloc (.cells #[] 62)).drewN q:=by
 have tS:Try.prog.underlying 48=some (.slice 62):=by kernel_rfl
 have uS:=run_underlying tS
 have qS:∀ (w:World) (a:Option Addr) (n c n' c' : Nat),(binOp .eql 48 (.slice a n c) (.slice none n' c')).run Try.prog w=.ok (.bool a.isNone) w:=fun w a n c n' c'=>Lib.run_eql_slice_nil w _ _ a n c n' c' tS
 have mixed:Try.prog.follows .mixedOrders=true:=mix
 obtain ⟨i0,z,hi0,hzs,hz0,hzc,hzb⟩:=infB_ok (P:=Try.prog) (e:=62) (es:=5) (by kernel_rfl)
 have hsz:(Try.prog.info? 62).map (·.size)=some 5:=by rw [hi0];simp [hzs]
 have hrun:∀ ty,(Builtin.append_ #[48,48] ty #[.slice (some ⟨w.heap.size,0,none⟩) 0 0,.slice (some A) 0 c]).run Try.prog (w.alloc (.cells #[] 62))=.ok (.slice (some ⟨w.heap.size,0,none⟩) 0 0) (w.alloc (.cells #[] 62)):=fun ty=>by
  have hl:∀ (x:Addr) (W:World),(loadCells x 0).run Try.prog W=.ok #[] W:=fun x W=>by simpa using run_loadCells_list (P:=Try.prog) W x [] (by simp)
  simp [Builtin.append_,uS,Builtin.lenOf,Builtin.firstCells,sizeOf,typeInfo,hi0,hl,storeCells]
 have main:Calls Try.prog 98 #[.slice (some A) 0 c] w fun e w'=>e=.returned (.slice (some ⟨w.heap.size,0,none⟩) 0 0)∧w'=w.alloc (.cells #[] 62):=by
  go_enter Try.func98,Try.ntmps98
  go_wp2_with (at_builtin;refine Lib.wpList_append_run _ rfl _ _ _ _ rfl _ _ rfl rfl _ _ (hrun _) ?_)
  go_ret
  exact ⟨rfl,rfl⟩
 refine main.mono ?_
 rintro e w' ⟨rfl,rfl⟩
 exact ⟨rfl,0,rfl⟩
theorem cloN98 (n c:Nat) (w:World):Calls Try.prog 98 #[.slice none n c] w fun e w'=>e=.returned (.slice none 0 0)∧w'=w:=by
 have tS:Try.prog.underlying 48=some (.slice 62):=by kernel_rfl
 have uS:=run_underlying tS
 have qS:∀ (w:World) (a:Option Addr) (n c n' c' : Nat),(binOp .eql 48 (.slice a n c) (.slice none n' c')).run Try.prog w=.ok (.bool a.isNone) w:=fun w a n c n' c'=>Lib.run_eql_slice_nil w _ _ a n c n' c' tS
 have mixed:Try.prog.follows .mixedOrders=true:=mix
 go_enter Try.func98,Try.ntmps98
 go_wp2
 go_ret
 exact ⟨rfl,rfl⟩
theorem cloR98_v:CloRoads Try.prog 98 5 62:=⟨cloS98,cloZ98,cloN98⟩
end Go.Proofs.Ytmmmcpeickfolaa

namespace Go.Proofs.Ytmmmcpeickfolaa
open Go.RowKit Go.Lib
set_option maxHeartbeats 4000000
set_option maxRecDepth 100000
theorem cloS99 (A:Addr) (n c:Nat) (cs:List Value) (w:World) (hn:0 < n) (hbig:n≤1000000) (hcl:cs.length=n * 2) (hcs:∀ j v,cs[j]?=some v→w.cell? (A.add j)=some v) (h1:∀ v ∈ cs,v.oneCell'=true) :
  Calls Try.prog 99 #[.slice (some A) n c] w fun e w'=>∃ ZS:Array Value,e=.returned (.slice (some ⟨w.heap.size + 1,0,none⟩) n (grownCap (w.alloc (.cells #[] 105)) n 0 105))∧w'=(w.alloc (.cells #[] 105)).drew.alloc (.cells (cs.toArray++ZS) 105)∧grownCap (w.alloc (.cells #[] 105)) n 0 105 * 2≤(cs.toArray++ZS).size:=by
 have tS:Try.prog.underlying 49=some (.slice 105):=by kernel_rfl
 have uS:=run_underlying tS
 have qS:∀ (w:World) (a:Option Addr) (n c n' c' : Nat),(binOp .eql 49 (.slice a n c) (.slice none n' c')).run Try.prog w=.ok (.bool a.isNone) w:=fun w a n c n' c'=>Lib.run_eql_slice_nil w _ _ a n c n' c' tS
 have mixed:Try.prog.follows .mixedOrders=true:=mix
 obtain ⟨i0,z,hi0,hzs,hz0,hzc,hzb⟩:=infB_ok (P:=Try.prog) (e:=105) (es:=2) (by kernel_rfl)
 have hsrc:Src Try.prog i0.size 49 (.slice (some A) n c) n cs (w.alloc (.cells #[] 105)):=by
  rw [hzs]
  exact Src.ofSlice _ tS A n c cs (by omega) (fun j u hj=>Lib.cell?_alloc_some _ (hcs j u hj)) h1
 have hold:(Builtin.firstCells i0.size 0 (.slice (some ⟨w.heap.size,0,none⟩) 0 0)).run Try.prog (w.alloc (.cells #[] 105)).drew=.ok ([]:List Value).toArray (w.alloc (.cells #[] 105)).drew:=by
  rw [hzs]
  exact run_firstCells_some _ 2 0 ⟨w.heap.size,0,none⟩ 0 0 [] (by simp) (fun j v hj=>by simp at hj)
 have hrun:∀ ty,(Builtin.append_ #[49,49] ty #[.slice (some ⟨w.heap.size,0,none⟩) 0 0,.slice (some A) n c]).run Try.prog (w.alloc (.cells #[] 105))=_:=fun ty =>
  run_append_grow_src (w.alloc (.cells #[] 105)) 49 49 ty 105 i0 z tS hi0 hz0 (some ⟨w.heap.size,0,none⟩) 0 0 [] hold _ n cs hsrc (by omega) (by omega) (growslice_fits (by omega) (grown_bound (by omega) hzb))
 simp only [Nat.zero_add,List.nil_append,World.size_alloc] at hrun
 have hge:=grownCap_ge (w.alloc (.cells #[] 105)) n 0 105
 have hsz:grownCap (w.alloc (.cells #[] 105)) n 0 105 * 2≤(cs.toArray++Builtin.zeroCells z.cells (grownCap (w.alloc (.cells #[] 105)) n 0 105 - n)).size:=by
  simp only [Array.size_append,size_zeroCells,hzc,List.size_toArray,hcl]
  omega
 obtain ⟨ZS,hrun,hsz⟩ : ∃ ZS:Array Value,(∀ ty,(Builtin.append_ #[49,49] ty #[.slice (some ⟨w.heap.size,0,none⟩) 0 0,.slice (some A) n c]).run Try.prog (w.alloc (.cells #[] 105))=.ok (.slice (some ⟨w.heap.size + 1,0,none⟩) n (grownCap (w.alloc (.cells #[] 105)) n 0 105)) ((w.alloc (.cells #[] 105)).drew.alloc (.cells (cs.toArray++ZS) 105)))∧grownCap (w.alloc (.cells #[] 105)) n 0 105 * 2≤(cs.toArray++ZS).size:=⟨_,hrun,hsz⟩
 have main:Calls Try.prog 99 #[.slice (some A) n c] w fun e w'=>e=.returned (.slice (some ⟨w.heap.size + 1,0,none⟩) n (grownCap (w.alloc (.cells #[] 105)) n 0 105))∧w'=(w.alloc (.cells #[] 105)).drew.alloc (.cells (cs.toArray++ZS) 105):=by
  clear hsz hold hsrc hz0 hcs
  go_enter Try.func99,Try.ntmps99
  go_wp2_with (at_builtin;refine Lib.wpList_append_run _ rfl _ _ _ _ rfl _ _ rfl rfl _ _ (hrun _) ?_)
  go_ret
  exact ⟨rfl,rfl⟩
 refine main.mono ?_
 rintro e w' ⟨rfl,rfl⟩
 exact ⟨ZS,rfl,rfl,hsz⟩
theorem cloZ99 (A:Addr) (c:Nat) (w:World):Calls Try.prog 99 #[.slice (some A) 0 c] w fun e w'=>e=.returned (.slice (some ⟨w.heap.size,0,none⟩) 0 0)∧∃ q,w'=(w.alloc (.cells #[] 105)).drewN q:=by
 have tS:Try.prog.underlying 49=some (.slice 105):=by kernel_rfl
 have uS:=run_underlying tS
 have qS:∀ (w:World) (a:Option Addr) (n c n' c' : Nat),(binOp .eql 49 (.slice a n c) (.slice none n' c')).run Try.prog w=.ok (.bool a.isNone) w:=fun w a n c n' c'=>Lib.run_eql_slice_nil w _ _ a n c n' c' tS
 have mixed:Try.prog.follows .mixedOrders=true:=mix
 obtain ⟨i0,z,hi0,hzs,hz0,hzc,hzb⟩:=infB_ok (P:=Try.prog) (e:=105) (es:=2) (by kernel_rfl)
 have hsz:(Try.prog.info? 105).map (·.size)=some 2:=by rw [hi0];simp [hzs]
 have hrun:∀ ty,(Builtin.append_ #[49,49] ty #[.slice (some ⟨w.heap.size,0,none⟩) 0 0,.slice (some A) 0 c]).run Try.prog (w.alloc (.cells #[] 105))=.ok (.slice (some ⟨w.heap.size,0,none⟩) 0 0) (w.alloc (.cells #[] 105)):=fun ty=>by
  have hl:∀ (x:Addr) (W:World),(loadCells x 0).run Try.prog W=.ok #[] W:=fun x W=>by simpa using run_loadCells_list (P:=Try.prog) W x [] (by simp)
  simp [Builtin.append_,uS,Builtin.lenOf,Builtin.firstCells,sizeOf,typeInfo,hi0,hl,storeCells]
 have main:Calls Try.prog 99 #[.slice (some A) 0 c] w fun e w'=>e=.returned (.slice (some ⟨w.heap.size,0,none⟩) 0 0)∧w'=w.alloc (.cells #[] 105):=by
  go_enter Try.func99,Try.ntmps99
  go_wp2_with (at_builtin;refine Lib.wpList_append_run _ rfl _ _ _ _ rfl _ _ rfl rfl _ _ (hrun _) ?_)
  go_ret
  exact ⟨rfl,rfl⟩
 refine main.mono ?_
 rintro e w' ⟨rfl,rfl⟩
 exact ⟨rfl,0,rfl⟩
theorem cloN99 (n c:Nat) (w:World):Calls Try.prog 99 #[.slice none n c] w fun e w'=>e=.returned (.slice none 0 0)∧w'=w:=by
 have tS:Try.prog.underlying 49=some (.slice 105):=by kernel_rfl
 have uS:=run_underlying tS
 have qS:∀ (w:World) (a:Option Addr) (n c n' c' : Nat),(binOp .eql 49 (.slice a n c) (.slice none n' c')).run Try.prog w=.ok (.bool a.isNone) w:=fun w a n c n' c'=>Lib.run_eql_slice_nil w _ _ a n c n' c' tS
 have mixed:Try.prog.follows .mixedOrders=true:=mix
 go_enter Try.func99,Try.ntmps99
 go_wp2
 go_ret
 exact ⟨rfl,rfl⟩
theorem cloR99_v:CloRoads Try.prog 99 2 105:=⟨cloS99,cloZ99,cloN99⟩
end Go.Proofs.Ytmmmcpeickfolaa

namespace Go.Proofs.Ytmmmcpeickfolaa
open Go.RowKit
set_option maxRecDepth 100000
set_option maxHeartbeats 4000000
def gc51:BCode:=(.seq (R_ 2 [O_ 1 (.bx (t_ 0)) 0,O_ 2 (.al (.agg [(.lit (.int .i64 0)),(.lit (.int .i64 0)),(.sl [] true),(.sl [] true)])) 1]) (.seq (.reg 0 [O_ 3 (.fa 2 (t_ 1)) 0,O_ 4 (.ld 1 false (t_ 3)) 0,O_ 5 (.cl 98 [(t_ 4)]) 0,O_ 6 (.fa 3 (t_ 1)) 0,O_ 7 (.ld 1 false (t_ 6)) 0,O_ 8 (.cl 99 [(t_ 7)]) 0,O_ 9 (.fa 2 (t_ 1)) 0,U_ (.st 1 (t_ 9) (t_ 5)) 0,O_ 10 (.fa 3 (t_ 1)) 0,U_ (.st 1 (t_ 10) (t_ 8)) 0] (some [[],[0],[0,1],[],[3],[1,0,2,3,4],[4,3,2,1,0],[5,0,1,2,3,4,6],[7,6,5,4,3,2,1,0],[0,1,2,3,4,5,6,7,8]]) 2 []) (.seq (R_ 0 [O_ 11 (.ld 4 true (t_ 1)) 0,U_ (.st 4 (t_ 2) (t_ 11)) 0]) .ret)))
theorem gc51_ok:compF Try.prog Try.f51=some (gc51.er,12,[.cell 2 4 true]):=by unfold gc51;kernel_rfl
theorem p_roster_State_own_00 {u1 u2:Bool} (a:RosterState) (h0:a.Items=[]) (h1:a.Gone=[]):CallsS Try.prog 51 [.agg [.i a.Ver,.i a.Floor,.sl (List.map ItemItem.v a.Items) u1,.sl (List.map RosterGone.v a.Gone) u2]] [.fresh,.fresh] (.agg [.i a.Ver,.i a.Floor,.sl (List.map ItemItem.v []) true,.sl (List.map RosterGone.v []) true]) [.fresh,.fresh]:=by
 refine callsR_c (n0:=2) mix Try.func51 gc51_ok rfl ?_
 conv=>whnf
 refine cloE_c cloR98_v h0 ?_;conv=>whnf
 refine cloE_c cloR99_v h1 ?_;conv=>whnf
 refine lq_ ?_;conv=>whnf
 refine lq_ ?_;conv=>whnf
 refine FootQ.mk ⟨rfl,?_⟩;conv=>whnf
 refine lq_ ?_;conv=>whnf
 exact ⟨f_R [0,1] (.inr rfl) (.cons (.cell rfl rfl (Nat.le_of_ble_eq_true rfl)) .nil) rfl rfl rfl (fun i hi h=>absurd (by rcases i with _ | _ | i <;> first | rfl | (exfalso;have hi2:i + 1 + 1 < 2:=hi;omega)) h) ⟨rfl,⟨rfl,trivial⟩⟩⟩
theorem p_roster_State_own_01 {u1 u2:Bool} (a:RosterState) (h0:a.Items=[]) (h1:a.Gone≠[]) (n1:a.Gone.length≤1000000):CallsS Try.prog 51 [.agg [.i a.Ver,.i a.Floor,.sl (List.map ItemItem.v a.Items) u1,.sl (List.map RosterGone.v a.Gone) u2]] [.fresh,.fresh] (.agg [.i a.Ver,.i a.Floor,.sl (List.map ItemItem.v []) true,.osl 1 0 a.Gone.length 2 false]) [.fresh,.live (cellsM RosterGone.v a.Gone) 0]:=by
 refine callsR_c (n0:=2) mix Try.func51 gc51_ok rfl ?_
 conv=>whnf
 refine cloE_c cloR98_v h0 ?_;conv=>whnf
 refine cloN_c cloR99_v 5 (fun _=>rfl) (fun _=>rfl) rfl h1 n1 ?_;conv=>whnf
 refine lq_ ?_;conv=>whnf
 refine lq_ ?_;conv=>whnf
 refine FootQ.mk ⟨rfl,?_⟩;conv=>whnf
 refine lq_ ?_;conv=>whnf
 exact ⟨f_R [0,5] (.inr rfl) (.cons (.cell rfl rfl (Nat.le_of_ble_eq_true rfl)) .nil) rfl rfl rfl (fun i hi h=>absurd (by rcases i with _ | _ | i <;> first | rfl | (exfalso;have hi2:i + 1 + 1 < 2:=hi;omega)) h) ⟨rfl,(wkB_live0 rfl (cellsM_idlt (f:=RosterGone.v) (fun _=>rfl) _) rfl trivial)⟩⟩
theorem p_roster_State_own_10 {u1 u2:Bool} (a:RosterState) (h0:a.Items≠[]) (n0:a.Items.length≤1000000) (h1:a.Gone=[]):CallsS Try.prog 51 [.agg [.i a.Ver,.i a.Floor,.sl (List.map ItemItem.v a.Items) u1,.sl (List.map RosterGone.v a.Gone) u2]] [.fresh,.fresh] (.agg [.i a.Ver,.i a.Floor,.osl 0 0 a.Items.length 5 false,.sl (List.map RosterGone.v []) true]) [.live (cellsM ItemItem.v a.Items) 0,.fresh]:=by
 refine callsR_c (n0:=2) mix Try.func51 gc51_ok rfl ?_
 conv=>whnf
 refine cloN_c cloR98_v 4 (fun _=>rfl) (fun _=>rfl) rfl h0 n0 ?_;conv=>whnf
 refine cloE_c cloR99_v h1 ?_;conv=>whnf
 refine lq_ ?_;conv=>whnf
 refine lq_ ?_;conv=>whnf
 refine FootQ.mk ⟨rfl,?_⟩;conv=>whnf
 refine lq_ ?_;conv=>whnf
 exact ⟨f_R [4,1] (.inr rfl) (.cons (.cell rfl rfl (Nat.le_of_ble_eq_true rfl)) .nil) rfl rfl rfl (fun i hi h=>absurd (by rcases i with _ | _ | i <;> first | rfl | (exfalso;have hi2:i + 1 + 1 < 2:=hi;omega)) h) (wkB_live0 rfl (cellsM_idlt (f:=ItemItem.v) (fun _=>rfl) _) rfl ⟨rfl,trivial⟩)⟩
theorem p_roster_State_own_11 {u1 u2:Bool} (a:RosterState) (h0:a.Items≠[]) (n0:a.Items.length≤1000000) (h1:a.Gone≠[]) (n1:a.Gone.length≤1000000):CallsS Try.prog 51 [.agg [.i a.Ver,.i a.Floor,.sl (List.map ItemItem.v a.Items) u1,.sl (List.map RosterGone.v a.Gone) u2]] [.fresh,.fresh] (.agg [.i a.Ver,.i a.Floor,.osl 0 0 a.Items.length 5 false,.osl 1 0 a.Gone.length 2 false]) [.live (cellsM ItemItem.v a.Items) 0,.live (cellsM RosterGone.v a.Gone) 0]:=by
 refine callsR_c (n0:=2) mix Try.func51 gc51_ok rfl ?_
 conv=>whnf
 refine cloN_c cloR98_v 4 (fun _=>rfl) (fun _=>rfl) rfl h0 n0 ?_;conv=>whnf
 refine cloN_c cloR99_v 5 (fun _=>rfl) (fun _=>rfl) rfl h1 n1 ?_;conv=>whnf
 refine lq_ ?_;conv=>whnf
 refine lq_ ?_;conv=>whnf
 refine FootQ.mk ⟨rfl,?_⟩;conv=>whnf
 refine lq_ ?_;conv=>whnf
 exact ⟨f_R [4,5] (.inr rfl) (.cons (.cell rfl rfl (Nat.le_of_ble_eq_true rfl)) .nil) rfl rfl rfl (fun i hi h=>absurd (by rcases i with _ | _ | i <;> first | rfl | (exfalso;have hi2:i + 1 + 1 < 2:=hi;omega)) h) (wkB_live0 rfl (cellsM_idlt (f:=ItemItem.v) (fun _=>rfl) _) rfl (wkB_live0 rfl (cellsM_idlt (f:=RosterGone.v) (fun _=>rfl) _) rfl trivial))⟩
theorem p_roster_State_own_c {β:Type} {r:β} {st:List Slot} {i j:Nat} {u1 u2:Bool} {a:RosterState} {X:RosterState→Option β} {K:V→List Nat→List Nat→List Slot→Prop} (H:(p_roster_State_own a).bind X=some r) (hij:i≠j) (hi:st[i]?=some .fresh) (hj:st[j]?=some .fresh)
  (h00:X ⟨a.Ver,a.Floor,[],[]⟩=some r→ssetK st i (.fresh) fun st1=>ssetK st1 j (.fresh) fun st2=>K (.agg [.i a.Ver,.i a.Floor,.sl (List.map ItemItem.v []) true,.sl (List.map RosterGone.v []) true]) [] [i,j] st2) (h01:∀ G:List RosterGone,X ⟨a.Ver,a.Floor,[],G⟩=some r→ssetK st i (.fresh) fun st1=>ssetK st1 j (.live (cellsM RosterGone.v G) 0) fun st2=>K (.agg [.i a.Ver,.i a.Floor,.sl (List.map ItemItem.v []) true,.osl j 0 G.length 2 false]) [] [i,j] st2) (h10:∀ I:List ItemItem,X ⟨a.Ver,a.Floor,I,[]⟩=some r→ssetK st i (.live (cellsM ItemItem.v I) 0) fun st1=>ssetK st1 j (.fresh) fun st2=>K (.agg [.i a.Ver,.i a.Floor,.osl i 0 I.length 5 false,.sl (List.map RosterGone.v []) true]) [] [i,j] st2) (h11:∀ (I:List ItemItem) (G:List RosterGone),X ⟨a.Ver,a.Floor,I,G⟩=some r→ssetK st i (.live (cellsM ItemItem.v I) 0) fun st1=>ssetK st1 j (.live (cellsM RosterGone.v G) 0) fun st2=>K (.agg [.i a.Ver,.i a.Floor,.osl i 0 I.length 5 false,.osl j 0 G.length 2 false]) [] [i,j] st2):Ask Try.prog 51 [.agg [.i a.Ver,.i a.Floor,.sl (List.map ItemItem.v a.Items) u1,.sl (List.map RosterGone.v a.Gone) u2]] st K:=by
 obtain ⟨s,hs,H⟩:=bind_c H
 unfold p_roster_State_own at hs
 obtain ⟨l1,k1,hs⟩:=bind_c hs
 obtain ⟨l2,k2,hs⟩:=bind_c hs
 unfold clone? at k1 k2
 split at k1
 case isFalse=>cases k1
 split at k2
 case isFalse=>cases k2
 rename_i n0 n1
 obtain rfl:=Option.some.inj k1
 obtain rfl:=Option.some.inj k2
 obtain rfl:=Option.some.inj hs
 by_cases e0:a.Items=[] <;> by_cases e1:a.Gone=[]
 ·have h:=h00 (by rw [e0,e1] at H;exact H)
  rw [ssetK_eq,ssetK_eq] at h
  exact Ask_L (rd:=[]) (ef:=[(i,.fresh),(j,.fresh)]) (fun st2 _ h2=>callsS_new (p_roster_State_own_00 a e0 e1) rfl hij ((h2 i (.inr (by simp))).trans hi) ((h2 j (.inr (by simp))).trans hj) (fun cs f h=>by rcases h with h | h <;> cases h)) h
 ·have h:=h01 a.Gone (by rw [e0] at H;exact H)
  rw [ssetK_eq,ssetK_eq] at h
  exact Ask_L (rd:=[]) (ef:=[(i,.fresh),(j,.live (cellsM RosterGone.v a.Gone) 0)]) (fun st2 _ h2=>callsS_new (p_roster_State_own_01 a e0 e1 n1) rfl hij ((h2 i (.inr (by simp))).trans hi) ((h2 j (.inr (by simp))).trans hj) (fun cs f h=>by rcases h with h | h <;> first | (cases h;done) | (simp only [Slot.live.injEq] at h;obtain ⟨rfl,rfl⟩:=h;exact litL_M (fun _=>rfl) _))) h
 ·have h:=h10 a.Items (by rw [e1] at H;exact H)
  rw [ssetK_eq,ssetK_eq] at h
  exact Ask_L (rd:=[]) (ef:=[(i,.live (cellsM ItemItem.v a.Items) 0),(j,.fresh)]) (fun st2 _ h2=>callsS_new (p_roster_State_own_10 a e0 n0 e1) rfl hij ((h2 i (.inr (by simp))).trans hi) ((h2 j (.inr (by simp))).trans hj) (fun cs f h=>by rcases h with h | h <;> first | (cases h;done) | (simp only [Slot.live.injEq] at h;obtain ⟨rfl,rfl⟩:=h;exact litL_M (fun _=>rfl) _))) h
 ·have h:=h11 a.Items a.Gone (by exact H)
  rw [ssetK_eq,ssetK_eq] at h
  exact Ask_L (rd:=[]) (ef:=[(i,.live (cellsM ItemItem.v a.Items) 0),(j,.live (cellsM RosterGone.v a.Gone) 0)]) (fun st2 _ h2=>callsS_new (p_roster_State_own_11 a e0 n0 e1 n1) rfl hij ((h2 i (.inr (by simp))).trans hi) ((h2 j (.inr (by simp))).trans hj) (fun cs f h=>by rcases h with h | h <;> (simp only [Slot.live.injEq] at h;obtain ⟨rfl,rfl⟩:=h;exact litL_M (fun _=>rfl) _))) h
end Go.Proofs.Ytmmmcpeickfolaa

namespace Go.Proofs.Ytmmmcpeickfolaa
open Go.RowKit Go.Lib
set_option maxHeartbeats 4000000
set_option maxRecDepth 100000
theorem delS101 (b n c i j:Nat) (cs:List Value) (w:World) (hij:i < j) (hj:j≤n) (hnc:n≤c) (hbig:n≤1000000) (hcl:cs.length=n * 5) (hcs:∀ t v,cs[t]?=some v→w.cell? ⟨b,t,none⟩=some v) (hfz:∀ t,t < n * 5→w.frozen? ⟨b,t,none⟩=false) (h1c:∀ v ∈ cs,v.oneCell'=true) :
  Calls Try.prog 101 #[.slice (some ⟨b,0,none⟩) n c,.int .i64 i,.int .i64 j] w fun e w'=>∃ zs:List Value,zs.length=(j - i) * 5∧(∀ v ∈ zs,v.oneCell'=true)∧e=.returned (.slice (some ⟨b,0,none⟩) (n - (j - i)) c)∧w'=(w.drew.setCells b (i * 5) (cs.drop (j * 5))).setCells b ((n - (j - i)) * 5) zs:=by
 have tS:Try.prog.underlying 48=some (.slice 62):=by kernel_rfl
 have uS:=run_underlying tS
 have mixed:Try.prog.follows .mixedOrders=true:=mix
 obtain ⟨i0,z,hi0,hzs,hz0,hzc,hzb,hz1⟩:=infB2_ok (P:=Try.prog) (e:=62) (es:=5) (by kernel_rfl)
 have hlen:(cs.drop (j * 5)).length=(n - j) * 5:=by rw [List.length_drop,hcl];omega
 obtain ⟨Ad,hA,hsrc⟩ : ∃ Ad:Addr,(if c=j then some (⟨b,0,none⟩ : Addr) else some ⟨b,j * 5,none⟩)=some Ad∧Hid (∀ t u,(cs.drop (j * 5))[t]?=some u→w.drew.cell? (Ad.add t)=some u):=by
  by_cases h:c=j
  ·refine ⟨⟨b,0,none⟩,by simp [h],fun t u hu=>?_⟩
   have:=(List.getElem?_eq_some_iff.1 hu).1
   omega
  ·refine ⟨⟨b,j * 5,none⟩,by simp [h],fun t u hu=>?_⟩
   rw [Addr.add_lit]
   exact hcs _ u (by rwa [List.getElem?_drop] at hu)
 have s1:Hid ((cs.drop (j * 5)).length=(n - j) * 5):=hlen
 have s2:Hid (∀ u ∈ cs.drop (j * 5),u.oneCell'=true):=fun u hu=>h1c u (List.mem_of_mem_drop hu)
 have hsome:∀ t,t < n * 5→(w.drew.cell? ⟨b,t,none⟩).isSome=true:=fun t ht=>by
  show (w.cell? ⟨b,t,none⟩).isSome=true
  rw [hcs t _ (List.getElem?_eq_getElem (by omega))];rfl
 have s3:Hid (∀ t,t < (cs.drop (j * 5)).length→(w.drew.cell? ⟨b,0 + i * 5 + t,none⟩).isSome=true∧w.drew.frozen? ⟨b,0 + i * 5 + t,none⟩=false):=fun t ht=>by
  rw [Nat.zero_add]
  exact ⟨hsome _ (by omega),hfz _ (by omega)⟩
 obtain ⟨W1,hW1⟩ : ∃ W1,W1=w.drew.setCells b (0 + i * 5) (cs.drop (j * 5)):=⟨_,rfl⟩
 have hin:∀ t,t < n * 5→(W1.cell? ⟨b,t,none⟩).isSome=true:=fun t ht=>by
  rw [hW1]
  exact isSome_setCells b _ _ _ (fun q hq=>by rw [Nat.zero_add];exact hsome _ (by omega)) _ (hsome t ht)
 have hfin:∀ t,t < n * 5→W1.frozen? ⟨b,t,none⟩=false:=fun t ht=>by
  rw [hW1,World.frozen?_setCells];exact hfz t ht
 have hzl:(Builtin.zeroCells z.cells (n - (i + (n - j)))).toList.length=(n - (i + (n - j))) * 5:=by rw [Array.length_toList,size_zeroCells,hzc]
 have hz1' : ∀ m,∀ v ∈ (Builtin.zeroCells z.cells m).toList,v.oneCell'=true:=zeroCells_one hz1
 have hcl2:∀ ty,(Builtin.clear_ #[48] ty #[.slice (some ⟨b,(i + (n - j)) * 5,none⟩) (n - (i + (n - j))) (c - (i + (n - j)))]).run Try.prog W1=.ok (.tuple #[]) (W1.setCells b ((i + (n - j)) * 5) (Builtin.zeroCells z.cells (n - (i + (n - j)))).toList) :=
  fun ty=>run_clear_es W1 48 62 ty z 5 tS (fun w=>by simp [zeroValue,typeInfo,hi0,hz0]) hzc hz1' b _ _ _ (by omega) (fun t ht=>hin _ (by omega)) (fun t ht=>hfin _ (by omega))
 obtain ⟨ZS,hZS⟩ : ∃ ZS,ZS=(Builtin.zeroCells z.cells (n - (i + (n - j)))).toList:=⟨_,rfl⟩
 rw [← hZS] at hcl2 hzl
 have hz2:∀ v ∈ ZS,v.oneCell'=true:=by rw [hZS];exact hz1' _
 have hic:i≤c:=by omega
 have hjc:j≤c:=by omega
 have hci:¬ (c=i):=by omega
 have hne:¬ ((i:Int)=(j:Int)):=by omega
 have hb1:(i:Int)≤(j:Int):=by omega
 have hb2:¬ (c=i + (n - j)):=by omega
 have main:Calls Try.prog 101 #[.slice (some ⟨b,0,none⟩) n c,.int .i64 i,.int .i64 j] w fun e w'=>e=.returned (.slice (some ⟨b,0,none⟩) (i + (n - j)) c)∧w'=W1.setCells b ((i + (n - j)) * 5) ZS:=by
  have hW:Hid (W1=w.drew.setCells b (0 + i * 5) (cs.drop (j * 5))):=hW1
  clear hW1 hz0 hz1 hz1' hzb hz2 hzl hlen hcs hsome hin hfin hZS
  go_enter Try.func101,Try.ntmps101
  go_wp2_with fail
  go_region_law_o (refine step_append_room rfl (.tmp 22) (.tmp 25) 48 rfl 62 i0 5 tS hi0 hzs b 0 i c (by simp [Act.eval,Act.put]) Ad (n - j) (c - j) (cs.drop (j * 5)) (by simp [Act.eval,Act.put]) s1.out hsrc.out s2.out (by omega) s3.out ?_;rw [← hW.out])
  go_wp2
  go_ret
  first | exact ⟨rfl,rfl⟩ | trace_state
 refine main.mono ?_
 rintro e w' ⟨rfl,rfl⟩
 have he:i + (n - j)=n - (j - i):=by omega
 refine ⟨ZS,by rw [hzl];congr 1;omega,hz2,by rw [he],by rw [hW1,Nat.zero_add,he]⟩
theorem delR101_v:DelRoads Try.prog 101 5:=⟨delS101⟩
end Go.Proofs.Ytmmmcpeickfolaa

