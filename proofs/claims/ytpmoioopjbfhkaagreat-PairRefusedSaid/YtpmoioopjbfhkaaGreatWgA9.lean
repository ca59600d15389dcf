/- A part of the proof: 6 texts joined. -/
import Derived.Test.YtpmoioopjbfhkaaGreatWgA5
import Derived.Test.YtpmoioopjbfhkaaGreatWgA1
import Derived.Test.YtpmoioopjbfhkaaGreatWgA7
import Derived.Test.YtpmoioopjbfhkaaGreatWgA8
import Derived.Test.YtpmoioopjbfhkaaGreatWeA5
import Derived.KernelRfl
import Derived.Test.YtpmoioopjbfhkaaGreatWgA2
import Derived.Lib.SliceRun
import Derived.Test.YtpmoioopjbfhkaaGreatWgA4
import Derived.Test.YtpmoioopjbfhkaaGreatWgA3
import Derived.Deep.RegionLaw
set_option linter.all false
namespace Go.Proofs.YtpmoioopjbfhkaaGreat
open Go.RowKit
set_option maxRecDepth 100000
set_option maxHeartbeats 4000000
def gc64:BCode:=(.seq (R_ 2 [O_ 2 (.bx (t_ 0)) 0,O_ 3 (.bx (t_ 1)) 1,O_ 4 (.mv (i_ 0)) 2]) (.seq (.seq (R_ 0 [O_ 6 (.fa 0 (t_ 2)) 0,O_ 7 (.ld 1 false (t_ 6)) 0,O_ 8 (.cl 84 [(t_ 7)]) 0,O_ 9 (.un .not (t_ 8)) 0,O_ 10 (.mv (t_ 9)) 0,⟨(some 11),.fa 1 (t_ 2),(some (10,false)),0⟩,⟨(some 12),.ld 1 false (t_ 11),(some (10,false)),0⟩,⟨(some 13),.cl 84 [(t_ 12)],(some (10,false)),0⟩,⟨(some 14),.un .not (t_ 13),(some (10,false)),0⟩,O_ 15 (.pick (t_ 10) (b_ true) (t_ 14)) 0]) (.cond (t_ 15) (.seq (R_ 0 [O_ 4 (.mv (i_ 11)) 0]) .ret) .skip)) (.seq (.seq (R_ 0 [O_ 16 (.fa 0 (t_ 2)) 0,O_ 17 (.ld 1 false (t_ 16)) 0,O_ 18 (.fa 1 (t_ 2)) 0,O_ 19 (.ld 1 false (t_ 18)) 0,O_ 20 (.bin .eql (t_ 17) (t_ 19)) 0]) (.cond (t_ 20) (.seq (R_ 0 [O_ 4 (.mv (i_ 2)) 0]) .ret) .skip)) (.seq (.seq (R_ 0 [O_ 21 (.fa 0 (t_ 3)) 0,O_ 22 (.ld 4 true (t_ 21)) 0,O_ 23 (.cl 77 [(t_ 22)]) 0,O_ 5 (.mv (t_ 23)) 0]) (.seq (R_ 0 [O_ 24 (.mv (t_ 5)) 0,O_ 25 (.bin .neq (t_ 24) (i_ 0)) 0]) (.cond (t_ 25) (.seq (R_ 0 [O_ 26 (.mv (t_ 5)) 0,O_ 4 (.mv (t_ 26)) 0]) .ret) .skip))) (.seq (R_ 0 [O_ 27 (.fa 4 (t_ 3)) 0,O_ 28 (.ld 4 true (t_ 27)) 0,O_ 29 (.cl 77 [(t_ 28)]) 0,O_ 4 (.mv (t_ 29)) 0]) .ret)))))
theorem gc64_ok:compF Tryz.prog Tryz.f64=some (gc64.er,30,[.tmp 4]):=by unfold gc64;kernel_rfl
theorem p_pair_Check_v {u1 u2 u3 u4:Bool} (a0:Ref22Names) (a1:Ref22State):CallsO Tryz.prog 64 [.agg [.s a0.A,.s a0.B],.agg [.i a1.A.Ver,.i a1.A.Floor,.sl (List.map ItemItem.v a1.A.Items) u1,.sl (List.map RosterGone.v a1.A.Gone) u2,.i a1.B.Ver,.i a1.B.Floor,.sl (List.map ItemItem.v a1.B.Items) u3,.sl (List.map RosterGone.v a1.B.Gone) u4]] V.i (p_pair_Check a0 a1):=by
 refine callsO_comp mix Tryz.func64 gc64_ok fun r H=>?_
 rw [p_pair_Check] at H
 conv=>whnf
 refine ask_c (p_addr_IsBare_v _) H rfl rfl (fun v1 H=>?_);conv=>whnf
 refine Tst.not ?_
 refine tst_d H (fun b2 H=>?_) (fun b2 H=>?_)
 ·conv=>whnf
  iterate 5 (refine Tst.T ?_;conv=>whnf)
  exact fi_ H
 conv=>whnf
 iterate 2 (refine Tst.F ?_;conv=>whnf)
 refine ask_c (p_addr_IsBare_v _) H rfl rfl (fun v3 H=>?_);conv=>whnf
 iterate 2 (refine Tst.F ?_;conv=>whnf)
 refine Tst.not ?_
 refine tst_d H (fun b4 H=>?_) (fun b4 H=>?_)
 ·conv=>whnf
  exact fi_ H
 conv=>whnf
 refine tst_c H (fun b5 H=>?_) (fun b5 H=>?_)
 ·conv=>whnf
  exact fi_ H
 conv=>whnf
 refine ask_c (p_roster_Check_v _) H rfl rfl (fun v6 H=>?_);conv=>whnf
 refine tst_c H (fun b7 H=>?_) (fun b7 H=>?_)
 ·conv=>whnf
  exact fi_ H
 conv=>whnf
 refine ask_c (p_roster_Check_v _) H rfl rfl (fun v8 H=>?_);conv=>whnf
 exact fi_ H
def gc125:BCode:=(.seq (R_ 0 [O_ 2 (.mv (b_ false)) 0]) (.seq (R_ 0 [O_ 3 (.mv (t_ 0)) 0,O_ 4 (.bin .leq (.const (.int .u8 7)) (t_ 3)) 0,O_ 5 (.mv (t_ 4)) 0,⟨(some 6),.mv (t_ 0),(some (5,true)),0⟩,⟨(some 7),.bin .leq (t_ 6) (.const (.int .u8 10)),(some (5,true)),0⟩,O_ 8 (.pick (t_ 5) (t_ 7) (b_ false)) 0,O_ 2 (.mv (t_ 8)) 0]) .ret))
theorem gc125_ok:compF Tryz.prog Tryz.f125=some (gc125.er,9,[.tmp 2]):=by unfold gc125;kernel_rfl
theorem p_pair_said_v (a0:Int):CallsO Tryz.prog 125 [.y8 a0] V.b (p_pair_said a0):=by
 refine callsO_comp mix Tryz.func125 gc125_ok fun r H=>?_
 rw [p_pair_said] at H
 conv=>whnf
 refine tst_c H (fun b1 H=>?_) (fun b1 H=>?_)
 ·conv=>whnf
  iterate 2 (refine Tst.T ?_;conv=>whnf)
  exact fb_ H
 conv=>whnf
 iterate 2 (refine Tst.F ?_;conv=>whnf)
 exact fb_ H
def gc127:BCode:=(.seq (R_ 2 [O_ 2 (.bx (t_ 0)) 0,O_ 3 (.bx (t_ 1)) 1,O_ 4 (.mv (i_ 0)) 2]) (.seq (R_ 1 [O_ 8 (.fa 0 (t_ 2)) 0,O_ 9 (.ld 4 true (t_ 8)) 0,O_ 10 (.fa 1 (t_ 3)) 0,O_ 11 (.ld 1 false (t_ 10)) 0,O_ 12 (.cl 103 [(t_ 9),(t_ 11)]) 0,O_ 7 (.mv (t_ 12)) 0,O_ 13 (.ex (t_ 7) 0) 0,O_ 14 (.ex (t_ 7) 1) 0,O_ 5 (.al (.agg [(.lit (.string ⟨#[]⟩)),(.lit (.string ⟨#[]⟩)),(.lit (.int .i64 0)),(.lit (.int .i64 0)),(.lit (.bool false))])) 0,U_ (.st 5 (t_ 5) (t_ 13)) 1,O_ 6 (.mv (t_ 14)) 1]) (.seq (R_ 0 [O_ 15 (.fa 2 (t_ 5)) 0,O_ 16 (.ld 1 false (t_ 15)) 0,O_ 4 (.mv (t_ 16)) 0]) .ret)))
theorem gc127_ok:compF Tryz.prog Tryz.f127=some (gc127.er,17,[.tmp 4]):=by unfold gc127;kernel_rfl
theorem p_pair_State_has_v {u1 u2 u3 u4:Bool} (a0:Ref22State) (a1:Ref22Names):CallsO Tryz.prog 127 [.agg [.i a0.A.Ver,.i a0.A.Floor,.sl (List.map ItemItem.v a0.A.Items) u1,.sl (List.map RosterGone.v a0.A.Gone) u2,.i a0.B.Ver,.i a0.B.Floor,.sl (List.map ItemItem.v a0.B.Items) u3,.sl (List.map RosterGone.v a0.B.Gone) u4],.agg [.s a1.A,.s a1.B]] V.i (p_pair_State_has a0 a1):=by
 refine callsO_comp mix Tryz.func127 gc127_ok fun r H=>?_
 rw [p_pair_State_has] at H
 conv=>whnf
 refine ask_c (p_roster_Find_v _ _) H rfl rfl (fun v1 H=>?_);conv=>whnf
 refine lq_ ?_;conv=>whnf
 exact fi_ H
def gc200:BCode:=(.seq (R_ 0 [O_ 4 (.mv (i_ 0)) 0,O_ 5 (.mv (b_ false)) 0]) (.seq (R_ 0 [O_ 6 (.mv (t_ 0)) 0,O_ 7 (.mv (t_ 1)) 0,O_ 8 (.bin .andNot (t_ 6) (t_ 7)) 0,O_ 9 (.mv (t_ 0)) 0,O_ 10 (.mv (t_ 1)) 0,O_ 11 (.bin .and (t_ 9) (t_ 10)) 0,O_ 12 (.bin .neq (t_ 11) (i_ 0)) 0,O_ 4 (.mv (t_ 8)) 0,O_ 5 (.mv (t_ 12)) 0]) .ret))
theorem gc200_ok:compF Tryz.prog Tryz.f200=some (gc200.er,13,[.tmp 4,.tmp 5]):=by unfold gc200;kernel_rfl
theorem p_subs_lose_v (a0:Int) (a1:Int):CallsO Tryz.prog 200 [.i a0,.i a1] (fun r:Int × Bool=>.tup [V.i r.1,V.b r.2]) (p_subs_lose a0 a1):=by
 refine callsO_comp mix Tryz.func200 gc200_ok fun r H=>?_
 rw [p_subs_lose] at H
 conv=>whnf
 exact fq_ H
def gc201:BCode:=(.seq (R_ 0 [O_ 6 (.mv (i_ 0)) 0,O_ 7 (.mv (b_ false)) 0]) (.seq (.seq (R_ 0 [O_ 8 (.mv (t_ 0)) 0,O_ 9 (.mv (t_ 1)) 0,O_ 10 (.bin .and (t_ 8) (t_ 9)) 0,O_ 11 (.bin .eql (t_ 10) (i_ 0)) 0]) (.cond (t_ 11) (.seq (R_ 0 [O_ 12 (.mv (t_ 0)) 0,O_ 6 (.mv (t_ 12)) 0,O_ 7 (.mv (b_ false)) 0]) .ret) .skip)) (.seq (R_ 0 [O_ 13 (.mv (t_ 0)) 0,O_ 14 (.mv (t_ 1)) 0,O_ 15 (.bin .andNot (t_ 13) (t_ 14)) 0,O_ 16 (.mv (t_ 2)) 0,O_ 17 (.bin .or (t_ 15) (t_ 16)) 0,O_ 6 (.mv (t_ 17)) 0,O_ 7 (.mv (b_ true)) 0]) .ret)))
theorem gc201_ok:compF Tryz.prog Tryz.f201=some (gc201.er,18,[.tmp 6,.tmp 7]):=by unfold gc201;kernel_rfl
theorem p_subs_turn_v (a0:Int) (a1:Int) (a2:Int):CallsO Tryz.prog 201 [.i a0,.i a1,.i a2] (fun r:Int × Bool=>.tup [V.i r.1,V.b r.2]) (p_subs_turn a0 a1 a2):=by
 refine callsO_comp mix Tryz.func201 gc201_ok fun r H=>?_
 rw [p_subs_turn] at H
 conv=>whnf
 refine tst_c H (fun b1 H=>?_) (fun b1 H=>?_)
 ·conv=>whnf
  exact fq_ H
 conv=>whnf
 exact fq_ H
def gc126:BCode:=(.seq (R_ 0 [O_ 4 (.mv (i_ 0)) 0,O_ 5 (.mv (b_ false)) 0]) (.seq (.seq (R_ 0 [O_ 6 (.mv (t_ 0)) 0,O_ 7 (.cl 86 [(t_ 6)]) 0,O_ 8 (.bin .neq (t_ 7) (i_ 0)) 0]) (.cond (t_ 8) (.seq (R_ 0 [O_ 9 (.mv (t_ 0)) 0,O_ 4 (.mv (t_ 9)) 0,O_ 5 (.mv (b_ false)) 0]) .ret) .skip)) (.seq (.seq (R_ 0 [O_ 10 (.mv (t_ 1)) 0]) (.block 0 (.seq (R_ 0 [O_ 12 (.bin .eql (t_ 10) (.const (.int .u8 7))) 0,O_ 11 (.mv (t_ 12)) 0]) (.cond (t_ 11) (.seq (.seq (R_ 0 [O_ 13 (.mv (t_ 0)) 0,O_ 14 (.bin .and (t_ 13) (i_ 1)) 0,O_ 15 (.bin .neq (t_ 14) (i_ 0)) 0]) (.cond (t_ 15) (.seq (R_ 0 [O_ 16 (.mv (t_ 0)) 0,O_ 4 (.mv (t_ 16)) 0,O_ 5 (.mv (b_ false)) 0]) .ret) .skip)) (.seq (R_ 0 [O_ 17 (.mv (t_ 0)) 0,O_ 18 (.bin .or (t_ 17) (i_ 4)) 0,O_ 4 (.mv (t_ 18)) 0,O_ 5 (.mv (b_ true)) 0]) .ret)) (.seq (R_ 0 [O_ 20 (.bin .eql (t_ 10) (.const (.int .u8 10))) 0,O_ 19 (.mv (t_ 20)) 0]) (.cond (t_ 19) (.seq (R_ 0 [O_ 21 (.mv (t_ 0)) 0,O_ 22 (.cl 200 [(t_ 21),(i_ 5)]) 0,O_ 23 (.ex (t_ 22) 0) 0,O_ 24 (.ex (t_ 22) 1) 0,O_ 4 (.mv (t_ 23)) 0,O_ 5 (.mv (t_ 24)) 0]) .ret) (.seq (R_ 0 [O_ 26 (.bin .eql (t_ 10) (.const (.int .u8 8))) 0,O_ 25 (.mv (t_ 26)) 0]) (.cond (t_ 25) (.seq (R_ 0 [O_ 27 (.mv (t_ 0)) 0,O_ 28 (.cl 201 [(t_ 27),(i_ 8),(i_ 2)]) 0,O_ 29 (.ex (t_ 28) 0) 0,O_ 30 (.ex (t_ 28) 1) 0,O_ 4 (.mv (t_ 29)) 0,O_ 5 (.mv (t_ 30)) 0]) .ret) (.seq (R_ 0 [O_ 32 (.bin .eql (t_ 10) (.const (.int .u8 9))) 0,O_ 31 (.mv (t_ 32)) 0]) (.cond (t_ 31) (.seq (R_ 0 [O_ 33 (.mv (t_ 0)) 0,O_ 34 (.cl 200 [(t_ 33),(i_ 10)]) 0,O_ 35 (.ex (t_ 34) 0) 0,O_ 36 (.ex (t_ 34) 1) 0,O_ 4 (.mv (t_ 35)) 0,O_ 5 (.mv (t_ 36)) 0]) .ret) .skip)))))))))) (.seq (R_ 0 [O_ 37 (.mv (t_ 0)) 0,O_ 4 (.mv (t_ 37)) 0,O_ 5 (.mv (b_ false)) 0]) .ret))))
theorem gc126_ok:compF Tryz.prog Tryz.f126=some (gc126.er,38,[.tmp 4,.tmp 5]):=by unfold gc126;kernel_rfl
theorem p_subs_Out_v (a0:Int) (a1:Int):CallsO Tryz.prog 126 [.i a0,.y8 a1] (fun r:Int × Bool=>.tup [V.i r.1,V.b r.2]) (p_subs_Out a0 a1):=by
 refine callsO_comp mix Tryz.func126 gc126_ok fun r H=>?_
 rw [p_subs_Out] at H
 conv=>whnf
 refine ask_c (p_subs_Check_v _) H rfl rfl (fun v1 H=>?_);conv=>whnf
 refine tst_c H (fun b2 H=>?_) (fun b2 H=>?_)
 ·conv=>whnf
  exact fq_ H
 conv=>whnf
 refine tst_c H (fun b3 H=>?_) (fun b3 H=>?_)
 ·conv=>whnf
  refine tst_c H (fun b4 H=>?_) (fun b4 H=>?_)
  ·conv=>whnf
   exact fq_ H
  conv=>whnf
  exact fq_ H
 conv=>whnf
 refine tst_c H (fun b5 H=>?_) (fun b5 H=>?_)
 ·conv=>whnf
  refine ask_c (p_subs_lose_v _ _) H rfl rfl (fun v6 H=>?_);conv=>whnf
  exact fq_ H
 conv=>whnf
 refine tst_c H (fun b7 H=>?_) (fun b7 H=>?_)
 ·conv=>whnf
  refine ask_c (p_subs_turn_v _ _ _) H rfl rfl (fun v8 H=>?_);conv=>whnf
  exact fq_ H
 conv=>whnf
 refine tst_d H (fun b9 H=>?_) (fun b9 H=>?_)
 ·conv=>whnf
  exact fq_ H
 conv=>whnf
 refine ask_c (p_subs_lose_v _ _) H rfl rfl (fun v10 H=>?_);conv=>whnf
 exact fq_ H
def gc128:BCode:=(.seq (R_ 2 [O_ 1 (.bx (t_ 0)) 0,O_ 2 (.al (.agg [(.lit (.int .i64 0)),(.lit (.int .i64 0)),(.sl [] true),(.sl [] true),(.lit (.int .i64 0)),(.lit (.int .i64 0)),(.sl [] true),(.sl [] true)])) 1]) (.seq (R_ 0 [O_ 3 (.fa 4 (t_ 1)) 0,O_ 4 (.ld 4 true (t_ 3)) 0,O_ 5 (.fa 0 (t_ 1)) 0,O_ 6 (.ld 4 true (t_ 5)) 0,O_ 7 (.bd [(.lit (.int .i64 0)),(.lit (.int .i64 0)),(.sl [] true),(.sl [] true),(.lit (.int .i64 0)),(.lit (.int .i64 0)),(.sl [] true),(.sl [] true)] [(0,4,(t_ 4)),(4,4,(t_ 6))]) 0,U_ (.st 8 (t_ 2) (t_ 7)) 0]) .ret))
theorem gc128_ok:compF Tryz.prog Tryz.f128=some (gc128.er,8,[.cell 2 8 true]):=by unfold gc128;kernel_rfl
theorem p_pair_State_turn_v {u1 u2 u3 u4:Bool} (a0:Ref22State):CallsO Tryz.prog 128 [.agg [.i a0.A.Ver,.i a0.A.Floor,.sl (List.map ItemItem.v a0.A.Items) u1,.sl (List.map RosterGone.v a0.A.Gone) u2,.i a0.B.Ver,.i a0.B.Floor,.sl (List.map ItemItem.v a0.B.Items) u3,.sl (List.map RosterGone.v a0.B.Gone) u4]] Ref22State.v (p_pair_State_turn a0):=by
 refine callsO_comp mix Tryz.func128 gc128_ok fun r H=>?_
 rw [p_pair_State_turn] at H
 conv=>whnf
 refine lq_ ?_;conv=>whnf
 refine finR_c (enc:=Ref22State.v) H ?_;conv=>whnf
 exact ⟨_,.v (fzagg (.cons (.id rfl) (.cons (.id rfl) (.cons (.slw) (.cons (.slw) (.cons (.id rfl) (.cons (.id rfl) (.cons (.slw) (.cons (.slw) (.nil))))))))) rfl)⟩
def gc129:BCode:=(.seq (R_ 2 [O_ 1 (.bx (t_ 0)) 0,O_ 2 (.al (.agg [(.lit (.string ⟨#[]⟩)),(.lit (.string ⟨#[]⟩))])) 1]) (.seq (R_ 0 [O_ 3 (.fa 1 (t_ 1)) 0,O_ 4 (.ld 1 false (t_ 3)) 0,O_ 5 (.fa 0 (t_ 1)) 0,O_ 6 (.ld 1 false (t_ 5)) 0,O_ 7 (.bd [(.lit (.string ⟨#[]⟩)),(.lit (.string ⟨#[]⟩))] [(0,1,(t_ 4)),(1,1,(t_ 6))]) 0,U_ (.st 2 (t_ 2) (t_ 7)) 0]) .ret))
theorem gc129_ok:compF Tryz.prog Tryz.f129=some (gc129.er,8,[.cell 2 2 true]):=by unfold gc129;kernel_rfl
theorem p_pair_Names_turn_v (a0:Ref22Names):CallsO Tryz.prog 129 [.agg [.s a0.A,.s a0.B]] Ref22Names.v (p_pair_Names_turn a0):=by
 refine callsO_comp mix Tryz.func129 gc129_ok fun r H=>?_
 rw [p_pair_Names_turn] at H
 conv=>whnf
 refine lq_ ?_;conv=>whnf
 exact fin0_c (enc:=Ref22Names.v) H (.inr rfl) (.cons (.cell rfl rfl (Nat.le_of_ble_eq_true rfl)) (.nil)) rfl rfl
def gc130:BCode:=(.seq (R_ 0 [O_ 4 (.mv (i_ 0)) 0,O_ 5 (.mv (b_ false)) 0]) (.seq (.seq (R_ 0 [O_ 6 (.mv (t_ 0)) 0,O_ 7 (.cl 86 [(t_ 6)]) 0,O_ 8 (.bin .neq (t_ 7) (i_ 0)) 0]) (.cond (t_ 8) (.seq (R_ 0 [O_ 9 (.mv (t_ 0)) 0,O_ 4 (.mv (t_ 9)) 0,O_ 5 (.mv (b_ false)) 0]) .ret) .skip)) (.seq (.seq (R_ 0 [O_ 10 (.mv (t_ 1)) 0]) (.block 0 (.seq (R_ 0 [O_ 12 (.bin .eql (t_ 10) (.const (.int .u8 7))) 0,O_ 11 (.mv (t_ 12)) 0]) (.cond (t_ 11) (.seq (.seq (R_ 0 [O_ 13 (.mv (t_ 0)) 0,O_ 14 (.bin .and (t_ 13) (i_ 10)) 0,O_ 15 (.bin .neq (t_ 14) (i_ 0)) 0]) (.cond (t_ 15) (.seq (R_ 0 [O_ 16 (.mv (t_ 0)) 0,O_ 4 (.mv (t_ 16)) 0,O_ 5 (.mv (b_ false)) 0]) .ret) .skip)) (.seq (R_ 0 [O_ 17 (.mv (t_ 0)) 0,O_ 18 (.bin .or (t_ 17) (i_ 8)) 0,O_ 4 (.mv (t_ 18)) 0,O_ 5 (.mv (b_ true)) 0]) .ret)) (.seq (R_ 0 [O_ 20 (.bin .eql (t_ 10) (.const (.int .u8 10))) 0,O_ 19 (.mv (t_ 20)) 0]) (.cond (t_ 19) (.seq (R_ 0 [O_ 21 (.mv (t_ 0)) 0,O_ 22 (.cl 200 [(t_ 21),(i_ 10)]) 0,O_ 23 (.ex (t_ 22) 0) 0,O_ 24 (.ex (t_ 22) 1) 0,O_ 4 (.mv (t_ 23)) 0,O_ 5 (.mv (t_ 24)) 0]) .ret) (.seq (R_ 0 [O_ 26 (.bin .eql (t_ 10) (.const (.int .u8 8))) 0,O_ 25 (.mv (t_ 26)) 0]) (.cond (t_ 25) (.seq (R_ 0 [O_ 27 (.mv (t_ 0)) 0,O_ 28 (.cl 201 [(t_ 27),(i_ 4),(i_ 1)]) 0,O_ 29 (.ex (t_ 28) 0) 0,O_ 30 (.ex (t_ 28) 1) 0,O_ 4 (.mv (t_ 29)) 0,O_ 5 (.mv (t_ 30)) 0]) .ret) (.seq (R_ 0 [O_ 32 (.bin .eql (t_ 10) (.const (.int .u8 9))) 0,O_ 31 (.mv (t_ 32)) 0]) (.cond (t_ 31) (.seq (R_ 0 [O_ 33 (.mv (t_ 0)) 0,O_ 34 (.cl 200 [(t_ 33),(i_ 5)]) 0,O_ 35 (.ex (t_ 34) 0) 0,O_ 36 (.ex (t_ 34) 1) 0,O_ 4 (.mv (t_ 35)) 0,O_ 5 (.mv (t_ 36)) 0]) .ret) .skip)))))))))) (.seq (R_ 0 [O_ 37 (.mv (t_ 0)) 0,O_ 4 (.mv (t_ 37)) 0,O_ 5 (.mv (b_ false)) 0]) .ret))))
theorem gc130_ok:compF Tryz.prog Tryz.f130=some (gc130.er,38,[.tmp 4,.tmp 5]):=by unfold gc130;kernel_rfl
theorem p_subs_In_v (a0:Int) (a1:Int):CallsO Tryz.prog 130 [.i a0,.y8 a1] (fun r:Int × Bool=>.tup [V.i r.1,V.b r.2]) (p_subs_In a0 a1):=by
 refine callsO_comp mix Tryz.func130 gc130_ok fun r H=>?_
 rw [p_subs_In] at H
 conv=>whnf
 refine ask_c (p_subs_Check_v _) H rfl rfl (fun v1 H=>?_);conv=>whnf
 refine tst_c H (fun b2 H=>?_) (fun b2 H=>?_)
 ·conv=>whnf
  exact fq_ H
 conv=>whnf
 refine tst_c H (fun b3 H=>?_) (fun b3 H=>?_)
 ·conv=>whnf
  refine tst_c H (fun b4 H=>?_) (fun b4 H=>?_)
  ·conv=>whnf
   exact fq_ H
  conv=>whnf
  exact fq_ H
 conv=>whnf
 refine tst_c H (fun b5 H=>?_) (fun b5 H=>?_)
 ·conv=>whnf
  refine ask_c (p_subs_lose_v _ _) H rfl rfl (fun v6 H=>?_);conv=>whnf
  exact fq_ H
 conv=>whnf
 refine tst_c H (fun b7 H=>?_) (fun b7 H=>?_)
 ·conv=>whnf
  refine ask_c (p_subs_turn_v _ _ _) H rfl rfl (fun v8 H=>?_);conv=>whnf
  exact fq_ H
 conv=>whnf
 refine tst_d H (fun b9 H=>?_) (fun b9 H=>?_)
 ·conv=>whnf
  exact fq_ H
 conv=>whnf
 refine ask_c (p_subs_lose_v _ _) H rfl rfl (fun v10 H=>?_);conv=>whnf
 exact fq_ H
end Go.Proofs.YtpmoioopjbfhkaaGreat

namespace Go.Proofs.YtpmoioopjbfhkaaGreat
open Go.RowKit Go.Lib
set_option maxHeartbeats 4000000
set_option maxRecDepth 100000
theorem cloS168 (A:Addr) (n c:Nat) (cs:List Value) (w:World) (hn:0 < n) (hbig:n≤1000000) (hcl:cs.length=n * 2) (hcs:∀ j v,cs[j]?=some v→w.cell? (A.add j)=some v) (h1:∀ v ∈ cs,v.oneCell'=true) :
  Calls Tryz.prog 168 #[.slice (some A) n c] w fun e w'=>∃ ZS:Array Value,e=.returned (.slice (some ⟨w.heap.size + 1,0,none⟩) n (grownCap (w.alloc (.cells #[] 147)) n 0 147))∧w'=(w.alloc (.cells #[] 147)).drew.alloc (.cells (cs.toArray++ZS) 147)∧grownCap (w.alloc (.cells #[] 147)) n 0 147 * 2≤(cs.toArray++ZS).size:=by
 have tS:Tryz.prog.underlying 58=some (.slice 147):=by kernel_rfl
 have uS:=run_underlying tS
 have qS:∀ (w:World) (a:Option Addr) (n c n' c' : Nat),(binOp .eql 58 (.slice a n c) (.slice none n' c')).run Tryz.prog w=.ok (.bool a.isNone) w:=fun w a n c n' c'=>Lib.run_eql_slice_nil w _ _ a n c n' c' tS
 have mixed:Tryz.prog.follows .mixedOrders=true:=mix
 obtain ⟨i0,z,hi0,hzs,hz0,hzc,hzb⟩:=infB_ok (P:=Tryz.prog) (e:=147) (es:=2) (by kernel_rfl)
 have hsrc:Src Tryz.prog i0.size 58 (.slice (some A) n c) n cs (w.alloc (.cells #[] 147)):=by
  rw [hzs]
  exact Src.ofSlice _ tS A n c cs (by omega) (fun j u hj=>Lib.cell?_alloc_some _ (hcs j u hj)) h1
 have hold:(Builtin.firstCells i0.size 0 (.slice (some ⟨w.heap.size,0,none⟩) 0 0)).run Tryz.prog (w.alloc (.cells #[] 147)).drew=.ok ([]:List Value).toArray (w.alloc (.cells #[] 147)).drew:=by
  rw [hzs]
  exact run_firstCells_some _ 2 0 ⟨w.heap.size,0,none⟩ 0 0 [] (by simp) (fun j v hj=>by simp at hj)
 have hrun:∀ ty,(Builtin.append_ #[58,58] ty #[.slice (some ⟨w.heap.size,0,none⟩) 0 0,.slice (some A) n c]).run Tryz.prog (w.alloc (.cells #[] 147))=_:=fun ty =>
  run_append_grow_src (w.alloc (.cells #[] 147)) 58 58 ty 147 i0 z tS hi0 hz0 (some ⟨w.heap.size,0,none⟩) 0 0 [] hold _ n cs hsrc (by omega) (by omega) (growslice_fits (by omega) (grown_bound (by omega) hzb))
 simp only [Nat.zero_add,List.nil_append,World.size_alloc] at hrun
 have hge:=grownCap_ge (w.alloc (.cells #[] 147)) n 0 147
 have hsz:grownCap (w.alloc (.cells #[] 147)) n 0 147 * 2≤(cs.toArray++Builtin.zeroCells z.cells (grownCap (w.alloc (.cells #[] 147)) n 0 147 - n)).size:=by
  simp only [Array.size_append,size_zeroCells,hzc,List.size_toArray,hcl]
  omega
 obtain ⟨ZS,hrun,hsz⟩ : ∃ ZS:Array Value,(∀ ty,(Builtin.append_ #[58,58] ty #[.slice (some ⟨w.heap.size,0,none⟩) 0 0,.slice (some A) n c]).run Tryz.prog (w.alloc (.cells #[] 147))=.ok (.slice (some ⟨w.heap.size + 1,0,none⟩) n (grownCap (w.alloc (.cells #[] 147)) n 0 147)) ((w.alloc (.cells #[] 147)).drew.alloc (.cells (cs.toArray++ZS) 147)))∧grownCap (w.alloc (.cells #[] 147)) n 0 147 * 2≤(cs.toArray++ZS).size:=⟨_,hrun,hsz⟩
 have main:Calls Tryz.prog 168 #[.slice (some A) n c] w fun e w'=>e=.returned (.slice (some ⟨w.heap.size + 1,0,none⟩) n (grownCap (w.alloc (.cells #[] 147)) n 0 147))∧w'=(w.alloc (.cells #[] 147)).drew.alloc (.cells (cs.toArray++ZS) 147):=by
  clear hsz hold hsrc hz0 hcs
  go_enter Tryz.func168,Tryz.ntmps168
  go_wp2_with (at_builtin;refine Lib.wpList_append_run _ rfl _ _ _ _ rfl _ _ rfl rfl _ _ (hrun _) ?_)
  go_ret
  exact ⟨rfl,rfl⟩
 refine main.mono ?_
 rintro e w' ⟨rfl,rfl⟩
 exact ⟨ZS,rfl,rfl,hsz⟩
theorem cloZ168 (A:Addr) (c:Nat) (w:World):Calls Tryz.prog 168 #[.slice (some A) 0 c] w fun e w'=>e=.returned (.slice (some ⟨w.heap.size,0,none⟩) 0 0)∧∃ q,w'=(w.alloc (.cells #[] 147)).drewN q:=by
 have tS:Tryz.prog.underlying 58=some (.slice 147):=by kernel_rfl
 have uS:=run_underlying tS
 have qS:∀ (w:World) (a:Option Addr) (n c n' c' : Nat),(binOp .eql 58 (.slice a n c) (.slice none n' c')).run Tryz.prog w=.ok (.bool a.isNone) w:=fun w a n c n' c'=>Lib.run_eql_slice_nil w _ _ a n c n' c' tS
 have mixed:Tryz.prog.follows .mixedOrders=true:=mix
 obtain ⟨i0,z,hi0,hzs,hz0,hzc,hzb⟩:=infB_ok (P:=Tryz.prog) (e:=147) (es:=2) (by kernel_rfl)
 have hsz:(Tryz.prog.info? 147).map (·.size)=some 2:=by rw [hi0];simp [hzs]
 have hrun:∀ ty,(Builtin.append_ #[58,58] ty #[.slice (some ⟨w.heap.size,0,none⟩) 0 0,.slice (some A) 0 c]).run Tryz.prog (w.alloc (.cells #[] 147))=.ok (.slice (some ⟨w.heap.size,0,none⟩) 0 0) (w.alloc (.cells #[] 147)):=fun ty=>by
  have hl:∀ (x:Addr) (W:World),(loadCells x 0).run Tryz.prog W=.ok #[] W:=fun x W=>by simpa using run_loadCells_list (P:=Tryz.prog) W x [] (by simp)
  simp [Builtin.append_,uS,Builtin.lenOf,Builtin.firstCells,sizeOf,typeInfo,hi0,hl,storeCells]
 have main:Calls Tryz.prog 168 #[.slice (some A) 0 c] w fun e w'=>e=.returned (.slice (some ⟨w.heap.size,0,none⟩) 0 0)∧w'=w.alloc (.cells #[] 147):=by
  go_enter Tryz.func168,Tryz.ntmps168
  go_wp2_with (at_builtin;refine Lib.wpList_append_run _ rfl _ _ _ _ rfl _ _ rfl rfl _ _ (hrun _) ?_)
  go_ret
  exact ⟨rfl,rfl⟩
 refine main.mono ?_
 rintro e w' ⟨rfl,rfl⟩
 exact ⟨rfl,0,rfl⟩
theorem cloN168 (n c:Nat) (w:World):Calls Tryz.prog 168 #[.slice none n c] w fun e w'=>e=.returned (.slice none 0 0)∧w'=w:=by
 have tS:Tryz.prog.underlying 58=some (.slice 147):=by kernel_rfl
 have uS:=run_underlying tS
 have qS:∀ (w:World) (a:Option Addr) (n c n' c' : Nat),(binOp .eql 58 (.slice a n c) (.slice none n' c')).run Tryz.prog w=.ok (.bool a.isNone) w:=fun w a n c n' c'=>Lib.run_eql_slice_nil w _ _ a n c n' c' tS
 have mixed:Tryz.prog.follows .mixedOrders=true:=mix
 go_enter Tryz.func168,Tryz.ntmps168
 go_wp2
 go_ret
 exact ⟨rfl,rfl⟩
theorem cloR168_v:CloRoads Tryz.prog 168 2 147:=⟨cloS168,cloZ168,cloN168⟩
end Go.Proofs.YtpmoioopjbfhkaaGreat

namespace Go.Proofs.YtpmoioopjbfhkaaGreat
open Go.RowKit
set_option maxRecDepth 100000
set_option maxHeartbeats 4000000
def gc107:BCode:=(.seq (R_ 2 [O_ 1 (.bx (t_ 0)) 0,O_ 2 (.al (.agg [(.lit (.int .i64 0)),(.lit (.int .i64 0)),(.sl [] true),(.sl [] true)])) 1]) (.seq (.reg 0 [O_ 3 (.fa 2 (t_ 1)) 0,O_ 4 (.ld 1 false (t_ 3)) 0,O_ 5 (.cl 101 [(t_ 4)]) 0,O_ 6 (.fa 3 (t_ 1)) 0,O_ 7 (.ld 1 false (t_ 6)) 0,O_ 8 (.cl 168 [(t_ 7)]) 0,O_ 9 (.fa 2 (t_ 1)) 0,U_ (.st 1 (t_ 9) (t_ 5)) 0,O_ 10 (.fa 3 (t_ 1)) 0,U_ (.st 1 (t_ 10) (t_ 8)) 0] (some [[],[0],[0,1],[],[3],[1,0,2,3,4],[4,3,2,1,0],[5,0,1,2,3,4,6],[7,6,5,4,3,2,1,0],[0,1,2,3,4,5,6,7,8]]) 2 []) (.seq (R_ 0 [O_ 11 (.ld 4 true (t_ 1)) 0,U_ (.st 4 (t_ 2) (t_ 11)) 0]) .ret)))
theorem gc107_ok:compF Tryz.prog Tryz.f107=some (gc107.er,12,[.cell 2 4 true]):=by unfold gc107;kernel_rfl
theorem p_roster_State_own_00 {u1 u2:Bool} (a:RosterState) (h0:a.Items=[]) (h1:a.Gone=[]):CallsS Tryz.prog 107 [.agg [.i a.Ver,.i a.Floor,.sl (List.map ItemItem.v a.Items) u1,.sl (List.map RosterGone.v a.Gone) u2]] [.fresh,.fresh] (.agg [.i a.Ver,.i a.Floor,.sl (List.map ItemItem.v []) true,.sl (List.map RosterGone.v []) true]) [.fresh,.fresh]:=by
 refine callsR_c (n0:=2) mix Tryz.func107 gc107_ok rfl ?_
 conv=>whnf
 refine cloE_c cloR101_v h0 ?_;conv=>whnf
 refine cloE_c cloR168_v h1 ?_;conv=>whnf
 refine lq_ ?_;conv=>whnf
 refine lq_ ?_;conv=>whnf
 refine FootQ.mk ⟨rfl,?_⟩;conv=>whnf
 refine lq_ ?_;conv=>whnf
 exact ⟨f_R [0,1] (.inr rfl) (.cons (.cell rfl rfl (Nat.le_of_ble_eq_true rfl)) .nil) rfl rfl rfl (fun i hi h=>absurd (by rcases i with _ | _ | i <;> first | rfl | (exfalso;have hi2:i + 1 + 1 < 2:=hi;omega)) h) ⟨rfl,⟨rfl,trivial⟩⟩⟩
theorem p_roster_State_own_01 {u1 u2:Bool} (a:RosterState) (h0:a.Items=[]) (h1:a.Gone≠[]) (n1:a.Gone.length≤1000000):CallsS Tryz.prog 107 [.agg [.i a.Ver,.i a.Floor,.sl (List.map ItemItem.v a.Items) u1,.sl (List.map RosterGone.v a.Gone) u2]] [.fresh,.fresh] (.agg [.i a.Ver,.i a.Floor,.sl (List.map ItemItem.v []) true,.osl 1 0 a.Gone.length 2 false]) [.fresh,.live (cellsM RosterGone.v a.Gone) 0]:=by
 refine callsR_c (n0:=2) mix Tryz.func107 gc107_ok rfl ?_
 conv=>whnf
 refine cloE_c cloR101_v h0 ?_;conv=>whnf
 refine cloN_c cloR168_v 5 (fun _=>rfl) (fun _=>rfl) rfl h1 n1 ?_;conv=>whnf
 refine lq_ ?_;conv=>whnf
 refine lq_ ?_;conv=>whnf
 refine FootQ.mk ⟨rfl,?_⟩;conv=>whnf
 refine lq_ ?_;conv=>whnf
 exact ⟨f_R [0,5] (.inr rfl) (.cons (.cell rfl rfl (Nat.le_of_ble_eq_true rfl)) .nil) rfl rfl rfl (fun i hi h=>absurd (by rcases i with _ | _ | i <;> first | rfl | (exfalso;have hi2:i + 1 + 1 < 2:=hi;omega)) h) ⟨rfl,(wkB_live0 rfl (cellsM_idlt (f:=RosterGone.v) (fun _=>rfl) _) rfl trivial)⟩⟩
theorem p_roster_State_own_10 {u1 u2:Bool} (a:RosterState) (h0:a.Items≠[]) (n0:a.Items.length≤1000000) (h1:a.Gone=[]):CallsS Tryz.prog 107 [.agg [.i a.Ver,.i a.Floor,.sl (List.map ItemItem.v a.Items) u1,.sl (List.map RosterGone.v a.Gone) u2]] [.fresh,.fresh] (.agg [.i a.Ver,.i a.Floor,.osl 0 0 a.Items.length 5 false,.sl (List.map RosterGone.v []) true]) [.live (cellsM ItemItem.v a.Items) 0,.fresh]:=by
 refine callsR_c (n0:=2) mix Tryz.func107 gc107_ok rfl ?_
 conv=>whnf
 refine cloN_c cloR101_v 4 (fun _=>rfl) (fun _=>rfl) rfl h0 n0 ?_;conv=>whnf
 refine cloE_c cloR168_v h1 ?_;conv=>whnf
 refine lq_ ?_;conv=>whnf
 refine lq_ ?_;conv=>whnf
 refine FootQ.mk ⟨rfl,?_⟩;conv=>whnf
 refine lq_ ?_;conv=>whnf
 exact ⟨f_R [4,1] (.inr rfl) (.cons (.cell rfl rfl (Nat.le_of_ble_eq_true rfl)) .nil) rfl rfl rfl (fun i hi h=>absurd (by rcases i with _ | _ | i <;> first | rfl | (exfalso;have hi2:i + 1 + 1 < 2:=hi;omega)) h) (wkB_live0 rfl (cellsM_idlt (f:=ItemItem.v) (fun _=>rfl) _) rfl ⟨rfl,trivial⟩)⟩
theorem p_roster_State_own_11 {u1 u2:Bool} (a:RosterState) (h0:a.Items≠[]) (n0:a.Items.length≤1000000) (h1:a.Gone≠[]) (n1:a.Gone.length≤1000000):CallsS Tryz.prog 107 [.agg [.i a.Ver,.i a.Floor,.sl (List.map ItemItem.v a.Items) u1,.sl (List.map RosterGone.v a.Gone) u2]] [.fresh,.fresh] (.agg [.i a.Ver,.i a.Floor,.osl 0 0 a.Items.length 5 false,.osl 1 0 a.Gone.length 2 false]) [.live (cellsM ItemItem.v a.Items) 0,.live (cellsM RosterGone.v a.Gone) 0]:=by
 refine callsR_c (n0:=2) mix Tryz.func107 gc107_ok rfl ?_
 conv=>whnf
 refine cloN_c cloR101_v 4 (fun _=>rfl) (fun _=>rfl) rfl h0 n0 ?_;conv=>whnf
 refine cloN_c cloR168_v 5 (fun _=>rfl) (fun _=>rfl) rfl h1 n1 ?_;conv=>whnf
 refine lq_ ?_;conv=>whnf
 refine lq_ ?_;conv=>whnf
 refine FootQ.mk ⟨rfl,?_⟩;conv=>whnf
 refine lq_ ?_;conv=>whnf
 exact ⟨f_R [4,5] (.inr rfl) (.cons (.cell rfl rfl (Nat.le_of_ble_eq_true rfl)) .nil) rfl rfl rfl (fun i hi h=>absurd (by rcases i with _ | _ | i <;> first | rfl | (exfalso;have hi2:i + 1 + 1 < 2:=hi;omega)) h) (wkB_live0 rfl (cellsM_idlt (f:=ItemItem.v) (fun _=>rfl) _) rfl (wkB_live0 rfl (cellsM_idlt (f:=RosterGone.v) (fun _=>rfl) _) rfl trivial))⟩
theorem p_roster_State_own_c {β:Type} {r:β} {st:List Slot} {i j:Nat} {u1 u2:Bool} {a:RosterState} {X:RosterState→Option β} {K:V→List Nat→List Nat→List Slot→Prop} (H:(p_roster_State_own a).bind X=some r) (hij:i≠j) (hi:st[i]?=some .fresh) (hj:st[j]?=some .fresh)
  (h00:X ⟨a.Ver,a.Floor,[],[]⟩=some r→ssetK st i (.fresh) fun st1=>ssetK st1 j (.fresh) fun st2=>K (.agg [.i a.Ver,.i a.Floor,.sl (List.map ItemItem.v []) true,.sl (List.map RosterGone.v []) true]) [] [i,j] st2) (h01:∀ G:List RosterGone,X ⟨a.Ver,a.Floor,[],G⟩=some r→ssetK st i (.fresh) fun st1=>ssetK st1 j (.live (cellsM RosterGone.v G) 0) fun st2=>K (.agg [.i a.Ver,.i a.Floor,.sl (List.map ItemItem.v []) true,.osl j 0 G.length 2 false]) [] [i,j] st2) (h10:∀ I:List ItemItem,X ⟨a.Ver,a.Floor,I,[]⟩=some r→ssetK st i (.live (cellsM ItemItem.v I) 0) fun st1=>ssetK st1 j (.fresh) fun st2=>K (.agg [.i a.Ver,.i a.Floor,.osl i 0 I.length 5 false,.sl (List.map RosterGone.v []) true]) [] [i,j] st2) (h11:∀ (I:List ItemItem) (G:List RosterGone),X ⟨a.Ver,a.Floor,I,G⟩=some r→ssetK st i (.live (cellsM ItemItem.v I) 0) fun st1=>ssetK st1 j (.live (cellsM RosterGone.v G) 0) fun st2=>K (.agg [.i a.Ver,.i a.Floor,.osl i 0 I.length 5 false,.osl j 0 G.length 2 false]) [] [i,j] st2):Ask Tryz.prog 107 [.agg [.i a.Ver,.i a.Floor,.sl (List.map ItemItem.v a.Items) u1,.sl (List.map RosterGone.v a.Gone) u2]] st K:=by
 obtain ⟨s,hs,H⟩:=bind_c H
 unfold p_roster_State_own at hs
 obtain ⟨l1,k1,hs⟩:=bind_c hs
 obtain ⟨l2,k2,hs⟩:=bind_c hs
 unfold clone? at k1 k2
 split at k1
 case isFalse=>cases k1
 split at k2
 case isFalse=>cases k2
 rename_i n0 n1
 obtain rfl:=Option.some.inj k1
 obtain rfl:=Option.some.inj k2
 obtain rfl:=Option.some.inj hs
 by_cases e0:a.Items=[] <;> by_cases e1:a.Gone=[]
 ·have h:=h00 (by rw [e0,e1] at H;exact H)
  rw [ssetK_eq,ssetK_eq] at h
  exact Ask_L (rd:=[]) (ef:=[(i,.fresh),(j,.fresh)]) (fun st2 _ h2=>callsS_new (p_roster_State_own_00 a e0 e1) rfl hij ((h2 i (.inr (by simp))).trans hi) ((h2 j (.inr (by simp))).trans hj) (fun cs f h=>by rcases h with h | h <;> cases h)) h
 ·have h:=h01 a.Gone (by rw [e0] at H;exact H)
  rw [ssetK_eq,ssetK_eq] at h
  exact Ask_L (rd:=[]) (ef:=[(i,.fresh),(j,.live (cellsM RosterGone.v a.Gone) 0)]) (fun st2 _ h2=>callsS_new (p_roster_State_own_01 a e0 e1 n1) rfl hij ((h2 i (.inr (by simp))).trans hi) ((h2 j (.inr (by simp))).trans hj) (fun cs f h=>by rcases h with h | h <;> first | (cases h;done) | (simp only [Slot.live.injEq] at h;obtain ⟨rfl,rfl⟩:=h;exact litL_M (fun _=>rfl) _))) h
 ·have h:=h10 a.Items (by rw [e1] at H;exact H)
  rw [ssetK_eq,ssetK_eq] at h
  exact Ask_L (rd:=[]) (ef:=[(i,.live (cellsM ItemItem.v a.Items) 0),(j,.fresh)]) (fun st2 _ h2=>callsS_new (p_roster_State_own_10 a e0 n0 e1) rfl hij ((h2 i (.inr (by simp))).trans hi) ((h2 j (.inr (by simp))).trans hj) (fun cs f h=>by rcases h with h | h <;> first | (cases h;done) | (simp only [Slot.live.injEq] at h;obtain ⟨rfl,rfl⟩:=h;exact litL_M (fun _=>rfl) _))) h
 ·have h:=h11 a.Items a.Gone (by exact H)
  rw [ssetK_eq,ssetK_eq] at h
  exact Ask_L (rd:=[]) (ef:=[(i,.live (cellsM ItemItem.v a.Items) 0),(j,.live (cellsM RosterGone.v a.Gone) 0)]) (fun st2 _ h2=>callsS_new (p_roster_State_own_11 a e0 n0 e1 n1) rfl hij ((h2 i (.inr (by simp))).trans hi) ((h2 j (.inr (by simp))).trans hj) (fun cs f h=>by rcases h with h | h <;> (simp only [Slot.live.injEq] at h;obtain ⟨rfl,rfl⟩:=h;exact litL_M (fun _=>rfl) _))) h
end Go.Proofs.YtpmoioopjbfhkaaGreat

namespace Go.Proofs.YtpmoioopjbfhkaaGreat
open Go.RowKit Go.Lib
set_option maxHeartbeats 4000000
set_option maxRecDepth 100000
theorem delS169 (b n c i j:Nat) (cs:List Value) (w:World) (hij:i < j) (hj:j≤n) (hnc:n≤c) (hbig:n≤1000000) (hcl:cs.length=n * 5) (hcs:∀ t v,cs[t]?=some v→w.cell? ⟨b,t,none⟩=some v) (hfz:∀ t,t < n * 5→w.frozen? ⟨b,t,none⟩=false) (h1c:∀ v ∈ cs,v.oneCell'=true) :
  Calls Tryz.prog 169 #[.slice (some ⟨b,0,none⟩) n c,.int .i64 i,.int .i64 j] w fun e w'=>∃ zs:List Value,zs.length=(j - i) * 5∧(∀ v ∈ zs,v.oneCell'=true)∧e=.returned (.slice (some ⟨b,0,none⟩) (n - (j - i)) c)∧w'=(w.drew.setCells b (i * 5) (cs.drop (j * 5))).setCells b ((n - (j - i)) * 5) zs:=by
 have tS:Tryz.prog.underlying 47=some (.slice 26):=by kernel_rfl
 have uS:=run_underlying tS
 have mixed:Tryz.prog.follows .mixedOrders=true:=mix
 obtain ⟨i0,z,hi0,hzs,hz0,hzc,hzb,hz1⟩:=infB2_ok (P:=Tryz.prog) (e:=26) (es:=5) (by kernel_rfl)
 have hlen:(cs.drop (j * 5)).length=(n - j) * 5:=by rw [List.length_drop,hcl];omega
 obtain ⟨Ad,hA,hsrc⟩ : ∃ Ad:Addr,(if c=j then some (⟨b,0,none⟩ : Addr) else some ⟨b,j * 5,none⟩)=some Ad∧Hid (∀ t u,(cs.drop (j * 5))[t]?=some u→w.drew.cell? (Ad.add t)=some u):=by
  by_cases h:c=j
  ·refine ⟨⟨b,0,none⟩,by simp [h],fun t u hu=>?_⟩
   have:=(List.getElem?_eq_some_iff.1 hu).1
   omega
  ·refine ⟨⟨b,j * 5,none⟩,by simp [h],fun t u hu=>?_⟩
   rw [Addr.add_lit]
   exact hcs _ u (by rwa [List.getElem?_drop] at hu)
 have s1:Hid ((cs.drop (j * 5)).length=(n - j) * 5):=hlen
 have s2:Hid (∀ u ∈ cs.drop (j * 5),u.oneCell'=true):=fun u hu=>h1c u (List.mem_of_mem_drop hu)
 have hsome:∀ t,t < n * 5→(w.drew.cell? ⟨b,t,none⟩).isSome=true:=fun t ht=>by
  show (w.cell? ⟨b,t,none⟩).isSome=true
  rw [hcs t _ (List.getElem?_eq_getElem (by omega))];rfl
 have s3:Hid (∀ t,t < (cs.drop (j * 5)).length→(w.drew.cell? ⟨b,0 + i * 5 + t,none⟩).isSome=true∧w.drew.frozen? ⟨b,0 + i * 5 + t,none⟩=false):=fun t ht=>by
  rw [Nat.zero_add]
  exact ⟨hsome _ (by omega),hfz _ (by omega)⟩
 obtain ⟨W1,hW1⟩ : ∃ W1,W1=w.drew.setCells b (0 + i * 5) (cs.drop (j * 5)):=⟨_,rfl⟩
 have hin:∀ t,t < n * 5→(W1.cell? ⟨b,t,none⟩).isSome=true:=fun t ht=>by
  rw [hW1]
  exact isSome_setCells b _ _ _ (fun q hq=>by rw [Nat.zero_add];exact hsome _ (by omega)) _ (hsome t ht)
 have hfin:∀ t,t < n * 5→W1.frozen? ⟨b,t,none⟩=false:=fun t ht=>by
  rw [hW1,World.frozen?_setCells];exact hfz t ht
 have hzl:(Builtin.zeroCells z.cells (n - (i + (n - j)))).toList.length=(n - (i + (n - j))) * 5:=by rw [Array.length_toList,size_zeroCells,hzc]
 have hz1' : ∀ m,∀ v ∈ (Builtin.zeroCells z.cells m).toList,v.oneCell'=true:=zeroCells_one hz1
 have hcl2:∀ ty,(Builtin.clear_ #[47] ty #[.slice (some ⟨b,(i + (n - j)) * 5,none⟩) (n - (i + (n - j))) (c - (i + (n - j)))]).run Tryz.prog W1=.ok (.tuple #[]) (W1.setCells b ((i + (n - j)) * 5) (Builtin.zeroCells z.cells (n - (i + (n - j)))).toList) :=
  fun ty=>run_clear_es W1 47 26 ty z 5 tS (fun w=>by simp [zeroValue,typeInfo,hi0,hz0]) hzc hz1' b _ _ _ (by omega) (fun t ht=>hin _ (by omega)) (fun t ht=>hfin _ (by omega))
 obtain ⟨ZS,hZS⟩ : ∃ ZS,ZS=(Builtin.zeroCells z.cells (n - (i + (n - j)))).toList:=⟨_,rfl⟩
 rw [← hZS] at hcl2 hzl
 have hz2:∀ v ∈ ZS,v.oneCell'=true:=by rw [hZS];exact hz1' _
 have hic:i≤c:=by omega
 have hjc:j≤c:=by omega
 have hci:¬ (c=i):=by omega
 have hne:¬ ((i:Int)=(j:Int)):=by omega
 have hb1:(i:Int)≤(j:Int):=by omega
 have hb2:¬ (c=i + (n - j)):=by omega
 have main:Calls Tryz.prog 169 #[.slice (some ⟨b,0,none⟩) n c,.int .i64 i,.int .i64 j] w fun e w'=>e=.returned (.slice (some ⟨b,0,none⟩) (i + (n - j)) c)∧w'=W1.setCells b ((i + (n - j)) * 5) ZS:=by
  have hW:Hid (W1=w.drew.setCells b (0 + i * 5) (cs.drop (j * 5))):=hW1
  clear hW1 hz0 hz1 hz1' hzb hz2 hzl hlen hcs hsome hin hfin hZS
  go_enter Tryz.func169,Tryz.ntmps169
  go_wp2_with fail
  go_region_law_o (refine step_append_room rfl (.tmp 22) (.tmp 25) 47 rfl 26 i0 5 tS hi0 hzs b 0 i c (by simp [Act.eval,Act.put]) Ad (n - j) (c - j) (cs.drop (j * 5)) (by simp [Act.eval,Act.put]) s1.out hsrc.out s2.out (by omega) s3.out ?_;rw [← hW.out])
  go_wp2
  go_ret
  first | exact ⟨rfl,rfl⟩ | trace_state
 refine main.mono ?_
 rintro e w' ⟨rfl,rfl⟩
 have he:i + (n - j)=n - (j - i):=by omega
 refine ⟨ZS,by rw [hzl];congr 1;omega,hz2,by rw [he],by rw [hW1,Nat.zero_add,he]⟩
theorem delR169_v:DelRoads Tryz.prog 169 5:=⟨delS169⟩
end Go.Proofs.YtpmoioopjbfhkaaGreat

namespace Go.Proofs.YtpmoioopjbfhkaaGreat
open Go.RowKit Go.Lib
set_option maxHeartbeats 4000000
set_option maxRecDepth 100000
theorem insS170 (b n c i vb voff vc:Nat) (cs vs:List Value) (w:World) (tA tB:TypeId) (kA kB:Nat) (hi:i < n) (hroom:n + 1≤c) (hbig:n + 1≤1000000) (hvb:vb≠b) (hcl:cs.length=n * 5) (hvl:vs.length=5)
  (hcs:∀ j v,cs[j]?=some v→w.cell? ⟨b,j,none⟩=some v) (hsp:∀ j,j < (n + 1) * 5→(w.cell? ⟨b,j,none⟩).isSome=true) (hfz:∀ j,j < (n + 1) * 5→w.frozen? ⟨b,j,none⟩=false)
  (hvs:∀ j v,vs[j]?=some v→w.cell? ⟨vb,voff + j,none⟩=some v) (h1c:∀ v ∈ cs,v.oneCell'=true) (h1v:∀ v ∈ vs,v.oneCell'=true)
  (hsa:w.shape? vb=some (tA,kA)) (hsb:w.shape? b=some (tB,kB)) (hkA:kA≠0) (hkB:kB≠0) (hfe:w.frozen? ⟨b,kB,none⟩=false) :
  Calls Tryz.prog 170 #[.slice (some ⟨b,0,none⟩) n c,.int .i64 i,.slice (some ⟨vb,voff,none⟩) 1 vc] w fun e w' =>
   e=.returned (.slice (some ⟨b,0,none⟩) (n + 1) c)∧w'=(w.drew.setCells b ((i + 1) * 5) (cs.drop (i * 5))).setCells b (i * 5) vs:=by
 have tS:Tryz.prog.underlying 47=some (.slice 26):=by kernel_rfl
 have tV:Tryz.prog.underlying 47=some (.slice 26):=by kernel_rfl
 have tI:Tryz.prog.underlying 3=some (.int .i64):=by kernel_rfl
 have uS:=run_underlying tS
 have uV:=run_underlying tV
 have uI:=run_underlying tI
 have mixed:Tryz.prog.follows .mixedOrders=true:=mix
 obtain ⟨i0,z,hi0,hzs,hz0,hzc,hzb⟩:=infB_ok (P:=Tryz.prog) (e:=26) (es:=5) (by kernel_rfl)
 have hsz:(Tryz.prog.info? 26).map (·.size)=some 5:=by rw [hi0];simp [hzs]
 have hov:∀ lb cb,(callFunc 219 #[.slice (some ⟨vb,voff,none⟩) 1 vc,.slice (some ⟨b,(i + 1) * 5,none⟩) lb cb]).run Tryz.prog w=.ok (.value (.bool false)) w:=fun lb cb=>by
  rw [run_callFunc_extern Tryz.func219 (by kernel_rfl) (by kernel_rfl) (by kernel_rfl) (e:=Extern.SlicesOverlaps.overlaps #[47,47] #[4]) (by kernel_rfl),
   run_overlaps_own w 47 4 26 tV 5 (fun w=>by rw [← hzs];exact run_sizeOf hi0 w) ⟨vb,voff,none⟩ ⟨b,(i + 1) * 5,none⟩ 1 vc lb cb hvb tA tB kA kB hsa hsb hkA hkB (hfz _ (by omega)) hfe]
  rfl
 have hdl:(cs.drop (i * 5)).length=(n - i) * 5:=by rw [List.length_drop,hcl];omega
 have hz2:¬ ((i:Int)=(n:Int)):=by omega
 have hw1:IntKind.i64.wrap ((i:Int) + 1)=(i:Int) + 1:=by rw [IntKind.wrap_i64];omega
 have hwn:IntKind.i64.wrap ((n:Int) + 1)=(n:Int) + 1:=by rw [IntKind.wrap_i64];omega
 have hb1:(0:Int)≤(i:Int) + 1:=by omega
 have hin:i≤n:=by omega
 have htn:((i:Int) + 1).toNat=i + 1:=by omega
 have htm:((n:Int) + 1).toNat=n + 1:=by omega
 have hb2:¬ (c=i + 1):=by omega
 have hb3:(i:Int)≤(n:Int) + 1:=by omega
 have hb4:¬ (c=i):=by omega
 have hb5:¬ ((c:Int) < (n:Int) + 1):=by omega
 have hb6:(n:Int) + 1≤(c:Int):=by omega
 have hm1:Nat.min (n + 1 - i) (n - i)=n - i:=by simp only [Nat.min_def];split <;> omega
 have hm2:Nat.min 1 (n + 1 - i)=1:=by simp only [Nat.min_def];split <;> omega
 have hcp1:∀ ty dc sc,(Builtin.copy_ #[47,47] ty #[.slice (some ⟨b,(i + 1) * 5,none⟩) (n - i) dc,.slice (some ⟨b,i * 5,none⟩) (n + 1 - i) sc]).run Tryz.prog w.drew=.ok (goInt (Nat.min (n + 1 - i) (n - i))) (w.drew.setCells b ((i + 1) * 5) (cs.drop (i * 5))):=fun ty dc sc =>
  run_copy_es w.drew _ _ ty 26 5 b ((i + 1) * 5) (n - i) dc ⟨b,i * 5,none⟩ (n + 1 - i) sc (cs.drop (i * 5)) tS hsz (by rw [hm1];exact hdl)
   (fun j v hj=>by rw [Addr.add_lit];exact hcs (i * 5 + j) v (by rwa [List.getElem?_drop] at hj))
   (fun j hj=>hsp _ (by omega)) (fun j hj=>hfz _ (by omega)) (fun v hv=>h1c v (List.mem_of_mem_drop hv))
 obtain ⟨W1,hW1⟩ : ∃ W1,W1=w.drew.setCells b ((i + 1) * 5) (cs.drop (i * 5)):=⟨_,rfl⟩
 have hsp1:∀ k,k < (n + 1) * 5→(W1.cell? ⟨b,k,none⟩).isSome=true:=fun k hk=>by
  rw [hW1]
  exact isSome_setCells b (cs.drop (i * 5)) ((i + 1) * 5) w.drew (fun j hj=>hsp _ (by omega)) _ (hsp k hk)
 have hcp2:∀ (W:World),(∀ x,W.cell? x=W1.cell? x)→(∀ x,W.frozen? x=W1.frozen? x)→∀ ty dc,(Builtin.copy_ #[47,47] ty #[.slice (some ⟨b,i * 5,none⟩) (n + 1 - i) dc,.slice (some ⟨vb,voff,none⟩) 1 vc]).run Tryz.prog W=.ok (goInt (Nat.min 1 (n + 1 - i))) (W.setCells b (i * 5) vs):=fun W hWc hWf ty dc =>
  run_copy_es W _ _ ty 26 5 b (i * 5) (n + 1 - i) dc ⟨vb,voff,none⟩ 1 vc vs tS hsz (by rw [hm2,hvl])
   (fun j v hj=>by
    rw [Addr.add_lit,hWc,hW1,World.cell?_setCells_out b _ _ _ _ (fun h _=>absurd h hvb)]
    exact hvs j v hj)
   (fun j hj=>by rw [hWc];exact hsp1 _ (by omega)) (fun j hj=>by rw [hWf,hW1,World.frozen?_setCells];exact hfz _ (by omega)) h1v
 rw [← hW1] at hcp1
 go_enter Tryz.func170,Tryz.ntmps170
 go_wp2_with (simp only [hov])
 go_region_law_o (refine step_copy_runI rfl _ _ 47 47 rfl _ _ (by simp [Act.eval,Act.put]) (by simp [Act.eval,Act.put]) (hcp1 _ _ _) ?_)
 go_wp2_with (at_builtin;refine wpList_copy_runI _ rfl _ _ 47 47 rfl _ _ rfl rfl (hcp2 _ (fun _=>rfl) (fun _=>rfl) _ _) ?_)
 go_ret
 first | exact ⟨rfl,rfl⟩ | exact ⟨rfl,by rw [hW1]⟩
theorem insE170 (b n c vb voff vc:Nat) (vs:List Value) (w:World) (hroom:n + 1≤c) (hbig:n + 1≤1000000) (hvl:vs.length=5)
  (hsp:∀ j,j < 5→(w.cell? ⟨b,n * 5 + j,none⟩).isSome=true) (hfz:∀ j,j < 5→w.frozen? ⟨b,n * 5 + j,none⟩=false)
  (hvs:∀ j v,vs[j]?=some v→w.cell? ⟨vb,voff + j,none⟩=some v) (h1v:∀ v ∈ vs,v.oneCell'=true) :
  Calls Tryz.prog 170 #[.slice (some ⟨b,0,none⟩) n c,.int .i64 n,.slice (some ⟨vb,voff,none⟩) 1 vc] w fun e w' =>
   e=.returned (.slice (some ⟨b,0,none⟩) (n + 1) c)∧w'=w.setCells b (n * 5) vs:=by
 have tS:Tryz.prog.underlying 47=some (.slice 26):=by kernel_rfl
 have tV:Tryz.prog.underlying 47=some (.slice 26):=by kernel_rfl
 have tI:Tryz.prog.underlying 3=some (.int .i64):=by kernel_rfl
 have uS:=run_underlying tS
 have uV:=run_underlying tV
 have uI:=run_underlying tI
 have mixed:Tryz.prog.follows .mixedOrders=true:=mix
 obtain ⟨i0,z,hi0,hzs,hz0,hzc,hzb⟩:=infB_ok (P:=Tryz.prog) (e:=26) (es:=5) (by kernel_rfl)
 have hsz:(Tryz.prog.info? 26).map (·.size)=some 5:=by rw [hi0];simp [hzs]
 have hsrc:Src Tryz.prog 5 47 (.slice (some ⟨vb,voff,none⟩) 1 vc) 1 vs w:=Src.ofSlice w tV ⟨vb,voff,none⟩ 1 vc vs (by omega) (fun j u hj=>by rw [Addr.add_lit];exact hvs j u hj) h1v
 have hrun:∀ ty,(Builtin.append_ #[47,47] ty #[.slice (some ⟨b,0,none⟩) n c,.slice (some ⟨vb,voff,none⟩) 1 vc]).run Tryz.prog w=_:=fun ty =>
  run_append_room_src w 47 47 ty 26 i0 tS hi0 b 0 n c _ 1 vs (by rw [hzs];exact hsrc) hroom (by rw [hzs,hvl,Nat.zero_add];exact hsp) (by rw [hzs,hvl,Nat.zero_add];exact hfz)
 rw [hzs,Nat.zero_add] at hrun
 go_enter Tryz.func170,Tryz.ntmps170
 go_wp2_with (at_builtin;refine Lib.wpList_append_run _ rfl _ _ _ _ rfl _ _ rfl rfl _ _ (hrun _) ?_)
 all_goals (go_ret;exact ⟨rfl,rfl⟩)
theorem insG170 (base:Option Addr) (n c vb voff vc:Nat) (cs vs:List Value) (w:World) (hnc:n≤c) (hroom:c < n + 1) (hbig:n + 1≤1000000) (hcl:cs.length=n * 5) (hvl:vs.length=5) (hnil:base=none→n=0)
  (hcs:∀ a,base=some a→∀ j v,cs[j]?=some v→w.cell? (a.add j)=some v) (hvs:∀ j v,vs[j]?=some v→w.cell? ⟨vb,voff + j,none⟩=some v) (h1v:∀ v ∈ vs,v.oneCell'=true) :
  Calls Tryz.prog 170 #[.slice base n c,.int .i64 n,.slice (some ⟨vb,voff,none⟩) 1 vc] w fun e w' =>
   ∃ zs:Array Value,e=.returned (.slice (some ⟨w.heap.size,0,none⟩) (n + 1) (grownCap w (n + 1) c 26))∧w'=w.drew.alloc (.cells ((cs++vs).toArray++zs) 26):=by
 have tS:Tryz.prog.underlying 47=some (.slice 26):=by kernel_rfl
 have tV:Tryz.prog.underlying 47=some (.slice 26):=by kernel_rfl
 have tI:Tryz.prog.underlying 3=some (.int .i64):=by kernel_rfl
 have uS:=run_underlying tS
 have uV:=run_underlying tV
 have uI:=run_underlying tI
 have mixed:Tryz.prog.follows .mixedOrders=true:=mix
 obtain ⟨i0,z,hi0,hzs,hz0,hzc,hzb⟩:=infB_ok (P:=Tryz.prog) (e:=26) (es:=5) (by kernel_rfl)
 have hsz:(Tryz.prog.info? 26).map (·.size)=some 5:=by rw [hi0];simp [hzs]
 have hsrc:Src Tryz.prog i0.size 47 (.slice (some ⟨vb,voff,none⟩) 1 vc) 1 vs w:=by
  rw [hzs]
  exact Src.ofSlice w tV ⟨vb,voff,none⟩ 1 vc vs (by omega) (fun j u hj=>by rw [Addr.add_lit];exact hvs j u hj) h1v
 have hold:(Builtin.firstCells i0.size n (.slice base n c)).run Tryz.prog w.drew=.ok cs.toArray w.drew:=by
  rw [hzs]
  cases base with
  | none =>
   have h0:=hnil rfl
   subst h0
   rw [List.length_eq_zero_iff.1 (by omega:cs.length=0)]
   exact run_firstCells_none w.drew 5 0 0 c
  | some a=>exact run_firstCells_some w.drew 5 n a n c cs hcl (fun j v hj=>hcs a rfl j v hj)
 have hrun:∀ ty,(Builtin.append_ #[47,47] ty #[.slice base n c,.slice (some ⟨vb,voff,none⟩) 1 vc]).run Tryz.prog w=_:=fun ty =>
  run_append_grow_src w 47 47 ty 26 i0 z tS hi0 hz0 base n c cs hold _ 1 vs hsrc hroom (by omega) (growslice_fits hroom (grown_bound hbig hzb))
 obtain ⟨ZS,hrun⟩ : ∃ ZS:Array Value,∀ ty,(Builtin.append_ #[47,47] ty #[.slice base n c,.slice (some ⟨vb,voff,none⟩) 1 vc]).run Tryz.prog w=.ok (.slice (some ⟨w.heap.size,0,none⟩) (n + 1) (grownCap w (n + 1) c 26)) (w.drew.alloc (.cells ((cs++vs).toArray++ZS) 26)):=⟨_,hrun⟩
 have main:Calls Tryz.prog 170 #[.slice base n c,.int .i64 n,.slice (some ⟨vb,voff,none⟩) 1 vc] w fun e w' =>
   e=.returned (.slice (some ⟨w.heap.size,0,none⟩) (n + 1) (grownCap w (n + 1) c 26))∧w'=w.drew.alloc (.cells ((cs++vs).toArray++ZS) 26):=by
  clear hz0 hold hsrc
  go_enter Tryz.func170,Tryz.ntmps170
  cases base with
  | none =>
   have h0:=hnil rfl
   subst h0
   go_wp2_with (at_builtin;refine Lib.wpList_append_run _ rfl _ _ _ _ rfl _ _ rfl rfl _ _ (hrun _) ?_)
   go_ret
   exact ⟨rfl,rfl⟩
  | some a =>
   obtain ⟨ab,ao,asp⟩:=a
   go_wp2_with (at_builtin;refine Lib.wpList_append_run _ rfl _ _ _ _ rfl _ _ rfl rfl _ _ (hrun _) ?_)
   all_goals (go_ret;exact ⟨rfl,rfl⟩)
 refine main.mono ?_
 rintro e w' ⟨rfl,rfl⟩
 exact ⟨ZS,rfl,rfl⟩
theorem insW170 (b n c i vb voff vc:Nat) (cs vs:List Value) (w:World) (hi:i < n) (hnc:n≤c) (hroom:c < n + 1) (hbig:n + 1≤1000000) (hcl:cs.length=n * 5) (hvl:vs.length=5)
  (hcs:∀ j v,cs[j]?=some v→w.cell? ⟨b,j,none⟩=some v) (hvs:∀ j v,vs[j]?=some v→w.cell? ⟨vb,voff + j,none⟩=some v) (h1c:∀ v ∈ cs,v.oneCell'=true) (h1v:∀ v ∈ vs,v.oneCell'=true) :
  Calls Tryz.prog 170 #[.slice (some ⟨b,0,none⟩) n c,.int .i64 i,.slice (some ⟨vb,voff,none⟩) 1 vc] w fun e w' =>
   ∃ ROW:Array Value,(n + 1) * 5≤ROW.size∧(∀ (j:Nat) (v:Value),(cs.take (i * 5))[j]?=some v→ROW[j]?=some v)∧e=.returned (.slice (some ⟨w.heap.size,0,none⟩) (n + 1) (grownCap w (n + 1) c 26)) ∧
    w'=(((w.alloc (.cells ROW 26)).drew.setCells w.heap.size (i * 5) vs).drew).setCells w.heap.size ((i + 1) * 5) (cs.drop (i * 5)):=by
 have tS:Tryz.prog.underlying 47=some (.slice 26):=by kernel_rfl
 have tV:Tryz.prog.underlying 47=some (.slice 26):=by kernel_rfl
 have tI:Tryz.prog.underlying 3=some (.int .i64):=by kernel_rfl
 have uS:=run_underlying tS
 have uV:=run_underlying tV
 have uI:=run_underlying tI
 have mixed:Tryz.prog.follows .mixedOrders=true:=mix
 obtain ⟨i0,z,hi0,hzs,hz0,hzc,hzb⟩:=infB_ok (P:=Tryz.prog) (e:=26) (es:=5) (by kernel_rfl)
 have hsz:(Tryz.prog.info? 26).map (·.size)=some 5:=by rw [hi0];simp [hzs]
 have hz2:¬ ((i:Int)=(n:Int)):=by omega
 have hz3:(c:Int) < (n:Int) + 1:=by omega
 have hbw:b < w.heap.size:=block_lt_of_cell (hcs 0 _ (List.getElem?_eq_getElem (by omega)))
 have hvw:vb < w.heap.size:=block_lt_of_cell (hvs 0 _ (List.getElem?_eq_getElem (by omega)))
 have hwk:IntKind.i64.wrap ((n:Int) + 1 - (i:Int))=((n + 1 - i:Nat):Int):=by rw [IntKind.wrap_i64];omega
 have hik:i + (n + 1 - i)=n + 1:=by omega
 have hold:(Builtin.firstCells i0.size i (.slice (some ⟨b,0,none⟩) i c)).run Tryz.prog w.drew=.ok (cs.take (i * 5)).toArray w.drew:=by
  rw [hzs]
  exact run_firstCells_some w.drew 5 i ⟨b,0,none⟩ i c (cs.take (i * 5)) (by rw [List.length_take];omega) (fun j v hj=>by
   rw [Addr.add_lit,Nat.zero_add]
   rw [List.getElem?_take] at hj
   split at hj
   ·exact hcs j v hj
   ·cases hj)
 have hbk:(n + 1 - i) * i0.bytes≤281474976710656:=by
  have:(n + 1 - i) * i0.bytes≤1000000 * 1000:=Nat.mul_le_mul (by omega) hzb
  omega
 have hrz:∀ ty,(Builtin.append_ #[47,3] ty #[.slice (some ⟨b,0,none⟩) i c,.int .i64 ((n + 1 - i:Nat):Int)]).run Tryz.prog w =
   .ok (.slice (some ⟨w.heap.size,0,none⟩) (n + 1) (grownCap w (n + 1) c 26)) (w.drew.alloc (.cells ((cs.take (i * 5)).toArray++Builtin.zeroCells z.cells (n + 1 - i)++Builtin.zeroCells z.cells (grownCap w (n + 1) c 26 - (n + 1))) 26)):=fun ty=>by
  have h:=Lib.run_append_grow_zeros w 47 3 ty 26 i0 z .i64 .i64 tS tI hi0 hz0 (some ⟨b,0,none⟩) i c (cs.take (i * 5)) hold (n + 1 - i) (by omega) (by omega) (by omega) (by omega) hbk (by rw [hik];exact growslice_fits hroom (grown_bound hbig hzb))
  rw [hik] at h
  exact h
 obtain ⟨G,hG⟩ : ∃ G,G=grownCap w (n + 1) c 26:=⟨_,rfl⟩
 obtain ⟨ROW,hROW⟩ : ∃ ROW:Array Value,ROW=(cs.take (i * 5)).toArray++Builtin.zeroCells z.cells (n + 1 - i)++Builtin.zeroCells z.cells (G - (n + 1)):=⟨_,rfl⟩
 rw [← hG] at hrz ⊢
 rw [← hROW] at hrz
 have hRl:(n + 1) * 5≤ROW.size:=by
  rw [hROW]
  simp only [Array.size_append,size_zeroCells,hzc,List.size_toArray,List.length_take]
  omega
 have hRt:∀ (j:Nat) (v:Value),(cs.take (i * 5))[j]?=some v→ROW[j]?=some v:=fun j v h=>by
  have hl:=(List.getElem?_eq_some_iff.1 h).1
  rw [hROW,Array.append_assoc,Array.getElem?_append_left (by simpa using hl),List.getElem?_toArray]
  exact h
 obtain ⟨W1,hW1⟩ : ∃ W1,W1=w.drew.alloc (.cells ROW 26):=⟨_,rfl⟩
 rw [← hW1] at hrz
 have hN:∀ j,j < (n + 1) * 5→(W1.cell? ⟨w.heap.size,j,none⟩).isSome=true:=fun j hj=>by
  rw [hW1,World.cell?_alloc_at (w:=w.drew) ROW _ w.heap.size j rfl,Array.getElem?_eq_getElem (by omega)];rfl
 have hNf:∀ j,W1.frozen? ⟨w.heap.size,j,none⟩=false:=fun j=>by rw [hW1];exact World.frozen?_alloc_at (w:=w.drew) ROW _ w.heap.size j rfl
 have hOb:∀ j v,w.cell? ⟨b,j,none⟩=some v→W1.cell? ⟨b,j,none⟩=some v:=fun j v h=>by rw [hW1,World.cell?_alloc_past (w:=w.drew) _ b j hbw];exact h
 have hOv:∀ j v,w.cell? ⟨vb,j,none⟩=some v→W1.cell? ⟨vb,j,none⟩=some v:=fun j v h=>by rw [hW1,World.cell?_alloc_past (w:=w.drew) _ vb j hvw];exact h
 have hmA:Nat.min 1 (n + 1 - i)=1:=by simp only [Nat.min_def];split <;> omega
 have hmB:Nat.min (n - i) (n - i)=n - i:=Nat.min_self _
 have hcpA:∀ (W:World),(∀ x,W.cell? x=W1.cell? x)→(∀ x,W.frozen? x=W1.frozen? x)→∀ ty dc,(Builtin.copy_ #[47,47] ty #[.slice (some ⟨w.heap.size,i * 5,none⟩) (n + 1 - i) dc,.slice (some ⟨vb,voff,none⟩) 1 vc]).run Tryz.prog W=.ok (goInt (Nat.min 1 (n + 1 - i))) (W.setCells w.heap.size (i * 5) vs):=fun W hWc hWf ty dc =>
  run_copy_es W _ _ ty 26 5 w.heap.size (i * 5) (n + 1 - i) dc ⟨vb,voff,none⟩ 1 vc vs tS hsz (by rw [hmA,hvl])
   (fun j v hj=>by rw [Addr.add_lit,hWc];exact hOv _ v (hvs j v hj))
   (fun j hj=>by rw [hWc];exact hN _ (by omega)) (fun j hj=>by rw [hWf];exact hNf _) h1v
 have hGn:n + 1≤G:=by rw [hG];exact grownCap_ge w _ _ _
 have hGi:¬ (G=i):=by omega
 have hGim:¬ (G=i + 1):=by omega
 have hci:¬ (c=i):=by omega
 have hbN:b≠w.heap.size:=by omega
 have hdl:(cs.drop (i * 5)).length=(n - i) * 5:=by rw [List.length_drop,hcl];omega
 have hcpB:∀ (W:World),(∀ x,W.cell? x=(W1.setCells w.heap.size (i * 5) vs).cell? x)→(∀ x,W.frozen? x=(W1.setCells w.heap.size (i * 5) vs).frozen? x)→∀ ty dc sc,(Builtin.copy_ #[47,47] ty #[.slice (some ⟨w.heap.size,(i + 1) * 5,none⟩) (n - i) dc,.slice (some ⟨b,i * 5,none⟩) (n - i) sc]).run Tryz.prog W=.ok (goInt (Nat.min (n - i) (n - i))) (W.setCells w.heap.size ((i + 1) * 5) (cs.drop (i * 5))):=fun W hWc hWf ty dc sc =>
  run_copy_es W _ _ ty 26 5 w.heap.size ((i + 1) * 5) (n - i) dc ⟨b,i * 5,none⟩ (n - i) sc (cs.drop (i * 5)) tS hsz (by rw [hmB];exact hdl)
   (fun j v hj=>by
    rw [Addr.add_lit,hWc,World.cell?_setCells_out _ _ _ _ _ (fun h _=>absurd h hbN)]
    exact hOb _ v (hcs (i * 5 + j) v (by rwa [List.getElem?_drop] at hj)))
   (fun j hj=>by rw [hWc];exact isSome_setCells _ _ _ _ (fun t ht=>hN _ (by omega)) _ (hN _ (by omega)))
   (fun j hj=>by rw [hWf,World.frozen?_setCells];exact hNf _) (fun v hv=>h1c v (List.mem_of_mem_drop hv))
 subst hW1
 have hE1:∀ x,((w.alloc (.cells ROW 26)).drew).cell? x=(w.drew.alloc (.cells ROW 26)).cell? x:=fun x=>rfl
 have hE2:∀ x,((w.alloc (.cells ROW 26)).drew).frozen? x=(w.drew.alloc (.cells ROW 26)).frozen? x:=fun x=>rfl
 have hF1:∀ x,(((w.alloc (.cells ROW 26)).drew.setCells w.heap.size (i * 5) vs).drew).cell? x=((w.drew.alloc (.cells ROW 26)).setCells w.heap.size (i * 5) vs).cell? x:=fun x=>rfl
 have hF2:∀ x,(((w.alloc (.cells ROW 26)).drew.setCells w.heap.size (i * 5) vs).drew).frozen? x=((w.drew.alloc (.cells ROW 26)).setCells w.heap.size (i * 5) vs).frozen? x:=fun x=>rfl
 have hw1:IntKind.i64.wrap ((i:Int) + 1)=(i:Int) + 1:=by rw [IntKind.wrap_i64];omega
 have hwn:IntKind.i64.wrap ((n:Int) + 1)=(n:Int) + 1:=by rw [IntKind.wrap_i64];omega
 have hb1:(0:Int)≤(i:Int) + 1:=by omega
 have hin:i≤n:=by omega
 have htn:((i:Int) + 1).toNat=i + 1:=by omega
 have hb3:(i:Int)≤(n:Int):=by omega
 have main:Calls Tryz.prog 170 #[.slice (some ⟨b,0,none⟩) n c,.int .i64 i,.slice (some ⟨vb,voff,none⟩) 1 vc] w fun e w' =>
   e=.returned (.slice (some ⟨w.heap.size,0,none⟩) (n + 1) G)∧w'=(((w.alloc (.cells ROW 26)).drew.setCells w.heap.size (i * 5) vs).drew).setCells w.heap.size ((i + 1) * 5) (cs.drop (i * 5)):=by
  clear hik hold hROW hG hRl hRt hbk hz0
  go_enter Tryz.func170,Tryz.ntmps170
  go_wp2_with (first
   | (at_builtin;refine Lib.wpList_append_run _ rfl _ _ _ _ rfl _ _ rfl rfl _ _ (hrz _) ?_)
   | (at_builtin;refine wpList_copy_runI _ rfl _ _ 47 47 rfl _ _ rfl rfl (hcpA _ hE1 hE2 _ _) ?_))
  go_region_law_o (refine step_copy_runI rfl _ _ 47 47 rfl (.slice (some ⟨w.heap.size,(i + 1) * 5,none⟩) (n - i) (G - (i + 1))) (.slice (some ⟨b,i * 5,none⟩) (n - i) (c - i)) (by simp [Act.eval,Act.put]) (by simp [Act.eval,Act.put]) (hcpB _ hF1 hF2 3 (G - (i + 1)) (c - i)) ?_)
  go_wp2
  go_ret
  first | exact ⟨rfl,rfl⟩ | trace_state
 refine main.mono ?_
 rintro e w' ⟨rfl,rfl⟩
 exact ⟨ROW,hRl,hRt,rfl,rfl⟩
theorem insR170_v:InsRoads Tryz.prog 170 5 26:=⟨insS170,insE170,insG170,insW170⟩
end Go.Proofs.YtpmoioopjbfhkaaGreat

namespace Go.Proofs.YtpmoioopjbfhkaaGreat
open Go.RowKit Go.Lib
set_option maxHeartbeats 4000000
set_option maxRecDepth 100000
theorem delS173 (b n c i j:Nat) (cs:List Value) (w:World) (hij:i < j) (hj:j≤n) (hnc:n≤c) (hbig:n≤1000000) (hcl:cs.length=n * 2) (hcs:∀ t v,cs[t]?=some v→w.cell? ⟨b,t,none⟩=some v) (hfz:∀ t,t < n * 2→w.frozen? ⟨b,t,none⟩=false) (h1c:∀ v ∈ cs,v.oneCell'=true) :
  Calls Tryz.prog 173 #[.slice (some ⟨b,0,none⟩) n c,.int .i64 i,.int .i64 j] w fun e w'=>∃ zs:List Value,zs.length=(j - i) * 2∧(∀ v ∈ zs,v.oneCell'=true)∧e=.returned (.slice (some ⟨b,0,none⟩) (n - (j - i)) c)∧w'=(w.drew.setCells b (i * 2) (cs.drop (j * 2))).setCells b ((n - (j - i)) * 2) zs:=by
 have tS:Tryz.prog.underlying 58=some (.slice 147):=by kernel_rfl
 have uS:=run_underlying tS
 have mixed:Tryz.prog.follows .mixedOrders=true:=mix
 obtain ⟨i0,z,hi0,hzs,hz0,hzc,hzb,hz1⟩:=infB2_ok (P:=Tryz.prog) (e:=147) (es:=2) (by kernel_rfl)
 have hlen:(cs.drop (j * 2)).length=(n - j) * 2:=by rw [List.length_drop,hcl];omega
 obtain ⟨Ad,hA,hsrc⟩ : ∃ Ad:Addr,(if c=j then some (⟨b,0,none⟩ : Addr) else some ⟨b,j * 2,none⟩)=some Ad∧Hid (∀ t u,(cs.drop (j * 2))[t]?=some u→w.drew.cell? (Ad.add t)=some u):=by
  by_cases h:c=j
  ·refine ⟨⟨b,0,none⟩,by simp [h],fun t u hu=>?_⟩
   have:=(List.getElem?_eq_some_iff.1 hu).1
   omega
  ·refine ⟨⟨b,j * 2,none⟩,by simp [h],fun t u hu=>?_⟩
   rw [Addr.add_lit]
   exact hcs _ u (by rwa [List.getElem?_drop] at hu)
 have s1:Hid ((cs.drop (j * 2)).length=(n - j) * 2):=hlen
 have s2:Hid (∀ u ∈ cs.drop (j * 2),u.oneCell'=true):=fun u hu=>h1c u (List.mem_of_mem_drop hu)
 have hsome:∀ t,t < n * 2→(w.drew.cell? ⟨b,t,none⟩).isSome=true:=fun t ht=>by
  show (w.cell? ⟨b,t,none⟩).isSome=true
  rw [hcs t _ (List.getElem?_eq_getElem (by omega))];rfl
 have s3:Hid (∀ t,t < (cs.drop (j * 2)).length→(w.drew.cell? ⟨b,0 + i * 2 + t,none⟩).isSome=true∧w.drew.frozen? ⟨b,0 + i * 2 + t,none⟩=false):=fun t ht=>by
  rw [Nat.zero_add]
  exact ⟨hsome _ (by omega),hfz _ (by omega)⟩
 obtain ⟨W1,hW1⟩ : ∃ W1,W1=w.drew.setCells b (0 + i * 2) (cs.drop (j * 2)):=⟨_,rfl⟩
 have hin:∀ t,t < n * 2→(W1.cell? ⟨b,t,none⟩).isSome=true:=fun t ht=>by
  rw [hW1]
  exact isSome_setCells b _ _ _ (fun q hq=>by rw [Nat.zero_add];exact hsome _ (by omega)) _ (hsome t ht)
 have hfin:∀ t,t < n * 2→W1.frozen? ⟨b,t,none⟩=false:=fun t ht=>by
  rw [hW1,World.frozen?_setCells];exact hfz t ht
 have hzl:(Builtin.zeroCells z.cells (n - (i + (n - j)))).toList.length=(n - (i + (n - j))) * 2:=by rw [Array.length_toList,size_zeroCells,hzc]
 have hz1' : ∀ m,∀ v ∈ (Builtin.zeroCells z.cells m).toList,v.oneCell'=true:=zeroCells_one hz1
 have hcl2:∀ ty,(Builtin.clear_ #[58] ty #[.slice (some ⟨b,(i + (n - j)) * 2,none⟩) (n - (i + (n - j))) (c - (i + (n - j)))]).run Tryz.prog W1=.ok (.tuple #[]) (W1.setCells b ((i + (n - j)) * 2) (Builtin.zeroCells z.cells (n - (i + (n - j)))).toList) :=
  fun ty=>run_clear_es W1 58 147 ty z 2 tS (fun w=>by simp [zeroValue,typeInfo,hi0,hz0]) hzc hz1' b _ _ _ (by omega) (fun t ht=>hin _ (by omega)) (fun t ht=>hfin _ (by omega))
 obtain ⟨ZS,hZS⟩ : ∃ ZS,ZS=(Builtin.zeroCells z.cells (n - (i + (n - j)))).toList:=⟨_,rfl⟩
 rw [← hZS] at hcl2 hzl
 have hz2:∀ v ∈ ZS,v.oneCell'=true:=by rw [hZS];exact hz1' _
 have hic:i≤c:=by omega
 have hjc:j≤c:=by omega
 have hci:¬ (c=i):=by omega
 have hne:¬ ((i:Int)=(j:Int)):=by omega
 have hb1:(i:Int)≤(j:Int):=by omega
 have hb2:¬ (c=i + (n - j)):=by omega
 have main:Calls Tryz.prog 173 #[.slice (some ⟨b,0,none⟩) n c,.int .i64 i,.int .i64 j] w fun e w'=>e=.returned (.slice (some ⟨b,0,none⟩) (i + (n - j)) c)∧w'=W1.setCells b ((i + (n - j)) * 2) ZS:=by
  have hW:Hid (W1=w.drew.setCells b (0 + i * 2) (cs.drop (j * 2))):=hW1
  clear hW1 hz0 hz1 hz1' hzb hz2 hzl hlen hcs hsome hin hfin hZS
  go_enter Tryz.func173,Tryz.ntmps173
  go_wp2_with fail
  go_region_law_o (refine step_append_room rfl (.tmp 22) (.tmp 25) 58 rfl 147 i0 2 tS hi0 hzs b 0 i c (by simp [Act.eval,Act.put]) Ad (n - j) (c - j) (cs.drop (j * 2)) (by simp [Act.eval,Act.put]) s1.out hsrc.out s2.out (by omega) s3.out ?_;rw [← hW.out])
  go_wp2
  go_ret
  first | exact ⟨rfl,rfl⟩ | trace_state
 refine main.mono ?_
 rintro e w' ⟨rfl,rfl⟩
 have he:i + (n - j)=n - (j - i):=by omega
 refine ⟨ZS,by rw [hzl];congr 1;omega,hz2,by rw [he],by rw [hW1,Nat.zero_add,he]⟩
theorem delR173_v:DelRoads Tryz.prog 173 2:=⟨delS173⟩
end Go.Proofs.YtpmoioopjbfhkaaGreat

