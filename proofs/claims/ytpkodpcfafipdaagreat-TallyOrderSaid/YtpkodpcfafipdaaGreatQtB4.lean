/- A part of the proof: 1 texts joined. -/
import Derived.Test.YtpkodpcfafipdaaGreatQtB1
import Derived.Test.YtpkodpcfafipdaaGreatQtB2
import Derived.Test.YtpkodpcfafipdaaGreatQtB3
import Derived.Test.YtpkodpcfafipdaaGreatQtA12
import Derived.KernelRfl
set_option linter.all false
namespace Go.Proofs.YtpkodpcfafipdaaGreat
open Go.RowKit
set_option maxRecDepth 1000000
set_option maxHeartbeats 4000000
def gc4:BCode:=(.seq (R_ 0 [O_ 4 (.mv (b_ false)) 0]) (.join (.seq (R_ 0 [O_ 15 (.mv (t_ 0)) 0,O_ 16 (.cl 7 [(t_ 15)]) 0,O_ 17 (.un .not (t_ 16)) 0,O_ 18 (.mv (t_ 17)) 0,⟨(some 19),.mv (t_ 1),(some (18,false)),0⟩,⟨(some 20),.cl 7 [(t_ 19)],(some (18,false)),0⟩,⟨(some 21),.un .not (t_ 20),(some (18,false)),0⟩,O_ 22 (.pick (t_ 18) (b_ true) (t_ 21)) 0]) (.cond (t_ 22) (.seq (R_ 0 [O_ 23 (.cl 8 []) 0,O_ 4 (.mv (t_ 23)) 0]) .ret) .skip)) (.seq (R_ 0 [O_ 5 (.mv (.const (.slice none 0 0))) 0]) (.seq (.seq (R_ 0 [O_ 24 (.mv (t_ 0)) 0,O_ 25 (.lens (t_ 24)) 0,O_ 26 (.bin .sub (t_ 25) (i_ 1)) 0,O_ 6 (.mv (t_ 26)) 0]) (.block 0 (.loop (.seq (.seq (R_ 0 [O_ 27 (.mv (t_ 6)) 0,O_ 28 (.bin .geq (t_ 27) (i_ 0)) 0]) (.cond (t_ 28) .skip (.exit 0))) (.seq (.block 1 (R_ 2 [O_ 31 (.mv (t_ 5)) 0,O_ 32 (.mv (t_ 0)) 0,O_ 33 (.mv (t_ 6)) 0,O_ 34 (.ixs 5 (t_ 32) (t_ 33)) 0,O_ 35 (.ld 5 true (t_ 34)) 0,O_ 36 (.bs 5 1 [(.lit (.int .i64 0)),(.sl [] true),(.sl [] true),(.lit (.string ⟨#[]⟩)),(.lit (.int .i64 0))] [(0,(t_ 35))]) 0,O_ 37 (.ap 5 80 (t_ 31) (t_ 36)) 1,O_ 5 (.mv (t_ 37)) 2])) (R_ 0 [O_ 29 (.mv (t_ 6)) 0,O_ 30 (.bin .sub (t_ 29) (i_ 1)) 0,O_ 6 (.mv (t_ 30)) 0])))))) (.seq (R_ 2 [O_ 38 (.mv (.const (.slice none 0 0))) 0,O_ 39 (.mv (t_ 0)) 0,O_ 40 (.ap 5 80 (t_ 38) (t_ 39)) 0,O_ 41 (.mv (t_ 1)) 1,O_ 42 (.ap 5 80 (t_ 40) (t_ 41)) 1,O_ 7 (.mv (t_ 42)) 2]) (.seq (.reg 0 [O_ 43 (.mv (t_ 0)) 0,O_ 44 (.cl 20 [(t_ 43)]) 0,O_ 45 (.mv (t_ 5)) 0,O_ 46 (.cl 20 [(t_ 45)]) 0,O_ 47 (.mv (t_ 7)) 0,O_ 48 (.cl 20 [(t_ 47)]) 0,O_ 49 (.mv (t_ 1)) 0,O_ 50 (.cl 20 [(t_ 49)]) 0,O_ 51 (.mv (t_ 0)) 0,O_ 52 (.cl 20 [(t_ 51)]) 0,O_ 8 (.mv (t_ 44)) 0,O_ 9 (.mv (t_ 46)) 0,O_ 10 (.mv (t_ 48)) 0,O_ 11 (.mv (t_ 50)) 0,O_ 12 (.mv (t_ 52)) 0] none 10 []) (.join (.seq (R_ 0 [O_ 53 (.mv (t_ 8)) 0,O_ 54 (.eqp false (t_ 53) (.const (.pointer none))) 0,O_ 55 (.mv (t_ 54)) 0,⟨(some 56),.mv (t_ 11),(some (55,false)),0⟩,⟨(some 57),.eqp false (t_ 56) (.const (.pointer none)),(some (55,false)),0⟩,O_ 58 (.pick (t_ 55) (b_ true) (t_ 57)) 0,O_ 59 (.mv (t_ 58)) 0,⟨(some 60),.mv (t_ 12),(some (59,false)),0⟩,⟨(some 61),.eqp false (t_ 60) (.const (.pointer none)),(some (59,false)),0⟩,O_ 62 (.pick (t_ 59) (b_ true) (t_ 61)) 0,O_ 63 (.mv (t_ 62)) 0,⟨(some 64),.mv (t_ 8),(some (63,false)),0⟩,⟨(some 65),.mv (t_ 11),(some (63,false)),0⟩,⟨(some 66),.cl 21 [(t_ 64),(t_ 65)],(some (63,false)),0⟩,⟨(some 67),.un .not (t_ 66),(some (63,false)),0⟩,O_ 68 (.pick (t_ 63) (b_ true) (t_ 67)) 0,O_ 69 (.mv (t_ 68)) 0,⟨(some 70),.mv (t_ 11),(some (69,false)),0⟩,⟨(some 71),.mv (t_ 12),(some (69,false)),0⟩,⟨(some 72),.cl 21 [(t_ 70),(t_ 71)],(some (69,false)),0⟩,⟨(some 73),.un .not (t_ 72),(some (69,false)),0⟩,O_ 74 (.pick (t_ 69) (b_ true) (t_ 73)) 0,O_ 75 (.mv (t_ 74)) 0,⟨(some 76),.mv (t_ 9),(some (75,false)),0⟩,⟨(some 77),.eqp false (t_ 76) (.const (.pointer none)),(some (75,false)),0⟩,O_ 78 (.pick (t_ 75) (b_ true) (t_ 77)) 0,O_ 79 (.mv (t_ 78)) 0,⟨(some 80),.mv (t_ 10),(some (79,false)),0⟩,⟨(some 81),.eqp false (t_ 80) (.const (.pointer none)),(some (79,false)),0⟩,O_ 82 (.pick (t_ 79) (b_ true) (t_ 81)) 0]) (.cond (t_ 82) (.seq (R_ 0 [O_ 4 (.mv (b_ false)) 0]) .ret) .skip)) (.seq (.seq (R_ 0 [O_ 13 (.mv (i_ 0)) 0]) (.block 2 (.loop (.seq (.seq (R_ 0 [O_ 83 (.mv (t_ 13)) 0,O_ 84 (.bin .lss (t_ 83) (i_ 12)) 0]) (.cond (t_ 84) .skip (.exit 2))) (.seq (.block 3 (.seq (R_ 0 [O_ 87 (.mv (t_ 13)) 0,O_ 88 (.cl 18 [(t_ 87)]) 0,O_ 14 (.mv (t_ 88)) 0]) (.seq (R_ 0 [O_ 89 (.mv (t_ 9)) 0,O_ 90 (.mv (t_ 14)) 0,O_ 91 (.cl 19 [(t_ 89),(t_ 90)]) 0,O_ 92 (.mv (t_ 12)) 0,O_ 93 (.mv (t_ 14)) 0,O_ 94 (.cl 19 [(t_ 92),(t_ 93)]) 0,O_ 95 (.bin .neq (t_ 91) (t_ 94)) 0,O_ 96 (.mv (t_ 95)) 0,⟨(some 97),.mv (t_ 8),(some (96,false)),0⟩,⟨(some 98),.mv (t_ 14),(some (96,false)),0⟩,⟨(some 99),.cl 19 [(t_ 97),(t_ 98)],(some (96,false)),0⟩,⟨(some 100),.mv (t_ 10),(some (96,false)),0⟩,⟨(some 101),.mv (t_ 14),(some (96,false)),0⟩,⟨(some 102),.cl 19 [(t_ 100),(t_ 101)],(some (96,false)),0⟩,⟨(some 103),.bin .neq (t_ 99) (t_ 102),(some (96,false)),0⟩,O_ 104 (.pick (t_ 96) (b_ true) (t_ 103)) 0,O_ 105 (.mv (t_ 104)) 0,⟨(some 106),.mv (t_ 11),(some (105,false)),0⟩,⟨(some 107),.mv (t_ 14),(some (105,false)),0⟩,⟨(some 108),.cl 19 [(t_ 106),(t_ 107)],(some (105,false)),0⟩,⟨(some 109),.mv (t_ 10),(some (105,false)),0⟩,⟨(some 110),.mv (t_ 14),(some (105,false)),0⟩,⟨(some 111),.cl 19 [(t_ 109),(t_ 110)],(some (105,false)),0⟩,⟨(some 112),.bin .neq (t_ 108) (t_ 111),(some (105,false)),0⟩,O_ 113 (.pick (t_ 105) (b_ true) (t_ 112)) 0]) (.cond (t_ 113) (.seq (R_ 0 [O_ 4 (.mv (b_ false)) 0]) .ret) .skip)))) (R_ 0 [O_ 85 (.mv (t_ 13)) 0,O_ 86 (.bin .add (t_ 85) (i_ 1)) 0,O_ 13 (.mv (t_ 86)) 0])))))) (.seq (R_ 0 [O_ 114 (.cl 8 []) 0,O_ 4 (.mv (t_ 114)) 0]) .ret)))))))))
theorem gc4_ok:compF Tryz.prog Tryz.f4=some (gc4.er,115,[.tmp 4]):=by unfold gc4;kernel_rfl
theorem p_law36_TallyOrder_v {u1 u2:Bool} (a0:List Law36Act) (a1:List Law36Act):CallsO Tryz.prog 4 [.sl (List.map Law36Act.v a0) u1,.sl (List.map Law36Act.v a1) u2] V.b (tru? (p_law36_TallyOrder a0 a1)):=by
 refine callsO_comp mix Tryz.func4 gc4_ok fun r H=>?_
 have H1:=tru_of H
 clear H
 obtain ⟨rfl,H⟩:=H1
 rw [p_law36_TallyOrder] at H
 conv=>whnf
 obtain ⟨K1,hK2,o3,HL4,HQ5⟩:=join0_c H
 refine join_c [4] [15,16,17,18,19,20,21,22,23] (fun vals st=>(K1 (.inl ())=some true∧vals=[.b false]∧st=[])) ?_ ?_
 ·have H:=HL4
  conv=>whnf
  refine ask_c (p_law36_few_v _) H rfl rfl (fun v7 H=>?_);conv=>whnf
  refine Tst.not ?_
  refine tst_d H (fun b8 H=>?_) (fun b8 H=>?_)
  ·conv=>whnf
   iterate 4 (refine Tst.T ?_;conv=>whnf)
   refine ask_c (p_law36_awake_v) H rfl rfl (fun v12 H=>?_);conv=>whnf
   obtain rfl:=Option.some.inj H
   have H:=HQ5
   rw [hK2] at H
   try dsimp only at H
   exact fb_ H
  conv=>whnf
  refine Tst.F ?_;conv=>whnf
  refine ask_c (p_law36_few_v _) H rfl rfl (fun v9 H=>?_);conv=>whnf
  iterate 2 (refine Tst.F ?_;conv=>whnf)
  refine Tst.not ?_
  refine tst_c H (fun b10 H=>?_) (fun b10 H=>?_)
  ·conv=>whnf
   obtain rfl:=Option.some.inj H
   exact arrive_c [15,16,17,18,19,20,21,22,23] 0 [] (⟨HQ5,rfl,rfl⟩) (Nat.zero_le _) rfl (by kernel_rfl) (by kernel_rfl) rfl trivial
  conv=>whnf
  refine ask_c (p_law36_awake_v) H rfl rfl (fun v11 H=>?_);conv=>whnf
  obtain rfl:=Option.some.inj H
  have H:=HQ5
  rw [hK2] at H
  try dsimp only at H
  exact fb_ H
 rintro _ _ (⟨H,rfl,rfl⟩)
 rw [hK2] at H
 try dsimp only at H
 conv=>whnf
 refine LenQ.M ?_;conv=>whnf
 refine Ari.w ?_;conv=>whnf
 obtain ⟨o14,HL15,HQ16⟩:=bind_c H
 refine loop_c [5,6] [27,28,29,30,31,32,33,34,35,36,37] [27,28,29,30,31,32,33,34,35,36,37] (fun n vals st=>(∃ y18,p_law36_TallyOrder_l1  a0 n [] y18=some o14∧vals=[.sl (List.map Law36Act.v []) true,.i y18]∧st=[])∨(∃ y22 y23,p_law36_TallyOrder_l1  a0 n y22 y23=some o14∧vals=[.osl 0 0 (List.length y22) 5 false,.i y23]∧st=[.live (cellsM Law36Act.v y22) (cellsM Law36Act.v y22).length])) fuel 0 [] (.inl (⟨_,HL15,rfl,rfl⟩)) (Nat.zero_le _) rfl (by kernel_rfl) (by kernel_rfl) rfl trivial ?_
 rintro (_ | n17) _ _ (⟨y18,H,rfl,rfl⟩ | ⟨y22,y23,H,rfl,rfl⟩)
 ·rw [p_law36_TallyOrder_l1] at H;cases H
 ·rw [p_law36_TallyOrder_l1] at H;cases H
 ·rw [p_law36_TallyOrder_l1] at H
  conv=>whnf
  refine tst_c H (fun b19 H=>?_) (fun b19 H=>?_)
  ·conv=>whnf
   refine ixs_c (f:=Law36Act.v) H (fun _=>rfl) (fun x20 H=>?_);conv=>whnf
   refine appN_c (f:=Law36Act.v) H (fun _=>rfl) (srcM (f:=Law36Act.v) (fun _=>rfl) [] true) rfl (.v (srcOwn (f:=Law36Act.v) (l:=[x20]) (fun _=>rfl) rfl rfl rfl)) (by decide) rfl (by simp) (fun l21 H=>?_);conv=>whnf
   refine Ari.w ?_;conv=>whnf
   exact again_c [27,28,29,30,31,32,33,34,35,36,37] n17 1 [1] (.inr (⟨_,_,H,rfl,rfl⟩)) (Nat.lt_succ_self _) (Nat.zero_le _) rfl (by kernel_rfl) (by kernel_rfl) rfl (wkB_live0 rfl (cellsM_idlt (f:=Law36Act.v) (fun _=>rfl) _) rfl trivial)
  conv=>whnf
  obtain rfl:=Option.some.inj H
  have H:=HQ16
  try dsimp only at H
  refine appE_c (f:=Law36Act.v) H (fun _=>rfl) rfl (.v (srcM (f:=Law36Act.v) (fun _=>rfl) _ _)) (by decide) rfl (fun H=>?_) (fun l24 H=>?_)
  ·conv=>whnf
   refine appE_c (f:=Law36Act.v) H (fun _=>rfl) rfl (.v (srcM (f:=Law36Act.v) (fun _=>rfl) _ _)) (by decide) rfl (fun H=>?_) (fun l106 H=>?_)
   ·conv=>whnf
    refine askN_c 2 3 (fun s hs=>p_law36_count_o _ s hs) H rfl rfl rfl rfl (fun s=>(belowL_app (cellsM_idlt (f:=SyncatomicInt64.v) (fun _=>rfl) _) rfl)) (.kp rfl (.nil)) (fun y147 H=>?_);conv=>whnf
    refine askN_c 4 5 (fun s hs=>p_law36_count_o _ s hs) H rfl rfl rfl rfl (fun s=>(belowL_app (cellsM_idlt (f:=SyncatomicInt64.v) (fun _=>rfl) _) rfl)) (.kp rfl (.nil)) (fun y148 H=>?_);conv=>whnf
    refine askN_c 6 7 (fun s hs=>p_law36_count_o _ s hs) H rfl rfl rfl rfl (fun s=>(belowL_app (cellsM_idlt (f:=SyncatomicInt64.v) (fun _=>rfl) _) rfl)) (.kp rfl (.nil)) (fun y149 H=>?_);conv=>whnf
    refine askN_c 8 9 (fun s hs=>p_law36_count_o _ s hs) H rfl rfl rfl rfl (fun s=>(belowL_app (cellsM_idlt (f:=SyncatomicInt64.v) (fun _=>rfl) _) rfl)) (.kp rfl (.nil)) (fun y150 H=>?_);conv=>whnf
    refine askN_c 10 11 (fun s hs=>p_law36_count_o _ s hs) H rfl rfl rfl rfl (fun s=>(belowL_app (cellsM_idlt (f:=SyncatomicInt64.v) (fun _=>rfl) _) rfl)) (.kp rfl (.nil)) (fun y151 H=>?_);conv=>whnf
    obtain ⟨K152,hK153,o154,HL155,HQ156⟩:=join0_c H
    refine join_c [4,8,9,10,11,12] [53,54,55,56,57,58,59,60,61,62,63,64,65,66,67,68,69,70,71,72,73,74,75,76,77,78,79,80,81,82,44,46,48,50,52] (fun vals st=>(∃ y162 y163,K152 (.inl (y162,y163))=some true∧vals=[.b false,.ptr 0 0,.ptr 1 0,.ptr 2 0,.ptr 3 0,.ptr 4 0]∧st=[.live (cellsM SyncatomicInt64.v y163.counts++([.lit (.int .u32 y163.once.done.v_),.lit (.int .i32 y163.once.m.mu.state),.lit (.int .u32 y163.once.m.mu.sema),.sl (List.map V.s y163.names) false])) 0,.live (cellsM SyncatomicInt64.v y148.counts++([.lit (.int .u32 y148.once.done.v_),.lit (.int .i32 y148.once.m.mu.state),.lit (.int .u32 y148.once.m.mu.sema),.sl (List.map V.s y148.names) false])) 0,.live (cellsM SyncatomicInt64.v y149.counts++([.lit (.int .u32 y149.once.done.v_),.lit (.int .i32 y149.once.m.mu.state),.lit (.int .u32 y149.once.m.mu.sema),.sl (List.map V.s y149.names) false])) 0,.live (cellsM SyncatomicInt64.v y162.counts++([.lit (.int .u32 y162.once.done.v_),.lit (.int .i32 y162.once.m.mu.state),.lit (.int .u32 y162.once.m.mu.sema),.sl (List.map V.s y162.names) false])) 0,.live (cellsM SyncatomicInt64.v y151.counts++([.lit (.int .u32 y151.once.done.v_),.lit (.int .i32 y151.once.m.mu.state),.lit (.int .u32 y151.once.m.mu.sema),.sl (List.map V.s y151.names) false])) 0])) ?_ ?_
    ·have H:=HL155
     conv=>whnf
     iterate 9 (refine Tst.F ?_;conv=>whnf)
     refine askCo_c [2,8] (fun s hs=>p_tally_Tally_Join_p2_0 _ _ s hs) H (fun _=>rfl) rfl ⟨rfl,⟨rfl,trivial⟩⟩ rfl (closed_cons (belowL_app (cellsM_idlt (f:=SyncatomicInt64.v) (fun _=>rfl) _) rfl) (closed_cons (belowL_app (cellsM_idlt (f:=SyncatomicInt64.v) (fun _=>rfl) _) rfl) closed_nil)) (fun s=>(closed_cons (belowL_app (cellsM_idlt (f:=SyncatomicInt64.v) (fun _=>rfl) _) rfl) (closed_cons (belowL_app (cellsM_idlt (f:=SyncatomicInt64.v) (fun _=>rfl) _) rfl) closed_nil))) (fun _=>rfl) (.kp rfl (.kp rfl (.nil))) (fun v158 H=>?_);conv=>whnf
     iterate 2 (refine Tst.F ?_;conv=>whnf)
     refine Tst.not ?_
     refine tst_d H (fun b159 H=>?_) (fun b159 H=>?_)
     ·conv=>whnf
      iterate 11 (refine Tst.T ?_;conv=>whnf)
      obtain rfl:=Option.some.inj H
      have H:=HQ156
      rw [hK153] at H
      try dsimp only at H
      exact fb_ H
     conv=>whnf
     iterate 2 (refine Tst.F ?_;conv=>whnf)
     refine askCo_c [8,10] (fun s hs=>p_tally_Tally_Join_p2_0 _ _ s hs) H (fun _=>rfl) rfl ⟨rfl,⟨rfl,trivial⟩⟩ rfl (closed_cons (belowL_app (cellsM_idlt (f:=SyncatomicInt64.v) (fun _=>rfl) _) rfl) (closed_cons (belowL_app (cellsM_idlt (f:=SyncatomicInt64.v) (fun _=>rfl) _) rfl) closed_nil)) (fun s=>(closed_cons (belowL_app (cellsM_idlt (f:=SyncatomicInt64.v) (fun _=>rfl) _) rfl) (closed_cons (belowL_app (cellsM_idlt (f:=SyncatomicInt64.v) (fun _=>rfl) _) rfl) closed_nil))) (fun _=>rfl) (.kp rfl (.kp rfl (.nil))) (fun v160 H=>?_);conv=>whnf
     iterate 2 (refine Tst.F ?_;conv=>whnf)
     refine Tst.not ?_
     refine tst_d H (fun b161 H=>?_) (fun b161 H=>?_)
     ·conv=>whnf
      iterate 6 (refine Tst.T ?_;conv=>whnf)
      obtain rfl:=Option.some.inj H
      have H:=HQ156
      rw [hK153] at H
      try dsimp only at H
      exact fb_ H
     conv=>whnf
     iterate 6 (refine Tst.F ?_;conv=>whnf)
     obtain rfl:=Option.some.inj H
     exact arrive_c [53,54,55,56,57,58,59,60,61,62,63,64,65,66,67,68,69,70,71,72,73,74,75,76,77,78,79,80,81,82,44,46,48,50,52] 5 [2,4,6,8,10] (⟨_,_,HQ156,rfl,rfl⟩) (Nat.zero_le _) rfl (by kernel_rfl) (by kernel_rfl) rfl (by exact wkB_live0 rfl (belowL_app (cellsM_idlt (f:=SyncatomicInt64.v) (fun _=>rfl) _) rfl) rfl (wkB_live0 rfl (belowL_app (cellsM_idlt (f:=SyncatomicInt64.v) (fun _=>rfl) _) rfl) rfl (wkB_live0 rfl (belowL_app (cellsM_idlt (f:=SyncatomicInt64.v) (fun _=>rfl) _) rfl) rfl (wkB_live0 rfl (belowL_app (cellsM_idlt (f:=SyncatomicInt64.v) (fun _=>rfl) _) rfl) rfl (wkB_live0 rfl (belowL_app (cellsM_idlt (f:=SyncatomicInt64.v) (fun _=>rfl) _) rfl) rfl trivial)))))
    rintro _ _ (⟨y162,y163,H,rfl,rfl⟩)
    rw [hK153] at H
    try dsimp only at H
    conv=>whnf
    obtain ⟨o165,HL166,HQ167⟩:=bind_c H
    refine loop_c [4,13] [14,83,84,85,86,87,88,89,90,91,92,93,94,95,96,97,98,99,100,101,102,103,104,105,106,107,108,109,110,111,112,113] [14,83,84,85,86,87,88,89,90,91,92,93,94,95,96,97,98,99,100,101,102,103,104,105,106,107,108,109,110,111,112,113] (fun n vals st=>(∃ y169 y170 y171 y172 y173 y174,p_law36_TallyOrder_l2  n y169 y170 y171 y172 y173 y174=some o165∧vals=[.b false,.i y169]∧st=[.live (cellsM SyncatomicInt64.v y173.counts++([.lit (.int .u32 y173.once.done.v_),.lit (.int .i32 y173.once.m.mu.state),.lit (.int .u32 y173.once.m.mu.sema),.sl (List.map V.s y173.names) false])) 0,.live (cellsM SyncatomicInt64.v y174.counts++([.lit (.int .u32 y174.once.done.v_),.lit (.int .i32 y174.once.m.mu.state),.lit (.int .u32 y174.once.m.mu.sema),.sl (List.map V.s y174.names) false])) 0,.live (cellsM SyncatomicInt64.v y170.counts++([.lit (.int .u32 y170.once.done.v_),.lit (.int .i32 y170.once.m.mu.state),.lit (.int .u32 y170.once.m.mu.sema),.sl (List.map V.s y170.names) false])) 0,.live (cellsM SyncatomicInt64.v y171.counts++([.lit (.int .u32 y171.once.done.v_),.lit (.int .i32 y171.once.m.mu.state),.lit (.int .u32 y171.once.m.mu.sema),.sl (List.map V.s y171.names) false])) 0,.live (cellsM SyncatomicInt64.v y172.counts++([.lit (.int .u32 y172.once.done.v_),.lit (.int .i32 y172.once.m.mu.state),.lit (.int .u32 y172.once.m.mu.sema),.sl (List.map V.s y172.names) false])) 0])) fuel 5 [] (⟨_,_,_,_,_,_,HL166,rfl,rfl⟩) (Nat.zero_le _) rfl (by kernel_rfl) (by kernel_rfl) rfl (by exact wkB_live0 rfl (belowL_app (cellsM_idlt (f:=SyncatomicInt64.v) (fun _=>rfl) _) rfl) rfl (wkB_live0 rfl (belowL_app (cellsM_idlt (f:=SyncatomicInt64.v) (fun _=>rfl) _) rfl) rfl (wkB_live0 rfl (belowL_app (cellsM_idlt (f:=SyncatomicInt64.v) (fun _=>rfl) _) rfl) rfl (wkB_live0 rfl (belowL_app (cellsM_idlt (f:=SyncatomicInt64.v) (fun _=>rfl) _) rfl) rfl (wkB_live0 rfl (belowL_app (cellsM_idlt (f:=SyncatomicInt64.v) (fun _=>rfl) _) rfl) rfl trivial))))) ?_
    rintro (_ | n168) _ _ (⟨y169,y170,y171,y172,y173,y174,H,rfl,rfl⟩)
    ·rw [p_law36_TallyOrder_l2] at H;cases H
    rw [p_law36_TallyOrder_l2] at H
    conv=>whnf
    refine tst_d H (fun b175 H=>?_) (fun b175 H=>?_)
    ·conv=>whnf
     obtain rfl:=Option.some.inj H
     have H:=HQ167
     try dsimp only at H
     refine ask_c (p_law36_awake_v) H rfl rfl (fun v186 H=>?_);conv=>whnf
     exact fb_ H
    conv=>whnf
    refine ask_c (p_ref36_Name_v _) H rfl rfl (fun v176 H=>?_);conv=>whnf
    refine askCo_c [1] (fun s hs=>p_tally_Tally_Get_p1_0 _ _ s hs) H (fun _=>rfl) rfl ⟨rfl,trivial⟩ rfl (closed_cons (belowL_app (cellsM_idlt (f:=SyncatomicInt64.v) (fun _=>rfl) _) rfl) closed_nil) (fun s=>(closed_cons (belowL_app (cellsM_idlt (f:=SyncatomicInt64.v) (fun _=>rfl) _) rfl) closed_nil)) (fun _=>rfl) (.kp rfl (.kp rfl (.nil))) (fun v177 H=>?_);conv=>whnf
    refine askCo_c [4] (fun s hs=>p_tally_Tally_Get_p1_0 _ _ s hs) H (fun _=>rfl) rfl ⟨rfl,trivial⟩ rfl (closed_cons (belowL_app (cellsM_idlt (f:=SyncatomicInt64.v) (fun _=>rfl) _) rfl) closed_nil) (fun s=>(closed_cons (belowL_app (cellsM_idlt (f:=SyncatomicInt64.v) (fun _=>rfl) _) rfl) closed_nil)) (fun _=>rfl) (.kp rfl (.kp rfl (.nil))) (fun v178 H=>?_);conv=>whnf
    refine tst_c H (fun b179 H=>?_) (fun b179 H=>?_)
    ·conv=>whnf
     iterate 16 (refine Tst.T ?_;conv=>whnf)
     obtain rfl:=Option.some.inj H
     have H:=HQ167
     try dsimp only at H
     exact fb_ H
    conv=>whnf
    iterate 2 (refine Tst.F ?_;conv=>whnf)
    refine askCo_c [0] (fun s hs=>p_tally_Tally_Get_p1_0 _ _ s hs) H (fun _=>rfl) rfl ⟨rfl,trivial⟩ rfl (closed_cons (belowL_app (cellsM_idlt (f:=SyncatomicInt64.v) (fun _=>rfl) _) rfl) closed_nil) (fun s=>(closed_cons (belowL_app (cellsM_idlt (f:=SyncatomicInt64.v) (fun _=>rfl) _) rfl) closed_nil)) (fun _=>rfl) (.kp rfl (.kp rfl (.nil))) (fun v180 H=>?_);conv=>whnf
    iterate 3 (refine Tst.F ?_;conv=>whnf)
    refine askCo_c [2] (fun s hs=>p_tally_Tally_Get_p1_0 _ _ s hs) H (fun _=>rfl) rfl ⟨rfl,trivial⟩ rfl (closed_cons (belowL_app (cellsM_idlt (f:=SyncatomicInt64.v) (fun _=>rfl) _) rfl) closed_nil) (fun s=>(closed_cons (belowL_app (cellsM_idlt (f:=SyncatomicInt64.v) (fun _=>rfl) _) rfl) closed_nil)) (fun _=>rfl) (.kp rfl (.kp rfl (.nil))) (fun v181 H=>?_);conv=>whnf
    iterate 2 (refine Tst.F ?_;conv=>whnf)
    refine tst_c H (fun b182 H=>?_) (fun b182 H=>?_)
    ·conv=>whnf
     iterate 8 (refine Tst.T ?_;conv=>whnf)
     obtain rfl:=Option.some.inj H
     have H:=HQ167
     try dsimp only at H
     exact fb_ H
    conv=>whnf
    iterate 2 (refine Tst.F ?_;conv=>whnf)
    refine askCo_c [3] (fun s hs=>p_tally_Tally_Get_p1_0 _ _ s hs) H (fun _=>rfl) rfl ⟨rfl,trivial⟩ rfl (closed_cons (belowL_app (cellsM_idlt (f:=SyncatomicInt64.v) (fun _=>rfl) _) rfl) closed_nil) (fun s=>(closed_cons (belowL_app (cellsM_idlt (f:=SyncatomicInt64.v) (fun _=>rfl) _) rfl) closed_nil)) (fun _=>rfl) (.kp rfl (.kp rfl (.nil))) (fun v183 H=>?_);conv=>whnf
    iterate 3 (refine Tst.F ?_;conv=>whnf)
    refine askCo_c [2] (fun s hs=>p_tally_Tally_Get_p1_0 _ _ s hs) H (fun _=>rfl) rfl ⟨rfl,trivial⟩ rfl (closed_cons (belowL_app (cellsM_idlt (f:=SyncatomicInt64.v) (fun _=>rfl) _) rfl) closed_nil) (fun s=>(closed_cons (belowL_app (cellsM_idlt (f:=SyncatomicInt64.v) (fun _=>rfl) _) rfl) closed_nil)) (fun _=>rfl) (.kp rfl (.kp rfl (.nil))) (fun v184 H=>?_);conv=>whnf
    iterate 2 (refine Tst.F ?_;conv=>whnf)
    refine tst_c H (fun b185 H=>?_) (fun b185 H=>?_)
    ·conv=>whnf
     obtain rfl:=Option.some.inj H
     have H:=HQ167
     try dsimp only at H
     exact fb_ H
    conv=>whnf
    refine Ari.w ?_;conv=>whnf
    exact again_c [14,83,84,85,86,87,88,89,90,91,92,93,94,95,96,97,98,99,100,101,102,103,104,105,106,107,108,109,110,111,112,113] n168 5 [] (⟨_,_,_,_,_,_,H,rfl,rfl⟩) (Nat.lt_succ_self _) (Nat.zero_le _) rfl (by kernel_rfl) (by kernel_rfl) rfl (by exact wkB_live0 rfl (belowL_app (cellsM_idlt (f:=SyncatomicInt64.v) (fun _=>rfl) _) rfl) rfl (wkB_live0 rfl (belowL_app (cellsM_idlt (f:=SyncatomicInt64.v) (fun _=>rfl) _) rfl) rfl (wkB_live0 rfl (belowL_app (cellsM_idlt (f:=SyncatomicInt64.v) (fun _=>rfl) _) rfl) rfl (wkB_live0 rfl (belowL_app (cellsM_idlt (f:=SyncatomicInt64.v) (fun _=>rfl) _) rfl) rfl (wkB_live0 rfl (belowL_app (cellsM_idlt (f:=SyncatomicInt64.v) (fun _=>rfl) _) rfl) rfl trivial)))))
   conv=>whnf
   refine askN_c 2 3 (fun s hs=>p_law36_count_o _ s hs) H rfl rfl rfl rfl (fun s=>(belowL_app (cellsM_idlt (f:=SyncatomicInt64.v) (fun _=>rfl) _) rfl)) (.kp rfl (.nil)) (fun y107 H=>?_);conv=>whnf
   refine askN_c 4 5 (fun s hs=>p_law36_count_o _ s hs) H rfl rfl rfl rfl (fun s=>(belowL_app (cellsM_idlt (f:=SyncatomicInt64.v) (fun _=>rfl) _) rfl)) (.kp rfl (.nil)) (fun y108 H=>?_);conv=>whnf
   refine askN_c 6 7 (fun s hs=>p_law36_count_o _ s hs) H rfl rfl rfl rfl (fun s=>(belowL_app (cellsM_idlt (f:=SyncatomicInt64.v) (fun _=>rfl) _) rfl)) (.fz (.c (fzown (f:=Law36Act.v) (l:=l106) rfl rfl (fun _=>rfl) (fun _=>rfl))) rfl (.nil)) (fun y109 H=>?_);conv=>whnf
   refine askN_c 8 9 (fun s hs=>p_law36_count_o _ s hs) H rfl rfl rfl rfl (fun s=>(belowL_app (cellsM_idlt (f:=SyncatomicInt64.v) (fun _=>rfl) _) rfl)) (.kp rfl (.nil)) (fun y110 H=>?_);conv=>whnf
   refine askN_c 10 11 (fun s hs=>p_law36_count_o _ s hs) H rfl rfl rfl rfl (fun s=>(belowL_app (cellsM_idlt (f:=SyncatomicInt64.v) (fun _=>rfl) _) rfl)) (.kp rfl (.nil)) (fun y111 H=>?_);conv=>whnf
   obtain ⟨K112,hK113,o114,HL115,HQ116⟩:=join0_c H
   refine join_c [4,8,9,10,11,12] [53,54,55,56,57,58,59,60,61,62,63,64,65,66,67,68,69,70,71,72,73,74,75,76,77,78,79,80,81,82,7,42,44,46,47,48,50,52] (fun vals st=>(∃ y122 y123,K112 (.inl (y122,y123))=some true∧vals=[.b false,.ptr 0 0,.ptr 1 0,.ptr 2 0,.ptr 3 0,.ptr 4 0]∧st=[.live (cellsM SyncatomicInt64.v y123.counts++([.lit (.int .u32 y123.once.done.v_),.lit (.int .i32 y123.once.m.mu.state),.lit (.int .u32 y123.once.m.mu.sema),.sl (List.map V.s y123.names) false])) 0,.live (cellsM SyncatomicInt64.v y108.counts++([.lit (.int .u32 y108.once.done.v_),.lit (.int .i32 y108.once.m.mu.state),.lit (.int .u32 y108.once.m.mu.sema),.sl (List.map V.s y108.names) false])) 0,.live (cellsM SyncatomicInt64.v y109.counts++([.lit (.int .u32 y109.once.done.v_),.lit (.int .i32 y109.once.m.mu.state),.lit (.int .u32 y109.once.m.mu.sema),.sl (List.map V.s y109.names) false])) 0,.live (cellsM SyncatomicInt64.v y122.counts++([.lit (.int .u32 y122.once.done.v_),.lit (.int .i32 y122.once.m.mu.state),.lit (.int .u32 y122.once.m.mu.sema),.sl (List.map V.s y122.names) false])) 0,.live (cellsM SyncatomicInt64.v y111.counts++([.lit (.int .u32 y111.once.done.v_),.lit (.int .i32 y111.once.m.mu.state),.lit (.int .u32 y111.once.m.mu.sema),.sl (List.map V.s y111.names) false])) 0])) ?_ ?_
   ·have H:=HL115
    conv=>whnf
    iterate 9 (refine Tst.F ?_;conv=>whnf)
    refine askCo_c [2,8] (fun s hs=>p_tally_Tally_Join_p2_0 _ _ s hs) H (fun _=>rfl) rfl ⟨rfl,⟨rfl,trivial⟩⟩ rfl (closed_cons (belowL_app (cellsM_idlt (f:=SyncatomicInt64.v) (fun _=>rfl) _) rfl) (closed_cons (belowL_app (cellsM_idlt (f:=SyncatomicInt64.v) (fun _=>rfl) _) rfl) closed_nil)) (fun s=>(closed_cons (belowL_app (cellsM_idlt (f:=SyncatomicInt64.v) (fun _=>rfl) _) rfl) (closed_cons (belowL_app (cellsM_idlt (f:=SyncatomicInt64.v) (fun _=>rfl) _) rfl) closed_nil))) (fun _=>rfl) (.kp rfl (.kp rfl (.nil))) (fun v118 H=>?_);conv=>whnf
    iterate 2 (refine Tst.F ?_;conv=>whnf)
    refine Tst.not ?_
    refine tst_d H (fun b119 H=>?_) (fun b119 H=>?_)
    ·conv=>whnf
     iterate 11 (refine Tst.T ?_;conv=>whnf)
     obtain rfl:=Option.some.inj H
     have H:=HQ116
     rw [hK113] at H
     try dsimp only at H
     exact fb_ H
    conv=>whnf
    iterate 2 (refine Tst.F ?_;conv=>whnf)
    refine askCo_c [8,10] (fun s hs=>p_tally_Tally_Join_p2_0 _ _ s hs) H (fun _=>rfl) rfl ⟨rfl,⟨rfl,trivial⟩⟩ rfl (closed_cons (belowL_app (cellsM_idlt (f:=SyncatomicInt64.v) (fun _=>rfl) _) rfl) (closed_cons (belowL_app (cellsM_idlt (f:=SyncatomicInt64.v) (fun _=>rfl) _) rfl) closed_nil)) (fun s=>(closed_cons (belowL_app (cellsM_idlt (f:=SyncatomicInt64.v) (fun _=>rfl) _) rfl) (closed_cons (belowL_app (cellsM_idlt (f:=SyncatomicInt64.v) (fun _=>rfl) _) rfl) closed_nil))) (fun _=>rfl) (.kp rfl (.kp rfl (.nil))) (fun v120 H=>?_);conv=>whnf
    iterate 2 (refine Tst.F ?_;conv=>whnf)
    refine Tst.not ?_
    refine tst_d H (fun b121 H=>?_) (fun b121 H=>?_)
    ·conv=>whnf
     iterate 6 (refine Tst.T ?_;conv=>whnf)
     obtain rfl:=Option.some.inj H
     have H:=HQ116
     rw [hK113] at H
     try dsimp only at H
     exact fb_ H
    conv=>whnf
    iterate 6 (refine Tst.F ?_;conv=>whnf)
    obtain rfl:=Option.some.inj H
    exact arrive_c [53,54,55,56,57,58,59,60,61,62,63,64,65,66,67,68,69,70,71,72,73,74,75,76,77,78,79,80,81,82,7,42,44,46,47,48,50,52] 5 [2,4,6,8,10] (⟨_,_,HQ116,rfl,rfl⟩) (Nat.zero_le _) rfl (by kernel_rfl) (by kernel_rfl) rfl (by exact wkB_live0 rfl (belowL_app (cellsM_idlt (f:=SyncatomicInt64.v) (fun _=>rfl) _) rfl) rfl (wkB_live0 rfl (belowL_app (cellsM_idlt (f:=SyncatomicInt64.v) (fun _=>rfl) _) rfl) rfl (wkB_live0 rfl (belowL_app (cellsM_idlt (f:=SyncatomicInt64.v) (fun _=>rfl) _) rfl) rfl (wkB_live0 rfl (belowL_app (cellsM_idlt (f:=SyncatomicInt64.v) (fun _=>rfl) _) rfl) rfl (wkB_live0 rfl (belowL_app (cellsM_idlt (f:=SyncatomicInt64.v) (fun _=>rfl) _) rfl) rfl trivial)))))
   rintro _ _ (⟨y122,y123,H,rfl,rfl⟩)
   rw [hK113] at H
   try dsimp only at H
   conv=>whnf
   obtain ⟨o125,HL126,HQ127⟩:=bind_c H
   refine loop_c [4,13] [14,83,84,85,86,87,88,89,90,91,92,93,94,95,96,97,98,99,100,101,102,103,104,105,106,107,108,109,110,111,112,113] [14,83,84,85,86,87,88,89,90,91,92,93,94,95,96,97,98,99,100,101,102,103,104,105,106,107,108,109,110,111,112,113] (fun n vals st=>(∃ y129 y130 y131 y132 y133 y134,p_law36_TallyOrder_l2  n y129 y130 y131 y132 y133 y134=some o125∧vals=[.b false,.i y129]∧st=[.live (cellsM SyncatomicInt64.v y133.counts++([.lit (.int .u32 y133.once.done.v_),.lit (.int .i32 y133.once.m.mu.state),.lit (.int .u32 y133.once.m.mu.sema),.sl (List.map V.s y133.names) false])) 0,.live (cellsM SyncatomicInt64.v y134.counts++([.lit (.int .u32 y134.once.done.v_),.lit (.int .i32 y134.once.m.mu.state),.lit (.int .u32 y134.once.m.mu.sema),.sl (List.map V.s y134.names) false])) 0,.live (cellsM SyncatomicInt64.v y130.counts++([.lit (.int .u32 y130.once.done.v_),.lit (.int .i32 y130.once.m.mu.state),.lit (.int .u32 y130.once.m.mu.sema),.sl (List.map V.s y130.names) false])) 0,.live (cellsM SyncatomicInt64.v y131.counts++([.lit (.int .u32 y131.once.done.v_),.lit (.int .i32 y131.once.m.mu.state),.lit (.int .u32 y131.once.m.mu.sema),.sl (List.map V.s y131.names) false])) 0,.live (cellsM SyncatomicInt64.v y132.counts++([.lit (.int .u32 y132.once.done.v_),.lit (.int .i32 y132.once.m.mu.state),.lit (.int .u32 y132.once.m.mu.sema),.sl (List.map V.s y132.names) false])) 0])) fuel 5 [] (⟨_,_,_,_,_,_,HL126,rfl,rfl⟩) (Nat.zero_le _) rfl (by kernel_rfl) (by kernel_rfl) rfl (by exact wkB_live0 rfl (belowL_app (cellsM_idlt (f:=SyncatomicInt64.v) (fun _=>rfl) _) rfl) rfl (wkB_live0 rfl (belowL_app (cellsM_idlt (f:=SyncatomicInt64.v) (fun _=>rfl) _) rfl) rfl (wkB_live0 rfl (belowL_app (cellsM_idlt (f:=SyncatomicInt64.v) (fun _=>rfl) _) rfl) rfl (wkB_live0 rfl (belowL_app (cellsM_idlt (f:=SyncatomicInt64.v) (fun _=>rfl) _) rfl) rfl (wkB_live0 rfl (belowL_app (cellsM_idlt (f:=SyncatomicInt64.v) (fun _=>rfl) _) rfl) rfl trivial))))) ?_
   rintro (_ | n128) _ _ (⟨y129,y130,y131,y132,y133,y134,H,rfl,rfl⟩)
   ·rw [p_law36_TallyOrder_l2] at H;cases H
   rw [p_law36_TallyOrder_l2] at H
   conv=>whnf
   refine tst_d H (fun b135 H=>?_) (fun b135 H=>?_)
   ·conv=>whnf
    obtain rfl:=Option.some.inj H
    have H:=HQ127
    try dsimp only at H
    refine ask_c (p_law36_awake_v) H rfl rfl (fun v146 H=>?_);conv=>whnf
    exact fb_ H
   conv=>whnf
   refine ask_c (p_ref36_Name_v _) H rfl rfl (fun v136 H=>?_);conv=>whnf
   refine askCo_c [1] (fun s hs=>p_tally_Tally_Get_p1_0 _ _ s hs) H (fun _=>rfl) rfl ⟨rfl,trivial⟩ rfl (closed_cons (belowL_app (cellsM_idlt (f:=SyncatomicInt64.v) (fun _=>rfl) _) rfl) closed_nil) (fun s=>(closed_cons (belowL_app (cellsM_idlt (f:=SyncatomicInt64.v) (fun _=>rfl) _) rfl) closed_nil)) (fun _=>rfl) (.kp rfl (.kp rfl (.nil))) (fun v137 H=>?_);conv=>whnf
   refine askCo_c [4] (fun s hs=>p_tally_Tally_Get_p1_0 _ _ s hs) H (fun _=>rfl) rfl ⟨rfl,trivial⟩ rfl (closed_cons (belowL_app (cellsM_idlt (f:=SyncatomicInt64.v) (fun _=>rfl) _) rfl) closed_nil) (fun s=>(closed_cons (belowL_app (cellsM_idlt (f:=SyncatomicInt64.v) (fun _=>rfl) _) rfl) closed_nil)) (fun _=>rfl) (.kp rfl (.kp rfl (.nil))) (fun v138 H=>?_);conv=>whnf
   refine tst_c H (fun b139 H=>?_) (fun b139 H=>?_)
   ·conv=>whnf
    iterate 16 (refine Tst.T ?_;conv=>whnf)
    obtain rfl:=Option.some.inj H
    have H:=HQ127
    try dsimp only at H
    exact fb_ H
   conv=>whnf
   iterate 2 (refine Tst.F ?_;conv=>whnf)
   refine askCo_c [0] (fun s hs=>p_tally_Tally_Get_p1_0 _ _ s hs) H (fun _=>rfl) rfl ⟨rfl,trivial⟩ rfl (closed_cons (belowL_app (cellsM_idlt (f:=SyncatomicInt64.v) (fun _=>rfl) _) rfl) closed_nil) (fun s=>(closed_cons (belowL_app (cellsM_idlt (f:=SyncatomicInt64.v) (fun _=>rfl) _) rfl) closed_nil)) (fun _=>rfl) (.kp rfl (.kp rfl (.nil))) (fun v140 H=>?_);conv=>whnf
   iterate 3 (refine Tst.F ?_;conv=>whnf)
   refine askCo_c [2] (fun s hs=>p_tally_Tally_Get_p1_0 _ _ s hs) H (fun _=>rfl) rfl ⟨rfl,trivial⟩ rfl (closed_cons (belowL_app (cellsM_idlt (f:=SyncatomicInt64.v) (fun _=>rfl) _) rfl) closed_nil) (fun s=>(closed_cons (belowL_app (cellsM_idlt (f:=SyncatomicInt64.v) (fun _=>rfl) _) rfl) closed_nil)) (fun _=>rfl) (.kp rfl (.kp rfl (.nil))) (fun v141 H=>?_);conv=>whnf
   iterate 2 (refine Tst.F ?_;conv=>whnf)
   refine tst_c H (fun b142 H=>?_) (fun b142 H=>?_)
   ·conv=>whnf
    iterate 8 (refine Tst.T ?_;conv=>whnf)
    obtain rfl:=Option.some.inj H
    have H:=HQ127
    try dsimp only at H
    exact fb_ H
   conv=>whnf
   iterate 2 (refine Tst.F ?_;conv=>whnf)
   refine askCo_c [3] (fun s hs=>p_tally_Tally_Get_p1_0 _ _ s hs) H (fun _=>rfl) rfl ⟨rfl,trivial⟩ rfl (closed_cons (belowL_app (cellsM_idlt (f:=SyncatomicInt64.v) (fun _=>rfl) _) rfl) closed_nil) (fun s=>(closed_cons (belowL_app (cellsM_idlt (f:=SyncatomicInt64.v) (fun _=>rfl) _) rfl) closed_nil)) (fun _=>rfl) (.kp rfl (.kp rfl (.nil))) (fun v143 H=>?_);conv=>whnf
   iterate 3 (refine Tst.F ?_;conv=>whnf)
   refine askCo_c [2] (fun s hs=>p_tally_Tally_Get_p1_0 _ _ s hs) H (fun _=>rfl) rfl ⟨rfl,trivial⟩ rfl (closed_cons (belowL_app (cellsM_idlt (f:=SyncatomicInt64.v) (fun _=>rfl) _) rfl) closed_nil) (fun s=>(closed_cons (belowL_app (cellsM_idlt (f:=SyncatomicInt64.v) (fun _=>rfl) _) rfl) closed_nil)) (fun _=>rfl) (.kp rfl (.kp rfl (.nil))) (fun v144 H=>?_);conv=>whnf
   iterate 2 (refine Tst.F ?_;conv=>whnf)
   refine tst_c H (fun b145 H=>?_) (fun b145 H=>?_)
   ·conv=>whnf
    obtain rfl:=Option.some.inj H
    have H:=HQ127
    try dsimp only at H
    exact fb_ H
   conv=>whnf
   refine Ari.w ?_;conv=>whnf
   exact again_c [14,83,84,85,86,87,88,89,90,91,92,93,94,95,96,97,98,99,100,101,102,103,104,105,106,107,108,109,110,111,112,113] n128 5 [] (⟨_,_,_,_,_,_,H,rfl,rfl⟩) (Nat.lt_succ_self _) (Nat.zero_le _) rfl (by kernel_rfl) (by kernel_rfl) rfl (by exact wkB_live0 rfl (belowL_app (cellsM_idlt (f:=SyncatomicInt64.v) (fun _=>rfl) _) rfl) rfl (wkB_live0 rfl (belowL_app (cellsM_idlt (f:=SyncatomicInt64.v) (fun _=>rfl) _) rfl) rfl (wkB_live0 rfl (belowL_app (cellsM_idlt (f:=SyncatomicInt64.v) (fun _=>rfl) _) rfl) rfl (wkB_live0 rfl (belowL_app (cellsM_idlt (f:=SyncatomicInt64.v) (fun _=>rfl) _) rfl) rfl (wkB_live0 rfl (belowL_app (cellsM_idlt (f:=SyncatomicInt64.v) (fun _=>rfl) _) rfl) rfl trivial)))))
  conv=>whnf
  refine appP_c (f:=Law36Act.v) H (fun _=>rfl) rfl rfl (.v (srcM (f:=Law36Act.v) (fun _=>rfl) _ _)) (by decide) rfl (fun l25 H=>?_) (fun l25 H=>?_)
  ·conv=>whnf
   refine askN_c 2 3 (fun s hs=>p_law36_count_o _ s hs) H rfl rfl rfl rfl (fun s=>(belowL_app (cellsM_idlt (f:=SyncatomicInt64.v) (fun _=>rfl) _) rfl)) (.kp rfl (.nil)) (fun y66 H=>?_);conv=>whnf
   refine askN_c 4 5 (fun s hs=>p_law36_count_o _ s hs) H rfl rfl rfl rfl (fun s=>(belowL_app (cellsM_idlt (f:=SyncatomicInt64.v) (fun _=>rfl) _) rfl)) (.kp rfl (.nil)) (fun y67 H=>?_);conv=>whnf
   refine askN_c 6 7 (fun s hs=>p_law36_count_o _ s hs) H rfl rfl rfl rfl (fun s=>(belowL_app (cellsM_idlt (f:=SyncatomicInt64.v) (fun _=>rfl) _) rfl)) (.fz (.c (fzown (f:=Law36Act.v) (l:=l25) rfl rfl (fun _=>rfl) (fun _=>rfl))) rfl (.nil)) (fun y68 H=>?_);conv=>whnf
   refine askN_c 8 9 (fun s hs=>p_law36_count_o _ s hs) H rfl rfl rfl rfl (fun s=>(belowL_app (cellsM_idlt (f:=SyncatomicInt64.v) (fun _=>rfl) _) rfl)) (.kp rfl (.nil)) (fun y69 H=>?_);conv=>whnf
   refine askN_c 10 11 (fun s hs=>p_law36_count_o _ s hs) H rfl rfl rfl rfl (fun s=>(belowL_app (cellsM_idlt (f:=SyncatomicInt64.v) (fun _=>rfl) _) rfl)) (.kp rfl (.nil)) (fun y70 H=>?_);conv=>whnf
   obtain ⟨K71,hK72,o73,HL74,HQ75⟩:=join0_c H
   refine join_c [4,8,9,10,11,12] [53,54,55,56,57,58,59,60,61,62,63,64,65,66,67,68,69,70,71,72,73,74,75,76,77,78,79,80,81,82,7,40,42,44,46,47,48,50,52] (fun vals st=>(∃ y81 y82,K71 (.inl (y81,y82))=some true∧vals=[.b false,.ptr 0 0,.ptr 1 0,.ptr 2 0,.ptr 3 0,.ptr 4 0]∧st=[.live (cellsM SyncatomicInt64.v y82.counts++([.lit (.int .u32 y82.once.done.v_),.lit (.int .i32 y82.once.m.mu.state),.lit (.int .u32 y82.once.m.mu.sema),.sl (List.map V.s y82.names) false])) 0,.live (cellsM SyncatomicInt64.v y67.counts++([.lit (.int .u32 y67.once.done.v_),.lit (.int .i32 y67.once.m.mu.state),.lit (.int .u32 y67.once.m.mu.sema),.sl (List.map V.s y67.names) false])) 0,.live (cellsM SyncatomicInt64.v y68.counts++([.lit (.int .u32 y68.once.done.v_),.lit (.int .i32 y68.once.m.mu.state),.lit (.int .u32 y68.once.m.mu.sema),.sl (List.map V.s y68.names) false])) 0,.live (cellsM SyncatomicInt64.v y81.counts++([.lit (.int .u32 y81.once.done.v_),.lit (.int .i32 y81.once.m.mu.state),.lit (.int .u32 y81.once.m.mu.sema),.sl (List.map V.s y81.names) false])) 0,.live (cellsM SyncatomicInt64.v y70.counts++([.lit (.int .u32 y70.once.done.v_),.lit (.int .i32 y70.once.m.mu.state),.lit (.int .u32 y70.once.m.mu.sema),.sl (List.map V.s y70.names) false])) 0])) ?_ ?_
   ·have H:=HL74
    conv=>whnf
    iterate 9 (refine Tst.F ?_;conv=>whnf)
    refine askCo_c [2,8] (fun s hs=>p_tally_Tally_Join_p2_0 _ _ s hs) H (fun _=>rfl) rfl ⟨rfl,⟨rfl,trivial⟩⟩ rfl (closed_cons (belowL_app (cellsM_idlt (f:=SyncatomicInt64.v) (fun _=>rfl) _) rfl) (closed_cons (belowL_app (cellsM_idlt (f:=SyncatomicInt64.v) (fun _=>rfl) _) rfl) closed_nil)) (fun s=>(closed_cons (belowL_app (cellsM_idlt (f:=SyncatomicInt64.v) (fun _=>rfl) _) rfl) (closed_cons (belowL_app (cellsM_idlt (f:=SyncatomicInt64.v) (fun _=>rfl) _) rfl) closed_nil))) (fun _=>rfl) (.kp rfl (.kp rfl (.nil))) (fun v77 H=>?_);conv=>whnf
    iterate 2 (refine Tst.F ?_;conv=>whnf)
    refine Tst.not ?_
    refine tst_d H (fun b78 H=>?_) (fun b78 H=>?_)
    ·conv=>whnf
     iterate 11 (refine Tst.T ?_;conv=>whnf)
     obtain rfl:=Option.some.inj H
     have H:=HQ75
     rw [hK72] at H
     try dsimp only at H
     exact fb_ H
    conv=>whnf
    iterate 2 (refine Tst.F ?_;conv=>whnf)
    refine askCo_c [8,10] (fun s hs=>p_tally_Tally_Join_p2_0 _ _ s hs) H (fun _=>rfl) rfl ⟨rfl,⟨rfl,trivial⟩⟩ rfl (closed_cons (belowL_app (cellsM_idlt (f:=SyncatomicInt64.v) (fun _=>rfl) _) rfl) (closed_cons (belowL_app (cellsM_idlt (f:=SyncatomicInt64.v) (fun _=>rfl) _) rfl) closed_nil)) (fun s=>(closed_cons (belowL_app (cellsM_idlt (f:=SyncatomicInt64.v) (fun _=>rfl) _) rfl) (closed_cons (belowL_app (cellsM_idlt (f:=SyncatomicInt64.v) (fun _=>rfl) _) rfl) closed_nil))) (fun _=>rfl) (.kp rfl (.kp rfl (.nil))) (fun v79 H=>?_);conv=>whnf
    iterate 2 (refine Tst.F ?_;conv=>whnf)
    refine Tst.not ?_
    refine tst_d H (fun b80 H=>?_) (fun b80 H=>?_)
    ·conv=>whnf
     iterate 6 (refine Tst.T ?_;conv=>whnf)
     obtain rfl:=Option.some.inj H
     have H:=HQ75
     rw [hK72] at H
     try dsimp only at H
     exact fb_ H
    conv=>whnf
    iterate 6 (refine Tst.F ?_;conv=>whnf)
    obtain rfl:=Option.some.inj H
    exact arrive_c [53,54,55,56,57,58,59,60,61,62,63,64,65,66,67,68,69,70,71,72,73,74,75,76,77,78,79,80,81,82,7,40,42,44,46,47,48,50,52] 5 [2,4,6,8,10] (⟨_,_,HQ75,rfl,rfl⟩) (Nat.zero_le _) rfl (by kernel_rfl) (by kernel_rfl) rfl (by exact wkB_live0 rfl (belowL_app (cellsM_idlt (f:=SyncatomicInt64.v) (fun _=>rfl) _) rfl) rfl (wkB_live0 rfl (belowL_app (cellsM_idlt (f:=SyncatomicInt64.v) (fun _=>rfl) _) rfl) rfl (wkB_live0 rfl (belowL_app (cellsM_idlt (f:=SyncatomicInt64.v) (fun _=>rfl) _) rfl) rfl (wkB_live0 rfl (belowL_app (cellsM_idlt (f:=SyncatomicInt64.v) (fun _=>rfl) _) rfl) rfl (wkB_live0 rfl (belowL_app (cellsM_idlt (f:=SyncatomicInt64.v) (fun _=>rfl) _) rfl) rfl trivial)))))
   rintro _ _ (⟨y81,y82,H,rfl,rfl⟩)
   rw [hK72] at H
   try dsimp only at H
   conv=>whnf
   obtain ⟨o84,HL85,HQ86⟩:=bind_c H
   refine loop_c [4,13] [14,83,84,85,86,87,88,89,90,91,92,93,94,95,96,97,98,99,100,101,102,103,104,105,106,107,108,109,110,111,112,113] [14,83,84,85,86,87,88,89,90,91,92,93,94,95,96,97,98,99,100,101,102,103,104,105,106,107,108,109,110,111,112,113] (fun n vals st=>(∃ y88 y89 y90 y91 y92 y93,p_law36_TallyOrder_l2  n y88 y89 y90 y91 y92 y93=some o84∧vals=[.b false,.i y88]∧st=[.live (cellsM SyncatomicInt64.v y92.counts++([.lit (.int .u32 y92.once.done.v_),.lit (.int .i32 y92.once.m.mu.state),.lit (.int .u32 y92.once.m.mu.sema),.sl (List.map V.s y92.names) false])) 0,.live (cellsM SyncatomicInt64.v y93.counts++([.lit (.int .u32 y93.once.done.v_),.lit (.int .i32 y93.once.m.mu.state),.lit (.int .u32 y93.once.m.mu.sema),.sl (List.map V.s y93.names) false])) 0,.live (cellsM SyncatomicInt64.v y89.counts++([.lit (.int .u32 y89.once.done.v_),.lit (.int .i32 y89.once.m.mu.state),.lit (.int .u32 y89.once.m.mu.sema),.sl (List.map V.s y89.names) false])) 0,.live (cellsM SyncatomicInt64.v y90.counts++([.lit (.int .u32 y90.once.done.v_),.lit (.int .i32 y90.once.m.mu.state),.lit (.int .u32 y90.once.m.mu.sema),.sl (List.map V.s y90.names) false])) 0,.live (cellsM SyncatomicInt64.v y91.counts++([.lit (.int .u32 y91.once.done.v_),.lit (.int .i32 y91.once.m.mu.state),.lit (.int .u32 y91.once.m.mu.sema),.sl (List.map V.s y91.names) false])) 0])) fuel 5 [] (⟨_,_,_,_,_,_,HL85,rfl,rfl⟩) (Nat.zero_le _) rfl (by kernel_rfl) (by kernel_rfl) rfl (by exact wkB_live0 rfl (belowL_app (cellsM_idlt (f:=SyncatomicInt64.v) (fun _=>rfl) _) rfl) rfl (wkB_live0 rfl (belowL_app (cellsM_idlt (f:=SyncatomicInt64.v) (fun _=>rfl) _) rfl) rfl (wkB_live0 rfl (belowL_app (cellsM_idlt (f:=SyncatomicInt64.v) (fun _=>rfl) _) rfl) rfl (wkB_live0 rfl (belowL_app (cellsM_idlt (f:=SyncatomicInt64.v) (fun _=>rfl) _) rfl) rfl (wkB_live0 rfl (belowL_app (cellsM_idlt (f:=SyncatomicInt64.v) (fun _=>rfl) _) rfl) rfl trivial))))) ?_
   rintro (_ | n87) _ _ (⟨y88,y89,y90,y91,y92,y93,H,rfl,rfl⟩)
   ·rw [p_law36_TallyOrder_l2] at H;cases H
   rw [p_law36_TallyOrder_l2] at H
   conv=>whnf
   refine tst_d H (fun b94 H=>?_) (fun b94 H=>?_)
   ·conv=>whnf
    obtain rfl:=Option.some.inj H
    have H:=HQ86
    try dsimp only at H
    refine ask_c (p_law36_awake_v) H rfl rfl (fun v105 H=>?_);conv=>whnf
    exact fb_ H
   conv=>whnf
   refine ask_c (p_ref36_Name_v _) H rfl rfl (fun v95 H=>?_);conv=>whnf
   refine askCo_c [1] (fun s hs=>p_tally_Tally_Get_p1_0 _ _ s hs) H (fun _=>rfl) rfl ⟨rfl,trivial⟩ rfl (closed_cons (belowL_app (cellsM_idlt (f:=SyncatomicInt64.v) (fun _=>rfl) _) rfl) closed_nil) (fun s=>(closed_cons (belowL_app (cellsM_idlt (f:=SyncatomicInt64.v) (fun _=>rfl) _) rfl) closed_nil)) (fun _=>rfl) (.kp rfl (.kp rfl (.nil))) (fun v96 H=>?_);conv=>whnf
   refine askCo_c [4] (fun s hs=>p_tally_Tally_Get_p1_0 _ _ s hs) H (fun _=>rfl) rfl ⟨rfl,trivial⟩ rfl (closed_cons (belowL_app (cellsM_idlt (f:=SyncatomicInt64.v) (fun _=>rfl) _) rfl) closed_nil) (fun s=>(closed_cons (belowL_app (cellsM_idlt (f:=SyncatomicInt64.v) (fun _=>rfl) _) rfl) closed_nil)) (fun _=>rfl) (.kp rfl (.kp rfl (.nil))) (fun v97 H=>?_);conv=>whnf
   refine tst_c H (fun b98 H=>?_) (fun b98 H=>?_)
   ·conv=>whnf
    iterate 16 (refine Tst.T ?_;conv=>whnf)
    obtain rfl:=Option.some.inj H
    have H:=HQ86
    try dsimp only at H
    exact fb_ H
   conv=>whnf
   iterate 2 (refine Tst.F ?_;conv=>whnf)
   refine askCo_c [0] (fun s hs=>p_tally_Tally_Get_p1_0 _ _ s hs) H (fun _=>rfl) rfl ⟨rfl,trivial⟩ rfl (closed_cons (belowL_app (cellsM_idlt (f:=SyncatomicInt64.v) (fun _=>rfl) _) rfl) closed_nil) (fun s=>(closed_cons (belowL_app (cellsM_idlt (f:=SyncatomicInt64.v) (fun _=>rfl) _) rfl) closed_nil)) (fun _=>rfl) (.kp rfl (.kp rfl (.nil))) (fun v99 H=>?_);conv=>whnf
   iterate 3 (refine Tst.F ?_;conv=>whnf)
   refine askCo_c [2] (fun s hs=>p_tally_Tally_Get_p1_0 _ _ s hs) H (fun _=>rfl) rfl ⟨rfl,trivial⟩ rfl (closed_cons (belowL_app (cellsM_idlt (f:=SyncatomicInt64.v) (fun _=>rfl) _) rfl) closed_nil) (fun s=>(closed_cons (belowL_app (cellsM_idlt (f:=SyncatomicInt64.v) (fun _=>rfl) _) rfl) closed_nil)) (fun _=>rfl) (.kp rfl (.kp rfl (.nil))) (fun v100 H=>?_);conv=>whnf
   iterate 2 (refine Tst.F ?_;conv=>whnf)
   refine tst_c H (fun b101 H=>?_) (fun b101 H=>?_)
   ·conv=>whnf
    iterate 8 (refine Tst.T ?_;conv=>whnf)
    obtain rfl:=Option.some.inj H
    have H:=HQ86
    try dsimp only at H
    exact fb_ H
   conv=>whnf
   iterate 2 (refine Tst.F ?_;conv=>whnf)
   refine askCo_c [3] (fun s hs=>p_tally_Tally_Get_p1_0 _ _ s hs) H (fun _=>rfl) rfl ⟨rfl,trivial⟩ rfl (closed_cons (belowL_app (cellsM_idlt (f:=SyncatomicInt64.v) (fun _=>rfl) _) rfl) closed_nil) (fun s=>(closed_cons (belowL_app (cellsM_idlt (f:=SyncatomicInt64.v) (fun _=>rfl) _) rfl) closed_nil)) (fun _=>rfl) (.kp rfl (.kp rfl (.nil))) (fun v102 H=>?_);conv=>whnf
   iterate 3 (refine Tst.F ?_;conv=>whnf)
   refine askCo_c [2] (fun s hs=>p_tally_Tally_Get_p1_0 _ _ s hs) H (fun _=>rfl) rfl ⟨rfl,trivial⟩ rfl (closed_cons (belowL_app (cellsM_idlt (f:=SyncatomicInt64.v) (fun _=>rfl) _) rfl) closed_nil) (fun s=>(closed_cons (belowL_app (cellsM_idlt (f:=SyncatomicInt64.v) (fun _=>rfl) _) rfl) closed_nil)) (fun _=>rfl) (.kp rfl (.kp rfl (.nil))) (fun v103 H=>?_);conv=>whnf
   iterate 2 (refine Tst.F ?_;conv=>whnf)
   refine tst_c H (fun b104 H=>?_) (fun b104 H=>?_)
   ·conv=>whnf
    obtain rfl:=Option.some.inj H
    have H:=HQ86
    try dsimp only at H
    exact fb_ H
   conv=>whnf
   refine Ari.w ?_;conv=>whnf
   exact again_c [14,83,84,85,86,87,88,89,90,91,92,93,94,95,96,97,98,99,100,101,102,103,104,105,106,107,108,109,110,111,112,113] n87 5 [] (⟨_,_,_,_,_,_,H,rfl,rfl⟩) (Nat.lt_succ_self _) (Nat.zero_le _) rfl (by kernel_rfl) (by kernel_rfl) rfl (by exact wkB_live0 rfl (belowL_app (cellsM_idlt (f:=SyncatomicInt64.v) (fun _=>rfl) _) rfl) rfl (wkB_live0 rfl (belowL_app (cellsM_idlt (f:=SyncatomicInt64.v) (fun _=>rfl) _) rfl) rfl (wkB_live0 rfl (belowL_app (cellsM_idlt (f:=SyncatomicInt64.v) (fun _=>rfl) _) rfl) rfl (wkB_live0 rfl (belowL_app (cellsM_idlt (f:=SyncatomicInt64.v) (fun _=>rfl) _) rfl) rfl (wkB_live0 rfl (belowL_app (cellsM_idlt (f:=SyncatomicInt64.v) (fun _=>rfl) _) rfl) rfl trivial)))))
  conv=>whnf
  refine askN_c 2 3 (fun s hs=>p_law36_count_o _ s hs) H rfl rfl rfl rfl (fun s=>(belowL_app (cellsM_idlt (f:=SyncatomicInt64.v) (fun _=>rfl) _) rfl)) (.kp rfl (.nil)) (fun y26 H=>?_);conv=>whnf
  refine askN_c 4 5 (fun s hs=>p_law36_count_o _ s hs) H rfl rfl rfl rfl (fun s=>(belowL_app (cellsM_idlt (f:=SyncatomicInt64.v) (fun _=>rfl) _) rfl)) (.kp rfl (.nil)) (fun y27 H=>?_);conv=>whnf
  refine askN_c 6 7 (fun s hs=>p_law36_count_o _ s hs) H rfl rfl rfl rfl (fun s=>(belowL_app (cellsM_idlt (f:=SyncatomicInt64.v) (fun _=>rfl) _) rfl)) (.fz (.c (fzown (f:=Law36Act.v) (l:=l25) rfl rfl (fun _=>rfl) (fun _=>rfl))) rfl (.nil)) (fun y28 H=>?_);conv=>whnf
  refine askN_c 8 9 (fun s hs=>p_law36_count_o _ s hs) H rfl rfl rfl rfl (fun s=>(belowL_app (cellsM_idlt (f:=SyncatomicInt64.v) (fun _=>rfl) _) rfl)) (.kp rfl (.nil)) (fun y29 H=>?_);conv=>whnf
  refine askN_c 10 11 (fun s hs=>p_law36_count_o _ s hs) H rfl rfl rfl rfl (fun s=>(belowL_app (cellsM_idlt (f:=SyncatomicInt64.v) (fun _=>rfl) _) rfl)) (.kp rfl (.nil)) (fun y30 H=>?_);conv=>whnf
  obtain ⟨K31,hK32,o33,HL34,HQ35⟩:=join0_c H
  refine join_c [4,8,9,10,11,12] [53,54,55,56,57,58,59,60,61,62,63,64,65,66,67,68,69,70,71,72,73,74,75,76,77,78,79,80,81,82,7,40,42,44,46,47,48,50,52] (fun vals st=>(∃ y41 y42,K31 (.inl (y41,y42))=some true∧vals=[.b false,.ptr 0 0,.ptr 1 0,.ptr 2 0,.ptr 3 0,.ptr 4 0]∧st=[.live (cellsM SyncatomicInt64.v y42.counts++([.lit (.int .u32 y42.once.done.v_),.lit (.int .i32 y42.once.m.mu.state),.lit (.int .u32 y42.once.m.mu.sema),.sl (List.map V.s y42.names) false])) 0,.live (cellsM SyncatomicInt64.v y27.counts++([.lit (.int .u32 y27.once.done.v_),.lit (.int .i32 y27.once.m.mu.state),.lit (.int .u32 y27.once.m.mu.sema),.sl (List.map V.s y27.names) false])) 0,.live (cellsM SyncatomicInt64.v y28.counts++([.lit (.int .u32 y28.once.done.v_),.lit (.int .i32 y28.once.m.mu.state),.lit (.int .u32 y28.once.m.mu.sema),.sl (List.map V.s y28.names) false])) 0,.live (cellsM SyncatomicInt64.v y41.counts++([.lit (.int .u32 y41.once.done.v_),.lit (.int .i32 y41.once.m.mu.state),.lit (.int .u32 y41.once.m.mu.sema),.sl (List.map V.s y41.names) false])) 0,.live (cellsM SyncatomicInt64.v y30.counts++([.lit (.int .u32 y30.once.done.v_),.lit (.int .i32 y30.once.m.mu.state),.lit (.int .u32 y30.once.m.mu.sema),.sl (List.map V.s y30.names) false])) 0])) ?_ ?_
  ·have H:=HL34
   conv=>whnf
   iterate 9 (refine Tst.F ?_;conv=>whnf)
   refine askCo_c [2,8] (fun s hs=>p_tally_Tally_Join_p2_0 _ _ s hs) H (fun _=>rfl) rfl ⟨rfl,⟨rfl,trivial⟩⟩ rfl (closed_cons (belowL_app (cellsM_idlt (f:=SyncatomicInt64.v) (fun _=>rfl) _) rfl) (closed_cons (belowL_app (cellsM_idlt (f:=SyncatomicInt64.v) (fun _=>rfl) _) rfl) closed_nil)) (fun s=>(closed_cons (belowL_app (cellsM_idlt (f:=SyncatomicInt64.v) (fun _=>rfl) _) rfl) (closed_cons (belowL_app (cellsM_idlt (f:=SyncatomicInt64.v) (fun _=>rfl) _) rfl) closed_nil))) (fun _=>rfl) (.kp rfl (.kp rfl (.nil))) (fun v37 H=>?_);conv=>whnf
   iterate 2 (refine Tst.F ?_;conv=>whnf)
   refine Tst.not ?_
   refine tst_d H (fun b38 H=>?_) (fun b38 H=>?_)
   ·conv=>whnf
    iterate 11 (refine Tst.T ?_;conv=>whnf)
    obtain rfl:=Option.some.inj H
    have H:=HQ35
    rw [hK32] at H
    try dsimp only at H
    exact fb_ H
   conv=>whnf
   iterate 2 (refine Tst.F ?_;conv=>whnf)
   refine askCo_c [8,10] (fun s hs=>p_tally_Tally_Join_p2_0 _ _ s hs) H (fun _=>rfl) rfl ⟨rfl,⟨rfl,trivial⟩⟩ rfl (closed_cons (belowL_app (cellsM_idlt (f:=SyncatomicInt64.v) (fun _=>rfl) _) rfl) (closed_cons (belowL_app (cellsM_idlt (f:=SyncatomicInt64.v) (fun _=>rfl) _) rfl) closed_nil)) (fun s=>(closed_cons (belowL_app (cellsM_idlt (f:=SyncatomicInt64.v) (fun _=>rfl) _) rfl) (closed_cons (belowL_app (cellsM_idlt (f:=SyncatomicInt64.v) (fun _=>rfl) _) rfl) closed_nil))) (fun _=>rfl) (.kp rfl (.kp rfl (.nil))) (fun v39 H=>?_);conv=>whnf
   iterate 2 (refine Tst.F ?_;conv=>whnf)
   refine Tst.not ?_
   refine tst_d H (fun b40 H=>?_) (fun b40 H=>?_)
   ·conv=>whnf
    iterate 6 (refine Tst.T ?_;conv=>whnf)
    obtain rfl:=Option.some.inj H
    have H:=HQ35
    rw [hK32] at H
    try dsimp only at H
    exact fb_ H
   conv=>whnf
   iterate 6 (refine Tst.F ?_;conv=>whnf)
   obtain rfl:=Option.some.inj H
   exact arrive_c [53,54,55,56,57,58,59,60,61,62,63,64,65,66,67,68,69,70,71,72,73,74,75,76,77,78,79,80,81,82,7,40,42,44,46,47,48,50,52] 5 [2,4,6,8,10] (⟨_,_,HQ35,rfl,rfl⟩) (Nat.zero_le _) rfl (by kernel_rfl) (by kernel_rfl) rfl (by exact wkB_live0 rfl (belowL_app (cellsM_idlt (f:=SyncatomicInt64.v) (fun _=>rfl) _) rfl) rfl (wkB_live0 rfl (belowL_app (cellsM_idlt (f:=SyncatomicInt64.v) (fun _=>rfl) _) rfl) rfl (wkB_live0 rfl (belowL_app (cellsM_idlt (f:=SyncatomicInt64.v) (fun _=>rfl) _) rfl) rfl (wkB_live0 rfl (belowL_app (cellsM_idlt (f:=SyncatomicInt64.v) (fun _=>rfl) _) rfl) rfl (wkB_live0 rfl (belowL_app (cellsM_idlt (f:=SyncatomicInt64.v) (fun _=>rfl) _) rfl) rfl trivial)))))
  rintro _ _ (⟨y41,y42,H,rfl,rfl⟩)
  rw [hK32] at H
  try dsimp only at H
  conv=>whnf
  obtain ⟨o44,HL45,HQ46⟩:=bind_c H
  refine loop_c [4,13] [14,83,84,85,86,87,88,89,90,91,92,93,94,95,96,97,98,99,100,101,102,103,104,105,106,107,108,109,110,111,112,113] [14,83,84,85,86,87,88,89,90,91,92,93,94,95,96,97,98,99,100,101,102,103,104,105,106,107,108,109,110,111,112,113] (fun n vals st=>(∃ y48 y49 y50 y51 y52 y53,p_law36_TallyOrder_l2  n y48 y49 y50 y51 y52 y53=some o44∧vals=[.b false,.i y48]∧st=[.live (cellsM SyncatomicInt64.v y52.counts++([.lit (.int .u32 y52.once.done.v_),.lit (.int .i32 y52.once.m.mu.state),.lit (.int .u32 y52.once.m.mu.sema),.sl (List.map V.s y52.names) false])) 0,.live (cellsM SyncatomicInt64.v y53.counts++([.lit (.int .u32 y53.once.done.v_),.lit (.int .i32 y53.once.m.mu.state),.lit (.int .u32 y53.once.m.mu.sema),.sl (List.map V.s y53.names) false])) 0,.live (cellsM SyncatomicInt64.v y49.counts++([.lit (.int .u32 y49.once.done.v_),.lit (.int .i32 y49.once.m.mu.state),.lit (.int .u32 y49.once.m.mu.sema),.sl (List.map V.s y49.names) false])) 0,.live (cellsM SyncatomicInt64.v y50.counts++([.lit (.int .u32 y50.once.done.v_),.lit (.int .i32 y50.once.m.mu.state),.lit (.int .u32 y50.once.m.mu.sema),.sl (List.map V.s y50.names) false])) 0,.live (cellsM SyncatomicInt64.v y51.counts++([.lit (.int .u32 y51.once.done.v_),.lit (.int .i32 y51.once.m.mu.state),.lit (.int .u32 y51.once.m.mu.sema),.sl (List.map V.s y51.names) false])) 0])) fuel 5 [] (⟨_,_,_,_,_,_,HL45,rfl,rfl⟩) (Nat.zero_le _) rfl (by kernel_rfl) (by kernel_rfl) rfl (by exact wkB_live0 rfl (belowL_app (cellsM_idlt (f:=SyncatomicInt64.v) (fun _=>rfl) _) rfl) rfl (wkB_live0 rfl (belowL_app (cellsM_idlt (f:=SyncatomicInt64.v) (fun _=>rfl) _) rfl) rfl (wkB_live0 rfl (belowL_app (cellsM_idlt (f:=SyncatomicInt64.v) (fun _=>rfl) _) rfl) rfl (wkB_live0 rfl (belowL_app (cellsM_idlt (f:=SyncatomicInt64.v) (fun _=>rfl) _) rfl) rfl (wkB_live0 rfl (belowL_app (cellsM_idlt (f:=SyncatomicInt64.v) (fun _=>rfl) _) rfl) rfl trivial))))) ?_
  rintro (_ | n47) _ _ (⟨y48,y49,y50,y51,y52,y53,H,rfl,rfl⟩)
  ·rw [p_law36_TallyOrder_l2] at H;cases H
  rw [p_law36_TallyOrder_l2] at H
  conv=>whnf
  refine tst_d H (fun b54 H=>?_) (fun b54 H=>?_)
  ·conv=>whnf
   obtain rfl:=Option.some.inj H
   have H:=HQ46
   try dsimp only at H
   refine ask_c (p_law36_awake_v) H rfl rfl (fun v65 H=>?_);conv=>whnf
   exact fb_ H
  conv=>whnf
  refine ask_c (p_ref36_Name_v _) H rfl rfl (fun v55 H=>?_);conv=>whnf
  refine askCo_c [1] (fun s hs=>p_tally_Tally_Get_p1_0 _ _ s hs) H (fun _=>rfl) rfl ⟨rfl,trivial⟩ rfl (closed_cons (belowL_app (cellsM_idlt (f:=SyncatomicInt64.v) (fun _=>rfl) _) rfl) closed_nil) (fun s=>(closed_cons (belowL_app (cellsM_idlt (f:=SyncatomicInt64.v) (fun _=>rfl) _) rfl) closed_nil)) (fun _=>rfl) (.kp rfl (.kp rfl (.nil))) (fun v56 H=>?_);conv=>whnf
  refine askCo_c [4] (fun s hs=>p_tally_Tally_Get_p1_0 _ _ s hs) H (fun _=>rfl) rfl ⟨rfl,trivial⟩ rfl (closed_cons (belowL_app (cellsM_idlt (f:=SyncatomicInt64.v) (fun _=>rfl) _) rfl) closed_nil) (fun s=>(closed_cons (belowL_app (cellsM_idlt (f:=SyncatomicInt64.v) (fun _=>rfl) _) rfl) closed_nil)) (fun _=>rfl) (.kp rfl (.kp rfl (.nil))) (fun v57 H=>?_);conv=>whnf
  refine tst_c H (fun b58 H=>?_) (fun b58 H=>?_)
  ·conv=>whnf
   iterate 16 (refine Tst.T ?_;conv=>whnf)
   obtain rfl:=Option.some.inj H
   have H:=HQ46
   try dsimp only at H
   exact fb_ H
  conv=>whnf
  iterate 2 (refine Tst.F ?_;conv=>whnf)
  refine askCo_c [0] (fun s hs=>p_tally_Tally_Get_p1_0 _ _ s hs) H (fun _=>rfl) rfl ⟨rfl,trivial⟩ rfl (closed_cons (belowL_app (cellsM_idlt (f:=SyncatomicInt64.v) (fun _=>rfl) _) rfl) closed_nil) (fun s=>(closed_cons (belowL_app (cellsM_idlt (f:=SyncatomicInt64.v) (fun _=>rfl) _) rfl) closed_nil)) (fun _=>rfl) (.kp rfl (.kp rfl (.nil))) (fun v59 H=>?_);conv=>whnf
  iterate 3 (refine Tst.F ?_;conv=>whnf)
  refine askCo_c [2] (fun s hs=>p_tally_Tally_Get_p1_0 _ _ s hs) H (fun _=>rfl) rfl ⟨rfl,trivial⟩ rfl (closed_cons (belowL_app (cellsM_idlt (f:=SyncatomicInt64.v) (fun _=>rfl) _) rfl) closed_nil) (fun s=>(closed_cons (belowL_app (cellsM_idlt (f:=SyncatomicInt64.v) (fun _=>rfl) _) rfl) closed_nil)) (fun _=>rfl) (.kp rfl (.kp rfl (.nil))) (fun v60 H=>?_);conv=>whnf
  iterate 2 (refine Tst.F ?_;conv=>whnf)
  refine tst_c H (fun b61 H=>?_) (fun b61 H=>?_)
  ·conv=>whnf
   iterate 8 (refine Tst.T ?_;conv=>whnf)
   obtain rfl:=Option.some.inj H
   have H:=HQ46
   try dsimp only at H
   exact fb_ H
  conv=>whnf
  iterate 2 (refine Tst.F ?_;conv=>whnf)
  refine askCo_c [3] (fun s hs=>p_tally_Tally_Get_p1_0 _ _ s hs) H (fun _=>rfl) rfl ⟨rfl,trivial⟩ rfl (closed_cons (belowL_app (cellsM_idlt (f:=SyncatomicInt64.v) (fun _=>rfl) _) rfl) closed_nil) (fun s=>(closed_cons (belowL_app (cellsM_idlt (f:=SyncatomicInt64.v) (fun _=>rfl) _) rfl) closed_nil)) (fun _=>rfl) (.kp rfl (.kp rfl (.nil))) (fun v62 H=>?_);conv=>whnf
  iterate 3 (refine Tst.F ?_;conv=>whnf)
  refine askCo_c [2] (fun s hs=>p_tally_Tally_Get_p1_0 _ _ s hs) H (fun _=>rfl) rfl ⟨rfl,trivial⟩ rfl (closed_cons (belowL_app (cellsM_idlt (f:=SyncatomicInt64.v) (fun _=>rfl) _) rfl) closed_nil) (fun s=>(closed_cons (belowL_app (cellsM_idlt (f:=SyncatomicInt64.v) (fun _=>rfl) _) rfl) closed_nil)) (fun _=>rfl) (.kp rfl (.kp rfl (.nil))) (fun v63 H=>?_);conv=>whnf
  iterate 2 (refine Tst.F ?_;conv=>whnf)
  refine tst_c H (fun b64 H=>?_) (fun b64 H=>?_)
  ·conv=>whnf
   obtain rfl:=Option.some.inj H
   have H:=HQ46
   try dsimp only at H
   exact fb_ H
  conv=>whnf
  refine Ari.w ?_;conv=>whnf
  exact again_c [14,83,84,85,86,87,88,89,90,91,92,93,94,95,96,97,98,99,100,101,102,103,104,105,106,107,108,109,110,111,112,113] n47 5 [] (⟨_,_,_,_,_,_,H,rfl,rfl⟩) (Nat.lt_succ_self _) (Nat.zero_le _) rfl (by kernel_rfl) (by kernel_rfl) rfl (by exact wkB_live0 rfl (belowL_app (cellsM_idlt (f:=SyncatomicInt64.v) (fun _=>rfl) _) rfl) rfl (wkB_live0 rfl (belowL_app (cellsM_idlt (f:=SyncatomicInt64.v) (fun _=>rfl) _) rfl) rfl (wkB_live0 rfl (belowL_app (cellsM_idlt (f:=SyncatomicInt64.v) (fun _=>rfl) _) rfl) rfl (wkB_live0 rfl (belowL_app (cellsM_idlt (f:=SyncatomicInt64.v) (fun _=>rfl) _) rfl) rfl (wkB_live0 rfl (belowL_app (cellsM_idlt (f:=SyncatomicInt64.v) (fun _=>rfl) _) rfl) rfl trivial)))))
 rw [p_law36_TallyOrder_l1] at H
 conv=>whnf
 refine tst_c H (fun b187 H=>?_) (fun b187 H=>?_)
 ·conv=>whnf
  refine ixs_c (f:=Law36Act.v) H (fun _=>rfl) (fun x188 H=>?_);conv=>whnf
  refine appO_c (f:=Law36Act.v) H (fun _=>rfl) rfl (Nat.le_refl _) (.v (srcOwn (f:=Law36Act.v) (l:=[x188]) (fun _=>rfl) rfl rfl rfl)) (by decide) rfl (by simp) (fun l189 H=>?_);conv=>whnf
  refine Ari.w ?_;conv=>whnf
  exact again_c [27,28,29,30,31,32,33,34,35,36,37] n17 1 [2] (.inr (⟨_,_,H,rfl,rfl⟩)) (Nat.lt_succ_self _) (Nat.zero_le _) rfl (by kernel_rfl) (by kernel_rfl) rfl (wkB_live0 rfl (cellsM_idlt (f:=Law36Act.v) (fun _=>rfl) _) rfl trivial)
 conv=>whnf
 obtain rfl:=Option.some.inj H
 have H:=HQ16
 try dsimp only at H
 refine appE_c (f:=Law36Act.v) H (fun _=>rfl) rfl (.v (srcM (f:=Law36Act.v) (fun _=>rfl) _ _)) (by decide) rfl (fun H=>?_) (fun l190 H=>?_)
 ·conv=>whnf
  refine appE_c (f:=Law36Act.v) H (fun _=>rfl) rfl (.v (srcM (f:=Law36Act.v) (fun _=>rfl) _ _)) (by decide) rfl (fun H=>?_) (fun l272 H=>?_)
  ·conv=>whnf
   refine askN_c 3 4 (fun s hs=>p_law36_count_o _ s hs) H rfl rfl rfl rfl (fun s=>(belowL_app (cellsM_idlt (f:=SyncatomicInt64.v) (fun _=>rfl) _) rfl)) (.kp rfl (.nil)) (fun y313 H=>?_);conv=>whnf
   refine askN_c 5 6 (fun s hs=>p_law36_count_o _ s hs) H rfl rfl rfl rfl (fun s=>(belowL_app (cellsM_idlt (f:=SyncatomicInt64.v) (fun _=>rfl) _) rfl)) (.fz (.c (fzown (f:=Law36Act.v) (l:=y22) rfl rfl (fun _=>rfl) (fun _=>rfl))) rfl (.nil)) (fun y314 H=>?_);conv=>whnf
   refine askN_c 7 8 (fun s hs=>p_law36_count_o _ s hs) H rfl rfl rfl rfl (fun s=>(belowL_app (cellsM_idlt (f:=SyncatomicInt64.v) (fun _=>rfl) _) rfl)) (.kp rfl (.nil)) (fun y315 H=>?_);conv=>whnf
   refine askN_c 9 10 (fun s hs=>p_law36_count_o _ s hs) H rfl rfl rfl rfl (fun s=>(belowL_app (cellsM_idlt (f:=SyncatomicInt64.v) (fun _=>rfl) _) rfl)) (.kp rfl (.nil)) (fun y316 H=>?_);conv=>whnf
   refine askN_c 11 12 (fun s hs=>p_law36_count_o _ s hs) H rfl rfl rfl rfl (fun s=>(belowL_app (cellsM_idlt (f:=SyncatomicInt64.v) (fun _=>rfl) _) rfl)) (.kp rfl (.nil)) (fun y317 H=>?_);conv=>whnf
   obtain ⟨K318,hK319,o320,HL321,HQ322⟩:=join0_c H
   refine join_c [4,8,9,10,11,12] [53,54,55,56,57,58,59,60,61,62,63,64,65,66,67,68,69,70,71,72,73,74,75,76,77,78,79,80,81,82,5,44,45,46,48,50,52] (fun vals st=>(∃ y328 y329,K318 (.inl (y328,y329))=some true∧vals=[.b false,.ptr 0 0,.ptr 1 0,.ptr 2 0,.ptr 3 0,.ptr 4 0]∧st=[.live (cellsM SyncatomicInt64.v y329.counts++([.lit (.int .u32 y329.once.done.v_),.lit (.int .i32 y329.once.m.mu.state),.lit (.int .u32 y329.once.m.mu.sema),.sl (List.map V.s y329.names) false])) 0,.live (cellsM SyncatomicInt64.v y314.counts++([.lit (.int .u32 y314.once.done.v_),.lit (.int .i32 y314.once.m.mu.state),.lit (.int .u32 y314.once.m.mu.sema),.sl (List.map V.s y314.names) false])) 0,.live (cellsM SyncatomicInt64.v y315.counts++([.lit (.int .u32 y315.once.done.v_),.lit (.int .i32 y315.once.m.mu.state),.lit (.int .u32 y315.once.m.mu.sema),.sl (List.map V.s y315.names) false])) 0,.live (cellsM SyncatomicInt64.v y328.counts++([.lit (.int .u32 y328.once.done.v_),.lit (.int .i32 y328.once.m.mu.state),.lit (.int .u32 y328.once.m.mu.sema),.sl (List.map V.s y328.names) false])) 0,.live (cellsM SyncatomicInt64.v y317.counts++([.lit (.int .u32 y317.once.done.v_),.lit (.int .i32 y317.once.m.mu.state),.lit (.int .u32 y317.once.m.mu.sema),.sl (List.map V.s y317.names) false])) 0])) ?_ ?_
   ·have H:=HL321
    conv=>whnf
    iterate 9 (refine Tst.F ?_;conv=>whnf)
    refine askCo_c [3,9] (fun s hs=>p_tally_Tally_Join_p2_0 _ _ s hs) H (fun _=>rfl) rfl ⟨rfl,⟨rfl,trivial⟩⟩ rfl (closed_cons (belowL_app (cellsM_idlt (f:=SyncatomicInt64.v) (fun _=>rfl) _) rfl) (closed_cons (belowL_app (cellsM_idlt (f:=SyncatomicInt64.v) (fun _=>rfl) _) rfl) closed_nil)) (fun s=>(closed_cons (belowL_app (cellsM_idlt (f:=SyncatomicInt64.v) (fun _=>rfl) _) rfl) (closed_cons (belowL_app (cellsM_idlt (f:=SyncatomicInt64.v) (fun _=>rfl) _) rfl) closed_nil))) (fun _=>rfl) (.kp rfl (.kp rfl (.nil))) (fun v324 H=>?_);conv=>whnf
    iterate 2 (refine Tst.F ?_;conv=>whnf)
    refine Tst.not ?_
    refine tst_d H (fun b325 H=>?_) (fun b325 H=>?_)
    ·conv=>whnf
     iterate 11 (refine Tst.T ?_;conv=>whnf)
     obtain rfl:=Option.some.inj H
     have H:=HQ322
     rw [hK319] at H
     try dsimp only at H
     exact fb_ H
    conv=>whnf
    iterate 2 (refine Tst.F ?_;conv=>whnf)
    refine askCo_c [9,11] (fun s hs=>p_tally_Tally_Join_p2_0 _ _ s hs) H (fun _=>rfl) rfl ⟨rfl,⟨rfl,trivial⟩⟩ rfl (closed_cons (belowL_app (cellsM_idlt (f:=SyncatomicInt64.v) (fun _=>rfl) _) rfl) (closed_cons (belowL_app (cellsM_idlt (f:=SyncatomicInt64.v) (fun _=>rfl) _) rfl) closed_nil)) (fun s=>(closed_cons (belowL_app (cellsM_idlt (f:=SyncatomicInt64.v) (fun _=>rfl) _) rfl) (closed_cons (belowL_app (cellsM_idlt (f:=SyncatomicInt64.v) (fun _=>rfl) _) rfl) closed_nil))) (fun _=>rfl) (.kp rfl (.kp rfl (.nil))) (fun v326 H=>?_);conv=>whnf
    iterate 2 (refine Tst.F ?_;conv=>whnf)
    refine Tst.not ?_
    refine tst_d H (fun b327 H=>?_) (fun b327 H=>?_)
    ·conv=>whnf
     iterate 6 (refine Tst.T ?_;conv=>whnf)
     obtain rfl:=Option.some.inj H
     have H:=HQ322
     rw [hK319] at H
     try dsimp only at H
     exact fb_ H
    conv=>whnf
    iterate 6 (refine Tst.F ?_;conv=>whnf)
    obtain rfl:=Option.some.inj H
    exact arrive_c [53,54,55,56,57,58,59,60,61,62,63,64,65,66,67,68,69,70,71,72,73,74,75,76,77,78,79,80,81,82,5,44,45,46,48,50,52] 5 [3,5,7,9,11] (⟨_,_,HQ322,rfl,rfl⟩) (Nat.zero_le _) rfl (by kernel_rfl) (by kernel_rfl) rfl (by exact wkB_live0 rfl (belowL_app (cellsM_idlt (f:=SyncatomicInt64.v) (fun _=>rfl) _) rfl) rfl (wkB_live0 rfl (belowL_app (cellsM_idlt (f:=SyncatomicInt64.v) (fun _=>rfl) _) rfl) rfl (wkB_live0 rfl (belowL_app (cellsM_idlt (f:=SyncatomicInt64.v) (fun _=>rfl) _) rfl) rfl (wkB_live0 rfl (belowL_app (cellsM_idlt (f:=SyncatomicInt64.v) (fun _=>rfl) _) rfl) rfl (wkB_live0 rfl (belowL_app (cellsM_idlt (f:=SyncatomicInt64.v) (fun _=>rfl) _) rfl) rfl trivial)))))
   rintro _ _ (⟨y328,y329,H,rfl,rfl⟩)
   rw [hK319] at H
   try dsimp only at H
   conv=>whnf
   obtain ⟨o331,HL332,HQ333⟩:=bind_c H
   refine loop_c [4,13] [14,83,84,85,86,87,88,89,90,91,92,93,94,95,96,97,98,99,100,101,102,103,104,105,106,107,108,109,110,111,112,113] [14,83,84,85,86,87,88,89,90,91,92,93,94,95,96,97,98,99,100,101,102,103,104,105,106,107,108,109,110,111,112,113] (fun n vals st=>(∃ y335 y336 y337 y338 y339 y340,p_law36_TallyOrder_l2  n y335 y336 y337 y338 y339 y340=some o331∧vals=[.b false,.i y335]∧st=[.live (cellsM SyncatomicInt64.v y339.counts++([.lit (.int .u32 y339.once.done.v_),.lit (.int .i32 y339.once.m.mu.state),.lit (.int .u32 y339.once.m.mu.sema),.sl (List.map V.s y339.names) false])) 0,.live (cellsM SyncatomicInt64.v y340.counts++([.lit (.int .u32 y340.once.done.v_),.lit (.int .i32 y340.once.m.mu.state),.lit (.int .u32 y340.once.m.mu.sema),.sl (List.map V.s y340.names) false])) 0,.live (cellsM SyncatomicInt64.v y336.counts++([.lit (.int .u32 y336.once.done.v_),.lit (.int .i32 y336.once.m.mu.state),.lit (.int .u32 y336.once.m.mu.sema),.sl (List.map V.s y336.names) false])) 0,.live (cellsM SyncatomicInt64.v y337.counts++([.lit (.int .u32 y337.once.done.v_),.lit (.int .i32 y337.once.m.mu.state),.lit (.int .u32 y337.once.m.mu.sema),.sl (List.map V.s y337.names) false])) 0,.live (cellsM SyncatomicInt64.v y338.counts++([.lit (.int .u32 y338.once.done.v_),.lit (.int .i32 y338.once.m.mu.state),.lit (.int .u32 y338.once.m.mu.sema),.sl (List.map V.s y338.names) false])) 0])) fuel 5 [] (⟨_,_,_,_,_,_,HL332,rfl,rfl⟩) (Nat.zero_le _) rfl (by kernel_rfl) (by kernel_rfl) rfl (by exact wkB_live0 rfl (belowL_app (cellsM_idlt (f:=SyncatomicInt64.v) (fun _=>rfl) _) rfl) rfl (wkB_live0 rfl (belowL_app (cellsM_idlt (f:=SyncatomicInt64.v) (fun _=>rfl) _) rfl) rfl (wkB_live0 rfl (belowL_app (cellsM_idlt (f:=SyncatomicInt64.v) (fun _=>rfl) _) rfl) rfl (wkB_live0 rfl (belowL_app (cellsM_idlt (f:=SyncatomicInt64.v) (fun _=>rfl) _) rfl) rfl (wkB_live0 rfl (belowL_app (cellsM_idlt (f:=SyncatomicInt64.v) (fun _=>rfl) _) rfl) rfl trivial))))) ?_
   rintro (_ | n334) _ _ (⟨y335,y336,y337,y338,y339,y340,H,rfl,rfl⟩)
   ·rw [p_law36_TallyOrder_l2] at H;cases H
   rw [p_law36_TallyOrder_l2] at H
   conv=>whnf
   refine tst_d H (fun b341 H=>?_) (fun b341 H=>?_)
   ·conv=>whnf
    obtain rfl:=Option.some.inj H
    have H:=HQ333
    try dsimp only at H
    refine ask_c (p_law36_awake_v) H rfl rfl (fun v352 H=>?_);conv=>whnf
    exact fb_ H
   conv=>whnf
   refine ask_c (p_ref36_Name_v _) H rfl rfl (fun v342 H=>?_);conv=>whnf
   refine askCo_c [1] (fun s hs=>p_tally_Tally_Get_p1_0 _ _ s hs) H (fun _=>rfl) rfl ⟨rfl,trivial⟩ rfl (closed_cons (belowL_app (cellsM_idlt (f:=SyncatomicInt64.v) (fun _=>rfl) _) rfl) closed_nil) (fun s=>(closed_cons (belowL_app (cellsM_idlt (f:=SyncatomicInt64.v) (fun _=>rfl) _) rfl) closed_nil)) (fun _=>rfl) (.kp rfl (.kp rfl (.nil))) (fun v343 H=>?_);conv=>whnf
   refine askCo_c [4] (fun s hs=>p_tally_Tally_Get_p1_0 _ _ s hs) H (fun _=>rfl) rfl ⟨rfl,trivial⟩ rfl (closed_cons (belowL_app (cellsM_idlt (f:=SyncatomicInt64.v) (fun _=>rfl) _) rfl) closed_nil) (fun s=>(closed_cons (belowL_app (cellsM_idlt (f:=SyncatomicInt64.v) (fun _=>rfl) _) rfl) closed_nil)) (fun _=>rfl) (.kp rfl (.kp rfl (.nil))) (fun v344 H=>?_);conv=>whnf
   refine tst_c H (fun b345 H=>?_) (fun b345 H=>?_)
   ·conv=>whnf
    iterate 16 (refine Tst.T ?_;conv=>whnf)
    obtain rfl:=Option.some.inj H
    have H:=HQ333
    try dsimp only at H
    exact fb_ H
   conv=>whnf
   iterate 2 (refine Tst.F ?_;conv=>whnf)
   refine askCo_c [0] (fun s hs=>p_tally_Tally_Get_p1_0 _ _ s hs) H (fun _=>rfl) rfl ⟨rfl,trivial⟩ rfl (closed_cons (belowL_app (cellsM_idlt (f:=SyncatomicInt64.v) (fun _=>rfl) _) rfl) closed_nil) (fun s=>(closed_cons (belowL_app (cellsM_idlt (f:=SyncatomicInt64.v) (fun _=>rfl) _) rfl) closed_nil)) (fun _=>rfl) (.kp rfl (.kp rfl (.nil))) (fun v346 H=>?_);conv=>whnf
   iterate 3 (refine Tst.F ?_;conv=>whnf)
   refine askCo_c [2] (fun s hs=>p_tally_Tally_Get_p1_0 _ _ s hs) H (fun _=>rfl) rfl ⟨rfl,trivial⟩ rfl (closed_cons (belowL_app (cellsM_idlt (f:=SyncatomicInt64.v) (fun _=>rfl) _) rfl) closed_nil) (fun s=>(closed_cons (belowL_app (cellsM_idlt (f:=SyncatomicInt64.v) (fun _=>rfl) _) rfl) closed_nil)) (fun _=>rfl) (.kp rfl (.kp rfl (.nil))) (fun v347 H=>?_);conv=>whnf
   iterate 2 (refine Tst.F ?_;conv=>whnf)
   refine tst_c H (fun b348 H=>?_) (fun b348 H=>?_)
   ·conv=>whnf
    iterate 8 (refine Tst.T ?_;conv=>whnf)
    obtain rfl:=Option.some.inj H
    have H:=HQ333
    try dsimp only at H
    exact fb_ H
   conv=>whnf
   iterate 2 (refine Tst.F ?_;conv=>whnf)
   refine askCo_c [3] (fun s hs=>p_tally_Tally_Get_p1_0 _ _ s hs) H (fun _=>rfl) rfl ⟨rfl,trivial⟩ rfl (closed_cons (belowL_app (cellsM_idlt (f:=SyncatomicInt64.v) (fun _=>rfl) _) rfl) closed_nil) (fun s=>(closed_cons (belowL_app (cellsM_idlt (f:=SyncatomicInt64.v) (fun _=>rfl) _) rfl) closed_nil)) (fun _=>rfl) (.kp rfl (.kp rfl (.nil))) (fun v349 H=>?_);conv=>whnf
   iterate 3 (refine Tst.F ?_;conv=>whnf)
   refine askCo_c [2] (fun s hs=>p_tally_Tally_Get_p1_0 _ _ s hs) H (fun _=>rfl) rfl ⟨rfl,trivial⟩ rfl (closed_cons (belowL_app (cellsM_idlt (f:=SyncatomicInt64.v) (fun _=>rfl) _) rfl) closed_nil) (fun s=>(closed_cons (belowL_app (cellsM_idlt (f:=SyncatomicInt64.v) (fun _=>rfl) _) rfl) closed_nil)) (fun _=>rfl) (.kp rfl (.kp rfl (.nil))) (fun v350 H=>?_);conv=>whnf
   iterate 2 (refine Tst.F ?_;conv=>whnf)
   refine tst_c H (fun b351 H=>?_) (fun b351 H=>?_)
   ·conv=>whnf
    obtain rfl:=Option.some.inj H
    have H:=HQ333
    try dsimp only at H
    exact fb_ H
   conv=>whnf
   refine Ari.w ?_;conv=>whnf
   exact again_c [14,83,84,85,86,87,88,89,90,91,92,93,94,95,96,97,98,99,100,101,102,103,104,105,106,107,108,109,110,111,112,113] n334 5 [] (⟨_,_,_,_,_,_,H,rfl,rfl⟩) (Nat.lt_succ_self _) (Nat.zero_le _) rfl (by kernel_rfl) (by kernel_rfl) rfl (by exact wkB_live0 rfl (belowL_app (cellsM_idlt (f:=SyncatomicInt64.v) (fun _=>rfl) _) rfl) rfl (wkB_live0 rfl (belowL_app (cellsM_idlt (f:=SyncatomicInt64.v) (fun _=>rfl) _) rfl) rfl (wkB_live0 rfl (belowL_app (cellsM_idlt (f:=SyncatomicInt64.v) (fun _=>rfl) _) rfl) rfl (wkB_live0 rfl (belowL_app (cellsM_idlt (f:=SyncatomicInt64.v) (fun _=>rfl) _) rfl) rfl (wkB_live0 rfl (belowL_app (cellsM_idlt (f:=SyncatomicInt64.v) (fun _=>rfl) _) rfl) rfl trivial)))))
  conv=>whnf
  refine askN_c 3 4 (fun s hs=>p_law36_count_o _ s hs) H rfl rfl rfl rfl (fun s=>(belowL_app (cellsM_idlt (f:=SyncatomicInt64.v) (fun _=>rfl) _) rfl)) (.kp rfl (.nil)) (fun y273 H=>?_);conv=>whnf
  refine askN_c 5 6 (fun s hs=>p_law36_count_o _ s hs) H rfl rfl rfl rfl (fun s=>(belowL_app (cellsM_idlt (f:=SyncatomicInt64.v) (fun _=>rfl) _) rfl)) (.fz (.c (fzown (f:=Law36Act.v) (l:=y22) rfl rfl (fun _=>rfl) (fun _=>rfl))) rfl (.nil)) (fun y274 H=>?_);conv=>whnf
  refine askN_c 7 8 (fun s hs=>p_law36_count_o _ s hs) H rfl rfl rfl rfl (fun s=>(belowL_app (cellsM_idlt (f:=SyncatomicInt64.v) (fun _=>rfl) _) rfl)) (.fz (.c (fzown (f:=Law36Act.v) (l:=l272) rfl rfl (fun _=>rfl) (fun _=>rfl))) rfl (.nil)) (fun y275 H=>?_);conv=>whnf
  refine askN_c 9 10 (fun s hs=>p_law36_count_o _ s hs) H rfl rfl rfl rfl (fun s=>(belowL_app (cellsM_idlt (f:=SyncatomicInt64.v) (fun _=>rfl) _) rfl)) (.kp rfl (.nil)) (fun y276 H=>?_);conv=>whnf
  refine askN_c 11 12 (fun s hs=>p_law36_count_o _ s hs) H rfl rfl rfl rfl (fun s=>(belowL_app (cellsM_idlt (f:=SyncatomicInt64.v) (fun _=>rfl) _) rfl)) (.kp rfl (.nil)) (fun y277 H=>?_);conv=>whnf
  obtain ⟨K278,hK279,o280,HL281,HQ282⟩:=join0_c H
  refine join_c [4,8,9,10,11,12] [53,54,55,56,57,58,59,60,61,62,63,64,65,66,67,68,69,70,71,72,73,74,75,76,77,78,79,80,81,82,5,7,42,44,45,46,47,48,50,52] (fun vals st=>(∃ y288 y289,K278 (.inl (y288,y289))=some true∧vals=[.b false,.ptr 0 0,.ptr 1 0,.ptr 2 0,.ptr 3 0,.ptr 4 0]∧st=[.live (cellsM SyncatomicInt64.v y289.counts++([.lit (.int .u32 y289.once.done.v_),.lit (.int .i32 y289.once.m.mu.state),.lit (.int .u32 y289.once.m.mu.sema),.sl (List.map V.s y289.names) false])) 0,.live (cellsM SyncatomicInt64.v y274.counts++([.lit (.int .u32 y274.once.done.v_),.lit (.int .i32 y274.once.m.mu.state),.lit (.int .u32 y274.once.m.mu.sema),.sl (List.map V.s y274.names) false])) 0,.live (cellsM SyncatomicInt64.v y275.counts++([.lit (.int .u32 y275.once.done.v_),.lit (.int .i32 y275.once.m.mu.state),.lit (.int .u32 y275.once.m.mu.sema),.sl (List.map V.s y275.names) false])) 0,.live (cellsM SyncatomicInt64.v y288.counts++([.lit (.int .u32 y288.once.done.v_),.lit (.int .i32 y288.once.m.mu.state),.lit (.int .u32 y288.once.m.mu.sema),.sl (List.map V.s y288.names) false])) 0,.live (cellsM SyncatomicInt64.v y277.counts++([.lit (.int .u32 y277.once.done.v_),.lit (.int .i32 y277.once.m.mu.state),.lit (.int .u32 y277.once.m.mu.sema),.sl (List.map V.s y277.names) false])) 0])) ?_ ?_
  ·have H:=HL281
   conv=>whnf
   iterate 9 (refine Tst.F ?_;conv=>whnf)
   refine askCo_c [3,9] (fun s hs=>p_tally_Tally_Join_p2_0 _ _ s hs) H (fun _=>rfl) rfl ⟨rfl,⟨rfl,trivial⟩⟩ rfl (closed_cons (belowL_app (cellsM_idlt (f:=SyncatomicInt64.v) (fun _=>rfl) _) rfl) (closed_cons (belowL_app (cellsM_idlt (f:=SyncatomicInt64.v) (fun _=>rfl) _) rfl) closed_nil)) (fun s=>(closed_cons (belowL_app (cellsM_idlt (f:=SyncatomicInt64.v) (fun _=>rfl) _) rfl) (closed_cons (belowL_app (cellsM_idlt (f:=SyncatomicInt64.v) (fun _=>rfl) _) rfl) closed_nil))) (fun _=>rfl) (.kp rfl (.kp rfl (.nil))) (fun v284 H=>?_);conv=>whnf
   iterate 2 (refine Tst.F ?_;conv=>whnf)
   refine Tst.not ?_
   refine tst_d H (fun b285 H=>?_) (fun b285 H=>?_)
   ·conv=>whnf
    iterate 11 (refine Tst.T ?_;conv=>whnf)
    obtain rfl:=Option.some.inj H
    have H:=HQ282
    rw [hK279] at H
    try dsimp only at H
    exact fb_ H
   conv=>whnf
   iterate 2 (refine Tst.F ?_;conv=>whnf)
   refine askCo_c [9,11] (fun s hs=>p_tally_Tally_Join_p2_0 _ _ s hs) H (fun _=>rfl) rfl ⟨rfl,⟨rfl,trivial⟩⟩ rfl (closed_cons (belowL_app (cellsM_idlt (f:=SyncatomicInt64.v) (fun _=>rfl) _) rfl) (closed_cons (belowL_app (cellsM_idlt (f:=SyncatomicInt64.v) (fun _=>rfl) _) rfl) closed_nil)) (fun s=>(closed_cons (belowL_app (cellsM_idlt (f:=SyncatomicInt64.v) (fun _=>rfl) _) rfl) (closed_cons (belowL_app (cellsM_idlt (f:=SyncatomicInt64.v) (fun _=>rfl) _) rfl) closed_nil))) (fun _=>rfl) (.kp rfl (.kp rfl (.nil))) (fun v286 H=>?_);conv=>whnf
   iterate 2 (refine Tst.F ?_;conv=>whnf)
   refine Tst.not ?_
   refine tst_d H (fun b287 H=>?_) (fun b287 H=>?_)
   ·conv=>whnf
    iterate 6 (refine Tst.T ?_;conv=>whnf)
    obtain rfl:=Option.some.inj H
    have H:=HQ282
    rw [hK279] at H
    try dsimp only at H
    exact fb_ H
   conv=>whnf
   iterate 6 (refine Tst.F ?_;conv=>whnf)
   obtain rfl:=Option.some.inj H
   exact arrive_c [53,54,55,56,57,58,59,60,61,62,63,64,65,66,67,68,69,70,71,72,73,74,75,76,77,78,79,80,81,82,5,7,42,44,45,46,47,48,50,52] 5 [3,5,7,9,11] (⟨_,_,HQ282,rfl,rfl⟩) (Nat.zero_le _) rfl (by kernel_rfl) (by kernel_rfl) rfl (by exact wkB_live0 rfl (belowL_app (cellsM_idlt (f:=SyncatomicInt64.v) (fun _=>rfl) _) rfl) rfl (wkB_live0 rfl (belowL_app (cellsM_idlt (f:=SyncatomicInt64.v) (fun _=>rfl) _) rfl) rfl (wkB_live0 rfl (belowL_app (cellsM_idlt (f:=SyncatomicInt64.v) (fun _=>rfl) _) rfl) rfl (wkB_live0 rfl (belowL_app (cellsM_idlt (f:=SyncatomicInt64.v) (fun _=>rfl) _) rfl) rfl (wkB_live0 rfl (belowL_app (cellsM_idlt (f:=SyncatomicInt64.v) (fun _=>rfl) _) rfl) rfl trivial)))))
  rintro _ _ (⟨y288,y289,H,rfl,rfl⟩)
  rw [hK279] at H
  try dsimp only at H
  conv=>whnf
  obtain ⟨o291,HL292,HQ293⟩:=bind_c H
  refine loop_c [4,13] [14,83,84,85,86,87,88,89,90,91,92,93,94,95,96,97,98,99,100,101,102,103,104,105,106,107,108,109,110,111,112,113] [14,83,84,85,86,87,88,89,90,91,92,93,94,95,96,97,98,99,100,101,102,103,104,105,106,107,108,109,110,111,112,113] (fun n vals st=>(∃ y295 y296 y297 y298 y299 y300,p_law36_TallyOrder_l2  n y295 y296 y297 y298 y299 y300=some o291∧vals=[.b false,.i y295]∧st=[.live (cellsM SyncatomicInt64.v y299.counts++([.lit (.int .u32 y299.once.done.v_),.lit (.int .i32 y299.once.m.mu.state),.lit (.int .u32 y299.once.m.mu.sema),.sl (List.map V.s y299.names) false])) 0,.live (cellsM SyncatomicInt64.v y300.counts++([.lit (.int .u32 y300.once.done.v_),.lit (.int .i32 y300.once.m.mu.state),.lit (.int .u32 y300.once.m.mu.sema),.sl (List.map V.s y300.names) false])) 0,.live (cellsM SyncatomicInt64.v y296.counts++([.lit (.int .u32 y296.once.done.v_),.lit (.int .i32 y296.once.m.mu.state),.lit (.int .u32 y296.once.m.mu.sema),.sl (List.map V.s y296.names) false])) 0,.live (cellsM SyncatomicInt64.v y297.counts++([.lit (.int .u32 y297.once.done.v_),.lit (.int .i32 y297.once.m.mu.state),.lit (.int .u32 y297.once.m.mu.sema),.sl (List.map V.s y297.names) false])) 0,.live (cellsM SyncatomicInt64.v y298.counts++([.lit (.int .u32 y298.once.done.v_),.lit (.int .i32 y298.once.m.mu.state),.lit (.int .u32 y298.once.m.mu.sema),.sl (List.map V.s y298.names) false])) 0])) fuel 5 [] (⟨_,_,_,_,_,_,HL292,rfl,rfl⟩) (Nat.zero_le _) rfl (by kernel_rfl) (by kernel_rfl) rfl (by exact wkB_live0 rfl (belowL_app (cellsM_idlt (f:=SyncatomicInt64.v) (fun _=>rfl) _) rfl) rfl (wkB_live0 rfl (belowL_app (cellsM_idlt (f:=SyncatomicInt64.v) (fun _=>rfl) _) rfl) rfl (wkB_live0 rfl (belowL_app (cellsM_idlt (f:=SyncatomicInt64.v) (fun _=>rfl) _) rfl) rfl (wkB_live0 rfl (belowL_app (cellsM_idlt (f:=SyncatomicInt64.v) (fun _=>rfl) _) rfl) rfl (wkB_live0 rfl (belowL_app (cellsM_idlt (f:=SyncatomicInt64.v) (fun _=>rfl) _) rfl) rfl trivial))))) ?_
  rintro (_ | n294) _ _ (⟨y295,y296,y297,y298,y299,y300,H,rfl,rfl⟩)
  ·rw [p_law36_TallyOrder_l2] at H;cases H
  rw [p_law36_TallyOrder_l2] at H
  conv=>whnf
  refine tst_d H (fun b301 H=>?_) (fun b301 H=>?_)
  ·conv=>whnf
   obtain rfl:=Option.some.inj H
   have H:=HQ293
   try dsimp only at H
   refine ask_c (p_law36_awake_v) H rfl rfl (fun v312 H=>?_);conv=>whnf
   exact fb_ H
  conv=>whnf
  refine ask_c (p_ref36_Name_v _) H rfl rfl (fun v302 H=>?_);conv=>whnf
  refine askCo_c [1] (fun s hs=>p_tally_Tally_Get_p1_0 _ _ s hs) H (fun _=>rfl) rfl ⟨rfl,trivial⟩ rfl (closed_cons (belowL_app (cellsM_idlt (f:=SyncatomicInt64.v) (fun _=>rfl) _) rfl) closed_nil) (fun s=>(closed_cons (belowL_app (cellsM_idlt (f:=SyncatomicInt64.v) (fun _=>rfl) _) rfl) closed_nil)) (fun _=>rfl) (.kp rfl (.kp rfl (.nil))) (fun v303 H=>?_);conv=>whnf
  refine askCo_c [4] (fun s hs=>p_tally_Tally_Get_p1_0 _ _ s hs) H (fun _=>rfl) rfl ⟨rfl,trivial⟩ rfl (closed_cons (belowL_app (cellsM_idlt (f:=SyncatomicInt64.v) (fun _=>rfl) _) rfl) closed_nil) (fun s=>(closed_cons (belowL_app (cellsM_idlt (f:=SyncatomicInt64.v) (fun _=>rfl) _) rfl) closed_nil)) (fun _=>rfl) (.kp rfl (.kp rfl (.nil))) (fun v304 H=>?_);conv=>whnf
  refine tst_c H (fun b305 H=>?_) (fun b305 H=>?_)
  ·conv=>whnf
   iterate 16 (refine Tst.T ?_;conv=>whnf)
   obtain rfl:=Option.some.inj H
   have H:=HQ293
   try dsimp only at H
   exact fb_ H
  conv=>whnf
  iterate 2 (refine Tst.F ?_;conv=>whnf)
  refine askCo_c [0] (fun s hs=>p_tally_Tally_Get_p1_0 _ _ s hs) H (fun _=>rfl) rfl ⟨rfl,trivial⟩ rfl (closed_cons (belowL_app (cellsM_idlt (f:=SyncatomicInt64.v) (fun _=>rfl) _) rfl) closed_nil) (fun s=>(closed_cons (belowL_app (cellsM_idlt (f:=SyncatomicInt64.v) (fun _=>rfl) _) rfl) closed_nil)) (fun _=>rfl) (.kp rfl (.kp rfl (.nil))) (fun v306 H=>?_);conv=>whnf
  iterate 3 (refine Tst.F ?_;conv=>whnf)
  refine askCo_c [2] (fun s hs=>p_tally_Tally_Get_p1_0 _ _ s hs) H (fun _=>rfl) rfl ⟨rfl,trivial⟩ rfl (closed_cons (belowL_app (cellsM_idlt (f:=SyncatomicInt64.v) (fun _=>rfl) _) rfl) closed_nil) (fun s=>(closed_cons (belowL_app (cellsM_idlt (f:=SyncatomicInt64.v) (fun _=>rfl) _) rfl) closed_nil)) (fun _=>rfl) (.kp rfl (.kp rfl (.nil))) (fun v307 H=>?_);conv=>whnf
  iterate 2 (refine Tst.F ?_;conv=>whnf)
  refine tst_c H (fun b308 H=>?_) (fun b308 H=>?_)
  ·conv=>whnf
   iterate 8 (refine Tst.T ?_;conv=>whnf)
   obtain rfl:=Option.some.inj H
   have H:=HQ293
   try dsimp only at H
   exact fb_ H
  conv=>whnf
  iterate 2 (refine Tst.F ?_;conv=>whnf)
  refine askCo_c [3] (fun s hs=>p_tally_Tally_Get_p1_0 _ _ s hs) H (fun _=>rfl) rfl ⟨rfl,trivial⟩ rfl (closed_cons (belowL_app (cellsM_idlt (f:=SyncatomicInt64.v) (fun _=>rfl) _) rfl) closed_nil) (fun s=>(closed_cons (belowL_app (cellsM_idlt (f:=SyncatomicInt64.v) (fun _=>rfl) _) rfl) closed_nil)) (fun _=>rfl) (.kp rfl (.kp rfl (.nil))) (fun v309 H=>?_);conv=>whnf
  iterate 3 (refine Tst.F ?_;conv=>whnf)
  refine askCo_c [2] (fun s hs=>p_tally_Tally_Get_p1_0 _ _ s hs) H (fun _=>rfl) rfl ⟨rfl,trivial⟩ rfl (closed_cons (belowL_app (cellsM_idlt (f:=SyncatomicInt64.v) (fun _=>rfl) _) rfl) closed_nil) (fun s=>(closed_cons (belowL_app (cellsM_idlt (f:=SyncatomicInt64.v) (fun _=>rfl) _) rfl) closed_nil)) (fun _=>rfl) (.kp rfl (.kp rfl (.nil))) (fun v310 H=>?_);conv=>whnf
  iterate 2 (refine Tst.F ?_;conv=>whnf)
  refine tst_c H (fun b311 H=>?_) (fun b311 H=>?_)
  ·conv=>whnf
   obtain rfl:=Option.some.inj H
   have H:=HQ293
   try dsimp only at H
   exact fb_ H
  conv=>whnf
  refine Ari.w ?_;conv=>whnf
  exact again_c [14,83,84,85,86,87,88,89,90,91,92,93,94,95,96,97,98,99,100,101,102,103,104,105,106,107,108,109,110,111,112,113] n294 5 [] (⟨_,_,_,_,_,_,H,rfl,rfl⟩) (Nat.lt_succ_self _) (Nat.zero_le _) rfl (by kernel_rfl) (by kernel_rfl) rfl (by exact wkB_live0 rfl (belowL_app (cellsM_idlt (f:=SyncatomicInt64.v) (fun _=>rfl) _) rfl) rfl (wkB_live0 rfl (belowL_app (cellsM_idlt (f:=SyncatomicInt64.v) (fun _=>rfl) _) rfl) rfl (wkB_live0 rfl (belowL_app (cellsM_idlt (f:=SyncatomicInt64.v) (fun _=>rfl) _) rfl) rfl (wkB_live0 rfl (belowL_app (cellsM_idlt (f:=SyncatomicInt64.v) (fun _=>rfl) _) rfl) rfl (wkB_live0 rfl (belowL_app (cellsM_idlt (f:=SyncatomicInt64.v) (fun _=>rfl) _) rfl) rfl trivial)))))
 conv=>whnf
 refine appP_c (f:=Law36Act.v) H (fun _=>rfl) rfl rfl (.v (srcM (f:=Law36Act.v) (fun _=>rfl) _ _)) (by decide) rfl (fun l191 H=>?_) (fun l191 H=>?_)
 ·conv=>whnf
  refine askN_c 3 4 (fun s hs=>p_law36_count_o _ s hs) H rfl rfl rfl rfl (fun s=>(belowL_app (cellsM_idlt (f:=SyncatomicInt64.v) (fun _=>rfl) _) rfl)) (.kp rfl (.nil)) (fun y232 H=>?_);conv=>whnf
  refine askN_c 5 6 (fun s hs=>p_law36_count_o _ s hs) H rfl rfl rfl rfl (fun s=>(belowL_app (cellsM_idlt (f:=SyncatomicInt64.v) (fun _=>rfl) _) rfl)) (.fz (.c (fzown (f:=Law36Act.v) (l:=y22) rfl rfl (fun _=>rfl) (fun _=>rfl))) rfl (.nil)) (fun y233 H=>?_);conv=>whnf
  refine askN_c 7 8 (fun s hs=>p_law36_count_o _ s hs) H rfl rfl rfl rfl (fun s=>(belowL_app (cellsM_idlt (f:=SyncatomicInt64.v) (fun _=>rfl) _) rfl)) (.fz (.c (fzown (f:=Law36Act.v) (l:=l191) rfl rfl (fun _=>rfl) (fun _=>rfl))) rfl (.nil)) (fun y234 H=>?_);conv=>whnf
  refine askN_c 9 10 (fun s hs=>p_law36_count_o _ s hs) H rfl rfl rfl rfl (fun s=>(belowL_app (cellsM_idlt (f:=SyncatomicInt64.v) (fun _=>rfl) _) rfl)) (.kp rfl (.nil)) (fun y235 H=>?_);conv=>whnf
  refine askN_c 11 12 (fun s hs=>p_law36_count_o _ s hs) H rfl rfl rfl rfl (fun s=>(belowL_app (cellsM_idlt (f:=SyncatomicInt64.v) (fun _=>rfl) _) rfl)) (.kp rfl (.nil)) (fun y236 H=>?_);conv=>whnf
  obtain ⟨K237,hK238,o239,HL240,HQ241⟩:=join0_c H
  refine join_c [4,8,9,10,11,12] [53,54,55,56,57,58,59,60,61,62,63,64,65,66,67,68,69,70,71,72,73,74,75,76,77,78,79,80,81,82,5,7,40,42,44,45,46,47,48,50,52] (fun vals st=>(∃ y247 y248,K237 (.inl (y247,y248))=some true∧vals=[.b false,.ptr 0 0,.ptr 1 0,.ptr 2 0,.ptr 3 0,.ptr 4 0]∧st=[.live (cellsM SyncatomicInt64.v y248.counts++([.lit (.int .u32 y248.once.done.v_),.lit (.int .i32 y248.once.m.mu.state),.lit (.int .u32 y248.once.m.mu.sema),.sl (List.map V.s y248.names) false])) 0,.live (cellsM SyncatomicInt64.v y233.counts++([.lit (.int .u32 y233.once.done.v_),.lit (.int .i32 y233.once.m.mu.state),.lit (.int .u32 y233.once.m.mu.sema),.sl (List.map V.s y233.names) false])) 0,.live (cellsM SyncatomicInt64.v y234.counts++([.lit (.int .u32 y234.once.done.v_),.lit (.int .i32 y234.once.m.mu.state),.lit (.int .u32 y234.once.m.mu.sema),.sl (List.map V.s y234.names) false])) 0,.live (cellsM SyncatomicInt64.v y247.counts++([.lit (.int .u32 y247.once.done.v_),.lit (.int .i32 y247.once.m.mu.state),.lit (.int .u32 y247.once.m.mu.sema),.sl (List.map V.s y247.names) false])) 0,.live (cellsM SyncatomicInt64.v y236.counts++([.lit (.int .u32 y236.once.done.v_),.lit (.int .i32 y236.once.m.mu.state),.lit (.int .u32 y236.once.m.mu.sema),.sl (List.map V.s y236.names) false])) 0])) ?_ ?_
  ·have H:=HL240
   conv=>whnf
   iterate 9 (refine Tst.F ?_;conv=>whnf)
   refine askCo_c [3,9] (fun s hs=>p_tally_Tally_Join_p2_0 _ _ s hs) H (fun _=>rfl) rfl ⟨rfl,⟨rfl,trivial⟩⟩ rfl (closed_cons (belowL_app (cellsM_idlt (f:=SyncatomicInt64.v) (fun _=>rfl) _) rfl) (closed_cons (belowL_app (cellsM_idlt (f:=SyncatomicInt64.v) (fun _=>rfl) _) rfl) closed_nil)) (fun s=>(closed_cons (belowL_app (cellsM_idlt (f:=SyncatomicInt64.v) (fun _=>rfl) _) rfl) (closed_cons (belowL_app (cellsM_idlt (f:=SyncatomicInt64.v) (fun _=>rfl) _) rfl) closed_nil))) (fun _=>rfl) (.kp rfl (.kp rfl (.nil))) (fun v243 H=>?_);conv=>whnf
   iterate 2 (refine Tst.F ?_;conv=>whnf)
   refine Tst.not ?_
   refine tst_d H (fun b244 H=>?_) (fun b244 H=>?_)
   ·conv=>whnf
    iterate 11 (refine Tst.T ?_;conv=>whnf)
    obtain rfl:=Option.some.inj H
    have H:=HQ241
    rw [hK238] at H
    try dsimp only at H
    exact fb_ H
   conv=>whnf
   iterate 2 (refine Tst.F ?_;conv=>whnf)
   refine askCo_c [9,11] (fun s hs=>p_tally_Tally_Join_p2_0 _ _ s hs) H (fun _=>rfl) rfl ⟨rfl,⟨rfl,trivial⟩⟩ rfl (closed_cons (belowL_app (cellsM_idlt (f:=SyncatomicInt64.v) (fun _=>rfl) _) rfl) (closed_cons (belowL_app (cellsM_idlt (f:=SyncatomicInt64.v) (fun _=>rfl) _) rfl) closed_nil)) (fun s=>(closed_cons (belowL_app (cellsM_idlt (f:=SyncatomicInt64.v) (fun _=>rfl) _) rfl) (closed_cons (belowL_app (cellsM_idlt (f:=SyncatomicInt64.v) (fun _=>rfl) _) rfl) closed_nil))) (fun _=>rfl) (.kp rfl (.kp rfl (.nil))) (fun v245 H=>?_);conv=>whnf
   iterate 2 (refine Tst.F ?_;conv=>whnf)
   refine Tst.not ?_
   refine tst_d H (fun b246 H=>?_) (fun b246 H=>?_)
   ·conv=>whnf
    iterate 6 (refine Tst.T ?_;conv=>whnf)
    obtain rfl:=Option.some.inj H
    have H:=HQ241
    rw [hK238] at H
    try dsimp only at H
    exact fb_ H
   conv=>whnf
   iterate 6 (refine Tst.F ?_;conv=>whnf)
   obtain rfl:=Option.some.inj H
   exact arrive_c [53,54,55,56,57,58,59,60,61,62,63,64,65,66,67,68,69,70,71,72,73,74,75,76,77,78,79,80,81,82,5,7,40,42,44,45,46,47,48,50,52] 5 [3,5,7,9,11] (⟨_,_,HQ241,rfl,rfl⟩) (Nat.zero_le _) rfl (by kernel_rfl) (by kernel_rfl) rfl (by exact wkB_live0 rfl (belowL_app (cellsM_idlt (f:=SyncatomicInt64.v) (fun _=>rfl) _) rfl) rfl (wkB_live0 rfl (belowL_app (cellsM_idlt (f:=SyncatomicInt64.v) (fun _=>rfl) _) rfl) rfl (wkB_live0 rfl (belowL_app (cellsM_idlt (f:=SyncatomicInt64.v) (fun _=>rfl) _) rfl) rfl (wkB_live0 rfl (belowL_app (cellsM_idlt (f:=SyncatomicInt64.v) (fun _=>rfl) _) rfl) rfl (wkB_live0 rfl (belowL_app (cellsM_idlt (f:=SyncatomicInt64.v) (fun _=>rfl) _) rfl) rfl trivial)))))
  rintro _ _ (⟨y247,y248,H,rfl,rfl⟩)
  rw [hK238] at H
  try dsimp only at H
  conv=>whnf
  obtain ⟨o250,HL251,HQ252⟩:=bind_c H
  refine loop_c [4,13] [14,83,84,85,86,87,88,89,90,91,92,93,94,95,96,97,98,99,100,101,102,103,104,105,106,107,108,109,110,111,112,113] [14,83,84,85,86,87,88,89,90,91,92,93,94,95,96,97,98,99,100,101,102,103,104,105,106,107,108,109,110,111,112,113] (fun n vals st=>(∃ y254 y255 y256 y257 y258 y259,p_law36_TallyOrder_l2  n y254 y255 y256 y257 y258 y259=some o250∧vals=[.b false,.i y254]∧st=[.live (cellsM SyncatomicInt64.v y258.counts++([.lit (.int .u32 y258.once.done.v_),.lit (.int .i32 y258.once.m.mu.state),.lit (.int .u32 y258.once.m.mu.sema),.sl (List.map V.s y258.names) false])) 0,.live (cellsM SyncatomicInt64.v y259.counts++([.lit (.int .u32 y259.once.done.v_),.lit (.int .i32 y259.once.m.mu.state),.lit (.int .u32 y259.once.m.mu.sema),.sl (List.map V.s y259.names) false])) 0,.live (cellsM SyncatomicInt64.v y255.counts++([.lit (.int .u32 y255.once.done.v_),.lit (.int .i32 y255.once.m.mu.state),.lit (.int .u32 y255.once.m.mu.sema),.sl (List.map V.s y255.names) false])) 0,.live (cellsM SyncatomicInt64.v y256.counts++([.lit (.int .u32 y256.once.done.v_),.lit (.int .i32 y256.once.m.mu.state),.lit (.int .u32 y256.once.m.mu.sema),.sl (List.map V.s y256.names) false])) 0,.live (cellsM SyncatomicInt64.v y257.counts++([.lit (.int .u32 y257.once.done.v_),.lit (.int .i32 y257.once.m.mu.state),.lit (.int .u32 y257.once.m.mu.sema),.sl (List.map V.s y257.names) false])) 0])) fuel 5 [] (⟨_,_,_,_,_,_,HL251,rfl,rfl⟩) (Nat.zero_le _) rfl (by kernel_rfl) (by kernel_rfl) rfl (by exact wkB_live0 rfl (belowL_app (cellsM_idlt (f:=SyncatomicInt64.v) (fun _=>rfl) _) rfl) rfl (wkB_live0 rfl (belowL_app (cellsM_idlt (f:=SyncatomicInt64.v) (fun _=>rfl) _) rfl) rfl (wkB_live0 rfl (belowL_app (cellsM_idlt (f:=SyncatomicInt64.v) (fun _=>rfl) _) rfl) rfl (wkB_live0 rfl (belowL_app (cellsM_idlt (f:=SyncatomicInt64.v) (fun _=>rfl) _) rfl) rfl (wkB_live0 rfl (belowL_app (cellsM_idlt (f:=SyncatomicInt64.v) (fun _=>rfl) _) rfl) rfl trivial))))) ?_
  rintro (_ | n253) _ _ (⟨y254,y255,y256,y257,y258,y259,H,rfl,rfl⟩)
  ·rw [p_law36_TallyOrder_l2] at H;cases H
  rw [p_law36_TallyOrder_l2] at H
  conv=>whnf
  refine tst_d H (fun b260 H=>?_) (fun b260 H=>?_)
  ·conv=>whnf
   obtain rfl:=Option.some.inj H
   have H:=HQ252
   try dsimp only at H
   refine ask_c (p_law36_awake_v) H rfl rfl (fun v271 H=>?_);conv=>whnf
   exact fb_ H
  conv=>whnf
  refine ask_c (p_ref36_Name_v _) H rfl rfl (fun v261 H=>?_);conv=>whnf
  refine askCo_c [1] (fun s hs=>p_tally_Tally_Get_p1_0 _ _ s hs) H (fun _=>rfl) rfl ⟨rfl,trivial⟩ rfl (closed_cons (belowL_app (cellsM_idlt (f:=SyncatomicInt64.v) (fun _=>rfl) _) rfl) closed_nil) (fun s=>(closed_cons (belowL_app (cellsM_idlt (f:=SyncatomicInt64.v) (fun _=>rfl) _) rfl) closed_nil)) (fun _=>rfl) (.kp rfl (.kp rfl (.nil))) (fun v262 H=>?_);conv=>whnf
  refine askCo_c [4] (fun s hs=>p_tally_Tally_Get_p1_0 _ _ s hs) H (fun _=>rfl) rfl ⟨rfl,trivial⟩ rfl (closed_cons (belowL_app (cellsM_idlt (f:=SyncatomicInt64.v) (fun _=>rfl) _) rfl) closed_nil) (fun s=>(closed_cons (belowL_app (cellsM_idlt (f:=SyncatomicInt64.v) (fun _=>rfl) _) rfl) closed_nil)) (fun _=>rfl) (.kp rfl (.kp rfl (.nil))) (fun v263 H=>?_);conv=>whnf
  refine tst_c H (fun b264 H=>?_) (fun b264 H=>?_)
  ·conv=>whnf
   iterate 16 (refine Tst.T ?_;conv=>whnf)
   obtain rfl:=Option.some.inj H
   have H:=HQ252
   try dsimp only at H
   exact fb_ H
  conv=>whnf
  iterate 2 (refine Tst.F ?_;conv=>whnf)
  refine askCo_c [0] (fun s hs=>p_tally_Tally_Get_p1_0 _ _ s hs) H (fun _=>rfl) rfl ⟨rfl,trivial⟩ rfl (closed_cons (belowL_app (cellsM_idlt (f:=SyncatomicInt64.v) (fun _=>rfl) _) rfl) closed_nil) (fun s=>(closed_cons (belowL_app (cellsM_idlt (f:=SyncatomicInt64.v) (fun _=>rfl) _) rfl) closed_nil)) (fun _=>rfl) (.kp rfl (.kp rfl (.nil))) (fun v265 H=>?_);conv=>whnf
  iterate 3 (refine Tst.F ?_;conv=>whnf)
  refine askCo_c [2] (fun s hs=>p_tally_Tally_Get_p1_0 _ _ s hs) H (fun _=>rfl) rfl ⟨rfl,trivial⟩ rfl (closed_cons (belowL_app (cellsM_idlt (f:=SyncatomicInt64.v) (fun _=>rfl) _) rfl) closed_nil) (fun s=>(closed_cons (belowL_app (cellsM_idlt (f:=SyncatomicInt64.v) (fun _=>rfl) _) rfl) closed_nil)) (fun _=>rfl) (.kp rfl (.kp rfl (.nil))) (fun v266 H=>?_);conv=>whnf
  iterate 2 (refine Tst.F ?_;conv=>whnf)
  refine tst_c H (fun b267 H=>?_) (fun b267 H=>?_)
  ·conv=>whnf
   iterate 8 (refine Tst.T ?_;conv=>whnf)
   obtain rfl:=Option.some.inj H
   have H:=HQ252
   try dsimp only at H
   exact fb_ H
  conv=>whnf
  iterate 2 (refine Tst.F ?_;conv=>whnf)
  refine askCo_c [3] (fun s hs=>p_tally_Tally_Get_p1_0 _ _ s hs) H (fun _=>rfl) rfl ⟨rfl,trivial⟩ rfl (closed_cons (belowL_app (cellsM_idlt (f:=SyncatomicInt64.v) (fun _=>rfl) _) rfl) closed_nil) (fun s=>(closed_cons (belowL_app (cellsM_idlt (f:=SyncatomicInt64.v) (fun _=>rfl) _) rfl) closed_nil)) (fun _=>rfl) (.kp rfl (.kp rfl (.nil))) (fun v268 H=>?_);conv=>whnf
  iterate 3 (refine Tst.F ?_;conv=>whnf)
  refine askCo_c [2] (fun s hs=>p_tally_Tally_Get_p1_0 _ _ s hs) H (fun _=>rfl) rfl ⟨rfl,trivial⟩ rfl (closed_cons (belowL_app (cellsM_idlt (f:=SyncatomicInt64.v) (fun _=>rfl) _) rfl) closed_nil) (fun s=>(closed_cons (belowL_app (cellsM_idlt (f:=SyncatomicInt64.v) (fun _=>rfl) _) rfl) closed_nil)) (fun _=>rfl) (.kp rfl (.kp rfl (.nil))) (fun v269 H=>?_);conv=>whnf
  iterate 2 (refine Tst.F ?_;conv=>whnf)
  refine tst_c H (fun b270 H=>?_) (fun b270 H=>?_)
  ·conv=>whnf
   obtain rfl:=Option.some.inj H
   have H:=HQ252
   try dsimp only at H
   exact fb_ H
  conv=>whnf
  refine Ari.w ?_;conv=>whnf
  exact again_c [14,83,84,85,86,87,88,89,90,91,92,93,94,95,96,97,98,99,100,101,102,103,104,105,106,107,108,109,110,111,112,113] n253 5 [] (⟨_,_,_,_,_,_,H,rfl,rfl⟩) (Nat.lt_succ_self _) (Nat.zero_le _) rfl (by kernel_rfl) (by kernel_rfl) rfl (by exact wkB_live0 rfl (belowL_app (cellsM_idlt (f:=SyncatomicInt64.v) (fun _=>rfl) _) rfl) rfl (wkB_live0 rfl (belowL_app (cellsM_idlt (f:=SyncatomicInt64.v) (fun _=>rfl) _) rfl) rfl (wkB_live0 rfl (belowL_app (cellsM_idlt (f:=SyncatomicInt64.v) (fun _=>rfl) _) rfl) rfl (wkB_live0 rfl (belowL_app (cellsM_idlt (f:=SyncatomicInt64.v) (fun _=>rfl) _) rfl) rfl (wkB_live0 rfl (belowL_app (cellsM_idlt (f:=SyncatomicInt64.v) (fun _=>rfl) _) rfl) rfl trivial)))))
 conv=>whnf
 refine askN_c 3 4 (fun s hs=>p_law36_count_o _ s hs) H rfl rfl rfl rfl (fun s=>(belowL_app (cellsM_idlt (f:=SyncatomicInt64.v) (fun _=>rfl) _) rfl)) (.kp rfl (.nil)) (fun y192 H=>?_);conv=>whnf
 refine askN_c 5 6 (fun s hs=>p_law36_count_o _ s hs) H rfl rfl rfl rfl (fun s=>(belowL_app (cellsM_idlt (f:=SyncatomicInt64.v) (fun _=>rfl) _) rfl)) (.fz (.c (fzown (f:=Law36Act.v) (l:=y22) rfl rfl (fun _=>rfl) (fun _=>rfl))) rfl (.nil)) (fun y193 H=>?_);conv=>whnf
 refine askN_c 7 8 (fun s hs=>p_law36_count_o _ s hs) H rfl rfl rfl rfl (fun s=>(belowL_app (cellsM_idlt (f:=SyncatomicInt64.v) (fun _=>rfl) _) rfl)) (.fz (.c (fzown (f:=Law36Act.v) (l:=l191) rfl rfl (fun _=>rfl) (fun _=>rfl))) rfl (.nil)) (fun y194 H=>?_);conv=>whnf
 refine askN_c 9 10 (fun s hs=>p_law36_count_o _ s hs) H rfl rfl rfl rfl (fun s=>(belowL_app (cellsM_idlt (f:=SyncatomicInt64.v) (fun _=>rfl) _) rfl)) (.kp rfl (.nil)) (fun y195 H=>?_);conv=>whnf
 refine askN_c 11 12 (fun s hs=>p_law36_count_o _ s hs) H rfl rfl rfl rfl (fun s=>(belowL_app (cellsM_idlt (f:=SyncatomicInt64.v) (fun _=>rfl) _) rfl)) (.kp rfl (.nil)) (fun y196 H=>?_);conv=>whnf
 obtain ⟨K197,hK198,o199,HL200,HQ201⟩:=join0_c H
 refine join_c [4,8,9,10,11,12] [53,54,55,56,57,58,59,60,61,62,63,64,65,66,67,68,69,70,71,72,73,74,75,76,77,78,79,80,81,82,5,7,40,42,44,45,46,47,48,50,52] (fun vals st=>(∃ y207 y208,K197 (.inl (y207,y208))=some true∧vals=[.b false,.ptr 0 0,.ptr 1 0,.ptr 2 0,.ptr 3 0,.ptr 4 0]∧st=[.live (cellsM SyncatomicInt64.v y208.counts++([.lit (.int .u32 y208.once.done.v_),.lit (.int .i32 y208.once.m.mu.state),.lit (.int .u32 y208.once.m.mu.sema),.sl (List.map V.s y208.names) false])) 0,.live (cellsM SyncatomicInt64.v y193.counts++([.lit (.int .u32 y193.once.done.v_),.lit (.int .i32 y193.once.m.mu.state),.lit (.int .u32 y193.once.m.mu.sema),.sl (List.map V.s y193.names) false])) 0,.live (cellsM SyncatomicInt64.v y194.counts++([.lit (.int .u32 y194.once.done.v_),.lit (.int .i32 y194.once.m.mu.state),.lit (.int .u32 y194.once.m.mu.sema),.sl (List.map V.s y194.names) false])) 0,.live (cellsM SyncatomicInt64.v y207.counts++([.lit (.int .u32 y207.once.done.v_),.lit (.int .i32 y207.once.m.mu.state),.lit (.int .u32 y207.once.m.mu.sema),.sl (List.map V.s y207.names) false])) 0,.live (cellsM SyncatomicInt64.v y196.counts++([.lit (.int .u32 y196.once.done.v_),.lit (.int .i32 y196.once.m.mu.state),.lit (.int .u32 y196.once.m.mu.sema),.sl (List.map V.s y196.names) false])) 0])) ?_ ?_
 ·have H:=HL200
  conv=>whnf
  iterate 9 (refine Tst.F ?_;conv=>whnf)
  refine askCo_c [3,9] (fun s hs=>p_tally_Tally_Join_p2_0 _ _ s hs) H (fun _=>rfl) rfl ⟨rfl,⟨rfl,trivial⟩⟩ rfl (closed_cons (belowL_app (cellsM_idlt (f:=SyncatomicInt64.v) (fun _=>rfl) _) rfl) (closed_cons (belowL_app (cellsM_idlt (f:=SyncatomicInt64.v) (fun _=>rfl) _) rfl) closed_nil)) (fun s=>(closed_cons (belowL_app (cellsM_idlt (f:=SyncatomicInt64.v) (fun _=>rfl) _) rfl) (closed_cons (belowL_app (cellsM_idlt (f:=SyncatomicInt64.v) (fun _=>rfl) _) rfl) closed_nil))) (fun _=>rfl) (.kp rfl (.kp rfl (.nil))) (fun v203 H=>?_);conv=>whnf
  iterate 2 (refine Tst.F ?_;conv=>whnf)
  refine Tst.not ?_
  refine tst_d H (fun b204 H=>?_) (fun b204 H=>?_)
  ·conv=>whnf
   iterate 11 (refine Tst.T ?_;conv=>whnf)
   obtain rfl:=Option.some.inj H
   have H:=HQ201
   rw [hK198] at H
   try dsimp only at H
   exact fb_ H
  conv=>whnf
  iterate 2 (refine Tst.F ?_;conv=>whnf)
  refine askCo_c [9,11] (fun s hs=>p_tally_Tally_Join_p2_0 _ _ s hs) H (fun _=>rfl) rfl ⟨rfl,⟨rfl,trivial⟩⟩ rfl (closed_cons (belowL_app (cellsM_idlt (f:=SyncatomicInt64.v) (fun _=>rfl) _) rfl) (closed_cons (belowL_app (cellsM_idlt (f:=SyncatomicInt64.v) (fun _=>rfl) _) rfl) closed_nil)) (fun s=>(closed_cons (belowL_app (cellsM_idlt (f:=SyncatomicInt64.v) (fun _=>rfl) _) rfl) (closed_cons (belowL_app (cellsM_idlt (f:=SyncatomicInt64.v) (fun _=>rfl) _) rfl) closed_nil))) (fun _=>rfl) (.kp rfl (.kp rfl (.nil))) (fun v205 H=>?_);conv=>whnf
  iterate 2 (refine Tst.F ?_;conv=>whnf)
  refine Tst.not ?_
  refine tst_d H (fun b206 H=>?_) (fun b206 H=>?_)
  ·conv=>whnf
   iterate 6 (refine Tst.T ?_;conv=>whnf)
   obtain rfl:=Option.some.inj H
   have H:=HQ201
   rw [hK198] at H
   try dsimp only at H
   exact fb_ H
  conv=>whnf
  iterate 6 (refine Tst.F ?_;conv=>whnf)
  obtain rfl:=Option.some.inj H
  exact arrive_c [53,54,55,56,57,58,59,60,61,62,63,64,65,66,67,68,69,70,71,72,73,74,75,76,77,78,79,80,81,82,5,7,40,42,44,45,46,47,48,50,52] 5 [3,5,7,9,11] (⟨_,_,HQ201,rfl,rfl⟩) (Nat.zero_le _) rfl (by kernel_rfl) (by kernel_rfl) rfl (by exact wkB_live0 rfl (belowL_app (cellsM_idlt (f:=SyncatomicInt64.v) (fun _=>rfl) _) rfl) rfl (wkB_live0 rfl (belowL_app (cellsM_idlt (f:=SyncatomicInt64.v) (fun _=>rfl) _) rfl) rfl (wkB_live0 rfl (belowL_app (cellsM_idlt (f:=SyncatomicInt64.v) (fun _=>rfl) _) rfl) rfl (wkB_live0 rfl (belowL_app (cellsM_idlt (f:=SyncatomicInt64.v) (fun _=>rfl) _) rfl) rfl (wkB_live0 rfl (belowL_app (cellsM_idlt (f:=SyncatomicInt64.v) (fun _=>rfl) _) rfl) rfl trivial)))))
 rintro _ _ (⟨y207,y208,H,rfl,rfl⟩)
 rw [hK198] at H
 try dsimp only at H
 conv=>whnf
 obtain ⟨o210,HL211,HQ212⟩:=bind_c H
 refine loop_c [4,13] [14,83,84,85,86,87,88,89,90,91,92,93,94,95,96,97,98,99,100,101,102,103,104,105,106,107,108,109,110,111,112,113] [14,83,84,85,86,87,88,89,90,91,92,93,94,95,96,97,98,99,100,101,102,103,104,105,106,107,108,109,110,111,112,113] (fun n vals st=>(∃ y214 y215 y216 y217 y218 y219,p_law36_TallyOrder_l2  n y214 y215 y216 y217 y218 y219=some o210∧vals=[.b false,.i y214]∧st=[.live (cellsM SyncatomicInt64.v y218.counts++([.lit (.int .u32 y218.once.done.v_),.lit (.int .i32 y218.once.m.mu.state),.lit (.int .u32 y218.once.m.mu.sema),.sl (List.map V.s y218.names) false])) 0,.live (cellsM SyncatomicInt64.v y219.counts++([.lit (.int .u32 y219.once.done.v_),.lit (.int .i32 y219.once.m.mu.state),.lit (.int .u32 y219.once.m.mu.sema),.sl (List.map V.s y219.names) false])) 0,.live (cellsM SyncatomicInt64.v y215.counts++([.lit (.int .u32 y215.once.done.v_),.lit (.int .i32 y215.once.m.mu.state),.lit (.int .u32 y215.once.m.mu.sema),.sl (List.map V.s y215.names) false])) 0,.live (cellsM SyncatomicInt64.v y216.counts++([.lit (.int .u32 y216.once.done.v_),.lit (.int .i32 y216.once.m.mu.state),.lit (.int .u32 y216.once.m.mu.sema),.sl (List.map V.s y216.names) false])) 0,.live (cellsM SyncatomicInt64.v y217.counts++([.lit (.int .u32 y217.once.done.v_),.lit (.int .i32 y217.once.m.mu.state),.lit (.int .u32 y217.once.m.mu.sema),.sl (List.map V.s y217.names) false])) 0])) fuel 5 [] (⟨_,_,_,_,_,_,HL211,rfl,rfl⟩) (Nat.zero_le _) rfl (by kernel_rfl) (by kernel_rfl) rfl (by exact wkB_live0 rfl (belowL_app (cellsM_idlt (f:=SyncatomicInt64.v) (fun _=>rfl) _) rfl) rfl (wkB_live0 rfl (belowL_app (cellsM_idlt (f:=SyncatomicInt64.v) (fun _=>rfl) _) rfl) rfl (wkB_live0 rfl (belowL_app (cellsM_idlt (f:=SyncatomicInt64.v) (fun _=>rfl) _) rfl) rfl (wkB_live0 rfl (belowL_app (cellsM_idlt (f:=SyncatomicInt64.v) (fun _=>rfl) _) rfl) rfl (wkB_live0 rfl (belowL_app (cellsM_idlt (f:=SyncatomicInt64.v) (fun _=>rfl) _) rfl) rfl trivial))))) ?_
 rintro (_ | n213) _ _ (⟨y214,y215,y216,y217,y218,y219,H,rfl,rfl⟩)
 ·rw [p_law36_TallyOrder_l2] at H;cases H
 rw [p_law36_TallyOrder_l2] at H
 conv=>whnf
 refine tst_d H (fun b220 H=>?_) (fun b220 H=>?_)
 ·conv=>whnf
  obtain rfl:=Option.some.inj H
  have H:=HQ212
  try dsimp only at H
  refine ask_c (p_law36_awake_v) H rfl rfl (fun v231 H=>?_);conv=>whnf
  exact fb_ H
 conv=>whnf
 refine ask_c (p_ref36_Name_v _) H rfl rfl (fun v221 H=>?_);conv=>whnf
 refine askCo_c [1] (fun s hs=>p_tally_Tally_Get_p1_0 _ _ s hs) H (fun _=>rfl) rfl ⟨rfl,trivial⟩ rfl (closed_cons (belowL_app (cellsM_idlt (f:=SyncatomicInt64.v) (fun _=>rfl) _) rfl) closed_nil) (fun s=>(closed_cons (belowL_app (cellsM_idlt (f:=SyncatomicInt64.v) (fun _=>rfl) _) rfl) closed_nil)) (fun _=>rfl) (.kp rfl (.kp rfl (.nil))) (fun v222 H=>?_);conv=>whnf
 refine askCo_c [4] (fun s hs=>p_tally_Tally_Get_p1_0 _ _ s hs) H (fun _=>rfl) rfl ⟨rfl,trivial⟩ rfl (closed_cons (belowL_app (cellsM_idlt (f:=SyncatomicInt64.v) (fun _=>rfl) _) rfl) closed_nil) (fun s=>(closed_cons (belowL_app (cellsM_idlt (f:=SyncatomicInt64.v) (fun _=>rfl) _) rfl) closed_nil)) (fun _=>rfl) (.kp rfl (.kp rfl (.nil))) (fun v223 H=>?_);conv=>whnf
 refine tst_c H (fun b224 H=>?_) (fun b224 H=>?_)
 ·conv=>whnf
  iterate 16 (refine Tst.T ?_;conv=>whnf)
  obtain rfl:=Option.some.inj H
  have H:=HQ212
  try dsimp only at H
  exact fb_ H
 conv=>whnf
 iterate 2 (refine Tst.F ?_;conv=>whnf)
 refine askCo_c [0] (fun s hs=>p_tally_Tally_Get_p1_0 _ _ s hs) H (fun _=>rfl) rfl ⟨rfl,trivial⟩ rfl (closed_cons (belowL_app (cellsM_idlt (f:=SyncatomicInt64.v) (fun _=>rfl) _) rfl) closed_nil) (fun s=>(closed_cons (belowL_app (cellsM_idlt (f:=SyncatomicInt64.v) (fun _=>rfl) _) rfl) closed_nil)) (fun _=>rfl) (.kp rfl (.kp rfl (.nil))) (fun v225 H=>?_);conv=>whnf
 iterate 3 (refine Tst.F ?_;conv=>whnf)
 refine askCo_c [2] (fun s hs=>p_tally_Tally_Get_p1_0 _ _ s hs) H (fun _=>rfl) rfl ⟨rfl,trivial⟩ rfl (closed_cons (belowL_app (cellsM_idlt (f:=SyncatomicInt64.v) (fun _=>rfl) _) rfl) closed_nil) (fun s=>(closed_cons (belowL_app (cellsM_idlt (f:=SyncatomicInt64.v) (fun _=>rfl) _) rfl) closed_nil)) (fun _=>rfl) (.kp rfl (.kp rfl (.nil))) (fun v226 H=>?_);conv=>whnf
 iterate 2 (refine Tst.F ?_;conv=>whnf)
 refine tst_c H (fun b227 H=>?_) (fun b227 H=>?_)
 ·conv=>whnf
  iterate 8 (refine Tst.T ?_;conv=>whnf)
  obtain rfl:=Option.some.inj H
  have H:=HQ212
  try dsimp only at H
  exact fb_ H
 conv=>whnf
 iterate 2 (refine Tst.F ?_;conv=>whnf)
 refine askCo_c [3] (fun s hs=>p_tally_Tally_Get_p1_0 _ _ s hs) H (fun _=>rfl) rfl ⟨rfl,trivial⟩ rfl (closed_cons (belowL_app (cellsM_idlt (f:=SyncatomicInt64.v) (fun _=>rfl) _) rfl) closed_nil) (fun s=>(closed_cons (belowL_app (cellsM_idlt (f:=SyncatomicInt64.v) (fun _=>rfl) _) rfl) closed_nil)) (fun _=>rfl) (.kp rfl (.kp rfl (.nil))) (fun v228 H=>?_);conv=>whnf
 iterate 3 (refine Tst.F ?_;conv=>whnf)
 refine askCo_c [2] (fun s hs=>p_tally_Tally_Get_p1_0 _ _ s hs) H (fun _=>rfl) rfl ⟨rfl,trivial⟩ rfl (closed_cons (belowL_app (cellsM_idlt (f:=SyncatomicInt64.v) (fun _=>rfl) _) rfl) closed_nil) (fun s=>(closed_cons (belowL_app (cellsM_idlt (f:=SyncatomicInt64.v) (fun _=>rfl) _) rfl) closed_nil)) (fun _=>rfl) (.kp rfl (.kp rfl (.nil))) (fun v229 H=>?_);conv=>whnf
 iterate 2 (refine Tst.F ?_;conv=>whnf)
 refine tst_c H (fun b230 H=>?_) (fun b230 H=>?_)
 ·conv=>whnf
  obtain rfl:=Option.some.inj H
  have H:=HQ212
  try dsimp only at H
  exact fb_ H
 conv=>whnf
 refine Ari.w ?_;conv=>whnf
 exact again_c [14,83,84,85,86,87,88,89,90,91,92,93,94,95,96,97,98,99,100,101,102,103,104,105,106,107,108,109,110,111,112,113] n213 5 [] (⟨_,_,_,_,_,_,H,rfl,rfl⟩) (Nat.lt_succ_self _) (Nat.zero_le _) rfl (by kernel_rfl) (by kernel_rfl) rfl (by exact wkB_live0 rfl (belowL_app (cellsM_idlt (f:=SyncatomicInt64.v) (fun _=>rfl) _) rfl) rfl (wkB_live0 rfl (belowL_app (cellsM_idlt (f:=SyncatomicInt64.v) (fun _=>rfl) _) rfl) rfl (wkB_live0 rfl (belowL_app (cellsM_idlt (f:=SyncatomicInt64.v) (fun _=>rfl) _) rfl) rfl (wkB_live0 rfl (belowL_app (cellsM_idlt (f:=SyncatomicInt64.v) (fun _=>rfl) _) rfl) rfl (wkB_live0 rfl (belowL_app (cellsM_idlt (f:=SyncatomicInt64.v) (fun _=>rfl) _) rfl) rfl trivial)))))
end Go.Proofs.YtpkodpcfafipdaaGreat

