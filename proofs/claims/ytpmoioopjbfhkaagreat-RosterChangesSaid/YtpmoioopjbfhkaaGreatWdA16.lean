/- A part of the proof: 6 texts joined. -/
import Derived.Test.YtpmoioopjbfhkaaGreatWdA14
import Derived.Test.YtpmoioopjbfhkaaGreatWdA13
import Derived.Test.YtpmoioopjbfhkaaGreatWdA12
import Derived.Test.YtpmoioopjbfhkaaGreatWdA15
import Derived.Test.YtpmoioopjbfhkaaGreatWdA11
import Derived.KernelRfl
import Derived.Deep.RegionLaw
set_option linter.all false
/- That the program's functions yield what the plain ones tell (written by a program of mine). -/
namespace Go.Proofs.YtpmoioopjbfhkaaGreat
open Go.RowKit
set_option maxRecDepth 100000
set_option maxHeartbeats 4000000
def gc36:BCode:=(.seq (.reg 1 [⟨(some 1),.bx (.tmp 0),none,0⟩,⟨(some 2),.mv (.const (.bool false)),none,1⟩] none 0 []) (.seq (.seq (.reg 0 [⟨(some 5),.fa 2 (.tmp 1),none,0⟩,⟨(some 6),.ld 1 false (.tmp 5),none,0⟩,⟨(some 7),.lens (.tmp 6),none,0⟩,⟨(some 8),.bin .gtr (.tmp 7) (.const (.int .i64 20)),none,0⟩,⟨(some 9),.mv (.tmp 8),none,0⟩,⟨(some 10),.fa 3 (.tmp 1),(some (9,false)),0⟩,⟨(some 11),.ld 1 false (.tmp 10),(some (9,false)),0⟩,⟨(some 12),.lens (.tmp 11),(some (9,false)),0⟩,⟨(some 13),.bin .gtr (.tmp 12) (.const (.int .i64 20)),(some (9,false)),0⟩,⟨(some 14),.pick (.tmp 9) (.const (.bool true)) (.tmp 13),none,0⟩] none 0 []) (.cond (.tmp 14) (.seq (.reg 0 [⟨(some 2),.mv (.const (.bool false)),none,0⟩] none 0 []) .ret) .skip)) (.seq (.seq (.reg 0 [⟨(some 3),.mv (.const (.int .i64 0)),none,0⟩] none 0 []) (.block 0 (.loop (.seq (.seq (.reg 0 [⟨(some 15),.mv (.tmp 3),none,0⟩,⟨(some 16),.fa 2 (.tmp 1),none,0⟩,⟨(some 17),.ld 1 false (.tmp 16),none,0⟩,⟨(some 18),.lens (.tmp 17),none,0⟩,⟨(some 19),.bin .lss (.tmp 15) (.tmp 18),none,0⟩] none 0 []) (.cond (.tmp 19) .skip (.exit 0))) (.seq (.block 1 (.seq (.reg 0 [⟨(some 22),.fa 2 (.tmp 1),none,0⟩,⟨(some 23),.ld 1 false (.tmp 22),none,0⟩,⟨(some 24),.mv (.tmp 3),none,0⟩,⟨(some 25),.ixs 5 (.tmp 23) (.tmp 24),none,0⟩,⟨(some 26),.ld 5 true (.tmp 25),none,0⟩,⟨(some 27),.cl 11 [(.tmp 26)],none,0⟩,⟨(some 28),.un .not (.tmp 27),none,0⟩] none 0 []) (.cond (.tmp 28) (.seq (.reg 0 [⟨(some 2),.mv (.const (.bool false)),none,0⟩] none 0 []) .ret) .skip))) (.reg 0 [⟨(some 20),.mv (.tmp 3),none,0⟩,⟨(some 21),.bin .add (.tmp 20) (.const (.int .i64 1)),none,0⟩,⟨(some 3),.mv (.tmp 21),none,0⟩] none 0 [])))))) (.seq (.seq (.reg 0 [⟨(some 4),.mv (.const (.int .i64 0)),none,0⟩] none 0 []) (.block 2 (.loop (.seq (.seq (.reg 0 [⟨(some 29),.mv (.tmp 4),none,0⟩,⟨(some 30),.fa 3 (.tmp 1),none,0⟩,⟨(some 31),.ld 1 false (.tmp 30),none,0⟩,⟨(some 32),.lens (.tmp 31),none,0⟩,⟨(some 33),.bin .lss (.tmp 29) (.tmp 32),none,0⟩] none 0 []) (.cond (.tmp 33) .skip (.exit 2))) (.seq (.block 3 (.seq (.reg 0 [⟨(some 36),.fa 3 (.tmp 1),none,0⟩,⟨(some 37),.ld 1 false (.tmp 36),none,0⟩,⟨(some 38),.mv (.tmp 4),none,0⟩,⟨(some 39),.ixs 2 (.tmp 37) (.tmp 38),none,0⟩,⟨(some 40),.fa 0 (.tmp 39),none,0⟩,⟨(some 41),.ld 1 false (.tmp 40),none,0⟩,⟨(some 42),.lent (.tmp 41),none,0⟩,⟨(some 43),.bin .gtr (.tmp 42) (.const (.int .i64 100)),none,0⟩] none 0 []) (.cond (.tmp 43) (.seq (.reg 0 [⟨(some 2),.mv (.const (.bool false)),none,0⟩] none 0 []) .ret) .skip))) (.reg 0 [⟨(some 34),.mv (.tmp 4),none,0⟩,⟨(some 35),.bin .add (.tmp 34) (.const (.int .i64 1)),none,0⟩,⟨(some 4),.mv (.tmp 35),none,0⟩] none 0 [])))))) (.seq (.reg 0 [⟨(some 2),.mv (.const (.bool true)),none,0⟩] none 0 []) .ret)))))
theorem gc36_ok:compF Tryz.prog Tryz.f36=some (gc36.er,44,[.tmp 2]):=by unfold gc36;kernel_rfl
theorem p_ref21_Light_v {u1 u2:Bool} (a0:RosterState):CallsO Tryz.prog 36 [.agg [.i a0.Ver,.i a0.Floor,.sl (List.map ItemItem.v a0.Items) u1,.sl (List.map RosterGone.v a0.Gone) u2]] V.b (p_ref21_Light a0):=by
 refine callsO_comp mix Tryz.func36 gc36_ok fun r H=>?_
 rw [p_ref21_Light] at H
 conv=>whnf
 refine LenQ.M ?_;conv=>whnf
 refine tst_c H (fun b1 H=>?_) (fun b1 H=>?_)
 ·conv=>whnf
  iterate 5 (refine Tst.T ?_;conv=>whnf)
  exact fb_ H
 conv=>whnf
 iterate 2 (refine Tst.F ?_;conv=>whnf)
 refine LenQ.M ?_;conv=>whnf
 iterate 2 (refine Tst.F ?_;conv=>whnf)
 refine tst_c H (fun b2 H=>?_) (fun b2 H=>?_)
 ·conv=>whnf
  exact fb_ H
 conv=>whnf
 obtain ⟨o4,HL5,HQ6⟩:=bind_c H
 refine loop_c [2,3] [15,16,17,18,19,20,21,22,23,24,25,26,27,28,5,10] [15,16,17,18,19,20,21,22,23,24,25,26,27,28,5,10] (fun n vals st=>(∃ y8,p_ref21_Light_l1  a0 n y8=some o4∧vals=[.b false,.i y8]∧st=[.live [.i a0.Ver,.i a0.Floor,.sl (List.map ItemItem.v a0.Items) u1,.sl (List.map RosterGone.v a0.Gone) u2] 0])) fuel 1 [] (⟨_,HL5,rfl,rfl⟩) (Nat.zero_le _) rfl (by kernel_rfl) (by kernel_rfl) rfl ⟨⟨rfl,rfl,rfl⟩,trivial⟩ ?_
 rintro (_ | n7) _ _ (⟨y8,H,rfl,rfl⟩)
 ·rw [p_ref21_Light_l1] at H;cases H
 rw [p_ref21_Light_l1] at H
 conv=>whnf
 refine LenQ.M ?_;conv=>whnf
 refine tst_c H (fun b9 H=>?_) (fun b9 H=>?_)
 ·conv=>whnf
  refine ixs_c (f:=ItemItem.v) H (fun _=>rfl) (fun x10 H=>?_);conv=>whnf
  refine ask_c (p_ref20_Light_v _) H rfl rfl (fun v11 H=>?_);conv=>whnf
  refine Tst.not ?_
  refine tst_d H (fun b12 H=>?_) (fun b12 H=>?_)
  ·conv=>whnf
   obtain rfl:=Option.some.inj H
   have H:=HQ6
   try dsimp only at H
   exact fb_ H
  conv=>whnf
  refine Ari.w ?_;conv=>whnf
  exact again_c [15,16,17,18,19,20,21,22,23,24,25,26,27,28,5,10] n7 1 [] (⟨_,H,rfl,rfl⟩) (Nat.lt_succ_self _) (Nat.zero_le _) rfl (by kernel_rfl) (by kernel_rfl) rfl ⟨⟨rfl,rfl,rfl⟩,trivial⟩
 conv=>whnf
 obtain rfl:=Option.some.inj H
 have H:=HQ6
 try dsimp only at H
 obtain ⟨o14,HL15,HQ16⟩:=bind_c H
 refine loop_c [2,4] [29,30,31,32,33,34,35,36,37,38,39,40,41,42,43,16] [29,30,31,32,33,34,35,36,37,38,39,40,41,42,43,16] (fun n vals st=>(∃ y18,p_ref21_Light_l2  a0 n y18=some o14∧vals=[.b false,.i y18]∧st=[.live [.i a0.Ver,.i a0.Floor,.sl (List.map ItemItem.v a0.Items) u1,.sl (List.map RosterGone.v a0.Gone) u2] 0])) fuel 1 [] (⟨_,HL15,rfl,rfl⟩) (Nat.zero_le _) rfl (by kernel_rfl) (by kernel_rfl) rfl ⟨⟨rfl,rfl,rfl⟩,trivial⟩ ?_
 rintro (_ | n17) _ _ (⟨y18,H,rfl,rfl⟩)
 ·rw [p_ref21_Light_l2] at H;cases H
 rw [p_ref21_Light_l2] at H
 conv=>whnf
 refine LenQ.M ?_;conv=>whnf
 refine tst_d H (fun b19 H=>?_) (fun b19 H=>?_)
 ·conv=>whnf
  obtain rfl:=Option.some.inj H
  have H:=HQ16
  try dsimp only at H
  exact fb_ H
 conv=>whnf
 refine ixs_c (f:=RosterGone.v) H (fun _=>rfl) (fun x20 H=>?_);conv=>whnf
 refine ⟨Nat.le_of_ble_eq_true rfl,?_⟩;conv=>whnf
 refine tst_c H (fun b21 H=>?_) (fun b21 H=>?_)
 ·conv=>whnf
  obtain rfl:=Option.some.inj H
  have H:=HQ16
  try dsimp only at H
  exact fb_ H
 conv=>whnf
 refine Ari.w ?_;conv=>whnf
 exact again_c [29,30,31,32,33,34,35,36,37,38,39,40,41,42,43,16] n17 1 [] (⟨_,H,rfl,rfl⟩) (Nat.lt_succ_self _) (Nat.zero_le _) rfl (by kernel_rfl) (by kernel_rfl) rfl ⟨⟨rfl,rfl,rfl⟩,trivial⟩
def gc38:BCode:=(.seq (.reg 2 [⟨(some 1),.bx (.tmp 0),none,0⟩,⟨(some 2),.al (.agg [(.lit (.int .i64 0)),(.lit (.int .i64 0)),(.sl [] true),(.sl [] true)]),none,1⟩] none 0 []) (.seq (.reg 1 [⟨(some 5),.fa 0 (.tmp 1),none,0⟩,⟨(some 6),.ld 1 false (.tmp 5),none,0⟩,⟨(some 7),.fa 1 (.tmp 1),none,0⟩,⟨(some 8),.ld 1 false (.tmp 7),none,0⟩,⟨(some 9),.fa 2 (.tmp 1),none,0⟩,⟨(some 10),.ld 1 false (.tmp 9),none,0⟩,⟨(some 11),.cl 31 [(.tmp 10)],none,0⟩,⟨(some 12),.bd [(.lit (.int .i64 0)),(.lit (.int .i64 0)),(.sl [] true),(.sl [] true)] [(0,1,(.tmp 6)),(1,1,(.tmp 8)),(2,1,(.tmp 11))],none,0⟩,⟨(some 3),.al (.agg [(.lit (.int .i64 0)),(.lit (.int .i64 0)),(.sl [] true),(.sl [] true)]),none,0⟩,⟨none,.st 4 (.tmp 3) (.tmp 12),none,1⟩] (some [[],[0],[],[2],[],[4],[4,5],[5,4,6,2,3,0,1],[],[1,0,3,2,6,4,5,7,8]]) 0 []) (.seq (.seq (.reg 0 [⟨(some 4),.mv (.const (.int .i64 0)),none,0⟩] none 0 []) (.block 0 (.loop (.seq (.seq (.reg 0 [⟨(some 13),.mv (.tmp 4),none,0⟩,⟨(some 14),.fa 3 (.tmp 1),none,0⟩,⟨(some 15),.ld 1 false (.tmp 14),none,0⟩,⟨(some 16),.lens (.tmp 15),none,0⟩,⟨(some 17),.bin .lss (.tmp 13) (.tmp 16),none,0⟩] none 0 []) (.cond (.tmp 17) .skip (.exit 0))) (.seq (.block 1 (.reg 2 [⟨(some 20),.fa 3 (.tmp 3),none,0⟩,⟨(some 21),.ld 1 false (.tmp 20),none,0⟩,⟨(some 22),.fa 3 (.tmp 1),none,0⟩,⟨(some 23),.ld 1 false (.tmp 22),none,0⟩,⟨(some 24),.mv (.tmp 4),none,0⟩,⟨(some 25),.ixs 2 (.tmp 23) (.tmp 24),none,0⟩,⟨(some 26),.ld 2 true (.tmp 25),none,0⟩,⟨(some 27),.bs 2 1 [(.lit (.string ⟨#[]⟩)),(.lit (.int .i64 0))] [(0,(.tmp 26))],none,0⟩,⟨(some 28),.ap 2 24 (.tmp 21) (.tmp 27),none,1⟩,⟨(some 29),.fa 3 (.tmp 3),none,2⟩,⟨none,.st 1 (.tmp 29) (.tmp 28),none,2⟩] (some [[],[0],[],[2],[],[4,2,3],[3,2,4,5],[5,4,2,3,6],[6,3,2,4,5,7,0,1],[8,7,6,5,4,3,2,1,0],[0,1,2,3,4,5,6,7,8,9]]) 0 [])) (.reg 0 [⟨(some 18),.mv (.tmp 4),none,0⟩,⟨(some 19),.bin .add (.tmp 18) (.const (.int .i64 1)),none,0⟩,⟨(some 4),.mv (.tmp 19),none,0⟩] none 0 [])))))) (.seq (.reg 0 [⟨(some 30),.ld 4 true (.tmp 3),none,0⟩,⟨none,.st 4 (.tmp 2) (.tmp 30),none,0⟩] none 0 []) .ret))))
theorem gc38_ok:compF Tryz.prog Tryz.f38=some (gc38.er,31,[.cell 2 4 true]):=by unfold gc38;kernel_rfl
theorem p_law21_Own_v {u1 u2:Bool} (a0:RosterState):CallsO Tryz.prog 38 [.agg [.i a0.Ver,.i a0.Floor,.sl (List.map ItemItem.v a0.Items) u1,.sl (List.map RosterGone.v a0.Gone) u2]] RosterState.v (p_law21_Own a0):=by
 refine callsO_comp mix Tryz.func38 gc38_ok fun r H=>?_
 rw [p_law21_Own] at H
 conv=>whnf
 refine ask_c (p_law20_Own_v _) H rfl rfl (fun v1 H=>?_);conv=>whnf
 refine ⟨Nat.le_of_ble_eq_true rfl,?_⟩;conv=>whnf
 refine FootQ.mk ⟨rfl,?_⟩;conv=>whnf
 obtain ⟨o3,HL4,HQ5⟩:=bind_c H
 refine loop_c [4] [13,14,15,16,17,18,19,20,21,22,23,24,25,26,27,28,29,5,7,9] [13,14,15,16,17,18,19,20,21,22,23,24,25,26,27,28,29,5,7,9] (fun n vals st=>(∃ y7 y8,p_law21_Own_l1  a0 n y7 y8=some o3∧vals=[.i y7]∧st=[.live [.i a0.Ver,.i a0.Floor,.sl (List.map ItemItem.v a0.Items) u1,.sl (List.map RosterGone.v a0.Gone) u2] 0,.live [.i (0:Int),.i (0:Int),.sl (List.map ItemItem.v []) true,.sl (List.map RosterGone.v []) true] 0,.live [.i y8.Ver,.i y8.Floor,.sl (List.map ItemItem.v y8.Items) false,.sl (List.map RosterGone.v y8.Gone) true] 0])∨(∃ y12 y13,p_law21_Own_l1  a0 n y12 y13=some o3∧vals=[.i y12]∧st=[.live [.i a0.Ver,.i a0.Floor,.sl (List.map ItemItem.v a0.Items) u1,.sl (List.map RosterGone.v a0.Gone) u2] 0,.live [.i (0:Int),.i (0:Int),.sl (List.map ItemItem.v []) true,.sl (List.map RosterGone.v []) true] 0,.live [.i y13.Ver,.i y13.Floor,.sl (List.map ItemItem.v y13.Items) false,.osl 3 0 (List.length y13.Gone) 2 false] 0,.live (cellsM RosterGone.v y13.Gone) (cellsM RosterGone.v y13.Gone).length])) fuel 3 [] (.inl (⟨_,_,HL4,rfl,rfl⟩)) (Nat.zero_le _) rfl (by kernel_rfl) (by kernel_rfl) rfl ⟨⟨rfl,rfl,rfl⟩,⟨⟨rfl,rfl,rfl⟩,⟨⟨rfl,rfl,rfl⟩,trivial⟩⟩⟩ ?_
 rintro (_ | n6) _ _ (⟨y7,y8,H,rfl,rfl⟩ | ⟨y12,y13,H,rfl,rfl⟩)
 ·rw [p_law21_Own_l1] at H;cases H
 ·rw [p_law21_Own_l1] at H;cases H
 ·rw [p_law21_Own_l1] at H
  conv=>whnf
  refine LenQ.M ?_;conv=>whnf
  refine tst_d H (fun b9 H=>?_) (fun b9 H=>?_)
  ·conv=>whnf
   obtain rfl:=Option.some.inj H
   have H:=HQ5
   try dsimp only at H
   refine ⟨Nat.le_of_ble_eq_true rfl,?_⟩;conv=>whnf
   refine finR_c (enc:=RosterState.v) H ?_;conv=>whnf
   exact ⟨_,.v (fzagg (.cons (.id rfl) (.cons (.id rfl) (.cons (.id rfl) (.cons (.slw) (.nil))))) rfl)⟩
  conv=>whnf
  refine ixs_c (f:=RosterGone.v) H (fun _=>rfl) (fun x10 H=>?_);conv=>whnf
  refine appN_c (f:=RosterGone.v) H (fun _=>rfl) (srcM (f:=RosterGone.v) (fun _=>rfl) _ _) rfl (.v (srcOwn (f:=RosterGone.v) (l:=[x10]) (fun _=>rfl) rfl rfl rfl)) (by decide) rfl (by simp) (fun l11 H=>?_);conv=>whnf
  refine ⟨Nat.le_of_ble_eq_true rfl,?_⟩;conv=>whnf
  refine FootQ.mk ⟨rfl,?_⟩;conv=>whnf
  refine Ari.w ?_;conv=>whnf
  exact again_c [13,14,15,16,17,18,19,20,21,22,23,24,25,26,27,28,29,5,7,9] n6 4 [0,1,2,4] (.inr (⟨_,_,H,rfl,rfl⟩)) (Nat.lt_succ_self _) (Nat.zero_le _) rfl (by kernel_rfl) (by kernel_rfl) rfl ⟨⟨rfl,rfl,rfl⟩,⟨⟨rfl,rfl,rfl⟩,⟨⟨rfl,rfl,rfl⟩,wkB_live0 rfl (cellsM_idlt (f:=RosterGone.v) (fun _=>rfl) _) rfl trivial⟩⟩⟩
 rw [p_law21_Own_l1] at H
 conv=>whnf
 refine LenQ.M ?_;conv=>whnf
 refine tst_d H (fun b14 H=>?_) (fun b14 H=>?_)
 ·conv=>whnf
  obtain rfl:=Option.some.inj H
  have H:=HQ5
  try dsimp only at H
  refine ⟨Nat.le_of_ble_eq_true rfl,?_⟩;conv=>whnf
  refine finR_c (enc:=RosterState.v) H ?_;conv=>whnf
  exact ⟨_,.v (fzagg (.cons (.id rfl) (.cons (.id rfl) (.cons (.id rfl) (.cons (fzown (f:=RosterGone.v) (l:=y13.Gone) rfl rfl (fun _=>rfl) (fun _=>rfl)) (.nil))))) rfl)⟩
 conv=>whnf
 refine ixs_c (f:=RosterGone.v) H (fun _=>rfl) (fun x15 H=>?_);conv=>whnf
 refine appO_c (f:=RosterGone.v) H (fun _=>rfl) rfl (Nat.le_refl _) (.v (srcOwn (f:=RosterGone.v) (l:=[x15]) (fun _=>rfl) rfl rfl rfl)) (by decide) rfl (by simp) (fun l16 H=>?_);conv=>whnf
 refine ⟨Nat.le_of_ble_eq_true rfl,?_⟩;conv=>whnf
 refine FootQ.mk ⟨rfl,?_⟩;conv=>whnf
 refine Ari.w ?_;conv=>whnf
 exact again_c [13,14,15,16,17,18,19,20,21,22,23,24,25,26,27,28,29,5,7,9] n6 4 [0,1,2,5] (.inr (⟨_,_,H,rfl,rfl⟩)) (Nat.lt_succ_self _) (Nat.zero_le _) rfl (by kernel_rfl) (by kernel_rfl) rfl ⟨⟨rfl,rfl,rfl⟩,⟨⟨rfl,rfl,rfl⟩,⟨⟨rfl,rfl,rfl⟩,wkB_live0 rfl (cellsM_idlt (f:=RosterGone.v) (fun _=>rfl) _) rfl trivial⟩⟩⟩
def gc142:BCode:=(.seq (.reg 1 [⟨(some 1),.bx (.tmp 0),none,0⟩,⟨(some 2),.mv (.const (.int .i64 0)),none,1⟩] none 0 []) (.seq (.seq (.reg 0 [⟨(some 6),.fa 2 (.tmp 1),none,0⟩,⟨(some 7),.ld 1 false (.tmp 6),none,0⟩,⟨(some 8),.lens (.tmp 7),none,0⟩,⟨(some 9),.mv (.const (.int .i64 0)),none,0⟩] none 0 []) (.block 0 (.loop (.seq (.reg 0 [⟨(some 10),.bin .lss (.tmp 9) (.tmp 8),none,0⟩] none 0 []) (.seq (.cond (.tmp 10) .skip (.exit 0)) (.seq (.block 1 (.seq (.reg 1 [⟨(some 11),.ixs 5 (.tmp 7) (.tmp 9),none,0⟩,⟨(some 12),.ld 5 true (.tmp 11),none,0⟩,⟨(some 4),.al (.agg [(.lit (.string ⟨#[]⟩)),(.lit (.string ⟨#[]⟩)),(.lit (.int .i64 0)),(.lit (.int .i64 0)),(.lit (.bool false))]),none,0⟩,⟨none,.st 5 (.tmp 4) (.tmp 12),none,1⟩] none 0 []) (.seq (.seq (.reg 0 [⟨(some 13),.ld 5 true (.tmp 4),none,0⟩,⟨(some 14),.cl 15 [(.tmp 13)],none,0⟩,⟨(some 5),.mv (.tmp 14),none,0⟩] none 0 []) (.seq (.reg 0 [⟨(some 15),.mv (.tmp 5),none,0⟩,⟨(some 16),.bin .neq (.tmp 15) (.const (.int .i64 0)),none,0⟩] none 0 []) (.cond (.tmp 16) (.seq (.reg 0 [⟨(some 17),.mv (.tmp 5),none,0⟩,⟨(some 2),.mv (.tmp 17),none,0⟩] none 0 []) .ret) .skip))) (.seq (.reg 0 [⟨(some 18),.ld 5 true (.tmp 4),none,0⟩,⟨(some 19),.cl 19 [(.tmp 18)],none,0⟩] none 0 []) (.cond (.tmp 19) (.seq (.reg 0 [⟨(some 2),.mv (.const (.int .i64 4)),none,0⟩] none 0 []) .ret) .skip))))) (.reg 0 [⟨(some 20),.bin .add (.tmp 9) (.const (.int .i64 1)),none,0⟩,⟨(some 9),.mv (.tmp 20),none,0⟩] none 0 []))))))) (.seq (.reg 0 [⟨(some 2),.mv (.const (.int .i64 0)),none,0⟩] none 0 []) .ret)))
theorem gc142_ok:compF Tryz.prog Tryz.f142=some (gc142.er,21,[.tmp 2]):=by unfold gc142;kernel_rfl
theorem p_roster_State_errors_v {u1 u2:Bool} (a0:RosterState):CallsO Tryz.prog 142 [.agg [.i a0.Ver,.i a0.Floor,.sl (List.map ItemItem.v a0.Items) u1,.sl (List.map RosterGone.v a0.Gone) u2]] V.i (p_roster_State_errors a0):=by
 refine callsO_comp mix Tryz.func142 gc142_ok fun r H=>?_
 rw [p_roster_State_errors] at H
 conv=>whnf
 refine LenQ.M ?_;conv=>whnf
 obtain ⟨o2,HL3,HQ4⟩:=bind_c H
 refine loop_c [2,9] [4,5,10,11,12,13,14,15,16,17,18,19,20,1,6] [4,5,10,11,12,13,14,15,16,17,18,19,20,1,6] (fun n vals st=>(∃ y6,p_roster_State_errors_l1  a0.Items (a0.Items.length:Int) n y6=some o2∧vals=[.i (0:Int),.i y6]∧st=[])) fuel 0 [] (⟨_,HL3,rfl,rfl⟩) (Nat.zero_le _) rfl (by kernel_rfl) (by kernel_rfl) rfl trivial ?_
 rintro (_ | n5) _ _ (⟨y6,H,rfl,rfl⟩)
 ·rw [p_roster_State_errors_l1] at H;cases H
 rw [p_roster_State_errors_l1] at H
 conv=>whnf
 refine tst_d H (fun b7 H=>?_) (fun b7 H=>?_)
 ·conv=>whnf
  obtain rfl:=Option.some.inj H
  have H:=HQ4
  try dsimp only at H
  exact fi_ H
 conv=>whnf
 refine ixs_c (f:=ItemItem.v) H (fun _=>rfl) (fun x8 H=>?_);conv=>whnf
 refine ⟨Nat.le_of_ble_eq_true rfl,?_⟩;conv=>whnf
 refine ask_c (p_item_Check_v _) H rfl rfl (fun v9 H=>?_);conv=>whnf
 refine tst_c H (fun b10 H=>?_) (fun b10 H=>?_)
 ·conv=>whnf
  obtain rfl:=Option.some.inj H
  have H:=HQ4
  try dsimp only at H
  exact fi_ H
 conv=>whnf
 refine ask_c (p_item_Idle_v _) H rfl rfl (fun v11 H=>?_);conv=>whnf
 refine tst_c H (fun b12 H=>?_) (fun b12 H=>?_)
 ·conv=>whnf
  obtain rfl:=Option.some.inj H
  have H:=HQ4
  try dsimp only at H
  exact fi_ H
 conv=>whnf
 refine Ari.w ?_;conv=>whnf
 exact again_c [4,5,10,11,12,13,14,15,16,17,18,19,20,1,6] n5 0 [] (⟨_,H,rfl,rfl⟩) (Nat.lt_succ_self _) (Nat.zero_le _) rfl (by kernel_rfl) (by kernel_rfl) rfl trivial
def gc144:BCode:=(.seq (.reg 1 [⟨(some 1),.bx (.tmp 0),none,0⟩,⟨(some 2),.mv (.const (.bool false)),none,1⟩] none 0 []) (.seq (.reg 0 [⟨(some 3),.fa 0 (.tmp 1),none,0⟩,⟨(some 4),.ld 1 false (.tmp 3),none,0⟩,⟨(some 5),.cl 84 [(.tmp 4)],none,0⟩,⟨(some 6),.un .not (.tmp 5),none,0⟩,⟨(some 2),.mv (.tmp 6),none,0⟩] none 0 []) .ret))
theorem gc144_ok:compF Tryz.prog Tryz.f144=some (gc144.er,7,[.tmp 2]):=by unfold gc144;kernel_rfl
theorem p_roster_Check_1_v (a0:RosterGone):CallsO Tryz.prog 144 [.agg [.s a0.Contact,.i a0.Ver]] V.b (p_roster_Check_1 a0):=by
 refine callsO_comp mix Tryz.func144 gc144_ok fun r H=>?_
 rw [p_roster_Check_1] at H
 conv=>whnf
 refine ask_c (p_addr_IsBare_v _) H rfl rfl (fun v1 H=>?_);conv=>whnf
 exact fb_ H
def gc143:BCode:=(.seq (.reg 0 [⟨(some 4),.mv (.const (.bool false)),none,0⟩] none 0 []) (.seq (.reg 0 [⟨(some 5),.mv (.tmp 0),none,0⟩,⟨(some 6),.mv (.tmp 1),none,0⟩,⟨(some 7),.cl 205 [(.tmp 5),(.tmp 6)],none,0⟩,⟨(some 8),.bin .geq (.tmp 7) (.const (.int .i64 0)),none,0⟩,⟨(some 4),.mv (.tmp 8),none,0⟩] none 0 []) .ret))
theorem gc143_ok:compF Tryz.prog Tryz.f143=some (gc143.er,9,[.tmp 4]):=by unfold gc143;kernel_rfl
theorem p_slices_ContainsFunc_roster_Gone_v {u1:Bool} (a0:List RosterGone) (a1:RosterGone→Option Bool) {a1_g:Nat} {a1_k:List V} (a1_h:Clo1 Tryz.prog a1_g a1_k RosterGone.v V.b a1):CallsO Tryz.prog 143 [.sl (List.map RosterGone.v a0) u1,.clo (.func a1_g) a1_k] V.b (p_slices_ContainsFunc_roster_Gone a0 a1):=by
 refine callsO_comp mix Tryz.func143 gc143_ok fun r H=>?_
 rw [p_slices_ContainsFunc_roster_Gone] at H
 conv=>whnf
 refine askF_c (p_slices_IndexFunc_roster_Gone_v _ _ a1_h) H (.cons (.c (.slw)) (.cons (.c (.id a1_h.own)) (.nil))) (fun v1 H=>?_);conv=>whnf
 exact fb_ H
def gc246:BCode:=(.seq (.reg 1 [⟨(some 2),.bx (.tmp 0),none,0⟩,⟨(some 3),.mv (.const (.bool false)),none,1⟩] none 0 []) (.seq (.reg 0 [⟨(some 4),.fa 3 (.tmp 2),none,0⟩,⟨(some 5),.ld 1 false (.tmp 4),none,0⟩,⟨(some 6),.ld 1 false (.tmp 1),none,0⟩,⟨(some 7),.bin .eql (.tmp 5) (.tmp 6),none,0⟩,⟨(some 3),.mv (.tmp 7),none,0⟩] none 0 []) .ret))
theorem gc246_ok:compF Tryz.prog Tryz.f246=some (gc246.er,8,[.tmp 3]):=by unfold gc246;kernel_rfl
theorem p_roster_State_of_1_v (a0:ItemItem) (c0:Int):CallsO Tryz.prog 246 [.agg [.s a0.Contact,.s a0.Name,.i a0.Sub,.i a0.Ver,.b a0.Own],.eptr [.i c0]] V.b (p_roster_State_of_1 a0 c0):=by
 refine callsO_comp mix Tryz.func246 gc246_ok fun r H=>?_
 rw [p_roster_State_of_1] at H
 conv=>whnf
 exact fb_ H
def gc245:BCode:=(.seq (.reg 0 [⟨(some 4),.mv (.const (.int .i64 0)),none,0⟩] none 0 []) (.seq (.seq (.reg 0 [⟨(some 6),.mv (.tmp 0),none,0⟩,⟨(some 7),.lens (.tmp 6),none,0⟩,⟨(some 8),.mv (.const (.int .i64 0)),none,0⟩] none 0 []) (.block 0 (.loop (.seq (.reg 0 [⟨(some 9),.bin .lss (.tmp 8) (.tmp 7),none,0⟩] none 0 []) (.seq (.cond (.tmp 9) .skip (.exit 0)) (.seq (.block 1 (.seq (.reg 0 [⟨(some 10),.mv (.tmp 8),none,0⟩,⟨(some 5),.mv (.tmp 10),none,0⟩] none 0 []) (.seq (.reg 0 [⟨(some 11),.mv (.tmp 1),none,0⟩,⟨(some 12),.mv (.tmp 0),none,0⟩,⟨(some 13),.mv (.tmp 5),none,0⟩,⟨(some 14),.ixs 5 (.tmp 12) (.tmp 13),none,0⟩,⟨(some 15),.ld 5 true (.tmp 14),none,0⟩,⟨(some 16),.cv (.tmp 11) [(.tmp 15)],none,0⟩] none 0 []) (.cond (.tmp 16) (.seq (.reg 0 [⟨(some 17),.mv (.tmp 5),none,0⟩,⟨(some 4),.mv (.tmp 17),none,0⟩] none 0 []) .ret) .skip)))) (.reg 0 [⟨(some 18),.bin .add (.tmp 8) (.const (.int .i64 1)),none,0⟩,⟨(some 8),.mv (.tmp 18),none,0⟩] none 0 []))))))) (.seq (.reg 0 [⟨(some 4),.mv (.const (.int .i64 (-1))),none,0⟩] none 0 []) .ret)))
theorem gc245_ok:compF Tryz.prog Tryz.f245=some (gc245.er,19,[.tmp 4]):=by unfold gc245;kernel_rfl
theorem p_slices_IndexFunc_item_Item_v {u1:Bool} (a0:List ItemItem) (a1:ItemItem→Option Bool) {a1_g:Nat} {a1_k:List V} (a1_h:Clo1 Tryz.prog a1_g a1_k ItemItem.v V.b a1):CallsO Tryz.prog 245 [.sl (List.map ItemItem.v a0) u1,.clo (.func a1_g) a1_k] V.i (p_slices_IndexFunc_item_Item a0 a1):=by
 refine callsO_comp mix Tryz.func245 gc245_ok fun r H=>?_
 rw [p_slices_IndexFunc_item_Item] at H
 conv=>whnf
 refine LenQ.M ?_;conv=>whnf
 obtain ⟨o2,HL3,HQ4⟩:=bind_c H
 refine loop_c [4,8] [5,9,10,11,12,13,14,15,16,17,18] [5,9,10,11,12,13,14,15,16,17,18] (fun n vals st=>(∃ y6,p_slices_IndexFunc_item_Item_l1  a1 a0 (a0.length:Int) n y6=some o2∧vals=[.i (0:Int),.i y6]∧st=[])) fuel 0 [] (⟨_,HL3,rfl,rfl⟩) (Nat.zero_le _) rfl (by simp only [maskF,setF,List.set_cons_zero,List.set_cons_succ,V.ren.renL,V.ren,renL_id _ a1_h.own] <;> rfl) (by simp only [maskF,setF,List.set_cons_zero,List.set_cons_succ,V.idlt.belowL,V.idlt,fun n=>idltL_up (n:=n) _ a1_h.own] <;> rfl) rfl trivial ?_
 rintro (_ | n5) _ _ (⟨y6,H,rfl,rfl⟩)
 ·rw [p_slices_IndexFunc_item_Item_l1] at H;cases H
 rw [p_slices_IndexFunc_item_Item_l1] at H
 conv=>whnf
 refine tst_d H (fun b7 H=>?_) (fun b7 H=>?_)
 ·conv=>whnf
  obtain rfl:=Option.some.inj H
  have H:=HQ4
  try dsimp only at H
  exact fi_ H
 conv=>whnf
 refine ixs_c (f:=ItemItem.v) H (fun _=>rfl) (fun x8 H=>?_);conv=>whnf
 refine askC_c a1_h H (.cons (fzagg (.cons (.id rfl) (.cons (.id rfl) (.cons (.id rfl) (.cons (.id rfl) (.cons (.id rfl) (.nil)))))) rfl) (.nil)) (fun v9 H=>?_);conv=>whnf
 refine tst_c H (fun b10 H=>?_) (fun b10 H=>?_)
 ·conv=>whnf
  obtain rfl:=Option.some.inj H
  have H:=HQ4
  try dsimp only at H
  exact fi_ H
 conv=>whnf
 refine Ari.w ?_;conv=>whnf
 exact again_c [5,9,10,11,12,13,14,15,16,17,18] n5 0 [] (⟨_,H,rfl,rfl⟩) (Nat.lt_succ_self _) (Nat.zero_le _) rfl (by simp only [maskF,setF,List.set_cons_zero,List.set_cons_succ,V.ren.renL,V.ren,renL_id _ a1_h.own] <;> rfl) (by simp only [maskF,setF,List.set_cons_zero,List.set_cons_succ,V.idlt.belowL,V.idlt,fun n=>idltL_up (n:=n) _ a1_h.own] <;> rfl) rfl trivial
def gc206:BCode:=(.seq (.reg 2 [⟨(some 2),.bx (.tmp 0),none,0⟩,⟨(some 3),.bx (.tmp 1),none,1⟩,⟨(some 4),.mv (.const (.int .i64 0)),none,2⟩] none 0 []) (.seq (.reg 0 [⟨(some 5),.fa 2 (.tmp 2),none,0⟩,⟨(some 6),.ld 1 false (.tmp 5),none,0⟩,⟨(some 7),.mf (.func 246) [(.tmp 3)],none,0⟩,⟨(some 8),.cl 245 [(.tmp 6),(.tmp 7)],none,0⟩,⟨(some 4),.mv (.tmp 8),none,0⟩] none 0 [3]) .ret))
theorem gc206_ok:compF Tryz.prog Tryz.f206=some (gc206.er,9,[.tmp 4]):=by unfold gc206;kernel_rfl
theorem p_roster_State_of_v {u1 u2:Bool} (a0:RosterState) (a1:Int):CallsO Tryz.prog 206 [.agg [.i a0.Ver,.i a0.Floor,.sl (List.map ItemItem.v a0.Items) u1,.sl (List.map RosterGone.v a0.Gone) u2],.i a1] V.i (p_roster_State_of a0 a1):=by
 refine callsO_comp mix Tryz.func206 gc206_ok fun r H=>?_
 rw [p_roster_State_of] at H
 conv=>whnf
 refine ⟨Nat.zero_le _,?_⟩;conv=>whnf
 refine askF_c (p_slices_IndexFunc_item_Item_v _ _ ⟨⟨_,Tryz.func246,by kernel_rfl,by kernel_rfl⟩,rfl,fun x0=>p_roster_State_of_1_v _ _⟩) H (.cons (.c (.slw)) (.cons (.c (.clo (.cons (.ptr rfl (Nat.le_of_ble_eq_true rfl) (.cons (.id rfl) (.nil))) (.nil)))) (.nil))) (fun v1 H=>?_);conv=>whnf
 exact fi_ H
end Go.Proofs.YtpmoioopjbfhkaaGreat

/- That the program's functions yield what the plain ones tell (written by a program of mine). -/
namespace Go.Proofs.YtpmoioopjbfhkaaGreat
open Go.RowKit
set_option maxRecDepth 100000
set_option maxHeartbeats 4000000
def gc177:BCode:=(.seq (.reg 1 [⟨(some 2),.bx (.tmp 0),none,0⟩,⟨(some 4),.mv (.const (.int .i64 0)),none,1⟩] none 0 []) (.seq (.reg 0 [⟨(some 5),.fa 0 (.tmp 2),none,0⟩,⟨(some 6),.ld 1 false (.tmp 5),none,0⟩,⟨(some 7),.mv (.tmp 1),none,0⟩,⟨(some 8),.cl 158 [(.tmp 6),(.tmp 7)],none,0⟩,⟨(some 4),.mv (.tmp 8),none,0⟩] none 0 []) .ret))
theorem gc177_ok:compF Tryz.prog Tryz.f177=some (gc177.er,9,[.tmp 4]):=by unfold gc177;kernel_rfl
theorem p_roster_State_find_1_v (a0:ItemItem) (a1:ByteArray):CallsO Tryz.prog 177 [.agg [.s a0.Contact,.s a0.Name,.i a0.Sub,.i a0.Ver,.b a0.Own],.s a1] V.i (p_roster_State_find_1 a0 a1):=by
 refine callsO_comp mix Tryz.func177 gc177_ok fun r H=>?_
 rw [p_roster_State_find_1] at H
 conv=>whnf
 refine ask_c (p_strings_Compare_v _ _) H rfl rfl (fun v1 H=>?_);conv=>whnf
 exact fi_ H
def gc176:BCode:=(.seq (.reg 0 [⟨(some 6),.mv (.const (.int .i64 0)),none,0⟩,⟨(some 7),.mv (.const (.bool false)),none,0⟩] none 0 []) (.seq (.reg 0 [⟨(some 12),.mv (.tmp 0),none,0⟩,⟨(some 13),.lens (.tmp 12),none,0⟩,⟨(some 8),.mv (.tmp 13),none,0⟩] none 0 []) (.seq (.reg 0 [⟨(some 14),.mv (.tmp 8),none,0⟩,⟨(some 9),.mv (.const (.int .i64 0)),none,0⟩,⟨(some 10),.mv (.tmp 14),none,0⟩] none 0 []) (.seq (.block 0 (.loop (.seq (.seq (.reg 0 [⟨(some 15),.mv (.tmp 9),none,0⟩,⟨(some 16),.mv (.tmp 10),none,0⟩,⟨(some 17),.bin .lss (.tmp 15) (.tmp 16),none,0⟩] none 0 []) (.cond (.tmp 17) .skip (.exit 0))) (.block 1 (.seq (.reg 0 [⟨(some 18),.mv (.tmp 9),none,0⟩,⟨(some 19),.mv (.tmp 10),none,0⟩,⟨(some 20),.bin .add (.tmp 18) (.tmp 19),none,0⟩,⟨(some 21),.cvi .u64 (.tmp 20),none,0⟩,⟨(some 22),.bin .shr (.tmp 21) (.const (.int .u64 1)),none,0⟩,⟨(some 23),.cvi .i64 (.tmp 22),none,0⟩,⟨(some 11),.mv (.tmp 23),none,0⟩] none 0 []) (.seq (.reg 0 [⟨(some 24),.mv (.tmp 2),none,0⟩,⟨(some 25),.mv (.tmp 0),none,0⟩,⟨(some 26),.mv (.tmp 11),none,0⟩,⟨(some 27),.ixs 5 (.tmp 25) (.tmp 26),none,0⟩,⟨(some 28),.ld 5 true (.tmp 27),none,0⟩,⟨(some 29),.mv (.tmp 1),none,0⟩,⟨(some 30),.cv (.tmp 24) [(.tmp 28),(.tmp 29)],none,0⟩,⟨(some 31),.bin .lss (.tmp 30) (.const (.int .i64 0)),none,0⟩] none 0 []) (.cond (.tmp 31) (.reg 0 [⟨(some 32),.mv (.tmp 11),none,0⟩,⟨(some 33),.bin .add (.tmp 32) (.const (.int .i64 1)),none,0⟩,⟨(some 9),.mv (.tmp 33),none,0⟩] none 0 []) (.reg 0 [⟨(some 34),.mv (.tmp 11),none,0⟩,⟨(some 10),.mv (.tmp 34),none,0⟩] none 0 [])))))))) (.seq (.reg 0 [⟨(some 35),.mv (.tmp 9),none,0⟩,⟨(some 36),.mv (.tmp 9),none,0⟩,⟨(some 37),.mv (.tmp 8),none,0⟩,⟨(some 38),.bin .lss (.tmp 36) (.tmp 37),none,0⟩,⟨(some 39),.mv (.tmp 38),none,0⟩,⟨(some 40),.mv (.tmp 2),(some (39,true)),0⟩,⟨(some 41),.mv (.tmp 0),(some (39,true)),0⟩,⟨(some 42),.mv (.tmp 9),(some (39,true)),0⟩,⟨(some 43),.ixs 5 (.tmp 41) (.tmp 42),(some (39,true)),0⟩,⟨(some 44),.ld 5 true (.tmp 43),(some (39,true)),0⟩,⟨(some 45),.mv (.tmp 1),(some (39,true)),0⟩,⟨(some 46),.cv (.tmp 40) [(.tmp 44),(.tmp 45)],(some (39,true)),0⟩,⟨(some 47),.bin .eql (.tmp 46) (.const (.int .i64 0)),(some (39,true)),0⟩,⟨(some 48),.pick (.tmp 39) (.tmp 47) (.const (.bool false)),none,0⟩,⟨(some 6),.mv (.tmp 35),none,0⟩,⟨(some 7),.mv (.tmp 48),none,0⟩] none 0 []) .ret)))))
theorem gc176_ok:compF Tryz.prog Tryz.f176=some (gc176.er,49,[.tmp 6,.tmp 7]):=by unfold gc176;kernel_rfl
theorem p_slices_BinarySearchFunc_item_Item_v {u1:Bool} (a0:List ItemItem) (a1:ByteArray) (a2:ItemItem→ByteArray→Option Int) {a2_g:Nat} {a2_k:List V} (a2_h:Clo2 Tryz.prog a2_g a2_k ItemItem.v V.s V.i a2):CallsO Tryz.prog 176 [.sl (List.map ItemItem.v a0) u1,.s a1,.clo (.func a2_g) a2_k] (fun r:Int × Bool=>.tup [V.i r.1,V.b r.2]) (p_slices_BinarySearchFunc_item_Item a0 a1 a2):=by
 refine callsO_comp mix Tryz.func176 gc176_ok fun r H=>?_
 rw [p_slices_BinarySearchFunc_item_Item] at H
 conv=>whnf
 refine LenQ.M ?_;conv=>whnf
 obtain ⟨o2,HL3,HQ4⟩:=bind_c H
 refine loop_c [9,10] [11,15,16,17,18,19,20,21,22,23,24,25,26,27,28,29,30,31,32,33,34] [11,15,16,17,18,19,20,21,22,23,24,25,26,27,28,29,30,31,32,33,34] (fun n vals st=>(∃ y6 y7,p_slices_BinarySearchFunc_item_Item_l1  a2 a0 a1 n y6 y7=some o2∧vals=[.i y6,.i y7]∧st=[])) fuel 0 [] (⟨_,_,HL3,rfl,rfl⟩) (Nat.zero_le _) rfl (by simp only [maskF,setF,List.set_cons_zero,List.set_cons_succ,V.ren.renL,V.ren,renL_id _ a2_h.own] <;> rfl) (by simp only [maskF,setF,List.set_cons_zero,List.set_cons_succ,V.idlt.belowL,V.idlt,fun n=>idltL_up (n:=n) _ a2_h.own] <;> rfl) rfl trivial ?_
 rintro (_ | n5) _ _ (⟨y6,y7,H,rfl,rfl⟩)
 ·rw [p_slices_BinarySearchFunc_item_Item_l1] at H;cases H
 rw [p_slices_BinarySearchFunc_item_Item_l1] at H
 conv=>whnf
 refine tst_d H (fun b8 H=>?_) (fun b8 H=>?_)
 ·conv=>whnf
  obtain rfl:=Option.some.inj H
  have H:=HQ4
  try dsimp only at H
  refine tst_d H (fun b12 H=>?_) (fun b12 H=>?_)
  ·conv=>whnf
   iterate 8 (refine Tst.F ?_;conv=>whnf)
   exact fin0_c (enc:=(fun r:Int × Bool=>.tup [V.i r.1,V.b r.2])) H (.inr rfl) (.cons (.tmp rfl) (.cons (.tmp rfl) (.nil))) rfl rfl
  conv=>whnf
  iterate 3 (refine Tst.T ?_;conv=>whnf)
  refine ixs_c (f:=ItemItem.v) H (fun _=>rfl) (fun x13 H=>?_);conv=>whnf
  iterate 3 (refine Tst.T ?_;conv=>whnf)
  refine askC2_c a2_h H (.cons (fzagg (.cons (.id rfl) (.cons (.id rfl) (.cons (.id rfl) (.cons (.id rfl) (.cons (.id rfl) (.nil)))))) rfl) (.cons (.c (.id rfl)) (.nil))) (fun v14 H=>?_);conv=>whnf
  iterate 2 (refine Tst.T ?_;conv=>whnf)
  exact fin0_c (enc:=(fun r:Int × Bool=>.tup [V.i r.1,V.b r.2])) H (.inr rfl) (.cons (.tmp rfl) (.cons (.tmp rfl) (.nil))) rfl rfl
 conv=>whnf
 iterate 2 (refine Ari.w ?_;conv=>whnf)
 refine Shr.ok (by decide) ?_;conv=>whnf
 refine Ari.w ?_;conv=>whnf
 refine ixs_c (f:=ItemItem.v) H (fun _=>rfl) (fun x9 H=>?_);conv=>whnf
 refine askC2_c a2_h H (.cons (fzagg (.cons (.id rfl) (.cons (.id rfl) (.cons (.id rfl) (.cons (.id rfl) (.cons (.id rfl) (.nil)))))) rfl) (.cons (.c (.id rfl)) (.nil))) (fun v10 H=>?_);conv=>whnf
 refine tst_d H (fun b11 H=>?_) (fun b11 H=>?_)
 ·conv=>whnf
  exact again_c [11,15,16,17,18,19,20,21,22,23,24,25,26,27,28,29,30,31,32,33,34] n5 0 [] (⟨_,_,H,rfl,rfl⟩) (Nat.lt_succ_self _) (Nat.zero_le _) rfl (by simp only [maskF,setF,List.set_cons_zero,List.set_cons_succ,V.ren.renL,V.ren,renL_id _ a2_h.own] <;> rfl) (by simp only [maskF,setF,List.set_cons_zero,List.set_cons_succ,V.idlt.belowL,V.idlt,fun n=>idltL_up (n:=n) _ a2_h.own] <;> rfl) rfl trivial
 conv=>whnf
 refine Ari.w ?_;conv=>whnf
 exact again_c [11,15,16,17,18,19,20,21,22,23,24,25,26,27,28,29,30,31,32,33,34] n5 0 [] (⟨_,_,H,rfl,rfl⟩) (Nat.lt_succ_self _) (Nat.zero_le _) rfl (by simp only [maskF,setF,List.set_cons_zero,List.set_cons_succ,V.ren.renL,V.ren,renL_id _ a2_h.own] <;> rfl) (by simp only [maskF,setF,List.set_cons_zero,List.set_cons_succ,V.idlt.belowL,V.idlt,fun n=>idltL_up (n:=n) _ a2_h.own] <;> rfl) rfl trivial
def gc113:BCode:=(.seq (.reg 1 [⟨(some 2),.bx (.tmp 0),none,0⟩,⟨(some 4),.mv (.const (.int .i64 0)),none,1⟩,⟨(some 5),.mv (.const (.bool false)),none,1⟩] none 0 []) (.seq (.reg 0 [⟨(some 6),.fa 2 (.tmp 2),none,0⟩,⟨(some 7),.ld 1 false (.tmp 6),none,0⟩,⟨(some 8),.mv (.tmp 1),none,0⟩,⟨(some 9),.cl 176 [(.tmp 7),(.tmp 8),(.func 177)],none,0⟩,⟨(some 10),.ex (.tmp 9) 0,none,0⟩,⟨(some 11),.ex (.tmp 9) 1,none,0⟩,⟨(some 4),.mv (.tmp 10),none,0⟩,⟨(some 5),.mv (.tmp 11),none,0⟩] none 0 []) .ret))
theorem gc113_ok:compF Tryz.prog Tryz.f113=some (gc113.er,12,[.tmp 4,.tmp 5]):=by unfold gc113;kernel_rfl
theorem p_roster_State_find_v {u1 u2:Bool} (a0:RosterState) (a1:ByteArray):CallsO Tryz.prog 113 [.agg [.i a0.Ver,.i a0.Floor,.sl (List.map ItemItem.v a0.Items) u1,.sl (List.map RosterGone.v a0.Gone) u2],.s a1] (fun r:Int × Bool=>.tup [V.i r.1,V.b r.2]) (p_roster_State_find a0 a1):=by
 refine callsO_comp mix Tryz.func113 gc113_ok fun r H=>?_
 rw [p_roster_State_find] at H
 conv=>whnf
 refine askF_c (p_slices_BinarySearchFunc_item_Item_v _ _ _ ⟨⟨_,Tryz.func177,by kernel_rfl,by kernel_rfl⟩,rfl,fun x0 x1=>p_roster_State_find_1_v _ _⟩) H (.cons (.c (.slw)) (.cons (.c (.id rfl)) (.cons (.c (.clo (.nil))) (.nil)))) (fun v1 H=>?_);conv=>whnf
 exact fin0_c (enc:=(fun r:Int × Bool=>.tup [V.i r.1,V.b r.2])) H (.inr rfl) (.cons (.tmp rfl) (.cons (.tmp rfl) (.nil))) rfl rfl
def gc172:BCode:=(.seq (.reg 1 [⟨(some 2),.bx (.tmp 0),none,0⟩,⟨(some 3),.mv (.const (.bool false)),none,1⟩] none 0 []) (.seq (.reg 0 [⟨(some 4),.fa 0 (.tmp 2),none,0⟩,⟨(some 5),.ld 1 false (.tmp 4),none,0⟩,⟨(some 6),.fa 0 (.tmp 1),none,0⟩,⟨(some 7),.ld 1 false (.tmp 6),none,0⟩,⟨(some 8),.bin .eql (.tmp 5) (.tmp 7),none,0⟩,⟨(some 3),.mv (.tmp 8),none,0⟩] none 0 []) .ret))
theorem gc172_ok:compF Tryz.prog Tryz.f172=some (gc172.er,9,[.tmp 3]):=by unfold gc172;kernel_rfl
theorem p_roster_State_change_1_v (a0:RosterGone) (c0:ItemItem):CallsO Tryz.prog 172 [.agg [.s a0.Contact,.i a0.Ver],.eptr [.s c0.Contact,.s c0.Name,.i c0.Sub,.i c0.Ver,.b c0.Own]] V.b (p_roster_State_change_1 a0 c0):=by
 refine callsO_comp mix Tryz.func172 gc172_ok fun r H=>?_
 rw [p_roster_State_change_1] at H
 conv=>whnf
 refine ⟨Nat.le_of_ble_eq_true rfl,?_⟩;conv=>whnf
 exact fb_ H
end Go.Proofs.YtpmoioopjbfhkaaGreat

/- That the program's functions yield what the plain ones tell (written by a program of mine). -/
namespace Go.Proofs.YtpmoioopjbfhkaaGreat
open Go.RowKit
set_option maxRecDepth 100000
set_option maxHeartbeats 4000000
def gc145:BCode:=(.seq (.reg 1 [⟨(some 1),.bx (.tmp 0),none,0⟩,⟨(some 2),.mv (.const (.bool false)),none,1⟩] none 0 []) (.seq (.seq (.reg 0 [⟨(some 5),.fa 2 (.tmp 1),none,0⟩,⟨(some 6),.ld 1 false (.tmp 5),none,0⟩,⟨(some 7),.lens (.tmp 6),none,0⟩,⟨(some 8),.mv (.const (.int .i64 0)),none,0⟩] none 0 []) (.block 0 (.loop (.seq (.reg 0 [⟨(some 9),.bin .lss (.tmp 8) (.tmp 7),none,0⟩] none 0 []) (.seq (.cond (.tmp 9) .skip (.exit 0)) (.seq (.block 1 (.seq (.reg 1 [⟨(some 10),.mv (.tmp 8),none,0⟩,⟨(some 11),.ixs 5 (.tmp 6) (.tmp 8),none,0⟩,⟨(some 12),.ld 5 true (.tmp 11),none,0⟩,⟨(some 4),.al (.agg [(.lit (.string ⟨#[]⟩)),(.lit (.string ⟨#[]⟩)),(.lit (.int .i64 0)),(.lit (.int .i64 0)),(.lit (.bool false))]),none,0⟩,⟨(some 3),.mv (.tmp 10),none,1⟩,⟨none,.st 5 (.tmp 4) (.tmp 12),none,1⟩] none 0 []) (.seq (.reg 0 [⟨(some 13),.fa 3 (.tmp 4),none,0⟩,⟨(some 14),.ld 1 false (.tmp 13),none,0⟩,⟨(some 15),.bin .lss (.tmp 14) (.const (.int .i64 1)),none,0⟩,⟨(some 16),.mv (.tmp 15),none,0⟩,⟨(some 17),.fa 3 (.tmp 4),(some (16,false)),0⟩,⟨(some 18),.ld 1 false (.tmp 17),(some (16,false)),0⟩,⟨(some 19),.fa 0 (.tmp 1),(some (16,false)),0⟩,⟨(some 20),.ld 1 false (.tmp 19),(some (16,false)),0⟩,⟨(some 21),.bin .gtr (.tmp 18) (.tmp 20),(some (16,false)),0⟩,⟨(some 22),.pick (.tmp 16) (.const (.bool true)) (.tmp 21),none,0⟩,⟨(some 23),.mv (.tmp 22),none,0⟩,⟨(some 24),.ld 4 true (.tmp 1),(some (23,false)),0⟩,⟨(some 25),.fa 3 (.tmp 4),(some (23,false)),0⟩,⟨(some 26),.ld 1 false (.tmp 25),(some (23,false)),0⟩,⟨(some 27),.cl 206 [(.tmp 24),(.tmp 26)],(some (23,false)),0⟩,⟨(some 28),.mv (.tmp 3),(some (23,false)),0⟩,⟨(some 29),.bin .neq (.tmp 27) (.tmp 28),(some (23,false)),0⟩,⟨(some 30),.pick (.tmp 23) (.const (.bool true)) (.tmp 29),none,0⟩,⟨(some 31),.mv (.tmp 30),none,0⟩,⟨(some 32),.mv (.tmp 3),(some (31,false)),0⟩,⟨(some 33),.bin .gtr (.tmp 32) (.const (.int .i64 0)),(some (31,false)),0⟩,⟨(some 34),.mv (.tmp 33),(some (31,false)),0⟩,⟨(some 35),.fa 2 (.tmp 1),(some (34,true)),0⟩,⟨(some 36),.ld 1 false (.tmp 35),(some (34,true)),0⟩,⟨(some 37),.mv (.tmp 3),(some (34,true)),0⟩,⟨(some 38),.bin .sub (.tmp 37) (.const (.int .i64 1)),(some (34,true)),0⟩,⟨(some 39),.ixs 5 (.tmp 36) (.tmp 38),(some (34,true)),0⟩,⟨(some 40),.fa 0 (.tmp 39),(some (34,true)),0⟩,⟨(some 41),.ld 1 false (.tmp 40),(some (34,true)),0⟩,⟨(some 42),.fa 0 (.tmp 4),(some (34,true)),0⟩,⟨(some 43),.ld 1 false (.tmp 42),(some (34,true)),0⟩,⟨(some 44),.bin .geq (.tmp 41) (.tmp 43),(some (34,true)),0⟩,⟨(some 45),.pick (.tmp 34) (.tmp 44) (.const (.bool false)),(some (31,false)),0⟩,⟨(some 46),.pick (.tmp 31) (.const (.bool true)) (.tmp 45),none,0⟩] (some [[],[0],[0,1],[1,0,2],[2,0,1,3],[3,1,0,2,4],[2,0,1,3],[3,1,0,2,6],[6,7,4,2,0,1,3,5],[5,4,7,6,8,2,0,1,3],[3,1,0,2,8,6,7,4,5,9],[9,5,4,7,6,8,2,0,1,3,10],[9,5,4,7,6,8,2,0,1,3,10],[10,3,1,0,2,8,6,7,4,5,9,12],[12,13,10,3,1,0,2,8,6,7,4,5,9,11],[9,5,4,7,6,8,2,0,1,3,10],[15,11,9,5,4,7,6,8,2,0,1,3,10,13,12,14],[14,12,13,11,15,16,9,5,4,7,6,8,2,0,1,3,10],[10,3,1,0,2,8,6,7,4,5,9,16,15,11,13,12,14,17],[17,14,12,13,11,15,16,9,5,4,7,6,8,2,0,1,3,10,18],[18,10,3,1,0,2,8,6,7,4,5,9,16,15,11,13,12,14,17,19],[19,17,14,12,13,11,15,16,9,5,4,7,6,8,2,0,1,3,10,18,20],[20,18,10,3,1,0,2,8,6,7,4,5,9,16,15,11,13,12,14,17,19,21],[21,19,17,14,12,13,11,15,16,9,5,4,7,6,8,2,0,1,3,10,18,20,22],[20,18,10,3,1,0,2,8,6,7,4,5,9,16,15,11,13,12,14,17,19,21],[21,19,17,14,12,13,11,15,16,9,5,4,7,6,8,2,0,1,3,10,18,20,24],[24,25,22,20,18,10,3,1,0,2,8,6,7,4,5,9,16,15,11,13,12,14,17,19,21,23],[23,21,19,17,14,12,13,11,15,16,9,5,4,7,6,8,2,0,1,3,10,18,20,22,25,24,26],[26,24,25,22,20,18,10,3,1,0,2,8,6,7,4,5,9,16,15,11,13,12,14,17,19,21,23,27],[20,18,10,3,1,0,2,8,6,7,4,5,9,16,15,11,13,12,14,17,19,21],[21,19,17,14,12,13,11,15,16,9,5,4,7,6,8,2,0,1,3,10,18,20,29],[29,30,27,23,21,19,17,14,12,13,11,15,16,9,5,4,7,6,8,2,0,1,3,10,18,20,22,25,24,26,28],[28,26,24,25,22,23,27,30,29,31,20,18,10,3,1,0,2,8,6,7,4,5,9,16,15,11,13,12,14,17,19,21],[21,19,20,31,29,30,27,23,22,25,24,26,28,32,17,14,12,13,11,15,16,9,5,4,7,6,8,2,0,1,3,10,18]]) 0 []) (.cond (.tmp 46) (.seq (.reg 0 [⟨(some 2),.mv (.const (.bool false)),none,0⟩] none 0 []) .ret) .skip)))) (.reg 0 [⟨(some 47),.bin .add (.tmp 8) (.const (.int .i64 1)),none,0⟩,⟨(some 8),.mv (.tmp 47),none,0⟩] none 0 []))))))) (.seq (.reg 0 [⟨(some 2),.mv (.const (.bool true)),none,0⟩] none 0 []) .ret)))
theorem gc145_ok:compF Tryz.prog Tryz.f145=some (gc145.er,48,[.tmp 2]):=by unfold gc145;kernel_rfl
theorem p_roster_State_rise_v {u1 u2:Bool} (a0:RosterState):CallsO Tryz.prog 145 [.agg [.i a0.Ver,.i a0.Floor,.sl (List.map ItemItem.v a0.Items) u1,.sl (List.map RosterGone.v a0.Gone) u2]] V.b (p_roster_State_rise a0):=by
 refine callsO_comp mix Tryz.func145 gc145_ok fun r H=>?_
 rw [p_roster_State_rise] at H
 conv=>whnf
 refine LenQ.M ?_;conv=>whnf
 obtain ⟨o2,HL3,HQ4⟩:=bind_c H
 refine loop_c [2,8] [3,4,9,10,11,12,13,14,15,16,17,18,19,20,21,22,23,24,25,26,27,28,29,30,31,32,33,34,35,36,37,38,39,40,41,42,43,44,45,46,47,5] [3,4,9,10,11,12,13,14,15,16,17,18,19,20,21,22,23,24,25,26,27,28,29,30,31,32,33,34,35,36,37,38,39,40,41,42,43,44,45,46,47,5] (fun n vals st=>(∃ y6,p_roster_State_rise_l1  a0.Items (a0.Items.length:Int) a0 n y6=some o2∧vals=[.b false,.i y6]∧st=[.live [.i a0.Ver,.i a0.Floor,.sl (List.map ItemItem.v a0.Items) u1,.sl (List.map RosterGone.v a0.Gone) u2] 0])) fuel 1 [] (⟨_,HL3,rfl,rfl⟩) (Nat.zero_le _) rfl (by kernel_rfl) (by kernel_rfl) rfl ⟨⟨rfl,rfl,rfl⟩,trivial⟩ ?_
 rintro (_ | n5) _ _ (⟨y6,H,rfl,rfl⟩)
 ·rw [p_roster_State_rise_l1] at H;cases H
 rw [p_roster_State_rise_l1] at H
 conv=>whnf
 refine tst_d H (fun b7 H=>?_) (fun b7 H=>?_)
 ·conv=>whnf
  obtain rfl:=Option.some.inj H
  have H:=HQ4
  try dsimp only at H
  exact fb_ H
 conv=>whnf
 refine ixs_c (f:=ItemItem.v) H (fun _=>rfl) (fun x8 H=>?_);conv=>whnf
 refine ⟨Nat.le_of_ble_eq_true rfl,?_⟩;conv=>whnf
 refine tst_c H (fun b9 H=>?_) (fun b9 H=>?_)
 ·conv=>whnf
  iterate 17 (refine Tst.T ?_;conv=>whnf)
  refine FootQ.mk ⟨rfl,?_⟩;conv=>whnf
  refine Tst.T ?_;conv=>whnf
  obtain rfl:=Option.some.inj H
  have H:=HQ4
  try dsimp only at H
  exact fb_ H
 conv=>whnf
 iterate 5 (refine Tst.F ?_;conv=>whnf)
 refine tst_c H (fun b10 H=>?_) (fun b10 H=>?_)
 ·conv=>whnf
  iterate 11 (refine Tst.T ?_;conv=>whnf)
  refine FootQ.mk ⟨rfl,?_⟩;conv=>whnf
  refine Tst.T ?_;conv=>whnf
  obtain rfl:=Option.some.inj H
  have H:=HQ4
  try dsimp only at H
  exact fb_ H
 conv=>whnf
 iterate 3 (refine Tst.F ?_;conv=>whnf)
 refine ask_c (p_roster_State_of_v _ _) H rfl rfl (fun v11 H=>?_);conv=>whnf
 iterate 3 (refine Tst.F ?_;conv=>whnf)
 refine tst_c H (fun b12 H=>?_) (fun b12 H=>?_)
 ·conv=>whnf
  iterate 4 (refine Tst.T ?_;conv=>whnf)
  refine FootQ.mk ⟨rfl,?_⟩;conv=>whnf
  refine Tst.T ?_;conv=>whnf
  obtain rfl:=Option.some.inj H
  have H:=HQ4
  try dsimp only at H
  exact fb_ H
 conv=>whnf
 iterate 2 (refine Tst.F ?_;conv=>whnf)
 refine tst_d H (fun b13 H=>?_) (fun b13 H=>?_)
 ·conv=>whnf
  iterate 12 (refine Tst.F ?_;conv=>whnf)
  refine FootQ.mk ⟨rfl,?_⟩;conv=>whnf
  refine Tst.F ?_;conv=>whnf
  refine Ari.w ?_;conv=>whnf
  exact again_c [3,4,9,10,11,12,13,14,15,16,17,18,19,20,21,22,23,24,25,26,27,28,29,30,31,32,33,34,35,36,37,38,39,40,41,42,43,44,45,46,47,5] n5 1 [] (⟨_,H,rfl,rfl⟩) (Nat.lt_succ_self _) (Nat.zero_le _) rfl (by kernel_rfl) (by kernel_rfl) rfl ⟨⟨rfl,rfl,rfl⟩,trivial⟩
 conv=>whnf
 iterate 3 (refine Tst.T ?_;conv=>whnf)
 refine Ari.w ?_;conv=>whnf
 refine Tst.T ?_;conv=>whnf
 refine ixs_c (f:=ItemItem.v) H (fun _=>rfl) (fun x14 H=>?_);conv=>whnf
 refine Tst.T ?_;conv=>whnf
 refine ⟨Nat.le_of_ble_eq_true rfl,?_⟩;conv=>whnf
 iterate 4 (refine Tst.T ?_;conv=>whnf)
 refine Tst.F ?_;conv=>whnf
 refine Tst.T ?_;conv=>whnf
 refine Tst.F ?_;conv=>whnf
 refine FootQ.mk ⟨rfl,?_⟩;conv=>whnf
 refine Tst.not ?_
 refine tst_d H (fun b15 H=>?_) (fun b15 H=>?_)
 ·conv=>whnf
  obtain rfl:=Option.some.inj H
  have H:=HQ4
  try dsimp only at H
  exact fb_ H
 conv=>whnf
 refine Ari.w ?_;conv=>whnf
 exact again_c [3,4,9,10,11,12,13,14,15,16,17,18,19,20,21,22,23,24,25,26,27,28,29,30,31,32,33,34,35,36,37,38,39,40,41,42,43,44,45,46,47,5] n5 1 [] (⟨_,H,rfl,rfl⟩) (Nat.lt_succ_self _) (Nat.zero_le _) rfl (by kernel_rfl) (by kernel_rfl) rfl ⟨⟨rfl,rfl,rfl⟩,trivial⟩
def gc207:BCode:=(.seq (.reg 1 [⟨(some 2),.bx (.tmp 0),none,0⟩,⟨(some 3),.mv (.const (.bool false)),none,1⟩] none 0 []) (.seq (.reg 0 [⟨(some 4),.fa 0 (.tmp 2),none,0⟩,⟨(some 5),.ld 1 false (.tmp 4),none,0⟩,⟨(some 6),.fa 0 (.tmp 1),none,0⟩,⟨(some 7),.ld 1 false (.tmp 6),none,0⟩,⟨(some 8),.bin .eql (.tmp 5) (.tmp 7),none,0⟩,⟨(some 3),.mv (.tmp 8),none,0⟩] none 0 []) .ret))
theorem gc207_ok:compF Tryz.prog Tryz.f207=some (gc207.er,9,[.tmp 3]):=by unfold gc207;kernel_rfl
theorem p_roster_State_left_1_v (a0:RosterGone) (c0:RosterGone):CallsO Tryz.prog 207 [.agg [.s a0.Contact,.i a0.Ver],.eptr [.s c0.Contact,.i c0.Ver]] V.b (p_roster_State_left_1 a0 c0):=by
 refine callsO_comp mix Tryz.func207 gc207_ok fun r H=>?_
 rw [p_roster_State_left_1] at H
 conv=>whnf
 refine ⟨Nat.le_of_ble_eq_true rfl,?_⟩;conv=>whnf
 exact fb_ H
def gc146:BCode:=(.seq (.reg 1 [⟨(some 1),.bx (.tmp 0),none,0⟩,⟨(some 2),.mv (.const (.bool false)),none,1⟩] none 0 []) (.seq (.reg 0 [⟨(some 9),.fa 1 (.tmp 1),none,0⟩,⟨(some 10),.ld 1 false (.tmp 9),none,0⟩,⟨(some 3),.mv (.tmp 10),none,0⟩] none 0 []) (.seq (.seq (.reg 0 [⟨(some 11),.fa 3 (.tmp 1),none,0⟩,⟨(some 12),.ld 1 false (.tmp 11),none,0⟩,⟨(some 13),.lens (.tmp 12),none,0⟩,⟨(some 14),.mv (.const (.int .i64 0)),none,0⟩] none 0 []) (.block 0 (.loop (.seq (.reg 0 [⟨(some 15),.bin .lss (.tmp 14) (.tmp 13),none,0⟩] none 0 []) (.seq (.cond (.tmp 15) .skip (.exit 0)) (.seq (.block 1 (.seq (.reg 1 [⟨(some 16),.mv (.tmp 14),none,0⟩,⟨(some 17),.ixs 2 (.tmp 12) (.tmp 14),none,0⟩,⟨(some 18),.ld 2 true (.tmp 17),none,0⟩,⟨(some 5),.al (.agg [(.lit (.string ⟨#[]⟩)),(.lit (.int .i64 0))]),none,0⟩,⟨(some 4),.mv (.tmp 16),none,1⟩,⟨none,.st 2 (.tmp 5) (.tmp 18),none,1⟩] none 0 []) (.seq (.seq (.reg 0 [⟨(some 19),.fa 1 (.tmp 5),none,0⟩,⟨(some 20),.ld 1 false (.tmp 19),none,0⟩,⟨(some 21),.mv (.tmp 3),none,0⟩,⟨(some 22),.bin .leq (.tmp 20) (.tmp 21),none,0⟩,⟨(some 23),.mv (.tmp 22),none,0⟩,⟨(some 24),.fa 1 (.tmp 5),(some (23,false)),0⟩,⟨(some 25),.ld 1 false (.tmp 24),(some (23,false)),0⟩,⟨(some 26),.fa 0 (.tmp 1),(some (23,false)),0⟩,⟨(some 27),.ld 1 false (.tmp 26),(some (23,false)),0⟩,⟨(some 28),.bin .gtr (.tmp 25) (.tmp 27),(some (23,false)),0⟩,⟨(some 29),.pick (.tmp 23) (.const (.bool true)) (.tmp 28),none,0⟩] none 0 []) (.cond (.tmp 29) (.seq (.reg 0 [⟨(some 2),.mv (.const (.bool false)),none,0⟩] none 0 []) .ret) .skip)) (.seq (.reg 0 [⟨(some 30),.fa 1 (.tmp 5),none,0⟩,⟨(some 31),.ld 1 false (.tmp 30),none,0⟩,⟨(some 3),.mv (.tmp 31),none,0⟩] none 0 []) (.seq (.seq (.reg 0 [⟨(some 32),.fa 3 (.tmp 1),none,0⟩,⟨(some 33),.ld 1 false (.tmp 32),none,0⟩,⟨(some 34),.mv (.tmp 4),none,0⟩,⟨(some 35),.sls 2 (.tmp 33) none (some (.tmp 34)) none,none,0⟩,⟨(some 36),.mf (.func 207) [(.tmp 5)],none,0⟩,⟨(some 37),.cl 143 [(.tmp 35),(.tmp 36)],none,0⟩] none 0 [5]) (.cond (.tmp 37) (.seq (.reg 0 [⟨(some 2),.mv (.const (.bool false)),none,0⟩] none 0 []) .ret) .skip)) (.seq (.seq (.reg 0 [⟨(some 38),.ld 4 true (.tmp 1),none,0⟩,⟨(some 39),.fa 1 (.tmp 5),none,0⟩,⟨(some 40),.ld 1 false (.tmp 39),none,0⟩,⟨(some 41),.cl 206 [(.tmp 38),(.tmp 40)],none,0⟩,⟨(some 6),.mv (.tmp 41),none,0⟩] none 0 []) (.seq (.reg 0 [⟨(some 42),.mv (.tmp 6),none,0⟩,⟨(some 43),.bin .geq (.tmp 42) (.const (.int .i64 0)),none,0⟩,⟨(some 44),.mv (.tmp 43),none,0⟩,⟨(some 45),.fa 2 (.tmp 1),(some (44,true)),0⟩,⟨(some 46),.ld 1 false (.tmp 45),(some (44,true)),0⟩,⟨(some 47),.mv (.tmp 6),(some (44,true)),0⟩,⟨(some 48),.ixs 5 (.tmp 46) (.tmp 47),(some (44,true)),0⟩,⟨(some 49),.fa 0 (.tmp 48),(some (44,true)),0⟩,⟨(some 50),.ld 1 false (.tmp 49),(some (44,true)),0⟩,⟨(some 51),.fa 0 (.tmp 5),(some (44,true)),0⟩,⟨(some 52),.ld 1 false (.tmp 51),(some (44,true)),0⟩,⟨(some 53),.bin .neq (.tmp 50) (.tmp 52),(some (44,true)),0⟩,⟨(some 54),.pick (.tmp 44) (.tmp 53) (.const (.bool false)),none,0⟩] (some [[],[0],[0,1],[1,0,2],[2,0,1,3],[1,0,2],[5,3,1,0,2,4],[4,2,0,1,3,5,6],[6,5,3,1,0,2,4,7],[1,0,2],[2,0,1,9],[9,10,7,4,2,0,1,3,5,6,8],[8,6,5,3,4,7,10,9,11,1,0,2]]) 0 []) (.cond (.tmp 54) (.seq (.reg 0 [⟨(some 2),.mv (.const (.bool false)),none,0⟩] none 0 []) .ret) .skip))) (.seq (.reg 0 [⟨(some 56),.ld 4 true (.tmp 1),none,0⟩,⟨(some 57),.fa 0 (.tmp 5),none,0⟩,⟨(some 58),.ld 1 false (.tmp 57),none,0⟩,⟨(some 59),.cl 113 [(.tmp 56),(.tmp 58)],none,0⟩,⟨(some 55),.mv (.tmp 59),none,0⟩,⟨(some 60),.ex (.tmp 55) 0,none,0⟩,⟨(some 61),.ex (.tmp 55) 1,none,0⟩,⟨(some 7),.mv (.tmp 60),none,0⟩,⟨(some 8),.mv (.tmp 61),none,0⟩] none 0 []) (.seq (.reg 0 [⟨(some 62),.mv (.tmp 8),none,0⟩,⟨(some 63),.mv (.tmp 62),none,0⟩,⟨(some 64),.fa 2 (.tmp 1),(some (63,true)),0⟩,⟨(some 65),.ld 1 false (.tmp 64),(some (63,true)),0⟩,⟨(some 66),.mv (.tmp 7),(some (63,true)),0⟩,⟨(some 67),.ixs 5 (.tmp 65) (.tmp 66),(some (63,true)),0⟩,⟨(some 68),.ld 5 true (.tmp 67),(some (63,true)),0⟩,⟨(some 69),.cl 17 [(.tmp 68)],(some (63,true)),0⟩,⟨(some 70),.pick (.tmp 63) (.tmp 69) (.const (.bool false)),none,0⟩] none 0 []) (.cond (.tmp 70) (.seq (.reg 0 [⟨(some 2),.mv (.const (.bool false)),none,0⟩] none 0 []) .ret) .skip))))))))) (.reg 0 [⟨(some 71),.bin .add (.tmp 14) (.const (.int .i64 1)),none,0⟩,⟨(some 14),.mv (.tmp 71),none,0⟩] none 0 []))))))) (.seq (.reg 0 [⟨(some 2),.mv (.const (.bool true)),none,0⟩] none 0 []) .ret))))
theorem gc146_ok:compF Tryz.prog Tryz.f146=some (gc146.er,72,[.tmp 2]):=by unfold gc146;kernel_rfl
theorem p_roster_State_left_v {u1 u2:Bool} (a0:RosterState):CallsO Tryz.prog 146 [.agg [.i a0.Ver,.i a0.Floor,.sl (List.map ItemItem.v a0.Items) u1,.sl (List.map RosterGone.v a0.Gone) u2]] V.b (p_roster_State_left a0):=by
 refine callsO_comp mix Tryz.func146 gc146_ok fun r H=>?_
 rw [p_roster_State_left] at H
 conv=>whnf
 refine LenQ.M ?_;conv=>whnf
 obtain ⟨o2,HL3,HQ4⟩:=bind_c H
 refine loop_c [2,3,14] [4,5,6,7,8,15,16,17,18,19,20,21,22,23,24,25,26,27,28,29,30,31,32,33,34,35,36,37,38,39,40,41,42,43,44,45,46,47,48,49,50,51,52,53,54,55,56,57,58,59,60,61,62,63,64,65,66,67,68,69,70,71,9,11] [4,5,6,7,8,15,16,17,18,19,20,21,22,23,24,25,26,27,28,29,30,31,32,33,34,35,36,37,38,39,40,41,42,43,44,45,46,47,48,49,50,51,52,53,54,55,56,57,58,59,60,61,62,63,64,65,66,67,68,69,70,71,9,11] (fun n vals st=>(∃ y6 y7,p_roster_State_left_l1  a0.Gone (a0.Gone.length:Int) a0 n y6 y7=some o2∧vals=[.b false,.i y6,.i y7]∧st=[.live [.i a0.Ver,.i a0.Floor,.sl (List.map ItemItem.v a0.Items) u1,.sl (List.map RosterGone.v a0.Gone) u2] 0])) fuel 1 [] (⟨_,_,HL3,rfl,rfl⟩) (Nat.zero_le _) rfl (by kernel_rfl) (by kernel_rfl) rfl ⟨⟨rfl,rfl,rfl⟩,trivial⟩ ?_
 rintro (_ | n5) _ _ (⟨y6,y7,H,rfl,rfl⟩)
 ·rw [p_roster_State_left_l1] at H;cases H
 rw [p_roster_State_left_l1] at H
 conv=>whnf
 refine tst_d H (fun b8 H=>?_) (fun b8 H=>?_)
 ·conv=>whnf
  obtain rfl:=Option.some.inj H
  have H:=HQ4
  try dsimp only at H
  exact fb_ H
 conv=>whnf
 refine ixs_c (f:=RosterGone.v) H (fun _=>rfl) (fun x9 H=>?_);conv=>whnf
 refine ⟨Nat.le_of_ble_eq_true rfl,?_⟩;conv=>whnf
 refine tst_c H (fun b10 H=>?_) (fun b10 H=>?_)
 ·conv=>whnf
  iterate 6 (refine Tst.T ?_;conv=>whnf)
  obtain rfl:=Option.some.inj H
  have H:=HQ4
  try dsimp only at H
  exact fb_ H
 conv=>whnf
 iterate 5 (refine Tst.F ?_;conv=>whnf)
 refine tst_c H (fun b11 H=>?_) (fun b11 H=>?_)
 ·conv=>whnf
  obtain rfl:=Option.some.inj H
  have H:=HQ4
  try dsimp only at H
  exact fb_ H
 conv=>whnf
 refine ⟨Nat.zero_le _,?_⟩;conv=>whnf
 refine slsH_c (f:=RosterGone.v) H (fun _=>rfl) (fun x12 H=>?_);conv=>whnf
 refine askF_c (p_slices_ContainsFunc_roster_Gone_v _ _ ⟨⟨_,Tryz.func207,by kernel_rfl,by kernel_rfl⟩,rfl,fun x0=>p_roster_State_left_1_v _ _⟩) H (.cons (.c (.id rfl)) (.cons (.c (.clo (.cons (.ptr rfl (Nat.le_of_ble_eq_true rfl) (.cons (.id rfl) (.cons (.id rfl) (.nil)))) (.nil)))) (.nil))) (fun v13 H=>?_);conv=>whnf
 refine tst_c H (fun b14 H=>?_) (fun b14 H=>?_)
 ·conv=>whnf
  obtain rfl:=Option.some.inj H
  have H:=HQ4
  try dsimp only at H
  exact fb_ H
 conv=>whnf
 refine ask_c (p_roster_State_of_v _ _) H rfl rfl (fun v15 H=>?_);conv=>whnf
 refine tst_d H (fun b16 H=>?_) (fun b16 H=>?_)
 ·conv=>whnf
  iterate 9 (refine Tst.F ?_;conv=>whnf)
  refine FootQ.mk ⟨rfl,?_⟩;conv=>whnf
  refine Tst.F ?_;conv=>whnf
  refine ask_c (p_roster_State_find_v _ _) H rfl rfl (fun v24 H=>?_);conv=>whnf
  refine tst_d H (fun b25 H=>?_) (fun b25 H=>?_)
  ·conv=>whnf
   iterate 7 (refine Tst.F ?_;conv=>whnf)
   refine Ari.w ?_;conv=>whnf
   exact again_c [4,5,6,7,8,15,16,17,18,19,20,21,22,23,24,25,26,27,28,29,30,31,32,33,34,35,36,37,38,39,40,41,42,43,44,45,46,47,48,49,50,51,52,53,54,55,56,57,58,59,60,61,62,63,64,65,66,67,68,69,70,71,9,11] n5 1 [] (⟨_,_,H,rfl,rfl⟩) (Nat.lt_succ_self _) (Nat.zero_le _) rfl (by kernel_rfl) (by kernel_rfl) rfl ⟨⟨rfl,rfl,rfl⟩,trivial⟩
  conv=>whnf
  iterate 3 (refine Tst.T ?_;conv=>whnf)
  refine ixs_c (f:=ItemItem.v) H (fun _=>rfl) (fun x26 H=>?_);conv=>whnf
  iterate 2 (refine Tst.T ?_;conv=>whnf)
  refine ask_c (p_item_Listed_v _) H rfl rfl (fun v27 H=>?_);conv=>whnf
  refine Tst.T ?_;conv=>whnf
  refine tst_c H (fun b28 H=>?_) (fun b28 H=>?_)
  ·conv=>whnf
   obtain rfl:=Option.some.inj H
   have H:=HQ4
   try dsimp only at H
   exact fb_ H
  conv=>whnf
  refine Ari.w ?_;conv=>whnf
  exact again_c [4,5,6,7,8,15,16,17,18,19,20,21,22,23,24,25,26,27,28,29,30,31,32,33,34,35,36,37,38,39,40,41,42,43,44,45,46,47,48,49,50,51,52,53,54,55,56,57,58,59,60,61,62,63,64,65,66,67,68,69,70,71,9,11] n5 1 [] (⟨_,_,H,rfl,rfl⟩) (Nat.lt_succ_self _) (Nat.zero_le _) rfl (by kernel_rfl) (by kernel_rfl) rfl ⟨⟨rfl,rfl,rfl⟩,trivial⟩
 conv=>whnf
 iterate 3 (refine Tst.T ?_;conv=>whnf)
 refine ixs_c (f:=ItemItem.v) H (fun _=>rfl) (fun x17 H=>?_);conv=>whnf
 refine Tst.T ?_;conv=>whnf
 refine ⟨Nat.le_of_ble_eq_true rfl,?_⟩;conv=>whnf
 iterate 5 (refine Tst.T ?_;conv=>whnf)
 refine FootQ.mk ⟨rfl,?_⟩;conv=>whnf
 refine Tst.not ?_
 refine tst_d H (fun b18 H=>?_) (fun b18 H=>?_)
 ·conv=>whnf
  obtain rfl:=Option.some.inj H
  have H:=HQ4
  try dsimp only at H
  exact fb_ H
 conv=>whnf
 refine ask_c (p_roster_State_find_v _ _) H rfl rfl (fun v19 H=>?_);conv=>whnf
 refine tst_d H (fun b20 H=>?_) (fun b20 H=>?_)
 ·conv=>whnf
  iterate 7 (refine Tst.F ?_;conv=>whnf)
  refine Ari.w ?_;conv=>whnf
  exact again_c [4,5,6,7,8,15,16,17,18,19,20,21,22,23,24,25,26,27,28,29,30,31,32,33,34,35,36,37,38,39,40,41,42,43,44,45,46,47,48,49,50,51,52,53,54,55,56,57,58,59,60,61,62,63,64,65,66,67,68,69,70,71,9,11] n5 1 [] (⟨_,_,H,rfl,rfl⟩) (Nat.lt_succ_self _) (Nat.zero_le _) rfl (by kernel_rfl) (by kernel_rfl) rfl ⟨⟨rfl,rfl,rfl⟩,trivial⟩
 conv=>whnf
 iterate 3 (refine Tst.T ?_;conv=>whnf)
 refine ixs_c (f:=ItemItem.v) H (fun _=>rfl) (fun x21 H=>?_);conv=>whnf
 iterate 2 (refine Tst.T ?_;conv=>whnf)
 refine ask_c (p_item_Listed_v _) H rfl rfl (fun v22 H=>?_);conv=>whnf
 refine Tst.T ?_;conv=>whnf
 refine tst_c H (fun b23 H=>?_) (fun b23 H=>?_)
 ·conv=>whnf
  obtain rfl:=Option.some.inj H
  have H:=HQ4
  try dsimp only at H
  exact fb_ H
 conv=>whnf
 refine Ari.w ?_;conv=>whnf
 exact again_c [4,5,6,7,8,15,16,17,18,19,20,21,22,23,24,25,26,27,28,29,30,31,32,33,34,35,36,37,38,39,40,41,42,43,44,45,46,47,48,49,50,51,52,53,54,55,56,57,58,59,60,61,62,63,64,65,66,67,68,69,70,71,9,11] n5 1 [] (⟨_,_,H,rfl,rfl⟩) (Nat.lt_succ_self _) (Nat.zero_le _) rfl (by kernel_rfl) (by kernel_rfl) rfl ⟨⟨rfl,rfl,rfl⟩,trivial⟩
def gc77:BCode:=(.seq (.reg 1 [⟨(some 1),.bx (.tmp 0),none,0⟩,⟨(some 2),.mv (.const (.int .i64 0)),none,1⟩] none 0 []) (.seq (.block 0 (.seq (.seq (.reg 0 [⟨(some 5),.fa 2 (.tmp 1),none,0⟩,⟨(some 6),.ld 1 false (.tmp 5),none,0⟩,⟨(some 7),.lens (.tmp 6),none,0⟩,⟨(some 8),.bin .gtr (.tmp 7) (.const (.int .i64 12)),none,0⟩,⟨(some 4),.mv (.tmp 8),none,0⟩] none 0 []) (.cond (.tmp 4) .skip (.reg 0 [⟨(some 9),.fa 3 (.tmp 1),none,0⟩,⟨(some 10),.ld 1 false (.tmp 9),none,0⟩,⟨(some 11),.lens (.tmp 10),none,0⟩,⟨(some 12),.bin .gtr (.tmp 11) (.const (.int .i64 8)),none,0⟩,⟨(some 4),.mv (.tmp 12),none,0⟩] none 0 []))) (.cond (.tmp 4) (.seq (.reg 0 [⟨(some 2),.mv (.const (.int .i64 5)),none,0⟩] none 0 []) .ret) (.seq (.seq (.reg 0 [⟨(some 14),.fa 0 (.tmp 1),none,0⟩,⟨(some 15),.ld 1 false (.tmp 14),none,0⟩,⟨(some 16),.bin .lss (.tmp 15) (.const (.int .i64 0)),none,0⟩,⟨(some 13),.mv (.tmp 16),none,0⟩] none 0 []) (.cond (.tmp 13) .skip (.seq (.reg 0 [⟨(some 17),.fa 0 (.tmp 1),none,0⟩,⟨(some 18),.ld 1 false (.tmp 17),none,0⟩,⟨(some 19),.bin .gtr (.tmp 18) (.const (.int .i64 1099511627776)),none,0⟩,⟨(some 13),.mv (.tmp 19),none,0⟩] none 0 []) (.cond (.tmp 13) .skip (.seq (.reg 0 [⟨(some 20),.fa 1 (.tmp 1),none,0⟩,⟨(some 21),.ld 1 false (.tmp 20),none,0⟩,⟨(some 22),.bin .lss (.tmp 21) (.const (.int .i64 0)),none,0⟩,⟨(some 13),.mv (.tmp 22),none,0⟩] none 0 []) (.cond (.tmp 13) .skip (.reg 0 [⟨(some 23),.fa 1 (.tmp 1),none,0⟩,⟨(some 24),.ld 1 false (.tmp 23),none,0⟩,⟨(some 25),.fa 0 (.tmp 1),none,0⟩,⟨(some 26),.ld 1 false (.tmp 25),none,0⟩,⟨(some 27),.bin .gtr (.tmp 24) (.tmp 26),none,0⟩,⟨(some 13),.mv (.tmp 27),none,0⟩] none 0 []))))))) (.cond (.tmp 13) (.seq (.reg 0 [⟨(some 2),.mv (.const (.int .i64 8)),none,0⟩] none 0 []) .ret) .skip))))) (.seq (.seq (.reg 0 [⟨(some 28),.ld 4 true (.tmp 1),none,0⟩,⟨(some 29),.cl 142 [(.tmp 28)],none,0⟩,⟨(some 3),.mv (.tmp 29),none,0⟩] none 0 []) (.seq (.reg 0 [⟨(some 30),.mv (.tmp 3),none,0⟩,⟨(some 31),.bin .neq (.tmp 30) (.const (.int .i64 0)),none,0⟩] none 0 []) (.cond (.tmp 31) (.seq (.reg 0 [⟨(some 32),.mv (.tmp 3),none,0⟩,⟨(some 2),.mv (.tmp 32),none,0⟩] none 0 []) .ret) .skip))) (.seq (.block 1 (.seq (.reg 0 [⟨(some 34),.fa 3 (.tmp 1),none,0⟩,⟨(some 35),.ld 1 false (.tmp 34),none,0⟩,⟨(some 36),.cl 143 [(.tmp 35),(.func 144)],none,0⟩,⟨(some 33),.mv (.tmp 36),none,0⟩] none 0 []) (.cond (.tmp 33) (.seq (.reg 0 [⟨(some 2),.mv (.const (.int .i64 11)),none,0⟩] none 0 []) .ret) (.seq (.seq (.reg 0 [⟨(some 38),.ld 4 true (.tmp 1),none,0⟩,⟨(some 39),.cl 145 [(.tmp 38)],none,0⟩,⟨(some 40),.un .not (.tmp 39),none,0⟩,⟨(some 37),.mv (.tmp 40),none,0⟩] none 0 []) (.cond (.tmp 37) .skip (.reg 0 [⟨(some 41),.ld 4 true (.tmp 1),none,0⟩,⟨(some 42),.cl 146 [(.tmp 41)],none,0⟩,⟨(some 43),.un .not (.tmp 42),none,0⟩,⟨(some 37),.mv (.tmp 43),none,0⟩] none 0 []))) (.cond (.tmp 37) (.seq (.reg 0 [⟨(some 2),.mv (.const (.int .i64 10)),none,0⟩] none 0 []) .ret) .skip))))) (.seq (.reg 0 [⟨(some 2),.mv (.const (.int .i64 0)),none,0⟩] none 0 []) .ret)))))
theorem gc77_ok:compF Tryz.prog Tryz.f77=some (gc77.er,44,[.tmp 2]):=by unfold gc77;kernel_rfl
theorem p_roster_Check_v {u1 u2:Bool} (a0:RosterState):CallsO Tryz.prog 77 [.agg [.i a0.Ver,.i a0.Floor,.sl (List.map ItemItem.v a0.Items) u1,.sl (List.map RosterGone.v a0.Gone) u2]] V.i (p_roster_Check a0):=by
 refine callsO_comp mix Tryz.func77 gc77_ok fun r H=>?_
 rw [p_roster_Check] at H
 conv=>whnf
 refine LenQ.M ?_;conv=>whnf
 refine tst_c H (fun b1 H=>?_) (fun b1 H=>?_)
 ·conv=>whnf
  refine Tst.T ?_;conv=>whnf
  exact fi_ H
 conv=>whnf
 refine LenQ.M ?_;conv=>whnf
 refine tst_c H (fun b2 H=>?_) (fun b2 H=>?_)
 ·conv=>whnf
  exact fi_ H
 conv=>whnf
 refine tst_c H (fun b3 H=>?_) (fun b3 H=>?_)
 ·conv=>whnf
  refine Tst.T ?_;conv=>whnf
  exact fi_ H
 conv=>whnf
 refine tst_c H (fun b4 H=>?_) (fun b4 H=>?_)
 ·conv=>whnf
  refine Tst.T ?_;conv=>whnf
  exact fi_ H
 conv=>whnf
 refine tst_c H (fun b5 H=>?_) (fun b5 H=>?_)
 ·conv=>whnf
  refine Tst.T ?_;conv=>whnf
  exact fi_ H
 conv=>whnf
 refine tst_c H (fun b6 H=>?_) (fun b6 H=>?_)
 ·conv=>whnf
  exact fi_ H
 conv=>whnf
 refine ask_c (p_roster_State_errors_v _) H rfl rfl (fun v7 H=>?_);conv=>whnf
 refine tst_c H (fun b8 H=>?_) (fun b8 H=>?_)
 ·conv=>whnf
  exact fi_ H
 conv=>whnf
 refine askF_c (p_slices_ContainsFunc_roster_Gone_v _ _ ⟨⟨_,Tryz.func144,by kernel_rfl,by kernel_rfl⟩,rfl,fun x0=>p_roster_Check_1_v _⟩) H (.cons (.c (.slw)) (.cons (.c (.clo (.nil))) (.nil))) (fun v9 H=>?_);conv=>whnf
 refine tst_c H (fun b10 H=>?_) (fun b10 H=>?_)
 ·conv=>whnf
  exact fi_ H
 conv=>whnf
 refine ask_c (p_roster_State_rise_v _) H rfl rfl (fun v11 H=>?_);conv=>whnf
 refine Tst.not ?_
 refine tst_d H (fun b12 H=>?_) (fun b12 H=>?_)
 ·conv=>whnf
  refine Tst.T ?_;conv=>whnf
  exact fi_ H
 conv=>whnf
 refine ask_c (p_roster_State_left_v _) H rfl rfl (fun v13 H=>?_);conv=>whnf
 refine Tst.not ?_
 refine tst_c H (fun b14 H=>?_) (fun b14 H=>?_)
 ·conv=>whnf
  exact fi_ H
 conv=>whnf
 exact fi_ H
end Go.Proofs.YtpmoioopjbfhkaaGreat

/- That the program's functions yield what the plain ones tell (written by a program of mine). -/
namespace Go.Proofs.YtpmoioopjbfhkaaGreat
open Go.RowKit
set_option maxRecDepth 100000
set_option maxHeartbeats 4000000
def gc103:BCode:=(.seq (.reg 2 [⟨(some 2),.bx (.tmp 0),none,0⟩,⟨(some 4),.al (.agg [(.lit (.string ⟨#[]⟩)),(.lit (.string ⟨#[]⟩)),(.lit (.int .i64 0)),(.lit (.int .i64 0)),(.lit (.bool false))]),none,1⟩,⟨(some 5),.mv (.const (.bool false)),none,2⟩] none 0 []) (.seq (.seq (.reg 0 [⟨(some 8),.ld 4 true (.tmp 2),none,0⟩,⟨(some 9),.cl 77 [(.tmp 8)],none,0⟩,⟨(some 10),.bin .neq (.tmp 9) (.const (.int .i64 0)),none,0⟩] none 0 []) (.cond (.tmp 10) (.seq (.reg 0 [⟨(some 11),.bd [(.lit (.string ⟨#[]⟩)),(.lit (.string ⟨#[]⟩)),(.lit (.int .i64 0)),(.lit (.int .i64 0)),(.lit (.bool false))] [],none,0⟩,⟨none,.st 5 (.tmp 4) (.tmp 11),none,0⟩,⟨(some 5),.mv (.const (.bool false)),none,0⟩] none 0 []) .ret) .skip)) (.seq (.reg 0 [⟨(some 13),.ld 4 true (.tmp 2),none,0⟩,⟨(some 14),.mv (.tmp 1),none,0⟩,⟨(some 15),.cl 113 [(.tmp 13),(.tmp 14)],none,0⟩,⟨(some 12),.mv (.tmp 15),none,0⟩,⟨(some 16),.ex (.tmp 12) 0,none,0⟩,⟨(some 17),.ex (.tmp 12) 1,none,0⟩,⟨(some 6),.mv (.tmp 16),none,0⟩,⟨(some 7),.mv (.tmp 17),none,0⟩] none 0 []) (.seq (.seq (.reg 0 [⟨(some 18),.mv (.tmp 7),none,0⟩,⟨(some 19),.un .not (.tmp 18),none,0⟩] none 0 []) (.cond (.tmp 19) (.seq (.reg 0 [⟨(some 20),.bd [(.lit (.string ⟨#[]⟩)),(.lit (.string ⟨#[]⟩)),(.lit (.int .i64 0)),(.lit (.int .i64 0)),(.lit (.bool false))] [],none,0⟩,⟨none,.st 5 (.tmp 4) (.tmp 20),none,0⟩,⟨(some 5),.mv (.const (.bool false)),none,0⟩] none 0 []) .ret) .skip)) (.seq (.reg 0 [⟨(some 21),.fa 2 (.tmp 2),none,0⟩,⟨(some 22),.ld 1 false (.tmp 21),none,0⟩,⟨(some 23),.mv (.tmp 6),none,0⟩,⟨(some 24),.ixs 5 (.tmp 22) (.tmp 23),none,0⟩,⟨(some 25),.ld 5 true (.tmp 24),none,0⟩,⟨none,.st 5 (.tmp 4) (.tmp 25),none,0⟩,⟨(some 5),.mv (.const (.bool true)),none,0⟩] none 0 []) .ret)))))
theorem gc103_ok:compF Tryz.prog Tryz.f103=some (gc103.er,26,[.cell 4 5 true,.tmp 5]):=by unfold gc103;kernel_rfl
theorem p_roster_Find_v {u1 u2:Bool} (a0:RosterState) (a1:ByteArray):CallsO Tryz.prog 103 [.agg [.i a0.Ver,.i a0.Floor,.sl (List.map ItemItem.v a0.Items) u1,.sl (List.map RosterGone.v a0.Gone) u2],.s a1] (fun r:ItemItem × Bool=>.tup [ItemItem.v r.1,V.b r.2]) (p_roster_Find a0 a1):=by
 refine callsO_comp mix Tryz.func103 gc103_ok fun r H=>?_
 rw [p_roster_Find] at H
 conv=>whnf
 refine ask_c (p_roster_Check_v _) H rfl rfl (fun v1 H=>?_);conv=>whnf
 refine tst_c H (fun b2 H=>?_) (fun b2 H=>?_)
 ·conv=>whnf
  refine ⟨Nat.le_of_ble_eq_true rfl,?_⟩;conv=>whnf
  exact fin0_c (enc:=(fun r:ItemItem × Bool=>.tup [ItemItem.v r.1,V.b r.2])) H (.inr rfl) (.cons (.cell rfl rfl (Nat.le_of_ble_eq_true rfl)) (.cons (.tmp rfl) (.nil))) rfl rfl
 conv=>whnf
 refine ask_c (p_roster_State_find_v _ _) H rfl rfl (fun v3 H=>?_);conv=>whnf
 refine Tst.not ?_
 refine tst_d H (fun b4 H=>?_) (fun b4 H=>?_)
 ·conv=>whnf
  refine ⟨Nat.le_of_ble_eq_true rfl,?_⟩;conv=>whnf
  exact fin0_c (enc:=(fun r:ItemItem × Bool=>.tup [ItemItem.v r.1,V.b r.2])) H (.inr rfl) (.cons (.cell rfl rfl (Nat.le_of_ble_eq_true rfl)) (.cons (.tmp rfl) (.nil))) rfl rfl
 conv=>whnf
 refine ixs_c (f:=ItemItem.v) H (fun _=>rfl) (fun x5 H=>?_);conv=>whnf
 refine ⟨Nat.le_of_ble_eq_true rfl,?_⟩;conv=>whnf
 exact fin0_c (enc:=(fun r:ItemItem × Bool=>.tup [ItemItem.v r.1,V.b r.2])) H (.inr rfl) (.cons (.cell rfl rfl (Nat.le_of_ble_eq_true rfl)) (.cons (.tmp rfl) (.nil))) rfl rfl
def gc108:BCode:=(.seq (.reg 1 [⟨(some 3),.bx (.tmp 0),none,0⟩,⟨(some 6),.mv (.const (.int .i64 0)),none,1⟩] none 0 []) (.seq (.block 0 (.seq (.reg 0 [⟨(some 8),.mv (.tmp 2),none,0⟩,⟨(some 9),.mv (.tmp 8),none,0⟩,⟨(some 10),.mv (.tmp 1),(some (9,true)),0⟩,⟨(some 11),.un .not (.tmp 10),(some (9,true)),0⟩,⟨(some 12),.pick (.tmp 9) (.tmp 11) (.const (.bool false)),none,0⟩,⟨(some 13),.mv (.tmp 12),none,0⟩,⟨(some 14),.fa 2 (.tmp 3),(some (13,true)),0⟩,⟨(some 15),.ld 1 false (.tmp 14),(some (13,true)),0⟩,⟨(some 16),.lens (.tmp 15),(some (13,true)),0⟩,⟨(some 17),.bin .geq (.tmp 16) (.const (.int .i64 12)),(some (13,true)),0⟩,⟨(some 18),.pick (.tmp 13) (.tmp 17) (.const (.bool false)),none,0⟩,⟨(some 7),.mv (.tmp 18),none,0⟩] none 0 []) (.cond (.tmp 7) (.seq (.reg 0 [⟨(some 6),.mv (.const (.int .i64 7)),none,0⟩] none 0 []) .ret) (.seq (.reg 0 [⟨(some 20),.fa 0 (.tmp 3),none,0⟩,⟨(some 21),.ld 1 false (.tmp 20),none,0⟩,⟨(some 22),.bin .geq (.tmp 21) (.const (.int .i64 1099511627776)),none,0⟩,⟨(some 19),.mv (.tmp 22),none,0⟩] none 0 []) (.cond (.tmp 19) (.seq (.reg 0 [⟨(some 6),.mv (.const (.int .i64 9)),none,0⟩] none 0 []) .ret) .skip))))) (.seq (.reg 0 [⟨(some 6),.mv (.const (.int .i64 0)),none,0⟩] none 0 []) .ret)))
theorem gc108_ok:compF Tryz.prog Tryz.f108=some (gc108.er,23,[.tmp 6]):=by unfold gc108;kernel_rfl
theorem p_roster_State_may_v {u1 u2:Bool} (a0:RosterState) (a1:Bool) (a2:Bool):CallsO Tryz.prog 108 [.agg [.i a0.Ver,.i a0.Floor,.sl (List.map ItemItem.v a0.Items) u1,.sl (List.map RosterGone.v a0.Gone) u2],.b a1,.b a2] V.i (p_roster_State_may a0 a1 a2):=by
 refine callsO_comp mix Tryz.func108 gc108_ok fun r H=>?_
 rw [p_roster_State_may] at H
 conv=>whnf
 refine tst_d H (fun b1 H=>?_) (fun b1 H=>?_)
 ·conv=>whnf
  iterate 8 (refine Tst.F ?_;conv=>whnf)
  refine tst_c H (fun b6 H=>?_) (fun b6 H=>?_)
  ·conv=>whnf
   exact fi_ H
  conv=>whnf
  exact fi_ H
 conv=>whnf
 iterate 2 (refine Tst.T ?_;conv=>whnf)
 refine Tst.not ?_
 refine tst_c H (fun b2 H=>?_) (fun b2 H=>?_)
 ·conv=>whnf
  iterate 5 (refine Tst.F ?_;conv=>whnf)
  refine tst_c H (fun b3 H=>?_) (fun b3 H=>?_)
  ·conv=>whnf
   exact fi_ H
  conv=>whnf
  exact fi_ H
 conv=>whnf
 iterate 2 (refine Tst.T ?_;conv=>whnf)
 refine LenQ.M ?_;conv=>whnf
 iterate 2 (refine Tst.T ?_;conv=>whnf)
 refine tst_c H (fun b4 H=>?_) (fun b4 H=>?_)
 ·conv=>whnf
  exact fi_ H
 conv=>whnf
 refine tst_c H (fun b5 H=>?_) (fun b5 H=>?_)
 ·conv=>whnf
  exact fi_ H
 conv=>whnf
 exact fi_ H
end Go.Proofs.YtpmoioopjbfhkaaGreat

/- slices.Delete at function 169. -/
namespace Go.Proofs.YtpmoioopjbfhkaaGreat
open Go.RowKit Go.Lib
set_option maxHeartbeats 4000000
set_option maxRecDepth 100000
theorem delS169 (b n c i j:Nat) (cs:List Value) (w:World) (hij:i < j) (hj:j≤n) (hnc:n≤c) (hbig:n≤1000000) (hcl:cs.length=n * 5) (hcs:∀ t v,cs[t]?=some v→w.cell? ⟨b,t,none⟩=some v) (hfz:∀ t,t < n * 5→w.frozen? ⟨b,t,none⟩=false) (h1c:∀ v ∈ cs,v.oneCell'=true) :
  Calls Tryz.prog 169 #[.slice (some ⟨b,0,none⟩) n c,.int .i64 i,.int .i64 j] w fun e w'=>∃ zs:List Value,zs.length=(j - i) * 5∧(∀ v ∈ zs,v.oneCell'=true)∧e=.returned (.slice (some ⟨b,0,none⟩) (n - (j - i)) c)∧w'=(w.drew.setCells b (i * 5) (cs.drop (j * 5))).setCells b ((n - (j - i)) * 5) zs:=by
 have tS:Tryz.prog.underlying 47=some (.slice 26):=by kernel_rfl
 have uS:=run_underlying tS
 have mixed:Tryz.prog.follows .mixedOrders=true:=mix
 obtain ⟨i0,z,hi0,hzs,hz0,hzc,hzb,hz1⟩:=infB2_ok (P:=Tryz.prog) (e:=26) (es:=5) (by kernel_rfl)
 have hlen:(cs.drop (j * 5)).length=(n - j) * 5:=by rw [List.length_drop,hcl];omega
 obtain ⟨Ad,hA,hsrc⟩ : ∃ Ad:Addr,(if c=j then some (⟨b,0,none⟩ : Addr) else some ⟨b,j * 5,none⟩)=some Ad∧Hid (∀ t u,(cs.drop (j * 5))[t]?=some u→w.drew.cell? (Ad.add t)=some u):=by
  by_cases h:c=j
  ·refine ⟨⟨b,0,none⟩,by simp [h],fun t u hu=>?_⟩
   have:=(List.getElem?_eq_some_iff.1 hu).1
   omega
  ·refine ⟨⟨b,j * 5,none⟩,by simp [h],fun t u hu=>?_⟩
   rw [Addr.add_lit]
   exact hcs _ u (by rwa [List.getElem?_drop] at hu)
 have s1:Hid ((cs.drop (j * 5)).length=(n - j) * 5):=hlen
 have s2:Hid (∀ u ∈ cs.drop (j * 5),u.oneCell'=true):=fun u hu=>h1c u (List.mem_of_mem_drop hu)
 have hsome:∀ t,t < n * 5→(w.drew.cell? ⟨b,t,none⟩).isSome=true:=fun t ht=>by
  show (w.cell? ⟨b,t,none⟩).isSome=true
  rw [hcs t _ (List.getElem?_eq_getElem (by omega))];rfl
 have s3:Hid (∀ t,t < (cs.drop (j * 5)).length→(w.drew.cell? ⟨b,0 + i * 5 + t,none⟩).isSome=true∧w.drew.frozen? ⟨b,0 + i * 5 + t,none⟩=false):=fun t ht=>by
  rw [Nat.zero_add]
  exact ⟨hsome _ (by omega),hfz _ (by omega)⟩
 obtain ⟨W1,hW1⟩ : ∃ W1,W1=w.drew.setCells b (0 + i * 5) (cs.drop (j * 5)):=⟨_,rfl⟩
 have hin:∀ t,t < n * 5→(W1.cell? ⟨b,t,none⟩).isSome=true:=fun t ht=>by
  rw [hW1]
  exact isSome_setCells b _ _ _ (fun q hq=>by rw [Nat.zero_add];exact hsome _ (by omega)) _ (hsome t ht)
 have hfin:∀ t,t < n * 5→W1.frozen? ⟨b,t,none⟩=false:=fun t ht=>by
  rw [hW1,World.frozen?_setCells];exact hfz t ht
 have hzl:(Builtin.zeroCells z.cells (n - (i + (n - j)))).toList.length=(n - (i + (n - j))) * 5:=by rw [Array.length_toList,size_zeroCells,hzc]
 have hz1' : ∀ m,∀ v ∈ (Builtin.zeroCells z.cells m).toList,v.oneCell'=true:=zeroCells_one hz1
 have hcl2:∀ ty,(Builtin.clear_ #[47] ty #[.slice (some ⟨b,(i + (n - j)) * 5,none⟩) (n - (i + (n - j))) (c - (i + (n - j)))]).run Tryz.prog W1=.ok (.tuple #[]) (W1.setCells b ((i + (n - j)) * 5) (Builtin.zeroCells z.cells (n - (i + (n - j)))).toList) :=
  fun ty=>run_clear_es W1 47 26 ty z 5 tS (fun w=>by simp [zeroValue,typeInfo,hi0,hz0]) hzc hz1' b _ _ _ (by omega) (fun t ht=>hin _ (by omega)) (fun t ht=>hfin _ (by omega))
 obtain ⟨ZS,hZS⟩ : ∃ ZS,ZS=(Builtin.zeroCells z.cells (n - (i + (n - j)))).toList:=⟨_,rfl⟩
 rw [← hZS] at hcl2 hzl
 have hz2:∀ v ∈ ZS,v.oneCell'=true:=by rw [hZS];exact hz1' _
 have hic:i≤c:=by omega
 have hjc:j≤c:=by omega
 have hci:¬ (c=i):=by omega
 have hne:¬ ((i:Int)=(j:Int)):=by omega
 have hb1:(i:Int)≤(j:Int):=by omega
 have hb2:¬ (c=i + (n - j)):=by omega
 have main:Calls Tryz.prog 169 #[.slice (some ⟨b,0,none⟩) n c,.int .i64 i,.int .i64 j] w fun e w'=>e=.returned (.slice (some ⟨b,0,none⟩) (i + (n - j)) c)∧w'=W1.setCells b ((i + (n - j)) * 5) ZS:=by
  have hW:Hid (W1=w.drew.setCells b (0 + i * 5) (cs.drop (j * 5))):=hW1
  clear hW1 hz0 hz1 hz1' hzb hz2 hzl hlen hcs hsome hin hfin hZS
  go_enter Tryz.func169,Tryz.ntmps169
  go_wp2_with fail
  go_region_law_o (refine step_append_room rfl (.tmp 22) (.tmp 25) 47 rfl 26 i0 5 tS hi0 hzs b 0 i c (by simp [Act.eval,Act.put]) Ad (n - j) (c - j) (cs.drop (j * 5)) (by simp [Act.eval,Act.put]) s1.out hsrc.out s2.out (by omega) s3.out ?_;rw [← hW.out])
  go_wp2
  go_ret
  first | exact ⟨rfl,rfl⟩ | trace_state
 refine main.mono ?_
 rintro e w' ⟨rfl,rfl⟩
 have he:i + (n - j)=n - (j - i):=by omega
 refine ⟨ZS,by rw [hzl];congr 1;omega,hz2,by rw [he],by rw [hW1,Nat.zero_add,he]⟩
theorem delR169_v:DelRoads Tryz.prog 169 5:=⟨delS169⟩
end Go.Proofs.YtpmoioopjbfhkaaGreat

/- slices.Insert: its roads at function 170. -/
namespace Go.Proofs.YtpmoioopjbfhkaaGreat
open Go.RowKit Go.Lib
set_option maxHeartbeats 4000000
set_option maxRecDepth 100000
theorem insS170 (b n c i vb voff vc:Nat) (cs vs:List Value) (w:World) (tA tB:TypeId) (kA kB:Nat) (hi:i < n) (hroom:n + 1≤c) (hbig:n + 1≤1000000) (hvb:vb≠b) (hcl:cs.length=n * 5) (hvl:vs.length=5)
  (hcs:∀ j v,cs[j]?=some v→w.cell? ⟨b,j,none⟩=some v) (hsp:∀ j,j < (n + 1) * 5→(w.cell? ⟨b,j,none⟩).isSome=true) (hfz:∀ j,j < (n + 1) * 5→w.frozen? ⟨b,j,none⟩=false)
  (hvs:∀ j v,vs[j]?=some v→w.cell? ⟨vb,voff + j,none⟩=some v) (h1c:∀ v ∈ cs,v.oneCell'=true) (h1v:∀ v ∈ vs,v.oneCell'=true)
  (hsa:w.shape? vb=some (tA,kA)) (hsb:w.shape? b=some (tB,kB)) (hkA:kA≠0) (hkB:kB≠0) (hfe:w.frozen? ⟨b,kB,none⟩=false) :
  Calls Tryz.prog 170 #[.slice (some ⟨b,0,none⟩) n c,.int .i64 i,.slice (some ⟨vb,voff,none⟩) 1 vc] w fun e w' =>
   e=.returned (.slice (some ⟨b,0,none⟩) (n + 1) c)∧w'=(w.drew.setCells b ((i + 1) * 5) (cs.drop (i * 5))).setCells b (i * 5) vs:=by
 have tS:Tryz.prog.underlying 47=some (.slice 26):=by kernel_rfl
 have tV:Tryz.prog.underlying 47=some (.slice 26):=by kernel_rfl
 have tI:Tryz.prog.underlying 3=some (.int .i64):=by kernel_rfl
 have uS:=run_underlying tS
 have uV:=run_underlying tV
 have uI:=run_underlying tI
 have mixed:Tryz.prog.follows .mixedOrders=true:=mix
 obtain ⟨i0,z,hi0,hzs,hz0,hzc,hzb⟩:=infB_ok (P:=Tryz.prog) (e:=26) (es:=5) (by kernel_rfl)
 have hsz:(Tryz.prog.info? 26).map (·.size)=some 5:=by rw [hi0];simp [hzs]
 have hov:∀ lb cb,(callFunc 219 #[.slice (some ⟨vb,voff,none⟩) 1 vc,.slice (some ⟨b,(i + 1) * 5,none⟩) lb cb]).run Tryz.prog w=.ok (.value (.bool false)) w:=fun lb cb=>by
  rw [run_callFunc_extern Tryz.func219 (by kernel_rfl) (by kernel_rfl) (by kernel_rfl) (e:=Extern.SlicesOverlaps.overlaps #[47,47] #[4]) (by kernel_rfl),
   run_overlaps_own w 47 4 26 tV 5 (fun w=>by rw [← hzs];exact run_sizeOf hi0 w) ⟨vb,voff,none⟩ ⟨b,(i + 1) * 5,none⟩ 1 vc lb cb hvb tA tB kA kB hsa hsb hkA hkB (hfz _ (by omega)) hfe]
  rfl
 have hdl:(cs.drop (i * 5)).length=(n - i) * 5:=by rw [List.length_drop,hcl];omega
 have hz2:¬ ((i:Int)=(n:Int)):=by omega
 have hw1:IntKind.i64.wrap ((i:Int) + 1)=(i:Int) + 1:=by rw [IntKind.wrap_i64];omega
 have hwn:IntKind.i64.wrap ((n:Int) + 1)=(n:Int) + 1:=by rw [IntKind.wrap_i64];omega
 have hb1:(0:Int)≤(i:Int) + 1:=by omega
 have hin:i≤n:=by omega
 have htn:((i:Int) + 1).toNat=i + 1:=by omega
 have htm:((n:Int) + 1).toNat=n + 1:=by omega
 have hb2:¬ (c=i + 1):=by omega
 have hb3:(i:Int)≤(n:Int) + 1:=by omega
 have hb4:¬ (c=i):=by omega
 have hb5:¬ ((c:Int) < (n:Int) + 1):=by omega
 have hb6:(n:Int) + 1≤(c:Int):=by omega
 have hm1:Nat.min (n + 1 - i) (n - i)=n - i:=by simp only [Nat.min_def];split <;> omega
 have hm2:Nat.min 1 (n + 1 - i)=1:=by simp only [Nat.min_def];split <;> omega
 have hcp1:∀ ty dc sc,(Builtin.copy_ #[47,47] ty #[.slice (some ⟨b,(i + 1) * 5,none⟩) (n - i) dc,.slice (some ⟨b,i * 5,none⟩) (n + 1 - i) sc]).run Tryz.prog w.drew=.ok (goInt (Nat.min (n + 1 - i) (n - i))) (w.drew.setCells b ((i + 1) * 5) (cs.drop (i * 5))):=fun ty dc sc =>
  run_copy_es w.drew _ _ ty 26 5 b ((i + 1) * 5) (n - i) dc ⟨b,i * 5,none⟩ (n + 1 - i) sc (cs.drop (i * 5)) tS hsz (by rw [hm1];exact hdl)
   (fun j v hj=>by rw [Addr.add_lit];exact hcs (i * 5 + j) v (by rwa [List.getElem?_drop] at hj))
   (fun j hj=>hsp _ (by omega)) (fun j hj=>hfz _ (by omega)) (fun v hv=>h1c v (List.mem_of_mem_drop hv))
 obtain ⟨W1,hW1⟩ : ∃ W1,W1=w.drew.setCells b ((i + 1) * 5) (cs.drop (i * 5)):=⟨_,rfl⟩
 have hsp1:∀ k,k < (n + 1) * 5→(W1.cell? ⟨b,k,none⟩).isSome=true:=fun k hk=>by
  rw [hW1]
  exact isSome_setCells b (cs.drop (i * 5)) ((i + 1) * 5) w.drew (fun j hj=>hsp _ (by omega)) _ (hsp k hk)
 have hcp2:∀ (W:World),(∀ x,W.cell? x=W1.cell? x)→(∀ x,W.frozen? x=W1.frozen? x)→∀ ty dc,(Builtin.copy_ #[47,47] ty #[.slice (some ⟨b,i * 5,none⟩) (n + 1 - i) dc,.slice (some ⟨vb,voff,none⟩) 1 vc]).run Tryz.prog W=.ok (goInt (Nat.min 1 (n + 1 - i))) (W.setCells b (i * 5) vs):=fun W hWc hWf ty dc =>
  run_copy_es W _ _ ty 26 5 b (i * 5) (n + 1 - i) dc ⟨vb,voff,none⟩ 1 vc vs tS hsz (by rw [hm2,hvl])
   (fun j v hj=>by
    rw [Addr.add_lit,hWc,hW1,World.cell?_setCells_out b _ _ _ _ (fun h _=>absurd h hvb)]
    exact hvs j v hj)
   (fun j hj=>by rw [hWc];exact hsp1 _ (by omega)) (fun j hj=>by rw [hWf,hW1,World.frozen?_setCells];exact hfz _ (by omega)) h1v
 rw [← hW1] at hcp1
 go_enter Tryz.func170,Tryz.ntmps170
 go_wp2_with (simp only [hov])
 go_region_law_o (refine step_copy_runI rfl _ _ 47 47 rfl _ _ (by simp [Act.eval,Act.put]) (by simp [Act.eval,Act.put]) (hcp1 _ _ _) ?_)
 go_wp2_with (at_builtin;refine wpList_copy_runI _ rfl _ _ 47 47 rfl _ _ rfl rfl (hcp2 _ (fun _=>rfl) (fun _=>rfl) _ _) ?_)
 go_ret
 first | exact ⟨rfl,rfl⟩ | exact ⟨rfl,by rw [hW1]⟩
theorem insE170 (b n c vb voff vc:Nat) (vs:List Value) (w:World) (hroom:n + 1≤c) (hbig:n + 1≤1000000) (hvl:vs.length=5)
  (hsp:∀ j,j < 5→(w.cell? ⟨b,n * 5 + j,none⟩).isSome=true) (hfz:∀ j,j < 5→w.frozen? ⟨b,n * 5 + j,none⟩=false)
  (hvs:∀ j v,vs[j]?=some v→w.cell? ⟨vb,voff + j,none⟩=some v) (h1v:∀ v ∈ vs,v.oneCell'=true) :
  Calls Tryz.prog 170 #[.slice (some ⟨b,0,none⟩) n c,.int .i64 n,.slice (some ⟨vb,voff,none⟩) 1 vc] w fun e w' =>
   e=.returned (.slice (some ⟨b,0,none⟩) (n + 1) c)∧w'=w.setCells b (n * 5) vs:=by
 have tS:Tryz.prog.underlying 47=some (.slice 26):=by kernel_rfl
 have tV:Tryz.prog.underlying 47=some (.slice 26):=by kernel_rfl
 have tI:Tryz.prog.underlying 3=some (.int .i64):=by kernel_rfl
 have uS:=run_underlying tS
 have uV:=run_underlying tV
 have uI:=run_underlying tI
 have mixed:Tryz.prog.follows .mixedOrders=true:=mix
 obtain ⟨i0,z,hi0,hzs,hz0,hzc,hzb⟩:=infB_ok (P:=Tryz.prog) (e:=26) (es:=5) (by kernel_rfl)
 have hsz:(Tryz.prog.info? 26).map (·.size)=some 5:=by rw [hi0];simp [hzs]
 have hsrc:Src Tryz.prog 5 47 (.slice (some ⟨vb,voff,none⟩) 1 vc) 1 vs w:=Src.ofSlice w tV ⟨vb,voff,none⟩ 1 vc vs (by omega) (fun j u hj=>by rw [Addr.add_lit];exact hvs j u hj) h1v
 have hrun:∀ ty,(Builtin.append_ #[47,47] ty #[.slice (some ⟨b,0,none⟩) n c,.slice (some ⟨vb,voff,none⟩) 1 vc]).run Tryz.prog w=_:=fun ty =>
  run_append_room_src w 47 47 ty 26 i0 tS hi0 b 0 n c _ 1 vs (by rw [hzs];exact hsrc) hroom (by rw [hzs,hvl,Nat.zero_add];exact hsp) (by rw [hzs,hvl,Nat.zero_add];exact hfz)
 rw [hzs,Nat.zero_add] at hrun
 go_enter Tryz.func170,Tryz.ntmps170
 go_wp2_with (at_builtin;refine Lib.wpList_append_run _ rfl _ _ _ _ rfl _ _ rfl rfl _ _ (hrun _) ?_)
 all_goals (go_ret;exact ⟨rfl,rfl⟩)
theorem insG170 (base:Option Addr) (n c vb voff vc:Nat) (cs vs:List Value) (w:World) (hnc:n≤c) (hroom:c < n + 1) (hbig:n + 1≤1000000) (hcl:cs.length=n * 5) (hvl:vs.length=5) (hnil:base=none→n=0)
  (hcs:∀ a,base=some a→∀ j v,cs[j]?=some v→w.cell? (a.add j)=some v) (hvs:∀ j v,vs[j]?=some v→w.cell? ⟨vb,voff + j,none⟩=some v) (h1v:∀ v ∈ vs,v.oneCell'=true) :
  Calls Tryz.prog 170 #[.slice base n c,.int .i64 n,.slice (some ⟨vb,voff,none⟩) 1 vc] w fun e w' =>
   ∃ zs:Array Value,e=.returned (.slice (some ⟨w.heap.size,0,none⟩) (n + 1) (grownCap w (n + 1) c 26))∧w'=w.drew.alloc (.cells ((cs++vs).toArray++zs) 26):=by
 have tS:Tryz.prog.underlying 47=some (.slice 26):=by kernel_rfl
 have tV:Tryz.prog.underlying 47=some (.slice 26):=by kernel_rfl
 have tI:Tryz.prog.underlying 3=some (.int .i64):=by kernel_rfl
 have uS:=run_underlying tS
 have uV:=run_underlying tV
 have uI:=run_underlying tI
 have mixed:Tryz.prog.follows .mixedOrders=true:=mix
 obtain ⟨i0,z,hi0,hzs,hz0,hzc,hzb⟩:=infB_ok (P:=Tryz.prog) (e:=26) (es:=5) (by kernel_rfl)
 have hsz:(Tryz.prog.info? 26).map (·.size)=some 5:=by rw [hi0];simp [hzs]
 have hsrc:Src Tryz.prog i0.size 47 (.slice (some ⟨vb,voff,none⟩) 1 vc) 1 vs w:=by
  rw [hzs]
  exact Src.ofSlice w tV ⟨vb,voff,none⟩ 1 vc vs (by omega) (fun j u hj=>by rw [Addr.add_lit];exact hvs j u hj) h1v
 have hold:(Builtin.firstCells i0.size n (.slice base n c)).run Tryz.prog w.drew=.ok cs.toArray w.drew:=by
  rw [hzs]
  cases base with
  | none =>
   have h0:=hnil rfl
   subst h0
   rw [List.length_eq_zero_iff.1 (by omega:cs.length=0)]
   exact run_firstCells_none w.drew 5 0 0 c
  | some a=>exact run_firstCells_some w.drew 5 n a n c cs hcl (fun j v hj=>hcs a rfl j v hj)
 have hrun:∀ ty,(Builtin.append_ #[47,47] ty #[.slice base n c,.slice (some ⟨vb,voff,none⟩) 1 vc]).run Tryz.prog w=_:=fun ty =>
  run_append_grow_src w 47 47 ty 26 i0 z tS hi0 hz0 base n c cs hold _ 1 vs hsrc hroom (by omega) (growslice_fits hroom (grown_bound hbig hzb))
 obtain ⟨ZS,hrun⟩ : ∃ ZS:Array Value,∀ ty,(Builtin.append_ #[47,47] ty #[.slice base n c,.slice (some ⟨vb,voff,none⟩) 1 vc]).run Tryz.prog w=.ok (.slice (some ⟨w.heap.size,0,none⟩) (n + 1) (grownCap w (n + 1) c 26)) (w.drew.alloc (.cells ((cs++vs).toArray++ZS) 26)):=⟨_,hrun⟩
 have main:Calls Tryz.prog 170 #[.slice base n c,.int .i64 n,.slice (some ⟨vb,voff,none⟩) 1 vc] w fun e w' =>
   e=.returned (.slice (some ⟨w.heap.size,0,none⟩) (n + 1) (grownCap w (n + 1) c 26))∧w'=w.drew.alloc (.cells ((cs++vs).toArray++ZS) 26):=by
  clear hz0 hold hsrc
  go_enter Tryz.func170,Tryz.ntmps170
  cases base with
  | none =>
   have h0:=hnil rfl
   subst h0
   go_wp2_with (at_builtin;refine Lib.wpList_append_run _ rfl _ _ _ _ rfl _ _ rfl rfl _ _ (hrun _) ?_)
   go_ret
   exact ⟨rfl,rfl⟩
  | some a =>
   obtain ⟨ab,ao,asp⟩:=a
   go_wp2_with (at_builtin;refine Lib.wpList_append_run _ rfl _ _ _ _ rfl _ _ rfl rfl _ _ (hrun _) ?_)
   all_goals (go_ret;exact ⟨rfl,rfl⟩)
 refine main.mono ?_
 rintro e w' ⟨rfl,rfl⟩
 exact ⟨ZS,rfl,rfl⟩
theorem insW170 (b n c i vb voff vc:Nat) (cs vs:List Value) (w:World) (hi:i < n) (hnc:n≤c) (hroom:c < n + 1) (hbig:n + 1≤1000000) (hcl:cs.length=n * 5) (hvl:vs.length=5)
  (hcs:∀ j v,cs[j]?=some v→w.cell? ⟨b,j,none⟩=some v) (hvs:∀ j v,vs[j]?=some v→w.cell? ⟨vb,voff + j,none⟩=some v) (h1c:∀ v ∈ cs,v.oneCell'=true) (h1v:∀ v ∈ vs,v.oneCell'=true) :
  Calls Tryz.prog 170 #[.slice (some ⟨b,0,none⟩) n c,.int .i64 i,.slice (some ⟨vb,voff,none⟩) 1 vc] w fun e w' =>
   ∃ ROW:Array Value,(n + 1) * 5≤ROW.size∧(∀ (j:Nat) (v:Value),(cs.take (i * 5))[j]?=some v→ROW[j]?=some v)∧e=.returned (.slice (some ⟨w.heap.size,0,none⟩) (n + 1) (grownCap w (n + 1) c 26)) ∧
    w'=(((w.alloc (.cells ROW 26)).drew.setCells w.heap.size (i * 5) vs).drew).setCells w.heap.size ((i + 1) * 5) (cs.drop (i * 5)):=by
 have tS:Tryz.prog.underlying 47=some (.slice 26):=by kernel_rfl
 have tV:Tryz.prog.underlying 47=some (.slice 26):=by kernel_rfl
 have tI:Tryz.prog.underlying 3=some (.int .i64):=by kernel_rfl
 have uS:=run_underlying tS
 have uV:=run_underlying tV
 have uI:=run_underlying tI
 have mixed:Tryz.prog.follows .mixedOrders=true:=mix
 obtain ⟨i0,z,hi0,hzs,hz0,hzc,hzb⟩:=infB_ok (P:=Tryz.prog) (e:=26) (es:=5) (by kernel_rfl)
 have hsz:(Tryz.prog.info? 26).map (·.size)=some 5:=by rw [hi0];simp [hzs]
 have hz2:¬ ((i:Int)=(n:Int)):=by omega
 have hz3:(c:Int) < (n:Int) + 1:=by omega
 have hbw:b < w.heap.size:=block_lt_of_cell (hcs 0 _ (List.getElem?_eq_getElem (by omega)))
 have hvw:vb < w.heap.size:=block_lt_of_cell (hvs 0 _ (List.getElem?_eq_getElem (by omega)))
 have hwk:IntKind.i64.wrap ((n:Int) + 1 - (i:Int))=((n + 1 - i:Nat):Int):=by rw [IntKind.wrap_i64];omega
 have hik:i + (n + 1 - i)=n + 1:=by omega
 have hold:(Builtin.firstCells i0.size i (.slice (some ⟨b,0,none⟩) i c)).run Tryz.prog w.drew=.ok (cs.take (i * 5)).toArray w.drew:=by
  rw [hzs]
  exact run_firstCells_some w.drew 5 i ⟨b,0,none⟩ i c (cs.take (i * 5)) (by rw [List.length_take];omega) (fun j v hj=>by
   rw [Addr.add_lit,Nat.zero_add]
   rw [List.getElem?_take] at hj
   split at hj
   ·exact hcs j v hj
   ·cases hj)
 have hbk:(n + 1 - i) * i0.bytes≤281474976710656:=by
  have:(n + 1 - i) * i0.bytes≤1000000 * 1000:=Nat.mul_le_mul (by omega) hzb
  omega
 have hrz:∀ ty,(Builtin.append_ #[47,3] ty #[.slice (some ⟨b,0,none⟩) i c,.int .i64 ((n + 1 - i:Nat):Int)]).run Tryz.prog w =
   .ok (.slice (some ⟨w.heap.size,0,none⟩) (n + 1) (grownCap w (n + 1) c 26)) (w.drew.alloc (.cells ((cs.take (i * 5)).toArray++Builtin.zeroCells z.cells (n + 1 - i)++Builtin.zeroCells z.cells (grownCap w (n + 1) c 26 - (n + 1))) 26)):=fun ty=>by
  have h:=Lib.run_append_grow_zeros w 47 3 ty 26 i0 z .i64 .i64 tS tI hi0 hz0 (some ⟨b,0,none⟩) i c (cs.take (i * 5)) hold (n + 1 - i) (by omega) (by omega) (by omega) (by omega) hbk (by rw [hik];exact growslice_fits hroom (grown_bound hbig hzb))
  rw [hik] at h
  exact h
 obtain ⟨G,hG⟩ : ∃ G,G=grownCap w (n + 1) c 26:=⟨_,rfl⟩
 obtain ⟨ROW,hROW⟩ : ∃ ROW:Array Value,ROW=(cs.take (i * 5)).toArray++Builtin.zeroCells z.cells (n + 1 - i)++Builtin.zeroCells z.cells (G - (n + 1)):=⟨_,rfl⟩
 rw [← hG] at hrz ⊢
 rw [← hROW] at hrz
 have hRl:(n + 1) * 5≤ROW.size:=by
  rw [hROW]
  simp only [Array.size_append,size_zeroCells,hzc,List.size_toArray,List.length_take]
  omega
 have hRt:∀ (j:Nat) (v:Value),(cs.take (i * 5))[j]?=some v→ROW[j]?=some v:=fun j v h=>by
  have hl:=(List.getElem?_eq_some_iff.1 h).1
  rw [hROW,Array.append_assoc,Array.getElem?_append_left (by simpa using hl),List.getElem?_toArray]
  exact h
 obtain ⟨W1,hW1⟩ : ∃ W1,W1=w.drew.alloc (.cells ROW 26):=⟨_,rfl⟩
 rw [← hW1] at hrz
 have hN:∀ j,j < (n + 1) * 5→(W1.cell? ⟨w.heap.size,j,none⟩).isSome=true:=fun j hj=>by
  rw [hW1,World.cell?_alloc_at (w:=w.drew) ROW _ w.heap.size j rfl,Array.getElem?_eq_getElem (by omega)];rfl
 have hNf:∀ j,W1.frozen? ⟨w.heap.size,j,none⟩=false:=fun j=>by rw [hW1];exact World.frozen?_alloc_at (w:=w.drew) ROW _ w.heap.size j rfl
 have hOb:∀ j v,w.cell? ⟨b,j,none⟩=some v→W1.cell? ⟨b,j,none⟩=some v:=fun j v h=>by rw [hW1,World.cell?_alloc_past (w:=w.drew) _ b j hbw];exact h
 have hOv:∀ j v,w.cell? ⟨vb,j,none⟩=some v→W1.cell? ⟨vb,j,none⟩=some v:=fun j v h=>by rw [hW1,World.cell?_alloc_past (w:=w.drew) _ vb j hvw];exact h
 have hmA:Nat.min 1 (n + 1 - i)=1:=by simp only [Nat.min_def];split <;> omega
 have hmB:Nat.min (n - i) (n - i)=n - i:=Nat.min_self _
 have hcpA:∀ (W:World),(∀ x,W.cell? x=W1.cell? x)→(∀ x,W.frozen? x=W1.frozen? x)→∀ ty dc,(Builtin.copy_ #[47,47] ty #[.slice (some ⟨w.heap.size,i * 5,none⟩) (n + 1 - i) dc,.slice (some ⟨vb,voff,none⟩) 1 vc]).run Tryz.prog W=.ok (goInt (Nat.min 1 (n + 1 - i))) (W.setCells w.heap.size (i * 5) vs):=fun W hWc hWf ty dc =>
  run_copy_es W _ _ ty 26 5 w.heap.size (i * 5) (n + 1 - i) dc ⟨vb,voff,none⟩ 1 vc vs tS hsz (by rw [hmA,hvl])
   (fun j v hj=>by rw [Addr.add_lit,hWc];exact hOv _ v (hvs j v hj))
   (fun j hj=>by rw [hWc];exact hN _ (by omega)) (fun j hj=>by rw [hWf];exact hNf _) h1v
 have hGn:n + 1≤G:=by rw [hG];exact grownCap_ge w _ _ _
 have hGi:¬ (G=i):=by omega
 have hGim:¬ (G=i + 1):=by omega
 have hci:¬ (c=i):=by omega
 have hbN:b≠w.heap.size:=by omega
 have hdl:(cs.drop (i * 5)).length=(n - i) * 5:=by rw [List.length_drop,hcl];omega
 have hcpB:∀ (W:World),(∀ x,W.cell? x=(W1.setCells w.heap.size (i * 5) vs).cell? x)→(∀ x,W.frozen? x=(W1.setCells w.heap.size (i * 5) vs).frozen? x)→∀ ty dc sc,(Builtin.copy_ #[47,47] ty #[.slice (some ⟨w.heap.size,(i + 1) * 5,none⟩) (n - i) dc,.slice (some ⟨b,i * 5,none⟩) (n - i) sc]).run Tryz.prog W=.ok (goInt (Nat.min (n - i) (n - i))) (W.setCells w.heap.size ((i + 1) * 5) (cs.drop (i * 5))):=fun W hWc hWf ty dc sc =>
  run_copy_es W _ _ ty 26 5 w.heap.size ((i + 1) * 5) (n - i) dc ⟨b,i * 5,none⟩ (n - i) sc (cs.drop (i * 5)) tS hsz (by rw [hmB];exact hdl)
   (fun j v hj=>by
    rw [Addr.add_lit,hWc,World.cell?_setCells_out _ _ _ _ _ (fun h _=>absurd h hbN)]
    exact hOb _ v (hcs (i * 5 + j) v (by rwa [List.getElem?_drop] at hj)))
   (fun j hj=>by rw [hWc];exact isSome_setCells _ _ _ _ (fun t ht=>hN _ (by omega)) _ (hN _ (by omega)))
   (fun j hj=>by rw [hWf,World.frozen?_setCells];exact hNf _) (fun v hv=>h1c v (List.mem_of_mem_drop hv))
 subst hW1
 have hE1:∀ x,((w.alloc (.cells ROW 26)).drew).cell? x=(w.drew.alloc (.cells ROW 26)).cell? x:=fun x=>rfl
 have hE2:∀ x,((w.alloc (.cells ROW 26)).drew).frozen? x=(w.drew.alloc (.cells ROW 26)).frozen? x:=fun x=>rfl
 have hF1:∀ x,(((w.alloc (.cells ROW 26)).drew.setCells w.heap.size (i * 5) vs).drew).cell? x=((w.drew.alloc (.cells ROW 26)).setCells w.heap.size (i * 5) vs).cell? x:=fun x=>rfl
 have hF2:∀ x,(((w.alloc (.cells ROW 26)).drew.setCells w.heap.size (i * 5) vs).drew).frozen? x=((w.drew.alloc (.cells ROW 26)).setCells w.heap.size (i * 5) vs).frozen? x:=fun x=>rfl
 have hw1:IntKind.i64.wrap ((i:Int) + 1)=(i:Int) + 1:=by rw [IntKind.wrap_i64];omega
 have hwn:IntKind.i64.wrap ((n:Int) + 1)=(n:Int) + 1:=by rw [IntKind.wrap_i64];omega
 have hb1:(0:Int)≤(i:Int) + 1:=by omega
 have hin:i≤n:=by omega
 have htn:((i:Int) + 1).toNat=i + 1:=by omega
 have hb3:(i:Int)≤(n:Int):=by omega
 have main:Calls Tryz.prog 170 #[.slice (some ⟨b,0,none⟩) n c,.int .i64 i,.slice (some ⟨vb,voff,none⟩) 1 vc] w fun e w' =>
   e=.returned (.slice (some ⟨w.heap.size,0,none⟩) (n + 1) G)∧w'=(((w.alloc (.cells ROW 26)).drew.setCells w.heap.size (i * 5) vs).drew).setCells w.heap.size ((i + 1) * 5) (cs.drop (i * 5)):=by
  clear hik hold hROW hG hRl hRt hbk hz0
  go_enter Tryz.func170,Tryz.ntmps170
  go_wp2_with (first
   | (at_builtin;refine Lib.wpList_append_run _ rfl _ _ _ _ rfl _ _ rfl rfl _ _ (hrz _) ?_)
   | (at_builtin;refine wpList_copy_runI _ rfl _ _ 47 47 rfl _ _ rfl rfl (hcpA _ hE1 hE2 _ _) ?_))
  go_region_law_o (refine step_copy_runI rfl _ _ 47 47 rfl (.slice (some ⟨w.heap.size,(i + 1) * 5,none⟩) (n - i) (G - (i + 1))) (.slice (some ⟨b,i * 5,none⟩) (n - i) (c - i)) (by simp [Act.eval,Act.put]) (by simp [Act.eval,Act.put]) (hcpB _ hF1 hF2 3 (G - (i + 1)) (c - i)) ?_)
  go_wp2
  go_ret
  first | exact ⟨rfl,rfl⟩ | trace_state
 refine main.mono ?_
 rintro e w' ⟨rfl,rfl⟩
 exact ⟨ROW,hRl,hRt,rfl,rfl⟩
theorem insR170_v:InsRoads Tryz.prog 170 5 26:=⟨insS170,insE170,insG170,insW170⟩
end Go.Proofs.YtpmoioopjbfhkaaGreat

