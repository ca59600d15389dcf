/- A part of the proof: 5 texts joined. -/
import Derived.Test.YtpmoioopjbfhkaaGreatWbA8
import Derived.Test.YtpmoioopjbfhkaaGreatWbA7
import Derived.Test.YtpmoioopjbfhkaaGreatWbA9
import Derived.Test.YtpmoioopjbfhkaaGreatWbA6
import Derived.KernelRfl
import Derived.Lib.SliceRun
set_option linter.all false
/- That the program's functions yield what the plain ones tell (written by a program of mine). -/
namespace Go.Proofs.YtpmoioopjbfhkaaGreat
open Go.RowKit
set_option maxRecDepth 100000
set_option maxHeartbeats 4000000
def gc25:BCode:=(.seq (.reg 2 [⟨(some 1),.bx (.tmp 0),none,0⟩,⟨(some 2),.al (.agg [(.lit (.int .u8 0)),(.lit (.string ⟨#[]⟩)),(.lit (.string ⟨#[]⟩)),(.lit (.string ⟨#[]⟩)),(.lit (.int .i64 0)),(.lit (.int .i64 0)),(.lit (.int .i64 0)),(.lit (.int .i64 0))]),none,1⟩] none 0 []) (.seq (.seq (.reg 0 [⟨(some 3),.ld 5 true (.tmp 1),none,0⟩,⟨(some 4),.cl 15 [(.tmp 3)],none,0⟩,⟨(some 5),.bin .neq (.tmp 4) (.const (.int .i64 0)),none,0⟩] none 0 []) (.cond (.tmp 5) (.seq (.reg 0 [⟨(some 6),.bd [(.lit (.int .u8 0)),(.lit (.string ⟨#[]⟩)),(.lit (.string ⟨#[]⟩)),(.lit (.string ⟨#[]⟩)),(.lit (.int .i64 0)),(.lit (.int .i64 0)),(.lit (.int .i64 0)),(.lit (.int .i64 0))] [],none,0⟩,⟨none,.st 8 (.tmp 2) (.tmp 6),none,0⟩] none 0 []) .ret) .skip)) (.seq (.seq (.reg 0 [⟨(some 7),.ld 5 true (.tmp 1),none,0⟩,⟨(some 8),.cl 17 [(.tmp 7)],none,0⟩,⟨(some 9),.un .not (.tmp 8),none,0⟩] none 0 []) (.cond (.tmp 9) (.seq (.reg 0 [⟨(some 10),.fa 0 (.tmp 1),none,0⟩,⟨(some 11),.ld 1 false (.tmp 10),none,0⟩,⟨(some 12),.fa 3 (.tmp 1),none,0⟩,⟨(some 13),.ld 1 false (.tmp 12),none,0⟩,⟨(some 14),.bd [(.lit (.int .u8 0)),(.lit (.string ⟨#[]⟩)),(.lit (.string ⟨#[]⟩)),(.lit (.string ⟨#[]⟩)),(.lit (.int .i64 0)),(.lit (.int .i64 0)),(.lit (.int .i64 0)),(.lit (.int .i64 0))] [(0,1,(.const (.int .u8 39))),(1,1,(.tmp 11)),(7,1,(.tmp 13))],none,0⟩,⟨none,.st 8 (.tmp 2) (.tmp 14),none,0⟩] none 0 []) .ret) .skip)) (.seq (.reg 0 [⟨(some 15),.fa 0 (.tmp 1),none,0⟩,⟨(some 16),.ld 1 false (.tmp 15),none,0⟩,⟨(some 17),.fa 1 (.tmp 1),none,0⟩,⟨(some 18),.ld 1 false (.tmp 17),none,0⟩,⟨(some 19),.fa 2 (.tmp 1),none,0⟩,⟨(some 20),.ld 1 false (.tmp 19),none,0⟩,⟨(some 21),.bin .andNot (.tmp 20) (.const (.int .i64 8)),none,0⟩,⟨(some 22),.fa 3 (.tmp 1),none,0⟩,⟨(some 23),.ld 1 false (.tmp 22),none,0⟩,⟨(some 24),.bd [(.lit (.int .u8 0)),(.lit (.string ⟨#[]⟩)),(.lit (.string ⟨#[]⟩)),(.lit (.string ⟨#[]⟩)),(.lit (.int .i64 0)),(.lit (.int .i64 0)),(.lit (.int .i64 0)),(.lit (.int .i64 0))] [(0,1,(.const (.int .u8 38))),(1,1,(.tmp 16)),(3,1,(.tmp 18)),(4,1,(.tmp 21)),(7,1,(.tmp 23))],none,0⟩,⟨none,.st 8 (.tmp 2) (.tmp 24),none,0⟩] none 0 []) .ret))))
theorem gc25_ok:compF Tryz.prog Tryz.f25=some (gc25.er,25,[.cell 2 8 true]):=by unfold gc25;kernel_rfl
theorem p_item_Push_v (a0:ItemItem):CallsO Tryz.prog 25 [.agg [.s a0.Contact,.s a0.Name,.i a0.Sub,.i a0.Ver,.b a0.Own]] StanzaStanza.v (p_item_Push a0):=by
 refine callsO_comp mix Tryz.func25 gc25_ok fun r H=>?_
 rw [p_item_Push] at H
 conv=>whnf
 refine ask_c (p_item_Check_v _) H rfl rfl (fun v1 H=>?_);conv=>whnf
 refine tst_c H (fun b2 H=>?_) (fun b2 H=>?_)
 ·conv=>whnf
  refine ⟨Nat.le_of_ble_eq_true rfl,?_⟩;conv=>whnf
  exact fin0_c (enc:=StanzaStanza.v) H (.inr rfl) (.cons (.cell rfl rfl (Nat.le_of_ble_eq_true rfl)) (.nil)) rfl rfl
 conv=>whnf
 refine ask_c (p_item_Listed_v _) H rfl rfl (fun v3 H=>?_);conv=>whnf
 refine Tst.not ?_
 refine tst_c H (fun b4 H=>?_) (fun b4 H=>?_)
 ·conv=>whnf
  refine ⟨Nat.le_of_ble_eq_true rfl,?_⟩;conv=>whnf
  exact fin0_c (enc:=StanzaStanza.v) H (.inr rfl) (.cons (.cell rfl rfl (Nat.le_of_ble_eq_true rfl)) (.nil)) rfl rfl
 conv=>whnf
 refine ⟨Nat.le_of_ble_eq_true rfl,?_⟩;conv=>whnf
 exact fin0_c (enc:=StanzaStanza.v) H (.inr rfl) (.cons (.cell rfl rfl (Nat.le_of_ble_eq_true rfl)) (.nil)) rfl rfl
def gc26:BCode:=(.seq (.reg 2 [⟨(some 1),.bx (.tmp 0),none,0⟩,⟨(some 2),.al (.agg [(.lit (.int .u8 0)),(.lit (.string ⟨#[]⟩)),(.lit (.string ⟨#[]⟩)),(.lit (.string ⟨#[]⟩)),(.lit (.int .i64 0)),(.lit (.int .i64 0)),(.lit (.int .i64 0)),(.lit (.int .i64 0))]),none,1⟩] none 0 []) (.seq (.block 0 (.seq (.reg 0 [⟨(some 4),.ld 5 true (.tmp 1),none,0⟩,⟨(some 5),.cl 16 [(.tmp 4)],none,0⟩,⟨(some 6),.bin .neq (.tmp 5) (.const (.int .i64 0)),none,0⟩,⟨(some 3),.mv (.tmp 6),none,0⟩] none 0 []) (.cond (.tmp 3) (.seq (.reg 0 [⟨(some 7),.bd [(.lit (.int .u8 0)),(.lit (.string ⟨#[]⟩)),(.lit (.string ⟨#[]⟩)),(.lit (.string ⟨#[]⟩)),(.lit (.int .i64 0)),(.lit (.int .i64 0)),(.lit (.int .i64 0)),(.lit (.int .i64 0))] [],none,0⟩,⟨none,.st 8 (.tmp 2) (.tmp 7),none,0⟩] none 0 []) .ret) (.seq (.reg 0 [⟨(some 9),.ld 5 true (.tmp 1),none,0⟩,⟨(some 10),.cl 18 [(.tmp 9)],none,0⟩,⟨(some 11),.un .not (.tmp 10),none,0⟩,⟨(some 8),.mv (.tmp 11),none,0⟩] none 0 []) (.cond (.tmp 8) (.seq (.reg 0 [⟨(some 12),.fa 0 (.tmp 1),none,0⟩,⟨(some 13),.ld 1 false (.tmp 12),none,0⟩,⟨(some 14),.fa 3 (.tmp 1),none,0⟩,⟨(some 15),.ld 1 false (.tmp 14),none,0⟩,⟨(some 16),.bd [(.lit (.int .u8 0)),(.lit (.string ⟨#[]⟩)),(.lit (.string ⟨#[]⟩)),(.lit (.string ⟨#[]⟩)),(.lit (.int .i64 0)),(.lit (.int .i64 0)),(.lit (.int .i64 0)),(.lit (.int .i64 0))] [(0,1,(.const (.int .u8 39))),(1,1,(.tmp 13)),(7,1,(.tmp 15))],none,0⟩,⟨none,.st 8 (.tmp 2) (.tmp 16),none,0⟩] none 0 []) .ret) .skip))))) (.seq (.reg 0 [⟨(some 17),.fa 0 (.tmp 1),none,0⟩,⟨(some 18),.ld 1 false (.tmp 17),none,0⟩,⟨(some 19),.fa 1 (.tmp 1),none,0⟩,⟨(some 20),.ld 1 false (.tmp 19),none,0⟩,⟨(some 21),.fa 2 (.tmp 1),none,0⟩,⟨(some 22),.ld 1 false (.tmp 21),none,0⟩,⟨(some 23),.bin .rem (.tmp 22) (.const (.int .i64 8)),none,0⟩,⟨(some 24),.fa 3 (.tmp 1),none,0⟩,⟨(some 25),.ld 1 false (.tmp 24),none,0⟩,⟨(some 26),.bd [(.lit (.int .u8 0)),(.lit (.string ⟨#[]⟩)),(.lit (.string ⟨#[]⟩)),(.lit (.string ⟨#[]⟩)),(.lit (.int .i64 0)),(.lit (.int .i64 0)),(.lit (.int .i64 0)),(.lit (.int .i64 0))] [(0,1,(.const (.int .u8 38))),(1,1,(.tmp 18)),(3,1,(.tmp 20)),(4,1,(.tmp 23)),(7,1,(.tmp 25))],none,0⟩,⟨none,.st 8 (.tmp 2) (.tmp 26),none,0⟩] none 0 []) .ret)))
theorem gc26_ok:compF Tryz.prog Tryz.f26=some (gc26.er,27,[.cell 2 8 true]):=by unfold gc26;kernel_rfl
theorem p_ref20_Push_v (a0:ItemItem):CallsO Tryz.prog 26 [.agg [.s a0.Contact,.s a0.Name,.i a0.Sub,.i a0.Ver,.b a0.Own]] StanzaStanza.v (p_ref20_Push a0):=by
 refine callsO_comp mix Tryz.func26 gc26_ok fun r H=>?_
 rw [p_ref20_Push] at H
 conv=>whnf
 refine ask_c (p_ref20_Check_v _) H rfl rfl (fun v1 H=>?_);conv=>whnf
 refine tst_c H (fun b2 H=>?_) (fun b2 H=>?_)
 ·conv=>whnf
  refine ⟨Nat.le_of_ble_eq_true rfl,?_⟩;conv=>whnf
  exact fin0_c (enc:=StanzaStanza.v) H (.inr rfl) (.cons (.cell rfl rfl (Nat.le_of_ble_eq_true rfl)) (.nil)) rfl rfl
 conv=>whnf
 refine ask_c (p_ref20_Listed_v _) H rfl rfl (fun v3 H=>?_);conv=>whnf
 refine Tst.not ?_
 refine tst_d H (fun b4 H=>?_) (fun b4 H=>?_)
 ·conv=>whnf
  refine ⟨Nat.le_of_ble_eq_true rfl,?_⟩;conv=>whnf
  exact fin0_c (enc:=StanzaStanza.v) H (.inr rfl) (.cons (.cell rfl rfl (Nat.le_of_ble_eq_true rfl)) (.nil)) rfl rfl
 conv=>whnf
 refine ⟨by decide,?_⟩;conv=>whnf
 refine ⟨Nat.le_of_ble_eq_true rfl,?_⟩;conv=>whnf
 exact fin0_c (enc:=StanzaStanza.v) H (.inr rfl) (.cons (.cell rfl rfl (Nat.le_of_ble_eq_true rfl)) (.nil)) rfl rfl
def gc216:BCode:=(.seq (.reg 0 [⟨(some 2),.mv (.const (.bool false)),none,0⟩] none 0 []) (.seq (.reg 0 [⟨(some 3),.mv (.tmp 0),none,0⟩,⟨(some 4),.mv (.tmp 0),none,0⟩,⟨(some 5),.bin .neq (.tmp 3) (.tmp 4),none,0⟩,⟨(some 2),.mv (.tmp 5),none,0⟩] none 0 []) .ret))
theorem gc216_ok:compF Tryz.prog Tryz.f216=some (gc216.er,6,[.tmp 2]):=by unfold gc216;kernel_rfl
theorem p_cmp_isNaN_int__v (a0:Int):CallsO Tryz.prog 216 [.i a0] V.b (p_cmp_isNaN_int_ a0):=by
 refine callsO_comp mix Tryz.func216 gc216_ok fun r H=>?_
 rw [p_cmp_isNaN_int_] at H
 conv=>whnf
 exact fb_ H
def gc159:BCode:=(.seq (.reg 0 [⟨(some 4),.mv (.const (.int .i64 0)),none,0⟩] none 0 []) (.seq (.reg 0 [⟨(some 7),.mv (.tmp 0),none,0⟩,⟨(some 8),.cl 216 [(.tmp 7)],none,0⟩,⟨(some 5),.mv (.tmp 8),none,0⟩] none 0 []) (.seq (.reg 0 [⟨(some 9),.mv (.tmp 1),none,0⟩,⟨(some 10),.cl 216 [(.tmp 9)],none,0⟩,⟨(some 6),.mv (.tmp 10),none,0⟩] none 0 []) (.seq (.seq (.reg 0 [⟨(some 11),.mv (.tmp 5),none,0⟩] none 0 []) (.cond (.tmp 11) (.seq (.seq (.reg 0 [⟨(some 12),.mv (.tmp 6),none,0⟩] none 0 []) (.cond (.tmp 12) (.seq (.reg 0 [⟨(some 4),.mv (.const (.int .i64 0)),none,0⟩] none 0 []) .ret) .skip)) (.seq (.reg 0 [⟨(some 4),.mv (.const (.int .i64 (-1))),none,0⟩] none 0 []) .ret)) .skip)) (.seq (.seq (.reg 0 [⟨(some 13),.mv (.tmp 6),none,0⟩] none 0 []) (.cond (.tmp 13) (.seq (.reg 0 [⟨(some 4),.mv (.const (.int .i64 1)),none,0⟩] none 0 []) .ret) .skip)) (.seq (.seq (.reg 0 [⟨(some 14),.mv (.tmp 0),none,0⟩,⟨(some 15),.mv (.tmp 1),none,0⟩,⟨(some 16),.bin .lss (.tmp 14) (.tmp 15),none,0⟩] none 0 []) (.cond (.tmp 16) (.seq (.reg 0 [⟨(some 4),.mv (.const (.int .i64 (-1))),none,0⟩] none 0 []) .ret) .skip)) (.seq (.seq (.reg 0 [⟨(some 17),.mv (.tmp 0),none,0⟩,⟨(some 18),.mv (.tmp 1),none,0⟩,⟨(some 19),.bin .gtr (.tmp 17) (.tmp 18),none,0⟩] none 0 []) (.cond (.tmp 19) (.seq (.reg 0 [⟨(some 4),.mv (.const (.int .i64 1)),none,0⟩] none 0 []) .ret) .skip)) (.seq (.reg 0 [⟨(some 4),.mv (.const (.int .i64 0)),none,0⟩] none 0 []) .ret))))))))
theorem gc159_ok:compF Tryz.prog Tryz.f159=some (gc159.er,20,[.tmp 4]):=by unfold gc159;kernel_rfl
theorem p_cmp_Compare_int__v (a0:Int) (a1:Int):CallsO Tryz.prog 159 [.i a0,.i a1] V.i (p_cmp_Compare_int_ a0 a1):=by
 refine callsO_comp mix Tryz.func159 gc159_ok fun r H=>?_
 rw [p_cmp_Compare_int_] at H
 conv=>whnf
 refine ask_c (p_cmp_isNaN_int__v _) H rfl rfl (fun v1 H=>?_);conv=>whnf
 refine ask_c (p_cmp_isNaN_int__v _) H rfl rfl (fun v2 H=>?_);conv=>whnf
 refine tst_c H (fun b3 H=>?_) (fun b3 H=>?_)
 ·conv=>whnf
  refine tst_c H (fun b4 H=>?_) (fun b4 H=>?_)
  ·conv=>whnf
   exact fi_ H
  conv=>whnf
  exact fi_ H
 conv=>whnf
 refine tst_c H (fun b5 H=>?_) (fun b5 H=>?_)
 ·conv=>whnf
  exact fi_ H
 conv=>whnf
 refine tst_c H (fun b6 H=>?_) (fun b6 H=>?_)
 ·conv=>whnf
  exact fi_ H
 conv=>whnf
 refine tst_c H (fun b7 H=>?_) (fun b7 H=>?_)
 ·conv=>whnf
  exact fi_ H
 conv=>whnf
 exact fi_ H
def gc157:BCode:=(.seq (.reg 0 [⟨(some 2),.mv (.const (.int .i64 0)),none,0⟩] none 0 []) (.seq (.reg 0 [⟨(some 3),.mv (.const (.int .i64 0)),none,0⟩] none 0 []) (.seq (.seq (.reg 0 [⟨(some 6),.mv (.tmp 0),none,0⟩,⟨(some 7),.lens (.tmp 6),none,0⟩,⟨(some 8),.mv (.const (.int .i64 0)),none,0⟩] none 0 []) (.block 0 (.loop (.seq (.reg 0 [⟨(some 9),.bin .lss (.tmp 8) (.tmp 7),none,0⟩] none 0 []) (.seq (.cond (.tmp 9) .skip (.exit 0)) (.seq (.block 1 (.seq (.reg 0 [⟨(some 10),.ixs 1 (.tmp 6) (.tmp 8),none,0⟩,⟨(some 11),.ld 1 false (.tmp 10),none,0⟩,⟨(some 5),.mv (.tmp 11),none,0⟩] none 0 []) (.seq (.reg 0 [⟨(some 12),.mv (.tmp 5),none,0⟩,⟨(some 13),.mv (.tmp 3),none,0⟩,⟨(some 14),.bin .neq (.tmp 12) (.tmp 13),none,0⟩] none 0 []) (.cond (.tmp 14) (.seq (.reg 0 [⟨(some 15),.mv (.tmp 5),none,0⟩,⟨(some 2),.mv (.tmp 15),none,0⟩] none 0 []) .ret) .skip)))) (.reg 0 [⟨(some 16),.bin .add (.tmp 8) (.const (.int .i64 1)),none,0⟩,⟨(some 8),.mv (.tmp 16),none,0⟩] none 0 []))))))) (.seq (.reg 0 [⟨(some 17),.mv (.tmp 3),none,0⟩,⟨(some 2),.mv (.tmp 17),none,0⟩] none 0 []) .ret))))
theorem gc157_ok:compF Tryz.prog Tryz.f157=some (gc157.er,18,[.tmp 2]):=by unfold gc157;kernel_rfl
theorem p_cmp_Or_int__v {u1:Bool} (a0:List Int):CallsO Tryz.prog 157 [.sl (List.map V.i a0) u1] V.i (p_cmp_Or_int_ a0):=by
 refine callsO_comp mix Tryz.func157 gc157_ok fun r H=>?_
 rw [p_cmp_Or_int_] at H
 conv=>whnf
 refine LenQ.M ?_;conv=>whnf
 obtain ⟨o2,HL3,HQ4⟩:=bind_c H
 refine loop_c [2,8] [5,9,10,11,12,13,14,15,16] [5,9,10,11,12,13,14,15,16] (fun n vals st=>(∃ y6,p_cmp_Or_int__l1  a0 (a0.length:Int) n y6=some o2∧vals=[.i (0:Int),.i y6]∧st=[])) fuel 0 [] (⟨_,HL3,rfl,rfl⟩) (Nat.zero_le _) rfl (by kernel_rfl) (by kernel_rfl) rfl trivial ?_
 rintro (_ | n5) _ _ (⟨y6,H,rfl,rfl⟩)
 ·rw [p_cmp_Or_int__l1] at H;cases H
 rw [p_cmp_Or_int__l1] at H
 conv=>whnf
 refine tst_d H (fun b7 H=>?_) (fun b7 H=>?_)
 ·conv=>whnf
  obtain rfl:=Option.some.inj H
  have H:=HQ4
  try dsimp only at H
  exact fi_ H
 conv=>whnf
 refine ixs_c (f:=V.i) H (fun _=>rfl) (fun x8 H=>?_);conv=>whnf
 refine tst_c H (fun b9 H=>?_) (fun b9 H=>?_)
 ·conv=>whnf
  obtain rfl:=Option.some.inj H
  have H:=HQ4
  try dsimp only at H
  exact fi_ H
 conv=>whnf
 refine Ari.w ?_;conv=>whnf
 exact again_c [5,9,10,11,12,13,14,15,16] n5 0 [] (⟨_,H,rfl,rfl⟩) (Nat.lt_succ_self _) (Nat.zero_le _) rfl (by kernel_rfl) (by kernel_rfl) rfl trivial
def gc92:BCode:=(.seq (.reg 2 [⟨(some 2),.bx (.tmp 0),none,0⟩,⟨(some 3),.bx (.tmp 1),none,1⟩,⟨(some 4),.mv (.const (.int .i64 0)),none,2⟩] none 0 []) (.seq (.reg 1 [⟨(some 5),.fa 0 (.tmp 2),none,0⟩,⟨(some 6),.ld 1 false (.tmp 5),none,0⟩,⟨(some 7),.fa 0 (.tmp 3),none,0⟩,⟨(some 8),.ld 1 false (.tmp 7),none,0⟩,⟨(some 9),.cl 158 [(.tmp 6),(.tmp 8)],none,0⟩,⟨(some 10),.fa 3 (.tmp 2),none,0⟩,⟨(some 11),.ld 1 false (.tmp 10),none,0⟩,⟨(some 12),.fa 3 (.tmp 3),none,0⟩,⟨(some 13),.ld 1 false (.tmp 12),none,0⟩,⟨(some 14),.cl 159 [(.tmp 11),(.tmp 13)],none,0⟩,⟨(some 15),.bs 1 2 [(.lit (.int .i64 0)),(.lit (.int .i64 0))] [(0,(.tmp 9)),(1,(.tmp 14))],none,0⟩,⟨(some 16),.cl 157 [(.tmp 15)],none,1⟩,⟨(some 4),.mv (.tmp 16),none,1⟩] (some [[],[0],[],[2],[2,3,0,1],[],[5],[],[7],[1,0,3,2,4,7,8,5,6],[6,5,8,7,9,1,0,3,2,4],[4,2,3,0,1,9,7,8,5,6,10],[10,6,5,8,7,9,1,0,3,2,4,11]]) 0 []) .ret))
theorem gc92_ok:compF Tryz.prog Tryz.f92=some (gc92.er,17,[.tmp 4]):=by unfold gc92;kernel_rfl
theorem p_item_Item_order_v (a0:ItemItem) (a1:ItemItem):CallsO Tryz.prog 92 [.agg [.s a0.Contact,.s a0.Name,.i a0.Sub,.i a0.Ver,.b a0.Own],.agg [.s a1.Contact,.s a1.Name,.i a1.Sub,.i a1.Ver,.b a1.Own]] V.i (p_item_Item_order a0 a1):=by
 refine callsO_comp mix Tryz.func92 gc92_ok fun r H=>?_
 rw [p_item_Item_order] at H
 conv=>whnf
 refine ask_c (p_strings_Compare_v _ _) H rfl rfl (fun v1 H=>?_);conv=>whnf
 refine ask_c (p_cmp_Compare_int__v _ _) H rfl rfl (fun v2 H=>?_);conv=>whnf
 refine askF_c (p_cmp_Or_int__v _) H (.cons (.c (fzown (f:=V.i) (l:=[v1,v2]) rfl rfl (fun _=>rfl) (fun _=>rfl))) (.nil)) (fun v3 H=>?_);conv=>whnf
 refine FootQ.mk ⟨rfl,?_⟩;conv=>whnf
 exact fi_ H
def gc27:BCode:=(.seq (.reg 2 [⟨(some 2),.bx (.tmp 0),none,0⟩,⟨(some 3),.bx (.tmp 1),none,1⟩,⟨(some 4),.mv (.const (.bool false)),none,2⟩] none 0 []) (.seq (.reg 0 [⟨(some 5),.ld 5 true (.tmp 2),none,0⟩,⟨(some 6),.ld 5 true (.tmp 3),none,0⟩,⟨(some 7),.cl 92 [(.tmp 5),(.tmp 6)],none,0⟩,⟨(some 8),.bin .lss (.tmp 7) (.const (.int .i64 0)),none,0⟩,⟨(some 4),.mv (.tmp 8),none,0⟩] none 0 []) .ret))
theorem gc27_ok:compF Tryz.prog Tryz.f27=some (gc27.er,9,[.tmp 4]):=by unfold gc27;kernel_rfl
theorem p_item_Less_v (a0:ItemItem) (a1:ItemItem):CallsO Tryz.prog 27 [.agg [.s a0.Contact,.s a0.Name,.i a0.Sub,.i a0.Ver,.b a0.Own],.agg [.s a1.Contact,.s a1.Name,.i a1.Sub,.i a1.Ver,.b a1.Own]] V.b (p_item_Less a0 a1):=by
 refine callsO_comp mix Tryz.func27 gc27_ok fun r H=>?_
 rw [p_item_Less] at H
 conv=>whnf
 refine ask_c (p_item_Item_order_v _ _) H rfl rfl (fun v1 H=>?_);conv=>whnf
 exact fb_ H
def gc28:BCode:=(.seq (.reg 2 [⟨(some 2),.bx (.tmp 0),none,0⟩,⟨(some 3),.bx (.tmp 1),none,1⟩,⟨(some 4),.mv (.const (.bool false)),none,2⟩] none 0 []) (.seq (.reg 0 [⟨(some 5),.fa 0 (.tmp 2),none,0⟩,⟨(some 6),.ld 1 false (.tmp 5),none,0⟩,⟨(some 7),.fa 0 (.tmp 3),none,0⟩,⟨(some 8),.ld 1 false (.tmp 7),none,0⟩,⟨(some 9),.bin .lss (.tmp 6) (.tmp 8),none,0⟩,⟨(some 10),.mv (.tmp 9),none,0⟩,⟨(some 11),.fa 0 (.tmp 2),(some (10,false)),0⟩,⟨(some 12),.ld 1 false (.tmp 11),(some (10,false)),0⟩,⟨(some 13),.fa 0 (.tmp 3),(some (10,false)),0⟩,⟨(some 14),.ld 1 false (.tmp 13),(some (10,false)),0⟩,⟨(some 15),.bin .eql (.tmp 12) (.tmp 14),(some (10,false)),0⟩,⟨(some 16),.mv (.tmp 15),(some (10,false)),0⟩,⟨(some 17),.fa 3 (.tmp 2),(some (16,true)),0⟩,⟨(some 18),.ld 1 false (.tmp 17),(some (16,true)),0⟩,⟨(some 19),.fa 3 (.tmp 3),(some (16,true)),0⟩,⟨(some 20),.ld 1 false (.tmp 19),(some (16,true)),0⟩,⟨(some 21),.bin .lss (.tmp 18) (.tmp 20),(some (16,true)),0⟩,⟨(some 22),.pick (.tmp 16) (.tmp 21) (.const (.bool false)),(some (10,false)),0⟩,⟨(some 23),.pick (.tmp 10) (.const (.bool true)) (.tmp 22),none,0⟩,⟨(some 4),.mv (.tmp 23),none,0⟩] none 0 []) .ret))
theorem gc28_ok:compF Tryz.prog Tryz.f28=some (gc28.er,24,[.tmp 4]):=by unfold gc28;kernel_rfl
theorem p_ref20_Less_v (a0:ItemItem) (a1:ItemItem):CallsO Tryz.prog 28 [.agg [.s a0.Contact,.s a0.Name,.i a0.Sub,.i a0.Ver,.b a0.Own],.agg [.s a1.Contact,.s a1.Name,.i a1.Sub,.i a1.Ver,.b a1.Own]] V.b (p_ref20_Less a0 a1):=by
 refine callsO_comp mix Tryz.func28 gc28_ok fun r H=>?_
 rw [p_ref20_Less] at H
 conv=>whnf
 refine tst_c H (fun b1 H=>?_) (fun b1 H=>?_)
 ·conv=>whnf
  iterate 7 (refine Tst.T ?_;conv=>whnf)
  exact fb_ H
 conv=>whnf
 iterate 5 (refine Tst.F ?_;conv=>whnf)
 refine tst_c H (fun b2 H=>?_) (fun b2 H=>?_)
 ·conv=>whnf
  iterate 4 (refine Tst.T ?_;conv=>whnf)
  refine Tst.F ?_;conv=>whnf
  refine Tst.T ?_;conv=>whnf
  refine Tst.F ?_;conv=>whnf
  exact fb_ H
 conv=>whnf
 iterate 7 (refine Tst.F ?_;conv=>whnf)
 exact fb_ H
def gc93:BCode:=(.seq (.reg 1 [⟨(some 2),.al (.agg [(.lit (.string ⟨#[]⟩)),(.lit (.int .i64 0)),(.lit (.int .i64 0))]),none,0⟩] none 0 []) (.seq (.reg 0 [⟨(some 3),.mv (.tmp 0),none,0⟩,⟨(some 4),.bd [(.lit (.string ⟨#[]⟩)),(.lit (.int .i64 0)),(.lit (.int .i64 0))] [(0,1,(.tmp 3))],none,0⟩,⟨none,.st 3 (.tmp 2) (.tmp 4),none,0⟩] none 0 []) .ret))
theorem gc93_ok:compF Tryz.prog Tryz.f93=some (gc93.er,5,[.cell 2 3 true]):=by unfold gc93;kernel_rfl
theorem p_octet_Open_v (a0:ByteArray):CallsO Tryz.prog 93 [.s a0] OctetRead.v (p_octet_Open a0):=by
 refine callsO_comp mix Tryz.func93 gc93_ok fun r H=>?_
 rw [p_octet_Open] at H
 conv=>whnf
 refine ⟨Nat.le_of_ble_eq_true rfl,?_⟩;conv=>whnf
 exact fin0_c (enc:=OctetRead.v) H (.inr rfl) (.cons (.cell rfl rfl (Nat.le_of_ble_eq_true rfl)) (.nil)) rfl rfl
def gc162:BCode:=(.seq (.reg 1 [⟨(some 1),.bx (.tmp 0),none,0⟩,⟨(some 2),.mv (.const (.int .i64 0)),none,1⟩] none 0 []) (.seq (.seq (.reg 0 [⟨(some 3),.fa 2 (.tmp 1),none,0⟩,⟨(some 4),.ld 1 false (.tmp 3),none,0⟩,⟨(some 5),.bin .eql (.tmp 4) (.const (.int .i64 0)),none,0⟩,⟨(some 6),.mv (.tmp 5),none,0⟩,⟨(some 7),.fa 1 (.tmp 1),(some (6,true)),0⟩,⟨(some 8),.ld 1 false (.tmp 7),(some (6,true)),0⟩,⟨(some 9),.bin .lss (.tmp 8) (.const (.int .i64 0)),(some (6,true)),0⟩,⟨(some 10),.mv (.tmp 9),(some (6,true)),0⟩,⟨(some 11),.fa 1 (.tmp 1),(some (10,false)),0⟩,⟨(some 12),.ld 1 false (.tmp 11),(some (10,false)),0⟩,⟨(some 13),.fa 0 (.tmp 1),(some (10,false)),0⟩,⟨(some 14),.ld 1 false (.tmp 13),(some (10,false)),0⟩,⟨(some 15),.lent (.tmp 14),(some (10,false)),0⟩,⟨(some 16),.bin .gtr (.tmp 12) (.tmp 15),(some (10,false)),0⟩,⟨(some 17),.pick (.tmp 10) (.const (.bool true)) (.tmp 16),(some (6,true)),0⟩,⟨(some 18),.pick (.tmp 6) (.tmp 17) (.const (.bool false)),none,0⟩] none 0 []) (.cond (.tmp 18) (.seq (.reg 0 [⟨(some 2),.mv (.const (.int .i64 2)),none,0⟩] none 0 []) .ret) .skip)) (.seq (.reg 0 [⟨(some 19),.fa 2 (.tmp 1),none,0⟩,⟨(some 20),.ld 1 false (.tmp 19),none,0⟩,⟨(some 2),.mv (.tmp 20),none,0⟩] none 0 []) .ret)))
theorem gc162_ok:compF Tryz.prog Tryz.f162=some (gc162.er,21,[.tmp 2]):=by unfold gc162;kernel_rfl
theorem p_octet_Read_fault_v (a0:OctetRead):CallsO Tryz.prog 162 [.agg [.s a0.S,.i a0.At,.i a0.Bad]] V.i (p_octet_Read_fault a0):=by
 refine callsO_comp mix Tryz.func162 gc162_ok fun r H=>?_
 rw [p_octet_Read_fault] at H
 conv=>whnf
 refine tst_d H (fun b1 H=>?_) (fun b1 H=>?_)
 ·conv=>whnf
  iterate 6 (refine Tst.F ?_;conv=>whnf)
  exact fi_ H
 conv=>whnf
 iterate 3 (refine Tst.T ?_;conv=>whnf)
 refine tst_c H (fun b2 H=>?_) (fun b2 H=>?_)
 ·conv=>whnf
  iterate 9 (refine Tst.T ?_;conv=>whnf)
  exact fi_ H
 conv=>whnf
 iterate 5 (refine Tst.F ?_;conv=>whnf)
 refine Tst.T ?_;conv=>whnf
 refine Tst.F ?_;conv=>whnf
 refine Tst.T ?_;conv=>whnf
 refine tst_c H (fun b3 H=>?_) (fun b3 H=>?_)
 ·conv=>whnf
  exact fi_ H
 conv=>whnf
 exact fi_ H
def gc160:BCode:=(.seq (.reg 2 [⟨(some 2),.bx (.tmp 0),none,0⟩,⟨(some 4),.al (.agg [(.lit (.string ⟨#[]⟩)),(.lit (.int .i64 0)),(.lit (.int .i64 0))]),none,1⟩] none 0 []) (.seq (.reg 0 [⟨(some 5),.mv (.tmp 1),none,0⟩,⟨(some 6),.fa 2 (.tmp 2),none,0⟩,⟨none,.st 1 (.tmp 6) (.tmp 5),none,0⟩] none 0 []) (.seq (.reg 0 [⟨(some 7),.ld 3 true (.tmp 2),none,0⟩,⟨none,.st 3 (.tmp 4) (.tmp 7),none,0⟩] none 0 []) .ret)))
theorem gc160_ok:compF Tryz.prog Tryz.f160=some (gc160.er,8,[.cell 4 3 true]):=by unfold gc160;kernel_rfl
theorem p_octet_Read_fail_v (a0:OctetRead) (a1:Int):CallsO Tryz.prog 160 [.agg [.s a0.S,.i a0.At,.i a0.Bad],.i a1] OctetRead.v (p_octet_Read_fail a0 a1):=by
 refine callsO_comp mix Tryz.func160 gc160_ok fun r H=>?_
 rw [p_octet_Read_fail] at H
 conv=>whnf
 refine ⟨Nat.le_of_ble_eq_true rfl,?_⟩;conv=>whnf
 refine ⟨Nat.le_of_ble_eq_true rfl,?_⟩;conv=>whnf
 exact fin0_c (enc:=OctetRead.v) H (.inr rfl) (.cons (.cell rfl rfl (Nat.le_of_ble_eq_true rfl)) (.nil)) rfl rfl
def gc161:BCode:=(.seq (.reg 1 [⟨(some 1),.bx (.tmp 0),none,0⟩,⟨(some 2),.mv (.const (.int .i64 0)),none,1⟩] none 0 []) (.seq (.seq (.reg 0 [⟨(some 3),.ld 3 true (.tmp 1),none,0⟩,⟨(some 4),.cl 162 [(.tmp 3)],none,0⟩,⟨(some 5),.bin .neq (.tmp 4) (.const (.int .i64 0)),none,0⟩] none 0 []) (.cond (.tmp 5) (.seq (.reg 0 [⟨(some 2),.mv (.const (.int .i64 0)),none,0⟩] none 0 []) .ret) .skip)) (.seq (.reg 0 [⟨(some 6),.fa 0 (.tmp 1),none,0⟩,⟨(some 7),.ld 1 false (.tmp 6),none,0⟩,⟨(some 8),.lent (.tmp 7),none,0⟩,⟨(some 9),.fa 1 (.tmp 1),none,0⟩,⟨(some 10),.ld 1 false (.tmp 9),none,0⟩,⟨(some 11),.bin .sub (.tmp 8) (.tmp 10),none,0⟩,⟨(some 2),.mv (.tmp 11),none,0⟩] none 0 []) .ret)))
theorem gc161_ok:compF Tryz.prog Tryz.f161=some (gc161.er,12,[.tmp 2]):=by unfold gc161;kernel_rfl
theorem p_octet_Left_v (a0:OctetRead):CallsO Tryz.prog 161 [.agg [.s a0.S,.i a0.At,.i a0.Bad]] V.i (p_octet_Left a0):=by
 refine callsO_comp mix Tryz.func161 gc161_ok fun r H=>?_
 rw [p_octet_Left] at H
 conv=>whnf
 refine ask_c (p_octet_Read_fault_v _) H rfl rfl (fun v1 H=>?_);conv=>whnf
 refine tst_c H (fun b2 H=>?_) (fun b2 H=>?_)
 ·conv=>whnf
  exact fi_ H
 conv=>whnf
 refine Ari.w ?_;conv=>whnf
 exact fi_ H
end Go.Proofs.YtpmoioopjbfhkaaGreat

/- That the program's functions yield what the plain ones tell (written by a program of mine). -/
namespace Go.Proofs.YtpmoioopjbfhkaaGreat
open Go.RowKit
set_option maxRecDepth 100000
set_option maxHeartbeats 4000000
def gc95:BCode:=(.seq (.reg 2 [⟨(some 2),.bx (.tmp 0),none,0⟩,⟨(some 4),.al (.agg [(.lit (.string ⟨#[]⟩)),(.lit (.int .i64 0)),(.lit (.int .i64 0))]),none,1⟩,⟨(some 5),.mv (.const (.int .i64 0)),none,2⟩] none 0 []) (.seq (.seq (.reg 0 [⟨(some 10),.ld 3 true (.tmp 2),none,0⟩,⟨(some 11),.cl 162 [(.tmp 10)],none,0⟩,⟨(some 6),.mv (.tmp 11),none,0⟩] none 0 []) (.seq (.reg 0 [⟨(some 12),.mv (.tmp 6),none,0⟩,⟨(some 13),.bin .neq (.tmp 12) (.const (.int .i64 0)),none,0⟩] none 0 []) (.cond (.tmp 13) (.seq (.reg 0 [⟨(some 14),.ld 3 true (.tmp 2),none,0⟩,⟨(some 15),.mv (.tmp 6),none,0⟩,⟨(some 16),.cl 160 [(.tmp 14),(.tmp 15)],none,0⟩,⟨none,.st 3 (.tmp 4) (.tmp 16),none,0⟩,⟨(some 5),.mv (.const (.int .i64 0)),none,0⟩] none 0 []) .ret) .skip))) (.seq (.seq (.reg 0 [⟨(some 17),.mv (.tmp 1),none,0⟩,⟨(some 18),.cl 149 [(.tmp 17)],none,0⟩,⟨(some 19),.un .not (.tmp 18),none,0⟩] none 0 []) (.cond (.tmp 19) (.seq (.reg 0 [⟨(some 20),.ld 3 true (.tmp 2),none,0⟩,⟨(some 21),.cl 160 [(.tmp 20),(.const (.int .i64 2))],none,0⟩,⟨none,.st 3 (.tmp 4) (.tmp 21),none,0⟩,⟨(some 5),.mv (.const (.int .i64 0)),none,0⟩] none 0 []) .ret) .skip)) (.seq (.seq (.reg 0 [⟨(some 22),.ld 3 true (.tmp 2),none,0⟩,⟨(some 23),.cl 161 [(.tmp 22)],none,0⟩,⟨(some 24),.mv (.tmp 1),none,0⟩,⟨(some 25),.bin .lss (.tmp 23) (.tmp 24),none,0⟩] none 0 []) (.cond (.tmp 25) (.seq (.reg 0 [⟨(some 26),.ld 3 true (.tmp 2),none,0⟩,⟨(some 27),.cl 160 [(.tmp 26),(.const (.int .i64 3))],none,0⟩,⟨none,.st 3 (.tmp 4) (.tmp 27),none,0⟩,⟨(some 5),.mv (.const (.int .i64 0)),none,0⟩] none 0 []) .ret) .skip)) (.seq (.reg 0 [⟨(some 7),.mv (.const (.int .i64 0)),none,0⟩] none 0 []) (.seq (.seq (.reg 1 [⟨(some 28),.fa 0 (.tmp 2),none,0⟩,⟨(some 29),.ld 1 false (.tmp 28),none,0⟩,⟨(some 30),.fa 1 (.tmp 2),none,0⟩,⟨(some 31),.ld 1 false (.tmp 30),none,0⟩,⟨(some 32),.fa 1 (.tmp 2),none,0⟩,⟨(some 33),.ld 1 false (.tmp 32),none,0⟩,⟨(some 34),.mv (.tmp 1),none,0⟩,⟨(some 35),.bin .add (.tmp 33) (.tmp 34),none,0⟩,⟨(some 36),.slt (.tmp 29) (some (.tmp 31)) (some (.tmp 35)),none,0⟩,⟨(some 37),.s2b (.tmp 36),none,0⟩,⟨(some 38),.lens (.tmp 37),none,1⟩,⟨(some 39),.mv (.const (.int .i64 0)),none,1⟩] none 0 []) (.block 0 (.loop (.seq (.reg 0 [⟨(some 40),.bin .lss (.tmp 39) (.tmp 38),none,0⟩] none 0 []) (.seq (.cond (.tmp 40) .skip (.exit 0)) (.seq (.block 1 (.seq (.reg 0 [⟨(some 41),.ixs 1 (.tmp 37) (.tmp 39),none,0⟩,⟨(some 42),.ld 1 false (.tmp 41),none,0⟩,⟨(some 9),.mv (.tmp 42),none,0⟩] none 0 []) (.reg 0 [⟨(some 43),.mv (.tmp 7),none,0⟩,⟨(some 44),.bin .shl (.tmp 43) (.const (.int .u64 8)),none,0⟩,⟨(some 45),.mv (.tmp 9),none,0⟩,⟨(some 46),.cvi .i64 (.tmp 45),none,0⟩,⟨(some 47),.bin .or (.tmp 44) (.tmp 46),none,0⟩,⟨(some 7),.mv (.tmp 47),none,0⟩] none 0 []))) (.reg 0 [⟨(some 48),.bin .add (.tmp 39) (.const (.int .i64 1)),none,0⟩,⟨(some 39),.mv (.tmp 48),none,0⟩] none 0 []))))))) (.seq (.reg 0 [⟨(some 49),.fa 1 (.tmp 2),none,0⟩,⟨(some 50),.ld 1 false (.tmp 49),none,0⟩,⟨(some 51),.mv (.tmp 1),none,0⟩,⟨(some 52),.bin .add (.tmp 50) (.tmp 51),none,0⟩,⟨(some 53),.fa 1 (.tmp 2),none,0⟩,⟨none,.st 1 (.tmp 53) (.tmp 52),none,0⟩] none 0 []) (.seq (.reg 0 [⟨(some 54),.ld 3 true (.tmp 2),none,0⟩,⟨(some 55),.mv (.tmp 7),none,0⟩,⟨none,.st 3 (.tmp 4) (.tmp 54),none,0⟩,⟨(some 5),.mv (.tmp 55),none,0⟩] none 0 []) .ret))))))))
theorem gc95_ok:compF Tryz.prog Tryz.f95=some (gc95.er,56,[.cell 4 3 true,.tmp 5]):=by unfold gc95;kernel_rfl
theorem p_octet_Num_v (a0:OctetRead) (a1:Int):CallsO Tryz.prog 95 [.agg [.s a0.S,.i a0.At,.i a0.Bad],.i a1] (fun r:OctetRead × Int=>.tup [OctetRead.v r.1,V.i r.2]) (p_octet_Num a0 a1):=by
 refine callsO_comp mix Tryz.func95 gc95_ok fun r H=>?_
 rw [p_octet_Num] at H
 conv=>whnf
 refine ask_c (p_octet_Read_fault_v _) H rfl rfl (fun v1 H=>?_);conv=>whnf
 refine tst_c H (fun b2 H=>?_) (fun b2 H=>?_)
 ·conv=>whnf
  refine ask_c (p_octet_Read_fail_v _ _) H rfl rfl (fun v3 H=>?_);conv=>whnf
  refine ⟨Nat.le_of_ble_eq_true rfl,?_⟩;conv=>whnf
  exact fin0_c (enc:=(fun r:OctetRead × Int=>.tup [OctetRead.v r.1,V.i r.2])) H (.inr rfl) (.cons (.cell rfl rfl (Nat.le_of_ble_eq_true rfl)) (.cons (.tmp rfl) (.nil))) rfl rfl
 conv=>whnf
 refine ask_c (p_octet_wide_v _) H rfl rfl (fun v4 H=>?_);conv=>whnf
 refine Tst.not ?_
 refine tst_d H (fun b5 H=>?_) (fun b5 H=>?_)
 ·conv=>whnf
  refine ask_c (p_octet_Read_fail_v _ _) H rfl rfl (fun v19 H=>?_);conv=>whnf
  refine ⟨Nat.le_of_ble_eq_true rfl,?_⟩;conv=>whnf
  exact fin0_c (enc:=(fun r:OctetRead × Int=>.tup [OctetRead.v r.1,V.i r.2])) H (.inr rfl) (.cons (.cell rfl rfl (Nat.le_of_ble_eq_true rfl)) (.cons (.tmp rfl) (.nil))) rfl rfl
 conv=>whnf
 refine ask_c (p_octet_Left_v _) H rfl rfl (fun v6 H=>?_);conv=>whnf
 refine tst_c H (fun b7 H=>?_) (fun b7 H=>?_)
 ·conv=>whnf
  refine ask_c (p_octet_Read_fail_v _ _) H rfl rfl (fun v8 H=>?_);conv=>whnf
  refine ⟨Nat.le_of_ble_eq_true rfl,?_⟩;conv=>whnf
  exact fin0_c (enc:=(fun r:OctetRead × Int=>.tup [OctetRead.v r.1,V.i r.2])) H (.inr rfl) (.cons (.cell rfl rfl (Nat.le_of_ble_eq_true rfl)) (.cons (.tmp rfl) (.nil))) rfl rfl
 conv=>whnf
 refine Ari.w ?_;conv=>whnf
 refine slt_c H (fun s9 H=>?_);conv=>whnf
 rw [bytesI_V]
 refine LenQ.M ?_;conv=>whnf
 obtain ⟨o11,HL12,HQ13⟩:=bind_c H
 refine loop_c [7,39] [9,40,41,42,43,44,45,46,47,48,28,30,32] [9,40,41,42,43,44,45,46,47,48,28,30,32] (fun n vals st=>(∃ y15 y16,p_octet_Num_l1  (bytesI s9) ((bytesI s9).length:Int) n y15 y16=some o11∧vals=[.i y15,.i y16]∧st=[.live [.s a0.S,.i a0.At,.i a0.Bad] 0,.live [.s (⟨#[]⟩ : ByteArray),.i (0:Int),.i (0:Int)] 0])) fuel 2 [] (⟨_,_,HL12,rfl,rfl⟩) (Nat.zero_le _) rfl (by kernel_rfl) (by kernel_rfl) rfl ⟨⟨rfl,rfl,rfl⟩,⟨⟨rfl,rfl,rfl⟩,trivial⟩⟩ ?_
 rintro (_ | n14) _ _ (⟨y15,y16,H,rfl,rfl⟩)
 ·rw [p_octet_Num_l1] at H;cases H
 rw [p_octet_Num_l1] at H
 conv=>whnf
 refine tst_d H (fun b17 H=>?_) (fun b17 H=>?_)
 ·conv=>whnf
  obtain rfl:=Option.some.inj H
  have H:=HQ13
  try dsimp only at H
  refine Ari.w ?_;conv=>whnf
  refine ⟨Nat.le_of_ble_eq_true rfl,?_⟩;conv=>whnf
  refine ⟨Nat.le_of_ble_eq_true rfl,?_⟩;conv=>whnf
  exact fin0_c (enc:=(fun r:OctetRead × Int=>.tup [OctetRead.v r.1,V.i r.2])) H (.inr rfl) (.cons (.cell rfl rfl (Nat.le_of_ble_eq_true rfl)) (.cons (.tmp rfl) (.nil))) rfl rfl
 conv=>whnf
 refine ixs_c (f:=V.y8) H (fun _=>rfl) (fun x18 H=>?_);conv=>whnf
 refine Shl.ok (by decide) ?_;conv=>whnf
 iterate 2 (refine Ari.w ?_;conv=>whnf)
 exact again_c [9,40,41,42,43,44,45,46,47,48,28,30,32] n14 2 [] (⟨_,_,H,rfl,rfl⟩) (Nat.lt_succ_self _) (Nat.zero_le _) rfl (by kernel_rfl) (by kernel_rfl) rfl ⟨⟨rfl,rfl,rfl⟩,⟨⟨rfl,rfl,rfl⟩,trivial⟩⟩
def gc94:BCode:=(.seq (.reg 2 [⟨(some 2),.bx (.tmp 0),none,0⟩,⟨(some 4),.al (.agg [(.lit (.string ⟨#[]⟩)),(.lit (.int .i64 0)),(.lit (.int .i64 0))]),none,1⟩,⟨(some 5),.mv (.const (.string ⟨#[]⟩)),none,2⟩] none 0 []) (.seq (.reg 1 [⟨(some 10),.ld 3 true (.tmp 2),none,0⟩,⟨(some 11),.cl 95 [(.tmp 10),(.const (.int .i64 1))],none,0⟩,⟨(some 9),.mv (.tmp 11),none,0⟩,⟨(some 12),.ex (.tmp 9) 0,none,0⟩,⟨(some 13),.ex (.tmp 9) 1,none,0⟩,⟨(some 6),.al (.agg [(.lit (.string ⟨#[]⟩)),(.lit (.int .i64 0)),(.lit (.int .i64 0))]),none,0⟩,⟨none,.st 3 (.tmp 6) (.tmp 12),none,1⟩,⟨(some 7),.mv (.tmp 13),none,1⟩] none 0 []) (.seq (.block 0 (.seq (.reg 0 [⟨(some 15),.fa 2 (.tmp 6),none,0⟩,⟨(some 16),.ld 1 false (.tmp 15),none,0⟩,⟨(some 17),.bin .neq (.tmp 16) (.const (.int .i64 0)),none,0⟩,⟨(some 14),.mv (.tmp 17),none,0⟩] none 0 []) (.cond (.tmp 14) (.seq (.reg 0 [⟨(some 18),.ld 3 true (.tmp 6),none,0⟩,⟨none,.st 3 (.tmp 4) (.tmp 18),none,0⟩,⟨(some 5),.mv (.const (.string ⟨#[]⟩)),none,0⟩] none 0 []) .ret) (.seq (.reg 0 [⟨(some 20),.mv (.tmp 7),none,0⟩,⟨(some 21),.mv (.tmp 1),none,0⟩,⟨(some 22),.bin .gtr (.tmp 20) (.tmp 21),none,0⟩,⟨(some 19),.mv (.tmp 22),none,0⟩] none 0 []) (.cond (.tmp 19) (.seq (.reg 0 [⟨(some 23),.ld 3 true (.tmp 2),none,0⟩,⟨(some 24),.cl 160 [(.tmp 23),(.const (.int .i64 5))],none,0⟩,⟨none,.st 3 (.tmp 4) (.tmp 24),none,0⟩,⟨(some 5),.mv (.const (.string ⟨#[]⟩)),none,0⟩] none 0 []) .ret) (.seq (.reg 0 [⟨(some 26),.mv (.tmp 7),none,0⟩,⟨(some 27),.ld 3 true (.tmp 6),none,0⟩,⟨(some 28),.cl 161 [(.tmp 27)],none,0⟩,⟨(some 29),.bin .gtr (.tmp 26) (.tmp 28),none,0⟩,⟨(some 25),.mv (.tmp 29),none,0⟩] none 0 []) (.cond (.tmp 25) (.seq (.reg 0 [⟨(some 30),.ld 3 true (.tmp 2),none,0⟩,⟨(some 31),.cl 160 [(.tmp 30),(.const (.int .i64 3))],none,0⟩,⟨none,.st 3 (.tmp 4) (.tmp 31),none,0⟩,⟨(some 5),.mv (.const (.string ⟨#[]⟩)),none,0⟩] none 0 []) .ret) .skip))))))) (.seq (.reg 0 [⟨(some 32),.fa 1 (.tmp 6),none,0⟩,⟨(some 33),.ld 1 false (.tmp 32),none,0⟩,⟨(some 8),.mv (.tmp 33),none,0⟩] none 0 []) (.seq (.reg 0 [⟨(some 34),.fa 1 (.tmp 6),none,0⟩,⟨(some 35),.ld 1 false (.tmp 34),none,0⟩,⟨(some 36),.mv (.tmp 7),none,0⟩,⟨(some 37),.bin .add (.tmp 35) (.tmp 36),none,0⟩,⟨(some 38),.fa 1 (.tmp 6),none,0⟩,⟨none,.st 1 (.tmp 38) (.tmp 37),none,0⟩] none 0 []) (.seq (.reg 0 [⟨(some 39),.ld 3 true (.tmp 6),none,0⟩,⟨(some 40),.fa 0 (.tmp 2),none,0⟩,⟨(some 41),.ld 1 false (.tmp 40),none,0⟩,⟨(some 42),.mv (.tmp 8),none,0⟩,⟨(some 43),.fa 1 (.tmp 6),none,0⟩,⟨(some 44),.ld 1 false (.tmp 43),none,0⟩,⟨(some 45),.slt (.tmp 41) (some (.tmp 42)) (some (.tmp 44)),none,0⟩,⟨none,.st 3 (.tmp 4) (.tmp 39),none,0⟩,⟨(some 5),.mv (.tmp 45),none,0⟩] (some [[],[],[1],[],[],[4],[4,5,3,1,2],[0],[0,7,2,1,3,5,4,6]]) 0 []) .ret))))))
theorem gc94_ok:compF Tryz.prog Tryz.f94=some (gc94.er,46,[.cell 4 3 true,.tmp 5]):=by unfold gc94;kernel_rfl
theorem p_octet_Text_v (a0:OctetRead) (a1:Int):CallsO Tryz.prog 94 [.agg [.s a0.S,.i a0.At,.i a0.Bad],.i a1] (fun r:OctetRead × ByteArray=>.tup [OctetRead.v r.1,V.s r.2]) (p_octet_Text a0 a1):=by
 refine callsO_comp mix Tryz.func94 gc94_ok fun r H=>?_
 rw [p_octet_Text] at H
 conv=>whnf
 refine ask_c (p_octet_Num_v _ _) H rfl rfl (fun v1 H=>?_);conv=>whnf
 refine ⟨Nat.le_of_ble_eq_true rfl,?_⟩;conv=>whnf
 refine tst_c H (fun b2 H=>?_) (fun b2 H=>?_)
 ·conv=>whnf
  refine ⟨Nat.le_of_ble_eq_true rfl,?_⟩;conv=>whnf
  exact fin0_c (enc:=(fun r:OctetRead × ByteArray=>.tup [OctetRead.v r.1,V.s r.2])) H (.inr rfl) (.cons (.cell rfl rfl (Nat.le_of_ble_eq_true rfl)) (.cons (.tmp rfl) (.nil))) rfl rfl
 conv=>whnf
 refine tst_c H (fun b3 H=>?_) (fun b3 H=>?_)
 ·conv=>whnf
  refine ask_c (p_octet_Read_fail_v _ _) H rfl rfl (fun v4 H=>?_);conv=>whnf
  refine ⟨Nat.le_of_ble_eq_true rfl,?_⟩;conv=>whnf
  exact fin0_c (enc:=(fun r:OctetRead × ByteArray=>.tup [OctetRead.v r.1,V.s r.2])) H (.inr rfl) (.cons (.cell rfl rfl (Nat.le_of_ble_eq_true rfl)) (.cons (.tmp rfl) (.nil))) rfl rfl
 conv=>whnf
 refine ask_c (p_octet_Left_v _) H rfl rfl (fun v5 H=>?_);conv=>whnf
 refine tst_c H (fun b6 H=>?_) (fun b6 H=>?_)
 ·conv=>whnf
  refine ask_c (p_octet_Read_fail_v _ _) H rfl rfl (fun v7 H=>?_);conv=>whnf
  refine ⟨Nat.le_of_ble_eq_true rfl,?_⟩;conv=>whnf
  exact fin0_c (enc:=(fun r:OctetRead × ByteArray=>.tup [OctetRead.v r.1,V.s r.2])) H (.inr rfl) (.cons (.cell rfl rfl (Nat.le_of_ble_eq_true rfl)) (.cons (.tmp rfl) (.nil))) rfl rfl
 conv=>whnf
 refine Ari.w ?_;conv=>whnf
 refine ⟨Nat.le_of_ble_eq_true rfl,?_⟩;conv=>whnf
 refine slt_c H (fun s8 H=>?_);conv=>whnf
 refine ⟨Nat.le_of_ble_eq_true rfl,?_⟩;conv=>whnf
 refine FootQ.mk ⟨rfl,?_⟩;conv=>whnf
 exact fin0_c (enc:=(fun r:OctetRead × ByteArray=>.tup [OctetRead.v r.1,V.s r.2])) H (.inr rfl) (.cons (.cell rfl rfl (Nat.le_of_ble_eq_true rfl)) (.cons (.tmp rfl) (.nil))) rfl rfl
def gc96:BCode:=(.seq (.reg 1 [⟨(some 1),.bx (.tmp 0),none,0⟩,⟨(some 2),.mv (.const (.int .i64 0)),none,1⟩] none 0 []) (.seq (.seq (.reg 0 [⟨(some 4),.ld 3 true (.tmp 1),none,0⟩,⟨(some 5),.cl 162 [(.tmp 4)],none,0⟩,⟨(some 3),.mv (.tmp 5),none,0⟩] none 0 []) (.seq (.reg 0 [⟨(some 6),.mv (.tmp 3),none,0⟩,⟨(some 7),.bin .neq (.tmp 6) (.const (.int .i64 0)),none,0⟩] none 0 []) (.cond (.tmp 7) (.seq (.reg 0 [⟨(some 8),.mv (.tmp 3),none,0⟩,⟨(some 2),.mv (.tmp 8),none,0⟩] none 0 []) .ret) .skip))) (.seq (.seq (.reg 0 [⟨(some 9),.fa 1 (.tmp 1),none,0⟩,⟨(some 10),.ld 1 false (.tmp 9),none,0⟩,⟨(some 11),.fa 0 (.tmp 1),none,0⟩,⟨(some 12),.ld 1 false (.tmp 11),none,0⟩,⟨(some 13),.lent (.tmp 12),none,0⟩,⟨(some 14),.bin .lss (.tmp 10) (.tmp 13),none,0⟩] none 0 []) (.cond (.tmp 14) (.seq (.reg 0 [⟨(some 2),.mv (.const (.int .i64 4)),none,0⟩] none 0 []) .ret) .skip)) (.seq (.reg 0 [⟨(some 2),.mv (.const (.int .i64 0)),none,0⟩] none 0 []) .ret))))
theorem gc96_ok:compF Tryz.prog Tryz.f96=some (gc96.er,15,[.tmp 2]):=by unfold gc96;kernel_rfl
theorem p_octet_Done_v (a0:OctetRead):CallsO Tryz.prog 96 [.agg [.s a0.S,.i a0.At,.i a0.Bad]] V.i (p_octet_Done a0):=by
 refine callsO_comp mix Tryz.func96 gc96_ok fun r H=>?_
 rw [p_octet_Done] at H
 conv=>whnf
 refine ask_c (p_octet_Read_fault_v _) H rfl rfl (fun v1 H=>?_);conv=>whnf
 refine tst_c H (fun b2 H=>?_) (fun b2 H=>?_)
 ·conv=>whnf
  exact fi_ H
 conv=>whnf
 refine tst_c H (fun b3 H=>?_) (fun b3 H=>?_)
 ·conv=>whnf
  exact fi_ H
 conv=>whnf
 exact fi_ H
def gc29:BCode:=(.seq (.reg 1 [⟨(some 2),.al (.agg [(.lit (.string ⟨#[]⟩)),(.lit (.string ⟨#[]⟩)),(.lit (.int .i64 0)),(.lit (.int .i64 0)),(.lit (.bool false))]),none,0⟩,⟨(some 3),.mv (.const (.int .i64 0)),none,1⟩] none 0 []) (.seq (.reg 1 [⟨(some 4),.al (.agg [(.lit (.string ⟨#[]⟩)),(.lit (.string ⟨#[]⟩)),(.lit (.int .i64 0)),(.lit (.int .i64 0)),(.lit (.bool false))]),none,0⟩] none 0 []) (.seq (.reg 1 [⟨(some 9),.mv (.tmp 0),none,0⟩,⟨(some 10),.cl 93 [(.tmp 9)],none,0⟩,⟨(some 5),.al (.agg [(.lit (.string ⟨#[]⟩)),(.lit (.int .i64 0)),(.lit (.int .i64 0))]),none,0⟩,⟨none,.st 3 (.tmp 5) (.tmp 10),none,1⟩] none 0 []) (.seq (.reg 0 [⟨(some 12),.ld 3 true (.tmp 5),none,0⟩,⟨(some 13),.cl 94 [(.tmp 12),(.const (.int .i64 33))],none,0⟩,⟨(some 11),.mv (.tmp 13),none,0⟩,⟨(some 14),.ex (.tmp 11) 0,none,0⟩,⟨(some 15),.ex (.tmp 11) 1,none,0⟩,⟨none,.st 3 (.tmp 5) (.tmp 14),none,0⟩,⟨(some 16),.fa 0 (.tmp 4),none,0⟩,⟨none,.st 1 (.tmp 16) (.tmp 15),none,0⟩] none 0 []) (.seq (.reg 0 [⟨(some 18),.ld 3 true (.tmp 5),none,0⟩,⟨(some 19),.cl 94 [(.tmp 18),(.const (.int .i64 24))],none,0⟩,⟨(some 17),.mv (.tmp 19),none,0⟩,⟨(some 20),.ex (.tmp 17) 0,none,0⟩,⟨(some 21),.ex (.tmp 17) 1,none,0⟩,⟨none,.st 3 (.tmp 5) (.tmp 20),none,0⟩,⟨(some 22),.fa 1 (.tmp 4),none,0⟩,⟨none,.st 1 (.tmp 22) (.tmp 21),none,0⟩] none 0 []) (.seq (.reg 0 [⟨(some 24),.ld 3 true (.tmp 5),none,0⟩,⟨(some 25),.cl 95 [(.tmp 24),(.const (.int .i64 1))],none,0⟩,⟨(some 23),.mv (.tmp 25),none,0⟩,⟨(some 26),.ex (.tmp 23) 0,none,0⟩,⟨(some 27),.ex (.tmp 23) 1,none,0⟩,⟨none,.st 3 (.tmp 5) (.tmp 26),none,0⟩,⟨(some 6),.mv (.tmp 27),none,0⟩] none 0 []) (.seq (.reg 0 [⟨(some 29),.ld 3 true (.tmp 5),none,0⟩,⟨(some 30),.cl 95 [(.tmp 29),(.const (.int .i64 6))],none,0⟩,⟨(some 28),.mv (.tmp 30),none,0⟩,⟨(some 31),.ex (.tmp 28) 0,none,0⟩,⟨(some 32),.ex (.tmp 28) 1,none,0⟩,⟨none,.st 3 (.tmp 5) (.tmp 31),none,0⟩,⟨(some 33),.fa 3 (.tmp 4),none,0⟩,⟨none,.st 1 (.tmp 33) (.tmp 32),none,0⟩] none 0 []) (.seq (.seq (.reg 0 [⟨(some 34),.ld 3 true (.tmp 5),none,0⟩,⟨(some 35),.cl 96 [(.tmp 34)],none,0⟩,⟨(some 7),.mv (.tmp 35),none,0⟩] none 0 []) (.seq (.reg 0 [⟨(some 36),.mv (.tmp 7),none,0⟩,⟨(some 37),.bin .neq (.tmp 36) (.const (.int .i64 0)),none,0⟩] none 0 []) (.cond (.tmp 37) (.seq (.reg 0 [⟨(some 38),.bd [(.lit (.string ⟨#[]⟩)),(.lit (.string ⟨#[]⟩)),(.lit (.int .i64 0)),(.lit (.int .i64 0)),(.lit (.bool false))] [],none,0⟩,⟨(some 39),.mv (.tmp 7),none,0⟩,⟨none,.st 5 (.tmp 2) (.tmp 38),none,0⟩,⟨(some 3),.mv (.tmp 39),none,0⟩] none 0 []) .ret) .skip))) (.seq (.seq (.reg 0 [⟨(some 40),.mv (.tmp 6),none,0⟩,⟨(some 41),.bin .gtr (.tmp 40) (.const (.int .i64 31)),none,0⟩] none 0 []) (.cond (.tmp 41) (.seq (.reg 0 [⟨(some 42),.bd [(.lit (.string ⟨#[]⟩)),(.lit (.string ⟨#[]⟩)),(.lit (.int .i64 0)),(.lit (.int .i64 0)),(.lit (.bool false))] [],none,0⟩,⟨none,.st 5 (.tmp 2) (.tmp 42),none,0⟩,⟨(some 3),.mv (.const (.int .i64 4)),none,0⟩] none 0 []) .ret) .skip)) (.seq (.reg 0 [⟨(some 43),.mv (.tmp 6),none,0⟩,⟨(some 44),.bin .andNot (.tmp 43) (.const (.int .i64 16)),none,0⟩,⟨(some 45),.mv (.tmp 6),none,0⟩,⟨(some 46),.bin .and (.tmp 45) (.const (.int .i64 16)),none,0⟩,⟨(some 47),.bin .neq (.tmp 46) (.const (.int .i64 0)),none,0⟩,⟨(some 48),.fa 2 (.tmp 4),none,0⟩,⟨none,.st 1 (.tmp 48) (.tmp 44),none,0⟩,⟨(some 49),.fa 4 (.tmp 4),none,0⟩,⟨none,.st 1 (.tmp 49) (.tmp 47),none,0⟩] none 0 []) (.seq (.seq (.reg 0 [⟨(some 50),.ld 5 true (.tmp 4),none,0⟩,⟨(some 51),.cl 15 [(.tmp 50)],none,0⟩,⟨(some 8),.mv (.tmp 51),none,0⟩] none 0 []) (.seq (.reg 0 [⟨(some 52),.mv (.tmp 8),none,0⟩,⟨(some 53),.bin .neq (.tmp 52) (.const (.int .i64 0)),none,0⟩] none 0 []) (.cond (.tmp 53) (.seq (.reg 0 [⟨(some 54),.bd [(.lit (.string ⟨#[]⟩)),(.lit (.string ⟨#[]⟩)),(.lit (.int .i64 0)),(.lit (.int .i64 0)),(.lit (.bool false))] [],none,0⟩,⟨(some 55),.mv (.tmp 8),none,0⟩,⟨none,.st 5 (.tmp 2) (.tmp 54),none,0⟩,⟨(some 3),.mv (.tmp 55),none,0⟩] none 0 []) .ret) .skip))) (.seq (.reg 0 [⟨(some 56),.ld 5 true (.tmp 4),none,0⟩,⟨none,.st 5 (.tmp 2) (.tmp 56),none,0⟩,⟨(some 3),.mv (.const (.int .i64 0)),none,0⟩] none 0 []) .ret))))))))))))
theorem gc29_ok:compF Tryz.prog Tryz.f29=some (gc29.er,57,[.cell 2 5 true,.tmp 3]):=by unfold gc29;kernel_rfl
theorem p_item_Get_v (a0:ByteArray):CallsO Tryz.prog 29 [.s a0] (fun r:ItemItem × Int=>.tup [ItemItem.v r.1,V.i r.2]) (p_item_Get a0):=by
 refine callsO_comp mix Tryz.func29 gc29_ok fun r H=>?_
 rw [p_item_Get] at H
 conv=>whnf
 refine ask_c (p_octet_Open_v _) H rfl rfl (fun v1 H=>?_);conv=>whnf
 refine ⟨Nat.le_of_ble_eq_true rfl,?_⟩;conv=>whnf
 refine ask_c (p_octet_Text_v _ _) H rfl rfl (fun v2 H=>?_);conv=>whnf
 refine ⟨Nat.le_of_ble_eq_true rfl,?_⟩;conv=>whnf
 refine ⟨Nat.le_of_ble_eq_true rfl,?_⟩;conv=>whnf
 refine ask_c (p_octet_Text_v _ _) H rfl rfl (fun v3 H=>?_);conv=>whnf
 refine ⟨Nat.le_of_ble_eq_true rfl,?_⟩;conv=>whnf
 refine ⟨Nat.le_of_ble_eq_true rfl,?_⟩;conv=>whnf
 refine ask_c (p_octet_Num_v _ _) H rfl rfl (fun v4 H=>?_);conv=>whnf
 refine ⟨Nat.le_of_ble_eq_true rfl,?_⟩;conv=>whnf
 refine ask_c (p_octet_Num_v _ _) H rfl rfl (fun v5 H=>?_);conv=>whnf
 refine ⟨Nat.le_of_ble_eq_true rfl,?_⟩;conv=>whnf
 refine ⟨Nat.le_of_ble_eq_true rfl,?_⟩;conv=>whnf
 refine ask_c (p_octet_Done_v _) H rfl rfl (fun v6 H=>?_);conv=>whnf
 refine tst_c H (fun b7 H=>?_) (fun b7 H=>?_)
 ·conv=>whnf
  refine ⟨Nat.le_of_ble_eq_true rfl,?_⟩;conv=>whnf
  exact fin0_c (enc:=(fun r:ItemItem × Int=>.tup [ItemItem.v r.1,V.i r.2])) H (.inr rfl) (.cons (.cell rfl rfl (Nat.le_of_ble_eq_true rfl)) (.cons (.tmp rfl) (.nil))) rfl rfl
 conv=>whnf
 refine tst_c H (fun b8 H=>?_) (fun b8 H=>?_)
 ·conv=>whnf
  refine ⟨Nat.le_of_ble_eq_true rfl,?_⟩;conv=>whnf
  exact fin0_c (enc:=(fun r:ItemItem × Int=>.tup [ItemItem.v r.1,V.i r.2])) H (.inr rfl) (.cons (.cell rfl rfl (Nat.le_of_ble_eq_true rfl)) (.cons (.tmp rfl) (.nil))) rfl rfl
 conv=>whnf
 refine ⟨Nat.le_of_ble_eq_true rfl,?_⟩;conv=>whnf
 refine ⟨Nat.le_of_ble_eq_true rfl,?_⟩;conv=>whnf
 refine ask_c (p_item_Check_v _) H rfl rfl (fun v9 H=>?_);conv=>whnf
 refine tst_c H (fun b10 H=>?_) (fun b10 H=>?_)
 ·conv=>whnf
  refine ⟨Nat.le_of_ble_eq_true rfl,?_⟩;conv=>whnf
  exact fin0_c (enc:=(fun r:ItemItem × Int=>.tup [ItemItem.v r.1,V.i r.2])) H (.inr rfl) (.cons (.cell rfl rfl (Nat.le_of_ble_eq_true rfl)) (.cons (.tmp rfl) (.nil))) rfl rfl
 conv=>whnf
 refine ⟨Nat.le_of_ble_eq_true rfl,?_⟩;conv=>whnf
 exact fin0_c (enc:=(fun r:ItemItem × Int=>.tup [ItemItem.v r.1,V.i r.2])) H (.inr rfl) (.cons (.cell rfl rfl (Nat.le_of_ble_eq_true rfl)) (.cons (.tmp rfl) (.nil))) rfl rfl
end Go.Proofs.YtpmoioopjbfhkaaGreat

/- That the program's functions yield what the plain ones tell (written by a program of mine). -/
namespace Go.Proofs.YtpmoioopjbfhkaaGreat
open Go.RowKit
set_option maxRecDepth 100000
set_option maxHeartbeats 4000000
def gc217:BCode:=(.seq (.reg 0 [⟨(some 10),.mv (.tmp 1),none,0⟩,⟨(some 11),.bin .add (.tmp 10) (.const (.int .i64 1)),none,0⟩,⟨(some 8),.mv (.tmp 11),none,0⟩] none 0 []) (.block 0 (.loop (.seq (.seq (.reg 0 [⟨(some 12),.mv (.tmp 8),none,0⟩,⟨(some 13),.mv (.tmp 2),none,0⟩,⟨(some 14),.bin .lss (.tmp 12) (.tmp 13),none,0⟩] none 0 []) (.cond (.tmp 14) .skip (.exit 0))) (.seq (.block 1 (.seq (.reg 0 [⟨(some 17),.mv (.tmp 8),none,0⟩,⟨(some 9),.mv (.tmp 17),none,0⟩] none 0 []) (.block 2 (.loop (.seq (.seq (.reg 0 [⟨(some 18),.mv (.tmp 9),none,0⟩,⟨(some 19),.mv (.tmp 1),none,0⟩,⟨(some 20),.bin .gtr (.tmp 18) (.tmp 19),none,0⟩,⟨(some 21),.mv (.tmp 20),none,0⟩,⟨(some 22),.mv (.tmp 3),(some (21,true)),0⟩,⟨(some 23),.mv (.tmp 0),(some (21,true)),0⟩,⟨(some 24),.mv (.tmp 9),(some (21,true)),0⟩,⟨(some 25),.ixs 5 (.tmp 23) (.tmp 24),(some (21,true)),0⟩,⟨(some 26),.ld 5 true (.tmp 25),(some (21,true)),0⟩,⟨(some 27),.mv (.tmp 0),(some (21,true)),0⟩,⟨(some 28),.mv (.tmp 9),(some (21,true)),0⟩,⟨(some 29),.bin .sub (.tmp 28) (.const (.int .i64 1)),(some (21,true)),0⟩,⟨(some 30),.ixs 5 (.tmp 27) (.tmp 29),(some (21,true)),0⟩,⟨(some 31),.ld 5 true (.tmp 30),(some (21,true)),0⟩,⟨(some 32),.cv (.tmp 22) [(.tmp 26),(.tmp 31)],(some (21,true)),0⟩,⟨(some 33),.bin .lss (.tmp 32) (.const (.int .i64 0)),(some (21,true)),0⟩,⟨(some 34),.pick (.tmp 21) (.tmp 33) (.const (.bool false)),none,0⟩] (some [[],[],[1,0],[0,1,2],[2,1,0,3],[2,1,0,3],[2,1,0,3],[6,3,0,1,2,5],[5,2,1,0,3,6,7],[2,1,0,3],[2,1,0,3],[3,0,1,2,10],[10,11,3,0,1,2,9],[9,2,1,0,3,11,10,12],[12,10,11,9,13,7,6,5,8,3,0,1,2,4],[4,2,1,0,3,8,5,6,7,13,9,11,10,12,14],[14,12,10,11,9,13,7,6,5,8,4,15,2,1,0,3]]) 0 []) (.cond (.tmp 34) .skip (.exit 2))) (.seq (.block 3 (.reg 0 [⟨(some 37),.mv (.tmp 0),none,0⟩,⟨(some 38),.mv (.tmp 9),none,0⟩,⟨(some 39),.mv (.tmp 0),none,0⟩,⟨(some 40),.mv (.tmp 9),none,0⟩,⟨(some 41),.bin .sub (.tmp 40) (.const (.int .i64 1)),none,0⟩,⟨(some 42),.mv (.tmp 0),none,0⟩,⟨(some 43),.mv (.tmp 9),none,0⟩,⟨(some 44),.bin .sub (.tmp 43) (.const (.int .i64 1)),none,0⟩,⟨(some 45),.ixs 5 (.tmp 42) (.tmp 44),none,0⟩,⟨(some 46),.ld 5 true (.tmp 45),none,0⟩,⟨(some 47),.mv (.tmp 0),none,0⟩,⟨(some 48),.mv (.tmp 9),none,0⟩,⟨(some 49),.ixs 5 (.tmp 47) (.tmp 48),none,0⟩,⟨(some 50),.ld 5 true (.tmp 49),none,0⟩,⟨(some 51),.ixs 5 (.tmp 37) (.tmp 38),none,0⟩,⟨none,.st 5 (.tmp 51) (.tmp 46),none,0⟩,⟨(some 52),.ixs 5 (.tmp 39) (.tmp 41),none,0⟩,⟨none,.st 5 (.tmp 52) (.tmp 50),none,0⟩] (some [[],[],[],[],[3],[],[],[6],[6,7,5],[5,7,6,8],[],[],[11,10],[10,11,12],[12,11,10,13,9,8,7,6,5,1,0],[0,1,5,6,7,8,9,13,10,11,12,14],[15,14,13,12,11,10,9,8,7,6,5,1,0,3,4,2],[2,4,3,0,1,5,6,7,8,9,10,11,12,13,14,15,16]]) 0 [])) (.reg 0 [⟨(some 35),.mv (.tmp 9),none,0⟩,⟨(some 36),.bin .sub (.tmp 35) (.const (.int .i64 1)),none,0⟩,⟨(some 9),.mv (.tmp 36),none,0⟩] none 0 []))))))) (.reg 0 [⟨(some 15),.mv (.tmp 8),none,0⟩,⟨(some 16),.bin .add (.tmp 15) (.const (.int .i64 1)),none,0⟩,⟨(some 8),.mv (.tmp 16),none,0⟩] none 0 []))))))
theorem gc217_ok:compF Tryz.prog Tryz.f217=some (gc217.er,53,[]):=by unfold gc217;kernel_rfl
theorem p_slices_insertionSortCmpFunc_item_Item__v (a0:List ItemItem) (a1:Int) (a2:Int) (a3:ItemItem→ItemItem→Option Int) {a3_g:Nat} {a3_k:List V} (a3_h:Clo2 Tryz.prog a3_g a3_k ItemItem.v ItemItem.v V.i a3):InPl Tryz.prog 217 ItemItem.v 5 [.i a1,.i a2,.clo (.func a3_g) a3_k] a0 (p_slices_insertionSortCmpFunc_item_Item_ a0 a1 a2 a3):=by
 refine inPl_comp mix Tryz.func217 gc217_ok fun r H=>?_
 rw [p_slices_insertionSortCmpFunc_item_Item_] at H
 conv=>whnf
 refine Ari.w ?_;conv=>whnf
 obtain ⟨o2,HL3,HQ4⟩:=bind_c H
 refine loop_c [8] [9,12,13,14,15,16,17,18,19,20,21,22,23,24,25,26,27,28,29,30,31,32,33,34,35,36,37,38,39,40,41,42,43,44,45,46,47,48,49,50,51,52] [9,12,13,14,15,16,17,18,19,20,21,22,23,24,25,26,27,28,29,30,31,32,33,34,35,36,37,38,39,40,41,42,43,44,45,46,47,48,49,50,51,52] (fun n vals st=>(∃ y6 y7,p_slices_insertionSortCmpFunc_item_Item__l1  a0 a3 a1 a2 n y6 y7=some o2∧vals=[.i y6]∧st=[.live (cellsM ItemItem.v y7) 0])) fuel 1 [] (⟨_,_,HL3,rfl,rfl⟩) (Nat.le_of_ble_eq_true rfl) rfl (by simp only [maskF,setF,List.set_cons_zero,List.set_cons_succ,V.ren.renL,V.ren,renL_id _ a3_h.own] <;> rfl) (by simp only [maskF,setF,List.set_cons_zero,List.set_cons_succ,V.idlt.belowL,V.idlt,fun n=>idltL_up (n:=n) _ a3_h.own] <;> rfl) rfl (wkB_live0 rfl (cellsM_idlt (f:=ItemItem.v) (fun _=>rfl) _) rfl trivial) ?_
 rintro (_ | n5) _ _ (⟨y6,y7,H,rfl,rfl⟩)
 ·rw [p_slices_insertionSortCmpFunc_item_Item__l1] at H;cases H
 rw [p_slices_insertionSortCmpFunc_item_Item__l1] at H
 conv=>whnf
 refine tst_d H (fun b8 H=>?_) (fun b8 H=>?_)
 ·conv=>whnf
  obtain rfl:=Option.some.inj H
  have H:=HQ4
  try dsimp only at H
  exact inFin_c (f:=ItemItem.v) (es:=5) (l:=a0) (.inl rfl) H rfl (fun _=>rfl)
 conv=>whnf
 obtain ⟨o10,HL11,HQ12⟩:=bind_c H
 refine loop_c [9] [18,19,20,21,22,23,24,25,26,27,28,29,30,31,32,33,34,35,36,37,38,39,40,41,42,43,44,45,46,47,48,49,50,51,52] [18,19,20,21,22,23,24,25,26,27,28,29,30,31,32,33,34,35,36,37,38,39,40,41,42,43,44,45,46,47,48,49,50,51,52] (fun n vals st=>(∃ y14 y15,p_slices_insertionSortCmpFunc_item_Item__l2  a0 a3 a1 n y14 y15=some o10∧vals=[.i y14]∧st=[.live (cellsM ItemItem.v y15) 0])) fuel 1 [] (⟨_,_,HL11,rfl,rfl⟩) (Nat.le_of_ble_eq_true rfl) rfl (by simp only [maskF,setF,List.set_cons_zero,List.set_cons_succ,V.ren.renL,V.ren,renL_id _ a3_h.own] <;> rfl) (by simp only [maskF,setF,List.set_cons_zero,List.set_cons_succ,V.idlt.belowL,V.idlt,fun n=>idltL_up (n:=n) _ a3_h.own] <;> rfl) rfl (wkB_live0 rfl (cellsM_idlt (f:=ItemItem.v) (fun _=>rfl) _) rfl trivial) ?_
 rintro (_ | n13) _ _ (⟨y14,y15,H,rfl,rfl⟩)
 ·rw [p_slices_insertionSortCmpFunc_item_Item__l2] at H;cases H
 rw [p_slices_insertionSortCmpFunc_item_Item__l2] at H
 conv=>whnf
 refine tst_d H (fun b16 H=>?_) (fun b16 H=>?_)
 ·conv=>whnf
  iterate 12 (refine Tst.F ?_;conv=>whnf)
  refine FootQ.mk ⟨rfl,?_⟩;conv=>whnf
  refine Tst.F ?_;conv=>whnf
  obtain rfl:=Option.some.inj H
  have H:=HQ12
  try dsimp only at H
  refine Ari.w ?_;conv=>whnf
  exact again_c [9,12,13,14,15,16,17,18,19,20,21,22,23,24,25,26,27,28,29,30,31,32,33,34,35,36,37,38,39,40,41,42,43,44,45,46,47,48,49,50,51,52] n5 1 [] (⟨_,_,H,rfl,rfl⟩) (Nat.lt_succ_self _) (Nat.le_of_ble_eq_true rfl) rfl (by simp only [maskF,setF,List.set_cons_zero,List.set_cons_succ,V.ren.renL,V.ren,renL_id _ a3_h.own] <;> rfl) (by simp only [maskF,setF,List.set_cons_zero,List.set_cons_succ,V.idlt.belowL,V.idlt,fun n=>idltL_up (n:=n) _ a3_h.own] <;> rfl) rfl (wkB_live0 rfl (cellsM_idlt (f:=ItemItem.v) (fun _=>rfl) _) rfl trivial)
 conv=>whnf
 iterate 3 (refine Tst.T ?_;conv=>whnf)
 refine ⟨rfl,ixa_c H (fun x17 h18 H=>?_)⟩;conv=>whnf
 refine Tst.T ?_;conv=>whnf
 refine ldo_c (f:=ItemItem.v) (es:=5) h18 (fun _=>rfl) 0 (by omega) (by decide) ?_;conv=>whnf
 iterate 3 (refine Tst.T ?_;conv=>whnf)
 refine Ari.w ?_;conv=>whnf
 refine Tst.T ?_;conv=>whnf
 refine ⟨rfl,ixa_c H (fun x19 h20 H=>?_)⟩;conv=>whnf
 refine Tst.T ?_;conv=>whnf
 refine ldo_c (f:=ItemItem.v) (es:=5) h20 (fun _=>rfl) 0 (by omega) (by decide) ?_;conv=>whnf
 refine Tst.T ?_;conv=>whnf
 refine askC2_c a3_h H (.cons (fzagg (.cons (.id rfl) (.cons (.id rfl) (.cons (.id rfl) (.cons (.id rfl) (.cons (.id rfl) (.nil)))))) rfl) (.cons (fzagg (.cons (.id rfl) (.cons (.id rfl) (.cons (.id rfl) (.cons (.id rfl) (.cons (.id rfl) (.nil)))))) rfl) (.nil))) (fun v21 H=>?_);conv=>whnf
 iterate 2 (refine Tst.T ?_;conv=>whnf)
 refine FootQ.mk ⟨rfl,?_⟩;conv=>whnf
 refine tst_d H (fun b22 H=>?_) (fun b22 H=>?_)
 ·conv=>whnf
  obtain rfl:=Option.some.inj H
  have H:=HQ12
  try dsimp only at H
  refine Ari.w ?_;conv=>whnf
  exact again_c [9,12,13,14,15,16,17,18,19,20,21,22,23,24,25,26,27,28,29,30,31,32,33,34,35,36,37,38,39,40,41,42,43,44,45,46,47,48,49,50,51,52] n5 1 [] (⟨_,_,H,rfl,rfl⟩) (Nat.lt_succ_self _) (Nat.le_of_ble_eq_true rfl) rfl (by simp only [maskF,setF,List.set_cons_zero,List.set_cons_succ,V.ren.renL,V.ren,renL_id _ a3_h.own] <;> rfl) (by simp only [maskF,setF,List.set_cons_zero,List.set_cons_succ,V.idlt.belowL,V.idlt,fun n=>idltL_up (n:=n) _ a3_h.own] <;> rfl) rfl (wkB_live0 rfl (cellsM_idlt (f:=ItemItem.v) (fun _=>rfl) _) rfl trivial)
 conv=>whnf
 iterate 2 (refine Ari.w ?_;conv=>whnf)
 refine ⟨rfl,ixa_c H (fun x23 h24 H=>?_)⟩;conv=>whnf
 refine ldo_c (f:=ItemItem.v) (es:=5) h24 (fun _=>rfl) 0 (by omega) (by decide) ?_;conv=>whnf
 refine ⟨rfl,ixa_c H (fun x25 h26 H=>?_)⟩;conv=>whnf
 refine ldo_c (f:=ItemItem.v) (es:=5) h26 (fun _=>rfl) 0 (by omega) (by decide) ?_;conv=>whnf
 refine ⟨rfl,ixa_c H (fun x27 h28 H=>?_)⟩;conv=>whnf
 refine ⟨Nat.zero_le _,sto_c (f:=ItemItem.v) (es:=5) h28 (x':=x23) (fun _=>rfl) 0 (by omega) (Nat.le_of_ble_eq_true rfl) (by rfl) ?_⟩;conv=>whnf
 refine ⟨rfl,ixa_c H (fun x29 h30 H=>?_)⟩;conv=>whnf
 refine ⟨Nat.zero_le _,sto_c (f:=ItemItem.v) (es:=5) h30 (x':=x25) (fun _=>rfl) 0 (by omega) (Nat.le_of_ble_eq_true rfl) (by rfl) ?_⟩;conv=>whnf
 refine FootQ.mk ⟨rfl,?_⟩;conv=>whnf
 refine Ari.w ?_;conv=>whnf
 exact again_c [18,19,20,21,22,23,24,25,26,27,28,29,30,31,32,33,34,35,36,37,38,39,40,41,42,43,44,45,46,47,48,49,50,51,52] n13 1 [] (⟨_,_,H,rfl,rfl⟩) (Nat.lt_succ_self _) (Nat.le_of_ble_eq_true rfl) rfl (by simp only [maskF,setF,List.set_cons_zero,List.set_cons_succ,V.ren.renL,V.ren,renL_id _ a3_h.own] <;> rfl) (by simp only [maskF,setF,List.set_cons_zero,List.set_cons_succ,V.idlt.belowL,V.idlt,fun n=>idltL_up (n:=n) _ a3_h.own] <;> rfl) rfl (wkB_live0 rfl (cellsM_idlt (f:=ItemItem.v) (fun _=>rfl) _) rfl trivial)
theorem p_slices_insertionSortCmpFunc_item_Item__n (a0:List ItemItem) (hn0:a0=[]) (a1:Int) (a2:Int) (a3:ItemItem→ItemItem→Option Int) {a3_g:Nat} {a3_k:List V} (a3_h:Clo2 Tryz.prog a3_g a3_k ItemItem.v ItemItem.v V.i a3):CallsO Tryz.prog 217 [.sl (List.map ItemItem.v []) true,.i a1,.i a2,.clo (.func a3_g) a3_k] (fun _:List ItemItem=>V.tup []) (p_slices_insertionSortCmpFunc_item_Item_ a0 a1 a2 a3):=by
 refine callsO_comp mix Tryz.func217 gc217_ok fun r H=>?_
 rw [p_slices_insertionSortCmpFunc_item_Item_] at H
 conv=>whnf
 refine Ari.w ?_;conv=>whnf
 obtain ⟨o2,HL3,HQ4⟩:=bind_c H
 refine loop_c [8] [9,12,13,14,15,16,17,18,19,20,21,22,23,24,25,26,27,28,29,30,31,32,33,34,35,36,37,38,39,40,41,42,43,44,45,46,47,48,49,50,51,52] [9,12,13,14,15,16,17,18,19,20,21,22,23,24,25,26,27,28,29,30,31,32,33,34,35,36,37,38,39,40,41,42,43,44,45,46,47,48,49,50,51,52] (fun n vals st=>(∃ y6 y7,p_slices_insertionSortCmpFunc_item_Item__l1  a0 a3 a1 a2 n y6 y7=some o2∧vals=[.i y6]∧st=[])) fuel 0 [] (⟨_,_,HL3,rfl,rfl⟩) (Nat.zero_le _) rfl (by simp only [maskF,setF,List.set_cons_zero,List.set_cons_succ,V.ren.renL,V.ren,renL_id _ a3_h.own] <;> rfl) (by simp only [maskF,setF,List.set_cons_zero,List.set_cons_succ,V.idlt.belowL,V.idlt,fun n=>idltL_up (n:=n) _ a3_h.own] <;> rfl) rfl trivial ?_
 rintro (_ | n5) _ _ (⟨y6,y7,H,rfl,rfl⟩)
 ·rw [p_slices_insertionSortCmpFunc_item_Item__l1] at H;cases H
 rw [p_slices_insertionSortCmpFunc_item_Item__l1] at H
 conv=>whnf
 refine tst_d H (fun b8 H=>?_) (fun b8 H=>?_)
 ·conv=>whnf
  obtain rfl:=Option.some.inj H
  have H:=HQ4
  try dsimp only at H
  exact fin0_c (enc:=fun _:List ItemItem=>V.tup []) H (.inl rfl) .nil rfl rfl
 conv=>whnf
 obtain ⟨o10,HL11,HQ12⟩:=bind_c H
 refine loop_c [9] [18,19,20,21,22,23,24,25,26,27,28,29,30,31,32,33,34,35,36,37,38,39,40,41,42,43,44,45,46,47,48,49,50,51,52] [18,19,20,21,22,23,24,25,26,27,28,29,30,31,32,33,34,35,36,37,38,39,40,41,42,43,44,45,46,47,48,49,50,51,52] (fun n vals st=>(∃ y14 y15,p_slices_insertionSortCmpFunc_item_Item__l2  a0 a3 a1 n y14 y15=some o10∧vals=[.i y14]∧st=[])) fuel 0 [] (⟨_,_,HL11,rfl,rfl⟩) (Nat.zero_le _) rfl (by simp only [maskF,setF,List.set_cons_zero,List.set_cons_succ,V.ren.renL,V.ren,renL_id _ a3_h.own] <;> rfl) (by simp only [maskF,setF,List.set_cons_zero,List.set_cons_succ,V.idlt.belowL,V.idlt,fun n=>idltL_up (n:=n) _ a3_h.own] <;> rfl) rfl trivial ?_
 rintro (_ | n13) _ _ (⟨y14,y15,H,rfl,rfl⟩)
 ·rw [p_slices_insertionSortCmpFunc_item_Item__l2] at H;cases H
 rw [p_slices_insertionSortCmpFunc_item_Item__l2] at H
 conv=>whnf
 refine tst_c H (fun b16 H=>?_) (fun b16 H=>?_)
 ·conv=>whnf
  iterate 3 (refine Tst.T ?_;conv=>whnf)
  exact nil_arr (by rw [hn0];rfl) H
 conv=>whnf
 iterate 12 (refine Tst.F ?_;conv=>whnf)
 refine FootQ.mk ⟨rfl,?_⟩;conv=>whnf
 refine Tst.F ?_;conv=>whnf
 obtain rfl:=Option.some.inj H
 have H:=HQ12
 try dsimp only at H
 refine Ari.w ?_;conv=>whnf
 exact again_c [9,12,13,14,15,16,17,18,19,20,21,22,23,24,25,26,27,28,29,30,31,32,33,34,35,36,37,38,39,40,41,42,43,44,45,46,47,48,49,50,51,52] n5 0 [] (⟨_,_,H,rfl,rfl⟩) (Nat.lt_succ_self _) (Nat.zero_le _) rfl (by simp only [maskF,setF,List.set_cons_zero,List.set_cons_succ,V.ren.renL,V.ren,renL_id _ a3_h.own] <;> rfl) (by simp only [maskF,setF,List.set_cons_zero,List.set_cons_succ,V.idlt.belowL,V.idlt,fun n=>idltL_up (n:=n) _ a3_h.own] <;> rfl) rfl trivial
def gc166:BCode:=(.seq (.reg 0 [⟨(some 6),.mv (.const (.int .i64 20)),none,0⟩] none 0 []) (.seq (.reg 0 [⟨(some 10),.mv (.tmp 6),none,0⟩,⟨(some 7),.mv (.const (.int .i64 0)),none,0⟩,⟨(some 8),.mv (.tmp 10),none,0⟩] none 0 []) (.seq (.block 0 (.loop (.seq (.seq (.reg 0 [⟨(some 11),.mv (.tmp 8),none,0⟩,⟨(some 12),.mv (.tmp 1),none,0⟩,⟨(some 13),.bin .leq (.tmp 11) (.tmp 12),none,0⟩] none 0 []) (.cond (.tmp 13) .skip (.exit 0))) (.block 1 (.seq (.reg 0 [⟨(some 14),.mv (.tmp 0),none,0⟩,⟨(some 15),.mv (.tmp 7),none,0⟩,⟨(some 16),.mv (.tmp 8),none,0⟩,⟨(some 17),.mv (.tmp 2),none,0⟩,⟨(some 18),.cl 217 [(.tmp 14),(.tmp 15),(.tmp 16),(.tmp 17)],none,0⟩] none 0 []) (.seq (.reg 0 [⟨(some 19),.mv (.tmp 8),none,0⟩,⟨(some 7),.mv (.tmp 19),none,0⟩] none 0 []) (.reg 0 [⟨(some 20),.mv (.tmp 8),none,0⟩,⟨(some 21),.mv (.tmp 6),none,0⟩,⟨(some 22),.bin .add (.tmp 20) (.tmp 21),none,0⟩,⟨(some 8),.mv (.tmp 22),none,0⟩] none 0 []))))))) (.seq (.reg 0 [⟨(some 23),.mv (.tmp 0),none,0⟩,⟨(some 24),.mv (.tmp 7),none,0⟩,⟨(some 25),.mv (.tmp 1),none,0⟩,⟨(some 26),.mv (.tmp 2),none,0⟩,⟨(some 27),.cl 217 [(.tmp 23),(.tmp 24),(.tmp 25),(.tmp 26)],none,0⟩] none 0 []) (.block 2 (.loop (.seq (.seq (.reg 0 [⟨(some 28),.mv (.tmp 6),none,0⟩,⟨(some 29),.mv (.tmp 1),none,0⟩,⟨(some 30),.bin .lss (.tmp 28) (.tmp 29),none,0⟩] none 0 []) (.cond (.tmp 30) .skip (.exit 2))) (.block 3 (.seq (.reg 0 [⟨(some 31),.mv (.tmp 6),none,0⟩,⟨(some 32),.bin .mul (.const (.int .i64 2)) (.tmp 31),none,0⟩,⟨(some 7),.mv (.const (.int .i64 0)),none,0⟩,⟨(some 8),.mv (.tmp 32),none,0⟩] none 0 []) (.seq (.block 4 (.loop (.seq (.seq (.reg 0 [⟨(some 33),.mv (.tmp 8),none,0⟩,⟨(some 34),.mv (.tmp 1),none,0⟩,⟨(some 35),.bin .leq (.tmp 33) (.tmp 34),none,0⟩] none 0 []) (.cond (.tmp 35) .skip (.exit 4))) (.block 5 (.seq (.reg 0 [⟨(some 36),.mv (.tmp 0),none,0⟩,⟨(some 37),.mv (.tmp 7),none,0⟩,⟨(some 38),.mv (.tmp 7),none,0⟩,⟨(some 39),.mv (.tmp 6),none,0⟩,⟨(some 40),.bin .add (.tmp 38) (.tmp 39),none,0⟩,⟨(some 41),.mv (.tmp 8),none,0⟩,⟨(some 42),.mv (.tmp 2),none,0⟩,⟨(some 43),.cl 218 [(.tmp 36),(.tmp 37),(.tmp 40),(.tmp 41),(.tmp 42)],none,0⟩] none 0 []) (.seq (.reg 0 [⟨(some 44),.mv (.tmp 8),none,0⟩,⟨(some 7),.mv (.tmp 44),none,0⟩] none 0 []) (.reg 0 [⟨(some 45),.mv (.tmp 8),none,0⟩,⟨(some 46),.mv (.tmp 6),none,0⟩,⟨(some 47),.bin .mul (.const (.int .i64 2)) (.tmp 46),none,0⟩,⟨(some 48),.bin .add (.tmp 45) (.tmp 47),none,0⟩,⟨(some 8),.mv (.tmp 48),none,0⟩] none 0 []))))))) (.seq (.seq (.reg 0 [⟨(some 49),.mv (.tmp 7),none,0⟩,⟨(some 50),.mv (.tmp 6),none,0⟩,⟨(some 51),.bin .add (.tmp 49) (.tmp 50),none,0⟩,⟨(some 9),.mv (.tmp 51),none,0⟩] none 0 []) (.seq (.reg 0 [⟨(some 52),.mv (.tmp 9),none,0⟩,⟨(some 53),.mv (.tmp 1),none,0⟩,⟨(some 54),.bin .lss (.tmp 52) (.tmp 53),none,0⟩] none 0 []) (.cond (.tmp 54) (.reg 0 [⟨(some 55),.mv (.tmp 0),none,0⟩,⟨(some 56),.mv (.tmp 7),none,0⟩,⟨(some 57),.mv (.tmp 9),none,0⟩,⟨(some 58),.mv (.tmp 1),none,0⟩,⟨(some 59),.mv (.tmp 2),none,0⟩,⟨(some 60),.cl 218 [(.tmp 55),(.tmp 56),(.tmp 57),(.tmp 58),(.tmp 59)],none,0⟩] none 0 []) .skip))) (.reg 0 [⟨(some 61),.mv (.tmp 6),none,0⟩,⟨(some 62),.bin .mul (.tmp 61) (.const (.int .i64 2)),none,0⟩,⟨(some 6),.mv (.tmp 62),none,0⟩] none 0 []))))))))))))
theorem gc166_ok:compF Tryz.prog Tryz.f166=some (gc166.er,63,[]):=by unfold gc166;kernel_rfl
theorem p_slices_stableCmpFunc_item_Item__v (a0:List ItemItem) (a1:Int) (a2:ItemItem→ItemItem→Option Int) {a2_g:Nat} {a2_k:List V} (a2_h:Clo2 Tryz.prog a2_g a2_k ItemItem.v ItemItem.v V.i a2):InPl Tryz.prog 166 ItemItem.v 5 [.i a1,.clo (.func a2_g) a2_k] a0 (p_slices_stableCmpFunc_item_Item_ a0 a1 a2):=by
 refine inPl_comp mix Tryz.func166 gc166_ok fun r H=>?_
 rw [p_slices_stableCmpFunc_item_Item_] at H
 conv=>whnf
 obtain ⟨o2,HL3,HQ4⟩:=bind_c H
 refine loop_c [7,8] [11,12,13,14,15,16,17,18,19,20,21,22] [11,12,13,14,15,16,17,18,19,20,21,22] (fun n vals st=>(∃ y6 y7 y8,p_slices_stableCmpFunc_item_Item__l1  a0 a2 a1 n y6 y7 y8=some o2∧vals=[.i y6,.i y7]∧st=[.live (cellsM ItemItem.v y8) 0])) fuel 1 [] (⟨_,_,_,HL3,rfl,rfl⟩) (Nat.le_of_ble_eq_true rfl) rfl (by simp only [maskF,setF,List.set_cons_zero,List.set_cons_succ,V.ren.renL,V.ren,renL_id _ a2_h.own] <;> rfl) (by simp only [maskF,setF,List.set_cons_zero,List.set_cons_succ,V.idlt.belowL,V.idlt,fun n=>idltL_up (n:=n) _ a2_h.own] <;> rfl) rfl (wkB_live0 rfl (cellsM_idlt (f:=ItemItem.v) (fun _=>rfl) _) rfl trivial) ?_
 rintro (_ | n5) _ _ (⟨y6,y7,y8,H,rfl,rfl⟩)
 ·rw [p_slices_stableCmpFunc_item_Item__l1] at H;cases H
 rw [p_slices_stableCmpFunc_item_Item__l1] at H
 conv=>whnf
 refine tst_c H (fun b9 H=>?_) (fun b9 H=>?_)
 ·conv=>whnf
  refine askIn_c (f:=ItemItem.v) (p_slices_insertionSortCmpFunc_item_Item__v _ _ _ _ a2_h) H (by simp only [V.idlt.belowL,V.idlt,a2_h.own] <;> rfl) (fun _=>rfl) (fun _=>rfl) rfl (fun l11 h10 H=>?_);conv=>whnf
  refine Ari.w ?_;conv=>whnf
  exact again_c [11,12,13,14,15,16,17,18,19,20,21,22] n5 1 [] (⟨_,_,_,H,rfl,rfl⟩) (Nat.lt_succ_self _) (Nat.le_of_ble_eq_true rfl) rfl (by simp only [maskF,setF,List.set_cons_zero,List.set_cons_succ,V.ren.renL,V.ren,renL_id _ a2_h.own] <;> rfl) (by simp only [maskF,setF,List.set_cons_zero,List.set_cons_succ,V.idlt.belowL,V.idlt,fun n=>idltL_up (n:=n) _ a2_h.own] <;> rfl) rfl (wkB_live0 rfl (cellsM_idlt (f:=ItemItem.v) (fun _=>rfl) _) rfl trivial)
 conv=>whnf
 obtain rfl:=Option.some.inj H
 have H:=HQ4
 try dsimp only at H
 refine askIn_c (f:=ItemItem.v) (p_slices_insertionSortCmpFunc_item_Item__v _ _ _ _ a2_h) H (by simp only [V.idlt.belowL,V.idlt,a2_h.own] <;> rfl) (fun _=>rfl) (fun _=>rfl) rfl (fun l13 h12 H=>?_);conv=>whnf
 obtain ⟨o15,HL16,HQ17⟩:=bind_c H
 refine loop_c [6] [7,8,9,28,29,30,31,32,33,34,35,36,37,38,39,40,41,42,43,44,45,46,47,48,49,50,51,52,53,54,55,56,57,58,59,60,61,62,23] [7,8,9,28,29,30,31,32,33,34,35,36,37,38,39,40,41,42,43,44,45,46,47,48,49,50,51,52,53,54,55,56,57,58,59,60,61,62,23] (fun n vals st=>(∃ y19,p_slices_stableCmpFunc_item_Item__l2  a1 n y19=some o15∧vals=[.i y19]∧st=[.live (cellsM ItemItem.v l13) 0])) fuel 1 [] (⟨_,HL16,rfl,rfl⟩) (Nat.le_of_ble_eq_true rfl) rfl (by simp only [maskF,setF,List.set_cons_zero,List.set_cons_succ,V.ren.renL,V.ren,renL_id _ a2_h.own] <;> rfl) (by simp only [maskF,setF,List.set_cons_zero,List.set_cons_succ,V.idlt.belowL,V.idlt,fun n=>idltL_up (n:=n) _ a2_h.own] <;> rfl) rfl (wkB_live0 rfl (cellsM_idlt (f:=ItemItem.v) (fun _=>rfl) _) rfl trivial) ?_
 rintro (_ | n18) _ _ (⟨y19,H,rfl,rfl⟩)
 ·rw [p_slices_stableCmpFunc_item_Item__l2] at H;cases H
 rw [p_slices_stableCmpFunc_item_Item__l2] at H
 conv=>whnf
 refine tst_d H (fun b20 H=>?_) (fun b20 H=>?_)
 ·conv=>whnf
  obtain rfl:=Option.some.inj H
  have H:=HQ17
  try dsimp only at H
  exact inFin_c (f:=ItemItem.v) (es:=5) (l:=a0) (.inl rfl) H rfl (fun _=>rfl)
 conv=>whnf
 refine Ari.w ?_;conv=>whnf
 obtain ⟨o22,HL23,HQ24⟩:=bind_c H
 refine loop_c [7,8] [33,34,35,36,37,38,39,40,41,42,43,44,45,46,47,48] [33,34,35,36,37,38,39,40,41,42,43,44,45,46,47,48] (fun n vals st=>(p_slices_stableCmpFunc_item_Item__l3  a1 (w64 ((2:Int) * y19)) n=some o22∧vals=[.i (0:Int),.i (w64 ((2:Int) * y19))]∧st=[.live (cellsM ItemItem.v l13) 0])) fuel 1 [] (⟨HL23,rfl,rfl⟩) (Nat.le_of_ble_eq_true rfl) rfl (by simp only [maskF,setF,List.set_cons_zero,List.set_cons_succ,V.ren.renL,V.ren,renL_id _ a2_h.own] <;> rfl) (by simp only [maskF,setF,List.set_cons_zero,List.set_cons_succ,V.idlt.belowL,V.idlt,fun n=>idltL_up (n:=n) _ a2_h.own] <;> rfl) rfl (wkB_live0 rfl (cellsM_idlt (f:=ItemItem.v) (fun _=>rfl) _) rfl trivial) ?_
 rintro (_ | n25) _ _ (⟨H,rfl,rfl⟩)
 ·rw [p_slices_stableCmpFunc_item_Item__l3] at H;cases H
 rw [p_slices_stableCmpFunc_item_Item__l3] at H
 conv=>whnf
 refine tst_c H (fun b26 H=>?_) (fun b26 H=>?_)
 ·conv=>whnf
  refine Ari.w ?_;conv=>whnf
  cases H
 conv=>whnf
 obtain rfl:=Option.some.inj H
 have H:=HQ24
 try dsimp only at H
 refine Ari.w ?_;conv=>whnf
 refine tst_c H (fun b27 H=>?_) (fun b27 H=>?_)
 ·conv=>whnf
  cases H
 conv=>whnf
 refine Ari.w ?_;conv=>whnf
 exact again_c [7,8,9,28,29,30,31,32,33,34,35,36,37,38,39,40,41,42,43,44,45,46,47,48,49,50,51,52,53,54,55,56,57,58,59,60,61,62,23] n18 1 [] (⟨_,H,rfl,rfl⟩) (Nat.lt_succ_self _) (Nat.le_of_ble_eq_true rfl) rfl (by simp only [maskF,setF,List.set_cons_zero,List.set_cons_succ,V.ren.renL,V.ren,renL_id _ a2_h.own] <;> rfl) (by simp only [maskF,setF,List.set_cons_zero,List.set_cons_succ,V.idlt.belowL,V.idlt,fun n=>idltL_up (n:=n) _ a2_h.own] <;> rfl) rfl (wkB_live0 rfl (cellsM_idlt (f:=ItemItem.v) (fun _=>rfl) _) rfl trivial)
theorem p_slices_stableCmpFunc_item_Item__n (a0:List ItemItem) (hn0:a0=[]) (a1:Int) (a2:ItemItem→ItemItem→Option Int) {a2_g:Nat} {a2_k:List V} (a2_h:Clo2 Tryz.prog a2_g a2_k ItemItem.v ItemItem.v V.i a2):CallsO Tryz.prog 166 [.sl (List.map ItemItem.v []) true,.i a1,.clo (.func a2_g) a2_k] (fun _:List ItemItem=>V.tup []) (p_slices_stableCmpFunc_item_Item_ a0 a1 a2):=by
 refine callsO_comp mix Tryz.func166 gc166_ok fun r H=>?_
 rw [p_slices_stableCmpFunc_item_Item_] at H
 conv=>whnf
 obtain ⟨o2,HL3,HQ4⟩:=bind_c H
 refine loop_c [7,8] [11,12,13,14,15,16,17,18,19,20,21,22] [11,12,13,14,15,16,17,18,19,20,21,22] (fun n vals st=>(∃ y6 y7 y8,p_slices_stableCmpFunc_item_Item__l1  a0 a2 a1 n y6 y7 y8=some o2∧vals=[.i y6,.i y7]∧st=[])) fuel 0 [] (⟨_,_,_,HL3,rfl,rfl⟩) (Nat.zero_le _) rfl (by simp only [maskF,setF,List.set_cons_zero,List.set_cons_succ,V.ren.renL,V.ren,renL_id _ a2_h.own] <;> rfl) (by simp only [maskF,setF,List.set_cons_zero,List.set_cons_succ,V.idlt.belowL,V.idlt,fun n=>idltL_up (n:=n) _ a2_h.own] <;> rfl) rfl trivial ?_
 rintro (_ | n5) _ _ (⟨y6,y7,y8,H,rfl,rfl⟩)
 ·rw [p_slices_stableCmpFunc_item_Item__l1] at H;cases H
 rw [p_slices_stableCmpFunc_item_Item__l1] at H
 conv=>whnf
 refine tst_c H (fun b9 H=>?_) (fun b9 H=>?_)
 ·conv=>whnf
  refine askInN_c (n:=(List.length a0)) (by rw [hn0];rfl) (fun y hy=>p_slices_insertionSortCmpFunc_item_Item__n y hy _ _ _ a2_h) H (by simp only [V.idlt.belowL,V.idlt,a2_h.own] <;> rfl) (fun l11 h10 H=>?_);conv=>whnf
  refine Ari.w ?_;conv=>whnf
  exact again_c [11,12,13,14,15,16,17,18,19,20,21,22] n5 0 [] (⟨_,_,_,H,rfl,rfl⟩) (Nat.lt_succ_self _) (Nat.zero_le _) rfl (by simp only [maskF,setF,List.set_cons_zero,List.set_cons_succ,V.ren.renL,V.ren,renL_id _ a2_h.own] <;> rfl) (by simp only [maskF,setF,List.set_cons_zero,List.set_cons_succ,V.idlt.belowL,V.idlt,fun n=>idltL_up (n:=n) _ a2_h.own] <;> rfl) rfl trivial
 conv=>whnf
 obtain rfl:=Option.some.inj H
 have H:=HQ4
 try dsimp only at H
 refine askInN_c (n:=(List.length a0)) (by rw [hn0];rfl) (fun y hy=>p_slices_insertionSortCmpFunc_item_Item__n y hy _ _ _ a2_h) H (by simp only [V.idlt.belowL,V.idlt,a2_h.own] <;> rfl) (fun l13 h12 H=>?_);conv=>whnf
 obtain ⟨o15,HL16,HQ17⟩:=bind_c H
 refine loop_c [6] [7,8,9,28,29,30,31,32,33,34,35,36,37,38,39,40,41,42,43,44,45,46,47,48,49,50,51,52,53,54,55,56,57,58,59,60,61,62] [7,8,9,28,29,30,31,32,33,34,35,36,37,38,39,40,41,42,43,44,45,46,47,48,49,50,51,52,53,54,55,56,57,58,59,60,61,62] (fun n vals st=>(∃ y19,p_slices_stableCmpFunc_item_Item__l2  a1 n y19=some o15∧vals=[.i y19]∧st=[])) fuel 0 [] (⟨_,HL16,rfl,rfl⟩) (Nat.zero_le _) rfl (by simp only [maskF,setF,List.set_cons_zero,List.set_cons_succ,V.ren.renL,V.ren,renL_id _ a2_h.own] <;> rfl) (by simp only [maskF,setF,List.set_cons_zero,List.set_cons_succ,V.idlt.belowL,V.idlt,fun n=>idltL_up (n:=n) _ a2_h.own] <;> rfl) rfl trivial ?_
 rintro (_ | n18) _ _ (⟨y19,H,rfl,rfl⟩)
 ·rw [p_slices_stableCmpFunc_item_Item__l2] at H;cases H
 rw [p_slices_stableCmpFunc_item_Item__l2] at H
 conv=>whnf
 refine tst_d H (fun b20 H=>?_) (fun b20 H=>?_)
 ·conv=>whnf
  obtain rfl:=Option.some.inj H
  have H:=HQ17
  try dsimp only at H
  exact fin0_c (enc:=fun _:List ItemItem=>V.tup []) H (.inl rfl) .nil rfl rfl
 conv=>whnf
 refine Ari.w ?_;conv=>whnf
 obtain ⟨o22,HL23,HQ24⟩:=bind_c H
 refine loop_c [7,8] [33,34,35,36,37,38,39,40,41,42,43,44,45,46,47,48] [33,34,35,36,37,38,39,40,41,42,43,44,45,46,47,48] (fun n vals st=>(p_slices_stableCmpFunc_item_Item__l3  a1 (w64 ((2:Int) * y19)) n=some o22∧vals=[.i (0:Int),.i (w64 ((2:Int) * y19))]∧st=[])) fuel 0 [] (⟨HL23,rfl,rfl⟩) (Nat.zero_le _) rfl (by simp only [maskF,setF,List.set_cons_zero,List.set_cons_succ,V.ren.renL,V.ren,renL_id _ a2_h.own] <;> rfl) (by simp only [maskF,setF,List.set_cons_zero,List.set_cons_succ,V.idlt.belowL,V.idlt,fun n=>idltL_up (n:=n) _ a2_h.own] <;> rfl) rfl trivial ?_
 rintro (_ | n25) _ _ (⟨H,rfl,rfl⟩)
 ·rw [p_slices_stableCmpFunc_item_Item__l3] at H;cases H
 rw [p_slices_stableCmpFunc_item_Item__l3] at H
 conv=>whnf
 refine tst_c H (fun b26 H=>?_) (fun b26 H=>?_)
 ·conv=>whnf
  refine Ari.w ?_;conv=>whnf
  cases H
 conv=>whnf
 obtain rfl:=Option.some.inj H
 have H:=HQ24
 try dsimp only at H
 refine Ari.w ?_;conv=>whnf
 refine tst_c H (fun b27 H=>?_) (fun b27 H=>?_)
 ·conv=>whnf
  cases H
 conv=>whnf
 refine Ari.w ?_;conv=>whnf
 exact again_c [7,8,9,28,29,30,31,32,33,34,35,36,37,38,39,40,41,42,43,44,45,46,47,48,49,50,51,52,53,54,55,56,57,58,59,60,61,62] n18 0 [] (⟨_,H,rfl,rfl⟩) (Nat.lt_succ_self _) (Nat.zero_le _) rfl (by simp only [maskF,setF,List.set_cons_zero,List.set_cons_succ,V.ren.renL,V.ren,renL_id _ a2_h.own] <;> rfl) (by simp only [maskF,setF,List.set_cons_zero,List.set_cons_succ,V.idlt.belowL,V.idlt,fun n=>idltL_up (n:=n) _ a2_h.own] <;> rfl) rfl trivial
end Go.Proofs.YtpmoioopjbfhkaaGreat

/- slices.Clone at function 101. -/
namespace Go.Proofs.YtpmoioopjbfhkaaGreat
open Go.RowKit Go.Lib
set_option maxHeartbeats 4000000
set_option maxRecDepth 100000
theorem cloS101 (A:Addr) (n c:Nat) (cs:List Value) (w:World) (hn:0 < n) (hbig:n≤1000000) (hcl:cs.length=n * 5) (hcs:∀ j v,cs[j]?=some v→w.cell? (A.add j)=some v) (h1:∀ v ∈ cs,v.oneCell'=true) :
  Calls Tryz.prog 101 #[.slice (some A) n c] w fun e w'=>∃ ZS:Array Value,e=.returned (.slice (some ⟨w.heap.size + 1,0,none⟩) n (grownCap (w.alloc (.cells #[] 26)) n 0 26))∧w'=(w.alloc (.cells #[] 26)).drew.alloc (.cells (cs.toArray++ZS) 26)∧grownCap (w.alloc (.cells #[] 26)) n 0 26 * 5≤(cs.toArray++ZS).size:=by
 have tS:Tryz.prog.underlying 47=some (.slice 26):=by kernel_rfl
 have uS:=run_underlying tS
 have qS:∀ (w:World) (a:Option Addr) (n c n' c' : Nat),(binOp .eql 47 (.slice a n c) (.slice none n' c')).run Tryz.prog w=.ok (.bool a.isNone) w:=fun w a n c n' c'=>Lib.run_eql_slice_nil w _ _ a n c n' c' tS
 have mixed:Tryz.prog.follows .mixedOrders=true:=mix
 obtain ⟨i0,z,hi0,hzs,hz0,hzc,hzb⟩:=infB_ok (P:=Tryz.prog) (e:=26) (es:=5) (by kernel_rfl)
 have hsrc:Src Tryz.prog i0.size 47 (.slice (some A) n c) n cs (w.alloc (.cells #[] 26)):=by
  rw [hzs]
  exact Src.ofSlice _ tS A n c cs (by omega) (fun j u hj=>Lib.cell?_alloc_some _ (hcs j u hj)) h1
 have hold:(Builtin.firstCells i0.size 0 (.slice (some ⟨w.heap.size,0,none⟩) 0 0)).run Tryz.prog (w.alloc (.cells #[] 26)).drew=.ok ([]:List Value).toArray (w.alloc (.cells #[] 26)).drew:=by
  rw [hzs]
  exact run_firstCells_some _ 5 0 ⟨w.heap.size,0,none⟩ 0 0 [] (by simp) (fun j v hj=>by simp at hj)
 have hrun:∀ ty,(Builtin.append_ #[47,47] ty #[.slice (some ⟨w.heap.size,0,none⟩) 0 0,.slice (some A) n c]).run Tryz.prog (w.alloc (.cells #[] 26))=_:=fun ty =>
  run_append_grow_src (w.alloc (.cells #[] 26)) 47 47 ty 26 i0 z tS hi0 hz0 (some ⟨w.heap.size,0,none⟩) 0 0 [] hold _ n cs hsrc (by omega) (by omega) (growslice_fits (by omega) (grown_bound (by omega) hzb))
 simp only [Nat.zero_add,List.nil_append,World.size_alloc] at hrun
 have hge:=grownCap_ge (w.alloc (.cells #[] 26)) n 0 26
 have hsz:grownCap (w.alloc (.cells #[] 26)) n 0 26 * 5≤(cs.toArray++Builtin.zeroCells z.cells (grownCap (w.alloc (.cells #[] 26)) n 0 26 - n)).size:=by
  simp only [Array.size_append,size_zeroCells,hzc,List.size_toArray,hcl]
  omega
 obtain ⟨ZS,hrun,hsz⟩ : ∃ ZS:Array Value,(∀ ty,(Builtin.append_ #[47,47] ty #[.slice (some ⟨w.heap.size,0,none⟩) 0 0,.slice (some A) n c]).run Tryz.prog (w.alloc (.cells #[] 26))=.ok (.slice (some ⟨w.heap.size + 1,0,none⟩) n (grownCap (w.alloc (.cells #[] 26)) n 0 26)) ((w.alloc (.cells #[] 26)).drew.alloc (.cells (cs.toArray++ZS) 26)))∧grownCap (w.alloc (.cells #[] 26)) n 0 26 * 5≤(cs.toArray++ZS).size:=⟨_,hrun,hsz⟩
 have main:Calls Tryz.prog 101 #[.slice (some A) n c] w fun e w'=>e=.returned (.slice (some ⟨w.heap.size + 1,0,none⟩) n (grownCap (w.alloc (.cells #[] 26)) n 0 26))∧w'=(w.alloc (.cells #[] 26)).drew.alloc (.cells (cs.toArray++ZS) 26):=by
  clear hsz hold hsrc hz0 hcs
  go_enter Tryz.func101,Tryz.ntmps101
  go_wp2_with (at_builtin;refine Lib.wpList_append_run _ rfl _ _ _ _ rfl _ _ rfl rfl _ _ (hrun _) ?_)
  go_ret
  exact ⟨rfl,rfl⟩
 refine main.mono ?_
 rintro e w' ⟨rfl,rfl⟩
 exact ⟨ZS,rfl,rfl,hsz⟩
theorem cloZ101 (A:Addr) (c:Nat) (w:World):Calls Tryz.prog 101 #[.slice (some A) 0 c] w fun e w'=>e=.returned (.slice (some ⟨w.heap.size,0,none⟩) 0 0)∧∃ q,w'=(w.alloc (.cells #[] 26)).drewN q:=by
 have tS:Tryz.prog.underlying 47=some (.slice 26):=by kernel_rfl
 have uS:=run_underlying tS
 have qS:∀ (w:World) (a:Option Addr) (n c n' c' : Nat),(binOp .eql 47 (.slice a n c) (.slice none n' c')).run Tryz.prog w=.ok (.bool a.isNone) w:=fun w a n c n' c'=>Lib.run_eql_slice_nil w _ _ a n c n' c' tS
 have mixed:Tryz.prog.follows .mixedOrders=true:=mix
 obtain ⟨i0,z,hi0,hzs,hz0,hzc,hzb⟩:=infB_ok (P:=Tryz.prog) (e:=26) (es:=5) (by kernel_rfl)
 have hsz:(Tryz.prog.info? 26).map (·.size)=some 5:=by rw [hi0];simp [hzs]
 have hrun:∀ ty,(Builtin.append_ #[47,47] ty #[.slice (some ⟨w.heap.size,0,none⟩) 0 0,.slice (some A) 0 c]).run Tryz.prog (w.alloc (.cells #[] 26))=.ok (.slice (some ⟨w.heap.size,0,none⟩) 0 0) (w.alloc (.cells #[] 26)):=fun ty=>by
  have hl:∀ (x:Addr) (W:World),(loadCells x 0).run Tryz.prog W=.ok #[] W:=fun x W=>by simpa using run_loadCells_list (P:=Tryz.prog) W x [] (by simp)
  simp [Builtin.append_,uS,Builtin.lenOf,Builtin.firstCells,sizeOf,typeInfo,hi0,hl,storeCells]
 have main:Calls Tryz.prog 101 #[.slice (some A) 0 c] w fun e w'=>e=.returned (.slice (some ⟨w.heap.size,0,none⟩) 0 0)∧w'=w.alloc (.cells #[] 26):=by
  go_enter Tryz.func101,Tryz.ntmps101
  go_wp2_with (at_builtin;refine Lib.wpList_append_run _ rfl _ _ _ _ rfl _ _ rfl rfl _ _ (hrun _) ?_)
  go_ret
  exact ⟨rfl,rfl⟩
 refine main.mono ?_
 rintro e w' ⟨rfl,rfl⟩
 exact ⟨rfl,0,rfl⟩
theorem cloN101 (n c:Nat) (w:World):Calls Tryz.prog 101 #[.slice none n c] w fun e w'=>e=.returned (.slice none 0 0)∧w'=w:=by
 have tS:Tryz.prog.underlying 47=some (.slice 26):=by kernel_rfl
 have uS:=run_underlying tS
 have qS:∀ (w:World) (a:Option Addr) (n c n' c' : Nat),(binOp .eql 47 (.slice a n c) (.slice none n' c')).run Tryz.prog w=.ok (.bool a.isNone) w:=fun w a n c n' c'=>Lib.run_eql_slice_nil w _ _ a n c n' c' tS
 have mixed:Tryz.prog.follows .mixedOrders=true:=mix
 go_enter Tryz.func101,Tryz.ntmps101
 go_wp2
 go_ret
 exact ⟨rfl,rfl⟩
theorem cloR101_v:CloRoads Tryz.prog 101 5 26:=⟨cloS101,cloZ101,cloN101⟩
end Go.Proofs.YtpmoioopjbfhkaaGreat

/- That the program's functions yield what the plain ones tell (written by a program of mine). -/
namespace Go.Proofs.YtpmoioopjbfhkaaGreat
open Go.RowKit
set_option maxRecDepth 100000
set_option maxHeartbeats 4000000
def gc102:BCode:=(.reg 0 [⟨(some 4),.mv (.tmp 0),none,0⟩,⟨(some 5),.mv (.tmp 0),none,0⟩,⟨(some 6),.lens (.tmp 5),none,0⟩,⟨(some 7),.mv (.tmp 1),none,0⟩,⟨(some 8),.cl 166 [(.tmp 4),(.tmp 6),(.tmp 7)],none,0⟩] none 0 [])
theorem gc102_ok:compF Tryz.prog Tryz.f102=some (gc102.er,9,[]):=by unfold gc102;kernel_rfl
theorem p_slices_SortStableFunc_item_Item_v (a0:List ItemItem) (a1:ItemItem→ItemItem→Option Int) {a1_g:Nat} {a1_k:List V} (a1_h:Clo2 Tryz.prog a1_g a1_k ItemItem.v ItemItem.v V.i a1):InPl Tryz.prog 102 ItemItem.v 5 [.clo (.func a1_g) a1_k] a0 (p_slices_SortStableFunc_item_Item a0 a1):=by
 refine inPl_comp mix Tryz.func102 gc102_ok fun r H=>?_
 rw [p_slices_SortStableFunc_item_Item] at H
 conv=>whnf
 refine askIn_c (f:=ItemItem.v) (p_slices_stableCmpFunc_item_Item__v _ _ _ a1_h) H (by simp only [V.idlt.belowL,V.idlt,a1_h.own] <;> rfl) (fun _=>rfl) (fun _=>rfl) rfl (fun l2 h1 H=>?_);conv=>whnf
 exact inFin_c (f:=ItemItem.v) (es:=5) (l:=a0) (.inl rfl) H rfl (fun _=>rfl)
theorem p_slices_SortStableFunc_item_Item_n (a0:List ItemItem) (hn0:a0=[]) (a1:ItemItem→ItemItem→Option Int) {a1_g:Nat} {a1_k:List V} (a1_h:Clo2 Tryz.prog a1_g a1_k ItemItem.v ItemItem.v V.i a1):CallsO Tryz.prog 102 [.sl (List.map ItemItem.v []) true,.clo (.func a1_g) a1_k] (fun _:List ItemItem=>V.tup []) (p_slices_SortStableFunc_item_Item a0 a1):=by
 refine callsO_comp mix Tryz.func102 gc102_ok fun r H=>?_
 rw [p_slices_SortStableFunc_item_Item] at H
 conv=>whnf
 refine LenQ.ok ?_;conv=>whnf
 rw [show (((List.map ItemItem.v ([]:List ItemItem)).length:Nat):Int)=(List.length a0:Int) by rw [hn0];rfl]
 refine askInN_c (n:=(List.length a0)) (by rw [hn0];rfl) (fun y hy=>p_slices_stableCmpFunc_item_Item__n y hy _ _ a1_h) H (by simp only [V.idlt.belowL,V.idlt,a1_h.own] <;> rfl) (fun l2 h1 H=>?_);conv=>whnf
 exact fin0_c (enc:=fun _:List ItemItem=>V.tup []) H (.inl rfl) .nil rfl rfl
def gc34:BCode:=(.seq (.reg 0 [⟨(some 2),.mv (.const (.slice none 0 0)),none,0⟩] none 0 []) (.seq (.reg 0 [⟨(some 4),.mv (.tmp 0),none,0⟩,⟨(some 5),.cl 101 [(.tmp 4)],none,0⟩,⟨(some 3),.mv (.tmp 5),none,0⟩] none 1 []) (.seq (.reg 0 [⟨(some 6),.mv (.tmp 3),none,0⟩,⟨(some 7),.cl 102 [(.tmp 6),(.func 92)],none,0⟩] none 0 []) (.seq (.reg 0 [⟨(some 8),.mv (.tmp 3),none,0⟩,⟨(some 2),.mv (.tmp 8),none,0⟩] none 0 []) .ret))))
theorem gc34_ok:compF Tryz.prog Tryz.f34=some (gc34.er,9,[.tmp 2]):=by unfold gc34;kernel_rfl
theorem p_item_Sort_v {u1:Bool} (a0:List ItemItem):CallsO Tryz.prog 34 [.sl (List.map ItemItem.v a0) u1] (fun l:List ItemItem=>V.sl (l.map ItemItem.v) false) (p_item_Sort a0):=by
 refine callsO_comp mix Tryz.func34 gc34_ok fun r H=>?_
 rw [p_item_Sort] at H
 conv=>whnf
 refine clone_c (f:=ItemItem.v) (id:=0) cloR101_v H (fun _=>rfl) (fun _=>rfl) rfl (fun H=>?_) (fun l1 H=>?_)
 ·conv=>whnf
  refine askInN_c (n:=(List.length ([]:List ItemItem))) rfl (fun y hy=>p_slices_SortStableFunc_item_Item_n y hy _ ⟨⟨_,Tryz.func92,by kernel_rfl,by kernel_rfl⟩,rfl,fun x0 x1=>p_item_Item_order_v _ _⟩) H rfl (fun l5 h4 H=>?_);conv=>whnf
  obtain rfl:=nil_len h4
  refine finR_c (enc:=(fun l:List ItemItem=>V.sl (l.map ItemItem.v) false)) H ?_;conv=>whnf
  exact ⟨_,.v (.c (.slw))⟩
 conv=>whnf
 refine askIn_c (f:=ItemItem.v) (p_slices_SortStableFunc_item_Item_v _ _ ⟨⟨_,Tryz.func92,by kernel_rfl,by kernel_rfl⟩,rfl,fun x0 x1=>p_item_Item_order_v _ _⟩) H rfl (fun _=>rfl) (fun _=>rfl) rfl (fun l3 h2 H=>?_);conv=>whnf
 refine finRz_c (enc:=(fun l:List ItemItem=>V.sl (l.map ItemItem.v) false)) [0] H ?_;conv=>whnf
 refine ⟨Nat.zero_le _,?_⟩;conv=>whnf
 exact ⟨_,.v (.c (fzc_made (f:=ItemItem.v) (l:=l3) rfl rfl rfl h2 (fun _=>rfl) (fun _=>rfl)))⟩
end Go.Proofs.YtpmoioopjbfhkaaGreat

