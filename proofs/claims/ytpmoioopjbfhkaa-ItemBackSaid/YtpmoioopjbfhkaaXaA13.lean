/- A part of the proof: 4 texts joined. -/
import Derived.Test.YtpmoioopjbfhkaaXaA12
import Derived.Test.YtpmoioopjbfhkaaXaA10
import Derived.KernelRfl
import Derived.Test.YtpmoioopjbfhkaaXaA11
import Derived.Lib.SliceRun
set_option linter.all false
/- That the program's functions yield what the plain ones tell (written by a program of mine). -/
namespace Go.Proofs.Ytpmoioopjbfhkaa
open Go.RowKit
set_option maxRecDepth 100000
set_option maxHeartbeats 4000000
def gc24:BCode:=(.seq (.reg 1 [⟨(some 2),.al (.agg [(.lit (.string ⟨#[]⟩)),(.lit (.string ⟨#[]⟩)),(.lit (.int .i64 0)),(.lit (.int .i64 0)),(.lit (.bool false))]),none,0⟩,⟨(some 3),.mv (.const (.int .i64 0)),none,1⟩] none 0 []) (.seq (.reg 1 [⟨(some 4),.al (.agg [(.lit (.string ⟨#[]⟩)),(.lit (.string ⟨#[]⟩)),(.lit (.int .i64 0)),(.lit (.int .i64 0)),(.lit (.bool false))]),none,0⟩] none 0 []) (.seq (.reg 1 [⟨(some 9),.mv (.tmp 0),none,0⟩,⟨(some 10),.cl 58 [(.tmp 9)],none,0⟩,⟨(some 5),.al (.agg [(.lit (.string ⟨#[]⟩)),(.lit (.int .i64 0)),(.lit (.int .i64 0))]),none,0⟩,⟨none,.st 3 (.tmp 5) (.tmp 10),none,1⟩] none 0 []) (.seq (.reg 0 [⟨(some 12),.ld 3 true (.tmp 5),none,0⟩,⟨(some 13),.cl 59 [(.tmp 12),(.const (.int .i64 33))],none,0⟩,⟨(some 11),.mv (.tmp 13),none,0⟩,⟨(some 14),.ex (.tmp 11) 0,none,0⟩,⟨(some 15),.ex (.tmp 11) 1,none,0⟩,⟨none,.st 3 (.tmp 5) (.tmp 14),none,0⟩,⟨(some 16),.fa 0 (.tmp 4),none,0⟩,⟨none,.st 1 (.tmp 16) (.tmp 15),none,0⟩] none 0 []) (.seq (.reg 0 [⟨(some 18),.ld 3 true (.tmp 5),none,0⟩,⟨(some 19),.cl 59 [(.tmp 18),(.const (.int .i64 24))],none,0⟩,⟨(some 17),.mv (.tmp 19),none,0⟩,⟨(some 20),.ex (.tmp 17) 0,none,0⟩,⟨(some 21),.ex (.tmp 17) 1,none,0⟩,⟨none,.st 3 (.tmp 5) (.tmp 20),none,0⟩,⟨(some 22),.fa 1 (.tmp 4),none,0⟩,⟨none,.st 1 (.tmp 22) (.tmp 21),none,0⟩] none 0 []) (.seq (.reg 0 [⟨(some 24),.ld 3 true (.tmp 5),none,0⟩,⟨(some 25),.cl 60 [(.tmp 24),(.const (.int .i64 1))],none,0⟩,⟨(some 23),.mv (.tmp 25),none,0⟩,⟨(some 26),.ex (.tmp 23) 0,none,0⟩,⟨(some 27),.ex (.tmp 23) 1,none,0⟩,⟨none,.st 3 (.tmp 5) (.tmp 26),none,0⟩,⟨(some 6),.mv (.tmp 27),none,0⟩] none 0 []) (.seq (.reg 0 [⟨(some 29),.ld 3 true (.tmp 5),none,0⟩,⟨(some 30),.cl 60 [(.tmp 29),(.const (.int .i64 6))],none,0⟩,⟨(some 28),.mv (.tmp 30),none,0⟩,⟨(some 31),.ex (.tmp 28) 0,none,0⟩,⟨(some 32),.ex (.tmp 28) 1,none,0⟩,⟨none,.st 3 (.tmp 5) (.tmp 31),none,0⟩,⟨(some 33),.fa 3 (.tmp 4),none,0⟩,⟨none,.st 1 (.tmp 33) (.tmp 32),none,0⟩] none 0 []) (.seq (.seq (.reg 0 [⟨(some 34),.ld 3 true (.tmp 5),none,0⟩,⟨(some 35),.cl 61 [(.tmp 34)],none,0⟩,⟨(some 7),.mv (.tmp 35),none,0⟩] none 0 []) (.seq (.reg 0 [⟨(some 36),.mv (.tmp 7),none,0⟩,⟨(some 37),.bin .neq (.tmp 36) (.const (.int .i64 0)),none,0⟩] none 0 []) (.cond (.tmp 37) (.seq (.reg 0 [⟨(some 38),.bd [(.lit (.string ⟨#[]⟩)),(.lit (.string ⟨#[]⟩)),(.lit (.int .i64 0)),(.lit (.int .i64 0)),(.lit (.bool false))] [],none,0⟩,⟨(some 39),.mv (.tmp 7),none,0⟩,⟨none,.st 5 (.tmp 2) (.tmp 38),none,0⟩,⟨(some 3),.mv (.tmp 39),none,0⟩] none 0 []) .ret) .skip))) (.seq (.seq (.reg 0 [⟨(some 40),.mv (.tmp 6),none,0⟩,⟨(some 41),.bin .gtr (.tmp 40) (.const (.int .i64 31)),none,0⟩] none 0 []) (.cond (.tmp 41) (.seq (.reg 0 [⟨(some 42),.bd [(.lit (.string ⟨#[]⟩)),(.lit (.string ⟨#[]⟩)),(.lit (.int .i64 0)),(.lit (.int .i64 0)),(.lit (.bool false))] [],none,0⟩,⟨none,.st 5 (.tmp 2) (.tmp 42),none,0⟩,⟨(some 3),.mv (.const (.int .i64 4)),none,0⟩] none 0 []) .ret) .skip)) (.seq (.reg 0 [⟨(some 43),.mv (.tmp 6),none,0⟩,⟨(some 44),.bin .andNot (.tmp 43) (.const (.int .i64 16)),none,0⟩,⟨(some 45),.mv (.tmp 6),none,0⟩,⟨(some 46),.bin .and (.tmp 45) (.const (.int .i64 16)),none,0⟩,⟨(some 47),.bin .neq (.tmp 46) (.const (.int .i64 0)),none,0⟩,⟨(some 48),.fa 2 (.tmp 4),none,0⟩,⟨none,.st 1 (.tmp 48) (.tmp 44),none,0⟩,⟨(some 49),.fa 4 (.tmp 4),none,0⟩,⟨none,.st 1 (.tmp 49) (.tmp 47),none,0⟩] none 0 []) (.seq (.seq (.reg 0 [⟨(some 50),.ld 5 true (.tmp 4),none,0⟩,⟨(some 51),.cl 25 [(.tmp 50)],none,0⟩,⟨(some 8),.mv (.tmp 51),none,0⟩] none 0 []) (.seq (.reg 0 [⟨(some 52),.mv (.tmp 8),none,0⟩,⟨(some 53),.bin .neq (.tmp 52) (.const (.int .i64 0)),none,0⟩] none 0 []) (.cond (.tmp 53) (.seq (.reg 0 [⟨(some 54),.bd [(.lit (.string ⟨#[]⟩)),(.lit (.string ⟨#[]⟩)),(.lit (.int .i64 0)),(.lit (.int .i64 0)),(.lit (.bool false))] [],none,0⟩,⟨(some 55),.mv (.tmp 8),none,0⟩,⟨none,.st 5 (.tmp 2) (.tmp 54),none,0⟩,⟨(some 3),.mv (.tmp 55),none,0⟩] none 0 []) .ret) .skip))) (.seq (.reg 0 [⟨(some 56),.ld 5 true (.tmp 4),none,0⟩,⟨none,.st 5 (.tmp 2) (.tmp 56),none,0⟩,⟨(some 3),.mv (.const (.int .i64 0)),none,0⟩] none 0 []) .ret))))))))))))
theorem gc24_ok:compF Try.prog Try.f24=some (gc24.er,57,[.cell 2 5 true,.tmp 3]):=by unfold gc24;kernel_rfl
theorem p_item_Get_v (a0:ByteArray):CallsO Try.prog 24 [.s a0] (fun r:ItemItem × Int=>.tup [ItemItem.v r.1,V.i r.2]) (p_item_Get a0):=by
 refine callsO_comp mix Try.func24 gc24_ok fun r H=>?_
 rw [p_item_Get] at H
 conv=>whnf
 refine ask_c (p_octet_Open_v _) H rfl rfl (fun v1 H=>?_);conv=>whnf
 refine ⟨Nat.le_of_ble_eq_true rfl,?_⟩;conv=>whnf
 refine ask_c (p_octet_Text_v _ _) H rfl rfl (fun v2 H=>?_);conv=>whnf
 refine ⟨Nat.le_of_ble_eq_true rfl,?_⟩;conv=>whnf
 refine ⟨Nat.le_of_ble_eq_true rfl,?_⟩;conv=>whnf
 refine ask_c (p_octet_Text_v _ _) H rfl rfl (fun v3 H=>?_);conv=>whnf
 refine ⟨Nat.le_of_ble_eq_true rfl,?_⟩;conv=>whnf
 refine ⟨Nat.le_of_ble_eq_true rfl,?_⟩;conv=>whnf
 refine ask_c (p_octet_Num_v _ _) H rfl rfl (fun v4 H=>?_);conv=>whnf
 refine ⟨Nat.le_of_ble_eq_true rfl,?_⟩;conv=>whnf
 refine ask_c (p_octet_Num_v _ _) H rfl rfl (fun v5 H=>?_);conv=>whnf
 refine ⟨Nat.le_of_ble_eq_true rfl,?_⟩;conv=>whnf
 refine ⟨Nat.le_of_ble_eq_true rfl,?_⟩;conv=>whnf
 refine ask_c (p_octet_Done_v _) H rfl rfl (fun v6 H=>?_);conv=>whnf
 refine tst_c H (fun b7 H=>?_) (fun b7 H=>?_)
 ·conv=>whnf
  refine ⟨Nat.le_of_ble_eq_true rfl,?_⟩;conv=>whnf
  exact fin0_c (enc:=(fun r:ItemItem × Int=>.tup [ItemItem.v r.1,V.i r.2])) H (.inr rfl) (.cons (.cell rfl rfl (Nat.le_of_ble_eq_true rfl)) (.cons (.tmp rfl) (.nil))) rfl rfl
 conv=>whnf
 refine tst_c H (fun b8 H=>?_) (fun b8 H=>?_)
 ·conv=>whnf
  refine ⟨Nat.le_of_ble_eq_true rfl,?_⟩;conv=>whnf
  exact fin0_c (enc:=(fun r:ItemItem × Int=>.tup [ItemItem.v r.1,V.i r.2])) H (.inr rfl) (.cons (.cell rfl rfl (Nat.le_of_ble_eq_true rfl)) (.cons (.tmp rfl) (.nil))) rfl rfl
 conv=>whnf
 refine ⟨Nat.le_of_ble_eq_true rfl,?_⟩;conv=>whnf
 refine ⟨Nat.le_of_ble_eq_true rfl,?_⟩;conv=>whnf
 refine ask_c (p_item_Check_v _) H rfl rfl (fun v9 H=>?_);conv=>whnf
 refine tst_c H (fun b10 H=>?_) (fun b10 H=>?_)
 ·conv=>whnf
  refine ⟨Nat.le_of_ble_eq_true rfl,?_⟩;conv=>whnf
  exact fin0_c (enc:=(fun r:ItemItem × Int=>.tup [ItemItem.v r.1,V.i r.2])) H (.inr rfl) (.cons (.cell rfl rfl (Nat.le_of_ble_eq_true rfl)) (.cons (.tmp rfl) (.nil))) rfl rfl
 conv=>whnf
 refine ⟨Nat.le_of_ble_eq_true rfl,?_⟩;conv=>whnf
 exact fin0_c (enc:=(fun r:ItemItem × Int=>.tup [ItemItem.v r.1,V.i r.2])) H (.inr rfl) (.cons (.cell rfl rfl (Nat.le_of_ble_eq_true rfl)) (.cons (.tmp rfl) (.nil))) rfl rfl
def gc115:BCode:=(.seq (.reg 0 [⟨(some 10),.mv (.tmp 1),none,0⟩,⟨(some 11),.bin .add (.tmp 10) (.const (.int .i64 1)),none,0⟩,⟨(some 8),.mv (.tmp 11),none,0⟩] none 0 []) (.block 0 (.loop (.seq (.seq (.reg 0 [⟨(some 12),.mv (.tmp 8),none,0⟩,⟨(some 13),.mv (.tmp 2),none,0⟩,⟨(some 14),.bin .lss (.tmp 12) (.tmp 13),none,0⟩] none 0 []) (.cond (.tmp 14) .skip (.exit 0))) (.seq (.block 1 (.seq (.reg 0 [⟨(some 17),.mv (.tmp 8),none,0⟩,⟨(some 9),.mv (.tmp 17),none,0⟩] none 0 []) (.block 2 (.loop (.seq (.seq (.reg 0 [⟨(some 18),.mv (.tmp 9),none,0⟩,⟨(some 19),.mv (.tmp 1),none,0⟩,⟨(some 20),.bin .gtr (.tmp 18) (.tmp 19),none,0⟩,⟨(some 21),.mv (.tmp 20),none,0⟩,⟨(some 22),.mv (.tmp 3),(some (21,true)),0⟩,⟨(some 23),.mv (.tmp 0),(some (21,true)),0⟩,⟨(some 24),.mv (.tmp 9),(some (21,true)),0⟩,⟨(some 25),.ixs 5 (.tmp 23) (.tmp 24),(some (21,true)),0⟩,⟨(some 26),.ld 5 true (.tmp 25),(some (21,true)),0⟩,⟨(some 27),.mv (.tmp 0),(some (21,true)),0⟩,⟨(some 28),.mv (.tmp 9),(some (21,true)),0⟩,⟨(some 29),.bin .sub (.tmp 28) (.const (.int .i64 1)),(some (21,true)),0⟩,⟨(some 30),.ixs 5 (.tmp 27) (.tmp 29),(some (21,true)),0⟩,⟨(some 31),.ld 5 true (.tmp 30),(some (21,true)),0⟩,⟨(some 32),.cv (.tmp 22) [(.tmp 26),(.tmp 31)],(some (21,true)),0⟩,⟨(some 33),.bin .lss (.tmp 32) (.const (.int .i64 0)),(some (21,true)),0⟩,⟨(some 34),.pick (.tmp 21) (.tmp 33) (.const (.bool false)),none,0⟩] (some [[],[],[1,0],[0,1,2],[2,1,0,3],[2,1,0,3],[2,1,0,3],[6,3,0,1,2,5],[5,2,1,0,3,6,7],[2,1,0,3],[2,1,0,3],[3,0,1,2,10],[10,11,3,0,1,2,9],[9,2,1,0,3,11,10,12],[12,10,11,9,13,7,6,5,8,3,0,1,2,4],[4,2,1,0,3,8,5,6,7,13,9,11,10,12,14],[14,12,10,11,9,13,7,6,5,8,4,15,2,1,0,3]]) 0 []) (.cond (.tmp 34) .skip (.exit 2))) (.seq (.block 3 (.reg 0 [⟨(some 37),.mv (.tmp 0),none,0⟩,⟨(some 38),.mv (.tmp 9),none,0⟩,⟨(some 39),.mv (.tmp 0),none,0⟩,⟨(some 40),.mv (.tmp 9),none,0⟩,⟨(some 41),.bin .sub (.tmp 40) (.const (.int .i64 1)),none,0⟩,⟨(some 42),.mv (.tmp 0),none,0⟩,⟨(some 43),.mv (.tmp 9),none,0⟩,⟨(some 44),.bin .sub (.tmp 43) (.const (.int .i64 1)),none,0⟩,⟨(some 45),.ixs 5 (.tmp 42) (.tmp 44),none,0⟩,⟨(some 46),.ld 5 true (.tmp 45),none,0⟩,⟨(some 47),.mv (.tmp 0),none,0⟩,⟨(some 48),.mv (.tmp 9),none,0⟩,⟨(some 49),.ixs 5 (.tmp 47) (.tmp 48),none,0⟩,⟨(some 50),.ld 5 true (.tmp 49),none,0⟩,⟨(some 51),.ixs 5 (.tmp 37) (.tmp 38),none,0⟩,⟨none,.st 5 (.tmp 51) (.tmp 46),none,0⟩,⟨(some 52),.ixs 5 (.tmp 39) (.tmp 41),none,0⟩,⟨none,.st 5 (.tmp 52) (.tmp 50),none,0⟩] (some [[],[],[],[],[3],[],[],[6],[6,7,5],[5,7,6,8],[],[],[11,10],[10,11,12],[12,11,10,13,9,8,7,6,5,1,0],[0,1,5,6,7,8,9,13,10,11,12,14],[15,14,13,12,11,10,9,8,7,6,5,1,0,3,4,2],[2,4,3,0,1,5,6,7,8,9,10,11,12,13,14,15,16]]) 0 [])) (.reg 0 [⟨(some 35),.mv (.tmp 9),none,0⟩,⟨(some 36),.bin .sub (.tmp 35) (.const (.int .i64 1)),none,0⟩,⟨(some 9),.mv (.tmp 36),none,0⟩] none 0 []))))))) (.reg 0 [⟨(some 15),.mv (.tmp 8),none,0⟩,⟨(some 16),.bin .add (.tmp 15) (.const (.int .i64 1)),none,0⟩,⟨(some 8),.mv (.tmp 16),none,0⟩] none 0 []))))))
theorem gc115_ok:compF Try.prog Try.f115=some (gc115.er,53,[]):=by unfold gc115;kernel_rfl
theorem p_slices_insertionSortCmpFunc_item_Item__v (a0:List ItemItem) (a1:Int) (a2:Int) (a3:ItemItem→ItemItem→Option Int) {a3_g:Nat} {a3_k:List V} (a3_h:Clo2 Try.prog a3_g a3_k ItemItem.v ItemItem.v V.i a3):InPl Try.prog 115 ItemItem.v 5 [.i a1,.i a2,.clo (.func a3_g) a3_k] a0 (p_slices_insertionSortCmpFunc_item_Item_ a0 a1 a2 a3):=by
 refine inPl_comp mix Try.func115 gc115_ok fun r H=>?_
 rw [p_slices_insertionSortCmpFunc_item_Item_] at H
 conv=>whnf
 refine Ari.w ?_;conv=>whnf
 obtain ⟨o2,HL3,HQ4⟩:=bind_c H
 refine loop_c [8] [9,12,13,14,15,16,17,18,19,20,21,22,23,24,25,26,27,28,29,30,31,32,33,34,35,36,37,38,39,40,41,42,43,44,45,46,47,48,49,50,51,52] [9,12,13,14,15,16,17,18,19,20,21,22,23,24,25,26,27,28,29,30,31,32,33,34,35,36,37,38,39,40,41,42,43,44,45,46,47,48,49,50,51,52] (fun n vals st=>(∃ y6 y7,p_slices_insertionSortCmpFunc_item_Item__l1  a0 a3 a1 a2 n y6 y7=some o2∧vals=[.i y6]∧st=[.live (cellsM ItemItem.v y7) 0])) fuel 1 [] (⟨_,_,HL3,rfl,rfl⟩) (Nat.le_of_ble_eq_true rfl) rfl (by simp only [maskF,setF,List.set_cons_zero,List.set_cons_succ,V.ren.renL,V.ren,renL_id _ a3_h.own] <;> rfl) (by simp only [maskF,setF,List.set_cons_zero,List.set_cons_succ,V.idlt.belowL,V.idlt,fun n=>idltL_up (n:=n) _ a3_h.own] <;> rfl) rfl (wkB_live0 rfl (cellsM_idlt (f:=ItemItem.v) (fun _=>rfl) _) rfl trivial) ?_
 rintro (_ | n5) _ _ (⟨y6,y7,H,rfl,rfl⟩)
 ·rw [p_slices_insertionSortCmpFunc_item_Item__l1] at H;cases H
 rw [p_slices_insertionSortCmpFunc_item_Item__l1] at H
 conv=>whnf
 refine tst_d H (fun b8 H=>?_) (fun b8 H=>?_)
 ·conv=>whnf
  obtain rfl:=Option.some.inj H
  have H:=HQ4
  try dsimp only at H
  exact inFin_c (f:=ItemItem.v) (es:=5) (l:=a0) (.inl rfl) H rfl (fun _=>rfl)
 conv=>whnf
 obtain ⟨o10,HL11,HQ12⟩:=bind_c H
 refine loop_c [9] [18,19,20,21,22,23,24,25,26,27,28,29,30,31,32,33,34,35,36,37,38,39,40,41,42,43,44,45,46,47,48,49,50,51,52] [18,19,20,21,22,23,24,25,26,27,28,29,30,31,32,33,34,35,36,37,38,39,40,41,42,43,44,45,46,47,48,49,50,51,52] (fun n vals st=>(∃ y14 y15,p_slices_insertionSortCmpFunc_item_Item__l2  a0 a3 a1 n y14 y15=some o10∧vals=[.i y14]∧st=[.live (cellsM ItemItem.v y15) 0])) fuel 1 [] (⟨_,_,HL11,rfl,rfl⟩) (Nat.le_of_ble_eq_true rfl) rfl (by simp only [maskF,setF,List.set_cons_zero,List.set_cons_succ,V.ren.renL,V.ren,renL_id _ a3_h.own] <;> rfl) (by simp only [maskF,setF,List.set_cons_zero,List.set_cons_succ,V.idlt.belowL,V.idlt,fun n=>idltL_up (n:=n) _ a3_h.own] <;> rfl) rfl (wkB_live0 rfl (cellsM_idlt (f:=ItemItem.v) (fun _=>rfl) _) rfl trivial) ?_
 rintro (_ | n13) _ _ (⟨y14,y15,H,rfl,rfl⟩)
 ·rw [p_slices_insertionSortCmpFunc_item_Item__l2] at H;cases H
 rw [p_slices_insertionSortCmpFunc_item_Item__l2] at H
 conv=>whnf
 refine tst_d H (fun b16 H=>?_) (fun b16 H=>?_)
 ·conv=>whnf
  iterate 12 (refine Tst.F ?_;conv=>whnf)
  refine FootQ.mk ⟨rfl,?_⟩;conv=>whnf
  refine Tst.F ?_;conv=>whnf
  obtain rfl:=Option.some.inj H
  have H:=HQ12
  try dsimp only at H
  refine Ari.w ?_;conv=>whnf
  exact again_c [9,12,13,14,15,16,17,18,19,20,21,22,23,24,25,26,27,28,29,30,31,32,33,34,35,36,37,38,39,40,41,42,43,44,45,46,47,48,49,50,51,52] n5 1 [] (⟨_,_,H,rfl,rfl⟩) (Nat.lt_succ_self _) (Nat.le_of_ble_eq_true rfl) rfl (by simp only [maskF,setF,List.set_cons_zero,List.set_cons_succ,V.ren.renL,V.ren,renL_id _ a3_h.own] <;> rfl) (by simp only [maskF,setF,List.set_cons_zero,List.set_cons_succ,V.idlt.belowL,V.idlt,fun n=>idltL_up (n:=n) _ a3_h.own] <;> rfl) rfl (wkB_live0 rfl (cellsM_idlt (f:=ItemItem.v) (fun _=>rfl) _) rfl trivial)
 conv=>whnf
 iterate 3 (refine Tst.T ?_;conv=>whnf)
 refine ⟨rfl,ixa_c H (fun x17 h18 H=>?_)⟩;conv=>whnf
 refine Tst.T ?_;conv=>whnf
 refine ldo_c (f:=ItemItem.v) (es:=5) h18 (fun _=>rfl) 0 (by omega) (by decide) ?_;conv=>whnf
 iterate 3 (refine Tst.T ?_;conv=>whnf)
 refine Ari.w ?_;conv=>whnf
 refine Tst.T ?_;conv=>whnf
 refine ⟨rfl,ixa_c H (fun x19 h20 H=>?_)⟩;conv=>whnf
 refine Tst.T ?_;conv=>whnf
 refine ldo_c (f:=ItemItem.v) (es:=5) h20 (fun _=>rfl) 0 (by omega) (by decide) ?_;conv=>whnf
 refine Tst.T ?_;conv=>whnf
 refine askC2_c a3_h H (.cons (fzagg (.cons (.id rfl) (.cons (.id rfl) (.cons (.id rfl) (.cons (.id rfl) (.cons (.id rfl) (.nil)))))) rfl) (.cons (fzagg (.cons (.id rfl) (.cons (.id rfl) (.cons (.id rfl) (.cons (.id rfl) (.cons (.id rfl) (.nil)))))) rfl) (.nil))) (fun v21 H=>?_);conv=>whnf
 iterate 2 (refine Tst.T ?_;conv=>whnf)
 refine FootQ.mk ⟨rfl,?_⟩;conv=>whnf
 refine tst_d H (fun b22 H=>?_) (fun b22 H=>?_)
 ·conv=>whnf
  obtain rfl:=Option.some.inj H
  have H:=HQ12
  try dsimp only at H
  refine Ari.w ?_;conv=>whnf
  exact again_c [9,12,13,14,15,16,17,18,19,20,21,22,23,24,25,26,27,28,29,30,31,32,33,34,35,36,37,38,39,40,41,42,43,44,45,46,47,48,49,50,51,52] n5 1 [] (⟨_,_,H,rfl,rfl⟩) (Nat.lt_succ_self _) (Nat.le_of_ble_eq_true rfl) rfl (by simp only [maskF,setF,List.set_cons_zero,List.set_cons_succ,V.ren.renL,V.ren,renL_id _ a3_h.own] <;> rfl) (by simp only [maskF,setF,List.set_cons_zero,List.set_cons_succ,V.idlt.belowL,V.idlt,fun n=>idltL_up (n:=n) _ a3_h.own] <;> rfl) rfl (wkB_live0 rfl (cellsM_idlt (f:=ItemItem.v) (fun _=>rfl) _) rfl trivial)
 conv=>whnf
 iterate 2 (refine Ari.w ?_;conv=>whnf)
 refine ⟨rfl,ixa_c H (fun x23 h24 H=>?_)⟩;conv=>whnf
 refine ldo_c (f:=ItemItem.v) (es:=5) h24 (fun _=>rfl) 0 (by omega) (by decide) ?_;conv=>whnf
 refine ⟨rfl,ixa_c H (fun x25 h26 H=>?_)⟩;conv=>whnf
 refine ldo_c (f:=ItemItem.v) (es:=5) h26 (fun _=>rfl) 0 (by omega) (by decide) ?_;conv=>whnf
 refine ⟨rfl,ixa_c H (fun x27 h28 H=>?_)⟩;conv=>whnf
 refine ⟨Nat.zero_le _,sto_c (f:=ItemItem.v) (es:=5) h28 (x':=x23) (fun _=>rfl) 0 (by omega) (Nat.le_of_ble_eq_true rfl) (by rfl) ?_⟩;conv=>whnf
 refine ⟨rfl,ixa_c H (fun x29 h30 H=>?_)⟩;conv=>whnf
 refine ⟨Nat.zero_le _,sto_c (f:=ItemItem.v) (es:=5) h30 (x':=x25) (fun _=>rfl) 0 (by omega) (Nat.le_of_ble_eq_true rfl) (by rfl) ?_⟩;conv=>whnf
 refine FootQ.mk ⟨rfl,?_⟩;conv=>whnf
 refine Ari.w ?_;conv=>whnf
 exact again_c [18,19,20,21,22,23,24,25,26,27,28,29,30,31,32,33,34,35,36,37,38,39,40,41,42,43,44,45,46,47,48,49,50,51,52] n13 1 [] (⟨_,_,H,rfl,rfl⟩) (Nat.lt_succ_self _) (Nat.le_of_ble_eq_true rfl) rfl (by simp only [maskF,setF,List.set_cons_zero,List.set_cons_succ,V.ren.renL,V.ren,renL_id _ a3_h.own] <;> rfl) (by simp only [maskF,setF,List.set_cons_zero,List.set_cons_succ,V.idlt.belowL,V.idlt,fun n=>idltL_up (n:=n) _ a3_h.own] <;> rfl) rfl (wkB_live0 rfl (cellsM_idlt (f:=ItemItem.v) (fun _=>rfl) _) rfl trivial)
theorem p_slices_insertionSortCmpFunc_item_Item__n (a0:List ItemItem) (hn0:a0=[]) (a1:Int) (a2:Int) (a3:ItemItem→ItemItem→Option Int) {a3_g:Nat} {a3_k:List V} (a3_h:Clo2 Try.prog a3_g a3_k ItemItem.v ItemItem.v V.i a3):CallsO Try.prog 115 [.sl (List.map ItemItem.v []) true,.i a1,.i a2,.clo (.func a3_g) a3_k] (fun _:List ItemItem=>V.tup []) (p_slices_insertionSortCmpFunc_item_Item_ a0 a1 a2 a3):=by
 refine callsO_comp mix Try.func115 gc115_ok fun r H=>?_
 rw [p_slices_insertionSortCmpFunc_item_Item_] at H
 conv=>whnf
 refine Ari.w ?_;conv=>whnf
 obtain ⟨o2,HL3,HQ4⟩:=bind_c H
 refine loop_c [8] [9,12,13,14,15,16,17,18,19,20,21,22,23,24,25,26,27,28,29,30,31,32,33,34,35,36,37,38,39,40,41,42,43,44,45,46,47,48,49,50,51,52] [9,12,13,14,15,16,17,18,19,20,21,22,23,24,25,26,27,28,29,30,31,32,33,34,35,36,37,38,39,40,41,42,43,44,45,46,47,48,49,50,51,52] (fun n vals st=>(∃ y6 y7,p_slices_insertionSortCmpFunc_item_Item__l1  a0 a3 a1 a2 n y6 y7=some o2∧vals=[.i y6]∧st=[])) fuel 0 [] (⟨_,_,HL3,rfl,rfl⟩) (Nat.zero_le _) rfl (by simp only [maskF,setF,List.set_cons_zero,List.set_cons_succ,V.ren.renL,V.ren,renL_id _ a3_h.own] <;> rfl) (by simp only [maskF,setF,List.set_cons_zero,List.set_cons_succ,V.idlt.belowL,V.idlt,fun n=>idltL_up (n:=n) _ a3_h.own] <;> rfl) rfl trivial ?_
 rintro (_ | n5) _ _ (⟨y6,y7,H,rfl,rfl⟩)
 ·rw [p_slices_insertionSortCmpFunc_item_Item__l1] at H;cases H
 rw [p_slices_insertionSortCmpFunc_item_Item__l1] at H
 conv=>whnf
 refine tst_d H (fun b8 H=>?_) (fun b8 H=>?_)
 ·conv=>whnf
  obtain rfl:=Option.some.inj H
  have H:=HQ4
  try dsimp only at H
  exact fin0_c (enc:=fun _:List ItemItem=>V.tup []) H (.inl rfl) .nil rfl rfl
 conv=>whnf
 obtain ⟨o10,HL11,HQ12⟩:=bind_c H
 refine loop_c [9] [18,19,20,21,22,23,24,25,26,27,28,29,30,31,32,33,34,35,36,37,38,39,40,41,42,43,44,45,46,47,48,49,50,51,52] [18,19,20,21,22,23,24,25,26,27,28,29,30,31,32,33,34,35,36,37,38,39,40,41,42,43,44,45,46,47,48,49,50,51,52] (fun n vals st=>(∃ y14 y15,p_slices_insertionSortCmpFunc_item_Item__l2  a0 a3 a1 n y14 y15=some o10∧vals=[.i y14]∧st=[])) fuel 0 [] (⟨_,_,HL11,rfl,rfl⟩) (Nat.zero_le _) rfl (by simp only [maskF,setF,List.set_cons_zero,List.set_cons_succ,V.ren.renL,V.ren,renL_id _ a3_h.own] <;> rfl) (by simp only [maskF,setF,List.set_cons_zero,List.set_cons_succ,V.idlt.belowL,V.idlt,fun n=>idltL_up (n:=n) _ a3_h.own] <;> rfl) rfl trivial ?_
 rintro (_ | n13) _ _ (⟨y14,y15,H,rfl,rfl⟩)
 ·rw [p_slices_insertionSortCmpFunc_item_Item__l2] at H;cases H
 rw [p_slices_insertionSortCmpFunc_item_Item__l2] at H
 conv=>whnf
 refine tst_c H (fun b16 H=>?_) (fun b16 H=>?_)
 ·conv=>whnf
  iterate 3 (refine Tst.T ?_;conv=>whnf)
  exact nil_arr (by rw [hn0];rfl) H
 conv=>whnf
 iterate 12 (refine Tst.F ?_;conv=>whnf)
 refine FootQ.mk ⟨rfl,?_⟩;conv=>whnf
 refine Tst.F ?_;conv=>whnf
 obtain rfl:=Option.some.inj H
 have H:=HQ12
 try dsimp only at H
 refine Ari.w ?_;conv=>whnf
 exact again_c [9,12,13,14,15,16,17,18,19,20,21,22,23,24,25,26,27,28,29,30,31,32,33,34,35,36,37,38,39,40,41,42,43,44,45,46,47,48,49,50,51,52] n5 0 [] (⟨_,_,H,rfl,rfl⟩) (Nat.lt_succ_self _) (Nat.zero_le _) rfl (by simp only [maskF,setF,List.set_cons_zero,List.set_cons_succ,V.ren.renL,V.ren,renL_id _ a3_h.own] <;> rfl) (by simp only [maskF,setF,List.set_cons_zero,List.set_cons_succ,V.idlt.belowL,V.idlt,fun n=>idltL_up (n:=n) _ a3_h.own] <;> rfl) rfl trivial
end Go.Proofs.Ytpmoioopjbfhkaa

/- slices.Clone at function 39. -/
namespace Go.Proofs.Ytpmoioopjbfhkaa
open Go.RowKit Go.Lib
set_option maxHeartbeats 4000000
set_option maxRecDepth 100000
theorem cloS39 (A:Addr) (n c:Nat) (cs:List Value) (w:World) (hn:0 < n) (hbig:n≤1000000) (hcl:cs.length=n * 5) (hcs:∀ j v,cs[j]?=some v→w.cell? (A.add j)=some v) (h1:∀ v ∈ cs,v.oneCell'=true) :
  Calls Try.prog 39 #[.slice (some A) n c] w fun e w'=>∃ ZS:Array Value,e=.returned (.slice (some ⟨w.heap.size + 1,0,none⟩) n (grownCap (w.alloc (.cells #[] 33)) n 0 33))∧w'=(w.alloc (.cells #[] 33)).drew.alloc (.cells (cs.toArray++ZS) 33)∧grownCap (w.alloc (.cells #[] 33)) n 0 33 * 5≤(cs.toArray++ZS).size:=by
 have tS:Try.prog.underlying 27=some (.slice 33):=by kernel_rfl
 have uS:=run_underlying tS
 have qS:∀ (w:World) (a:Option Addr) (n c n' c' : Nat),(binOp .eql 27 (.slice a n c) (.slice none n' c')).run Try.prog w=.ok (.bool a.isNone) w:=fun w a n c n' c'=>Lib.run_eql_slice_nil w _ _ a n c n' c' tS
 have mixed:Try.prog.follows .mixedOrders=true:=mix
 obtain ⟨i0,z,hi0,hzs,hz0,hzc,hzb⟩:=infB_ok (P:=Try.prog) (e:=33) (es:=5) (by kernel_rfl)
 have hsrc:Src Try.prog i0.size 27 (.slice (some A) n c) n cs (w.alloc (.cells #[] 33)):=by
  rw [hzs]
  exact Src.ofSlice _ tS A n c cs (by omega) (fun j u hj=>Lib.cell?_alloc_some _ (hcs j u hj)) h1
 have hold:(Builtin.firstCells i0.size 0 (.slice (some ⟨w.heap.size,0,none⟩) 0 0)).run Try.prog (w.alloc (.cells #[] 33)).drew=.ok ([]:List Value).toArray (w.alloc (.cells #[] 33)).drew:=by
  rw [hzs]
  exact run_firstCells_some _ 5 0 ⟨w.heap.size,0,none⟩ 0 0 [] (by simp) (fun j v hj=>by simp at hj)
 have hrun:∀ ty,(Builtin.append_ #[27,27] ty #[.slice (some ⟨w.heap.size,0,none⟩) 0 0,.slice (some A) n c]).run Try.prog (w.alloc (.cells #[] 33))=_:=fun ty =>
  run_append_grow_src (w.alloc (.cells #[] 33)) 27 27 ty 33 i0 z tS hi0 hz0 (some ⟨w.heap.size,0,none⟩) 0 0 [] hold _ n cs hsrc (by omega) (by omega) (growslice_fits (by omega) (grown_bound (by omega) hzb))
 simp only [Nat.zero_add,List.nil_append,World.size_alloc] at hrun
 have hge:=grownCap_ge (w.alloc (.cells #[] 33)) n 0 33
 have hsz:grownCap (w.alloc (.cells #[] 33)) n 0 33 * 5≤(cs.toArray++Builtin.zeroCells z.cells (grownCap (w.alloc (.cells #[] 33)) n 0 33 - n)).size:=by
  simp only [Array.size_append,size_zeroCells,hzc,List.size_toArray,hcl]
  omega
 obtain ⟨ZS,hrun,hsz⟩ : ∃ ZS:Array Value,(∀ ty,(Builtin.append_ #[27,27] ty #[.slice (some ⟨w.heap.size,0,none⟩) 0 0,.slice (some A) n c]).run Try.prog (w.alloc (.cells #[] 33))=.ok (.slice (some ⟨w.heap.size + 1,0,none⟩) n (grownCap (w.alloc (.cells #[] 33)) n 0 33)) ((w.alloc (.cells #[] 33)).drew.alloc (.cells (cs.toArray++ZS) 33)))∧grownCap (w.alloc (.cells #[] 33)) n 0 33 * 5≤(cs.toArray++ZS).size:=⟨_,hrun,hsz⟩
 have main:Calls Try.prog 39 #[.slice (some A) n c] w fun e w'=>e=.returned (.slice (some ⟨w.heap.size + 1,0,none⟩) n (grownCap (w.alloc (.cells #[] 33)) n 0 33))∧w'=(w.alloc (.cells #[] 33)).drew.alloc (.cells (cs.toArray++ZS) 33):=by
  clear hsz hold hsrc hz0 hcs
  go_enter Try.func39,Try.ntmps39
  go_wp2_with (at_builtin;refine Lib.wpList_append_run _ rfl _ _ _ _ rfl _ _ rfl rfl _ _ (hrun _) ?_)
  go_ret
  exact ⟨rfl,rfl⟩
 refine main.mono ?_
 rintro e w' ⟨rfl,rfl⟩
 exact ⟨ZS,rfl,rfl,hsz⟩
theorem cloZ39 (A:Addr) (c:Nat) (w:World):Calls Try.prog 39 #[.slice (some A) 0 c] w fun e w'=>e=.returned (.slice (some ⟨w.heap.size,0,none⟩) 0 0)∧∃ q,w'=(w.alloc (.cells #[] 33)).drewN q:=by
 have tS:Try.prog.underlying 27=some (.slice 33):=by kernel_rfl
 have uS:=run_underlying tS
 have qS:∀ (w:World) (a:Option Addr) (n c n' c' : Nat),(binOp .eql 27 (.slice a n c) (.slice none n' c')).run Try.prog w=.ok (.bool a.isNone) w:=fun w a n c n' c'=>Lib.run_eql_slice_nil w _ _ a n c n' c' tS
 have mixed:Try.prog.follows .mixedOrders=true:=mix
 obtain ⟨i0,z,hi0,hzs,hz0,hzc,hzb⟩:=infB_ok (P:=Try.prog) (e:=33) (es:=5) (by kernel_rfl)
 have hsz:(Try.prog.info? 33).map (·.size)=some 5:=by rw [hi0];simp [hzs]
 have hrun:∀ ty,(Builtin.append_ #[27,27] ty #[.slice (some ⟨w.heap.size,0,none⟩) 0 0,.slice (some A) 0 c]).run Try.prog (w.alloc (.cells #[] 33))=.ok (.slice (some ⟨w.heap.size,0,none⟩) 0 0) (w.alloc (.cells #[] 33)):=fun ty=>by
  have hl:∀ (x:Addr) (W:World),(loadCells x 0).run Try.prog W=.ok #[] W:=fun x W=>by simpa using run_loadCells_list (P:=Try.prog) W x [] (by simp)
  simp [Builtin.append_,uS,Builtin.lenOf,Builtin.firstCells,sizeOf,typeInfo,hi0,hl,storeCells]
 have main:Calls Try.prog 39 #[.slice (some A) 0 c] w fun e w'=>e=.returned (.slice (some ⟨w.heap.size,0,none⟩) 0 0)∧w'=w.alloc (.cells #[] 33):=by
  go_enter Try.func39,Try.ntmps39
  go_wp2_with (at_builtin;refine Lib.wpList_append_run _ rfl _ _ _ _ rfl _ _ rfl rfl _ _ (hrun _) ?_)
  go_ret
  exact ⟨rfl,rfl⟩
 refine main.mono ?_
 rintro e w' ⟨rfl,rfl⟩
 exact ⟨rfl,0,rfl⟩
theorem cloN39 (n c:Nat) (w:World):Calls Try.prog 39 #[.slice none n c] w fun e w'=>e=.returned (.slice none 0 0)∧w'=w:=by
 have tS:Try.prog.underlying 27=some (.slice 33):=by kernel_rfl
 have uS:=run_underlying tS
 have qS:∀ (w:World) (a:Option Addr) (n c n' c' : Nat),(binOp .eql 27 (.slice a n c) (.slice none n' c')).run Try.prog w=.ok (.bool a.isNone) w:=fun w a n c n' c'=>Lib.run_eql_slice_nil w _ _ a n c n' c' tS
 have mixed:Try.prog.follows .mixedOrders=true:=mix
 go_enter Try.func39,Try.ntmps39
 go_wp2
 go_ret
 exact ⟨rfl,rfl⟩
theorem cloR39_v:CloRoads Try.prog 39 5 33:=⟨cloS39,cloZ39,cloN39⟩
end Go.Proofs.Ytpmoioopjbfhkaa

/- That the program's functions yield what the plain ones tell (written by a program of mine). -/
namespace Go.Proofs.Ytpmoioopjbfhkaa
open Go.RowKit
set_option maxRecDepth 100000
set_option maxHeartbeats 4000000
def gc80:BCode:=(.seq (.reg 0 [⟨(some 6),.mv (.const (.int .i64 20)),none,0⟩] none 0 []) (.seq (.reg 0 [⟨(some 10),.mv (.tmp 6),none,0⟩,⟨(some 7),.mv (.const (.int .i64 0)),none,0⟩,⟨(some 8),.mv (.tmp 10),none,0⟩] none 0 []) (.seq (.block 0 (.loop (.seq (.seq (.reg 0 [⟨(some 11),.mv (.tmp 8),none,0⟩,⟨(some 12),.mv (.tmp 1),none,0⟩,⟨(some 13),.bin .leq (.tmp 11) (.tmp 12),none,0⟩] none 0 []) (.cond (.tmp 13) .skip (.exit 0))) (.block 1 (.seq (.reg 0 [⟨(some 14),.mv (.tmp 0),none,0⟩,⟨(some 15),.mv (.tmp 7),none,0⟩,⟨(some 16),.mv (.tmp 8),none,0⟩,⟨(some 17),.mv (.tmp 2),none,0⟩,⟨(some 18),.cl 115 [(.tmp 14),(.tmp 15),(.tmp 16),(.tmp 17)],none,0⟩] none 0 []) (.seq (.reg 0 [⟨(some 19),.mv (.tmp 8),none,0⟩,⟨(some 7),.mv (.tmp 19),none,0⟩] none 0 []) (.reg 0 [⟨(some 20),.mv (.tmp 8),none,0⟩,⟨(some 21),.mv (.tmp 6),none,0⟩,⟨(some 22),.bin .add (.tmp 20) (.tmp 21),none,0⟩,⟨(some 8),.mv (.tmp 22),none,0⟩] none 0 []))))))) (.seq (.reg 0 [⟨(some 23),.mv (.tmp 0),none,0⟩,⟨(some 24),.mv (.tmp 7),none,0⟩,⟨(some 25),.mv (.tmp 1),none,0⟩,⟨(some 26),.mv (.tmp 2),none,0⟩,⟨(some 27),.cl 115 [(.tmp 23),(.tmp 24),(.tmp 25),(.tmp 26)],none,0⟩] none 0 []) (.block 2 (.loop (.seq (.seq (.reg 0 [⟨(some 28),.mv (.tmp 6),none,0⟩,⟨(some 29),.mv (.tmp 1),none,0⟩,⟨(some 30),.bin .lss (.tmp 28) (.tmp 29),none,0⟩] none 0 []) (.cond (.tmp 30) .skip (.exit 2))) (.block 3 (.seq (.reg 0 [⟨(some 31),.mv (.tmp 6),none,0⟩,⟨(some 32),.bin .mul (.const (.int .i64 2)) (.tmp 31),none,0⟩,⟨(some 7),.mv (.const (.int .i64 0)),none,0⟩,⟨(some 8),.mv (.tmp 32),none,0⟩] none 0 []) (.seq (.block 4 (.loop (.seq (.seq (.reg 0 [⟨(some 33),.mv (.tmp 8),none,0⟩,⟨(some 34),.mv (.tmp 1),none,0⟩,⟨(some 35),.bin .leq (.tmp 33) (.tmp 34),none,0⟩] none 0 []) (.cond (.tmp 35) .skip (.exit 4))) (.block 5 (.seq (.reg 0 [⟨(some 36),.mv (.tmp 0),none,0⟩,⟨(some 37),.mv (.tmp 7),none,0⟩,⟨(some 38),.mv (.tmp 7),none,0⟩,⟨(some 39),.mv (.tmp 6),none,0⟩,⟨(some 40),.bin .add (.tmp 38) (.tmp 39),none,0⟩,⟨(some 41),.mv (.tmp 8),none,0⟩,⟨(some 42),.mv (.tmp 2),none,0⟩,⟨(some 43),.cl 116 [(.tmp 36),(.tmp 37),(.tmp 40),(.tmp 41),(.tmp 42)],none,0⟩] none 0 []) (.seq (.reg 0 [⟨(some 44),.mv (.tmp 8),none,0⟩,⟨(some 7),.mv (.tmp 44),none,0⟩] none 0 []) (.reg 0 [⟨(some 45),.mv (.tmp 8),none,0⟩,⟨(some 46),.mv (.tmp 6),none,0⟩,⟨(some 47),.bin .mul (.const (.int .i64 2)) (.tmp 46),none,0⟩,⟨(some 48),.bin .add (.tmp 45) (.tmp 47),none,0⟩,⟨(some 8),.mv (.tmp 48),none,0⟩] none 0 []))))))) (.seq (.seq (.reg 0 [⟨(some 49),.mv (.tmp 7),none,0⟩,⟨(some 50),.mv (.tmp 6),none,0⟩,⟨(some 51),.bin .add (.tmp 49) (.tmp 50),none,0⟩,⟨(some 9),.mv (.tmp 51),none,0⟩] none 0 []) (.seq (.reg 0 [⟨(some 52),.mv (.tmp 9),none,0⟩,⟨(some 53),.mv (.tmp 1),none,0⟩,⟨(some 54),.bin .lss (.tmp 52) (.tmp 53),none,0⟩] none 0 []) (.cond (.tmp 54) (.reg 0 [⟨(some 55),.mv (.tmp 0),none,0⟩,⟨(some 56),.mv (.tmp 7),none,0⟩,⟨(some 57),.mv (.tmp 9),none,0⟩,⟨(some 58),.mv (.tmp 1),none,0⟩,⟨(some 59),.mv (.tmp 2),none,0⟩,⟨(some 60),.cl 116 [(.tmp 55),(.tmp 56),(.tmp 57),(.tmp 58),(.tmp 59)],none,0⟩] none 0 []) .skip))) (.reg 0 [⟨(some 61),.mv (.tmp 6),none,0⟩,⟨(some 62),.bin .mul (.tmp 61) (.const (.int .i64 2)),none,0⟩,⟨(some 6),.mv (.tmp 62),none,0⟩] none 0 []))))))))))))
theorem gc80_ok:compF Try.prog Try.f80=some (gc80.er,63,[]):=by unfold gc80;kernel_rfl
theorem p_slices_stableCmpFunc_item_Item__v (a0:List ItemItem) (a1:Int) (a2:ItemItem→ItemItem→Option Int) {a2_g:Nat} {a2_k:List V} (a2_h:Clo2 Try.prog a2_g a2_k ItemItem.v ItemItem.v V.i a2):InPl Try.prog 80 ItemItem.v 5 [.i a1,.clo (.func a2_g) a2_k] a0 (p_slices_stableCmpFunc_item_Item_ a0 a1 a2):=by
 refine inPl_comp mix Try.func80 gc80_ok fun r H=>?_
 rw [p_slices_stableCmpFunc_item_Item_] at H
 conv=>whnf
 obtain ⟨o2,HL3,HQ4⟩:=bind_c H
 refine loop_c [7,8] [11,12,13,14,15,16,17,18,19,20,21,22] [11,12,13,14,15,16,17,18,19,20,21,22] (fun n vals st=>(∃ y6 y7 y8,p_slices_stableCmpFunc_item_Item__l1  a0 a2 a1 n y6 y7 y8=some o2∧vals=[.i y6,.i y7]∧st=[.live (cellsM ItemItem.v y8) 0])) fuel 1 [] (⟨_,_,_,HL3,rfl,rfl⟩) (Nat.le_of_ble_eq_true rfl) rfl (by simp only [maskF,setF,List.set_cons_zero,List.set_cons_succ,V.ren.renL,V.ren,renL_id _ a2_h.own] <;> rfl) (by simp only [maskF,setF,List.set_cons_zero,List.set_cons_succ,V.idlt.belowL,V.idlt,fun n=>idltL_up (n:=n) _ a2_h.own] <;> rfl) rfl (wkB_live0 rfl (cellsM_idlt (f:=ItemItem.v) (fun _=>rfl) _) rfl trivial) ?_
 rintro (_ | n5) _ _ (⟨y6,y7,y8,H,rfl,rfl⟩)
 ·rw [p_slices_stableCmpFunc_item_Item__l1] at H;cases H
 rw [p_slices_stableCmpFunc_item_Item__l1] at H
 conv=>whnf
 refine tst_c H (fun b9 H=>?_) (fun b9 H=>?_)
 ·conv=>whnf
  refine askIn_c (f:=ItemItem.v) (p_slices_insertionSortCmpFunc_item_Item__v _ _ _ _ a2_h) H (by simp only [V.idlt.belowL,V.idlt,a2_h.own] <;> rfl) (fun _=>rfl) (fun _=>rfl) rfl (fun l11 h10 H=>?_);conv=>whnf
  refine Ari.w ?_;conv=>whnf
  exact again_c [11,12,13,14,15,16,17,18,19,20,21,22] n5 1 [] (⟨_,_,_,H,rfl,rfl⟩) (Nat.lt_succ_self _) (Nat.le_of_ble_eq_true rfl) rfl (by simp only [maskF,setF,List.set_cons_zero,List.set_cons_succ,V.ren.renL,V.ren,renL_id _ a2_h.own] <;> rfl) (by simp only [maskF,setF,List.set_cons_zero,List.set_cons_succ,V.idlt.belowL,V.idlt,fun n=>idltL_up (n:=n) _ a2_h.own] <;> rfl) rfl (wkB_live0 rfl (cellsM_idlt (f:=ItemItem.v) (fun _=>rfl) _) rfl trivial)
 conv=>whnf
 obtain rfl:=Option.some.inj H
 have H:=HQ4
 try dsimp only at H
 refine askIn_c (f:=ItemItem.v) (p_slices_insertionSortCmpFunc_item_Item__v _ _ _ _ a2_h) H (by simp only [V.idlt.belowL,V.idlt,a2_h.own] <;> rfl) (fun _=>rfl) (fun _=>rfl) rfl (fun l13 h12 H=>?_);conv=>whnf
 obtain ⟨o15,HL16,HQ17⟩:=bind_c H
 refine loop_c [6] [7,8,9,28,29,30,31,32,33,34,35,36,37,38,39,40,41,42,43,44,45,46,47,48,49,50,51,52,53,54,55,56,57,58,59,60,61,62,23] [7,8,9,28,29,30,31,32,33,34,35,36,37,38,39,40,41,42,43,44,45,46,47,48,49,50,51,52,53,54,55,56,57,58,59,60,61,62,23] (fun n vals st=>(∃ y19,p_slices_stableCmpFunc_item_Item__l2  a1 n y19=some o15∧vals=[.i y19]∧st=[.live (cellsM ItemItem.v l13) 0])) fuel 1 [] (⟨_,HL16,rfl,rfl⟩) (Nat.le_of_ble_eq_true rfl) rfl (by simp only [maskF,setF,List.set_cons_zero,List.set_cons_succ,V.ren.renL,V.ren,renL_id _ a2_h.own] <;> rfl) (by simp only [maskF,setF,List.set_cons_zero,List.set_cons_succ,V.idlt.belowL,V.idlt,fun n=>idltL_up (n:=n) _ a2_h.own] <;> rfl) rfl (wkB_live0 rfl (cellsM_idlt (f:=ItemItem.v) (fun _=>rfl) _) rfl trivial) ?_
 rintro (_ | n18) _ _ (⟨y19,H,rfl,rfl⟩)
 ·rw [p_slices_stableCmpFunc_item_Item__l2] at H;cases H
 rw [p_slices_stableCmpFunc_item_Item__l2] at H
 conv=>whnf
 refine tst_d H (fun b20 H=>?_) (fun b20 H=>?_)
 ·conv=>whnf
  obtain rfl:=Option.some.inj H
  have H:=HQ17
  try dsimp only at H
  exact inFin_c (f:=ItemItem.v) (es:=5) (l:=a0) (.inl rfl) H rfl (fun _=>rfl)
 conv=>whnf
 refine Ari.w ?_;conv=>whnf
 obtain ⟨o22,HL23,HQ24⟩:=bind_c H
 refine loop_c [7,8] [33,34,35,36,37,38,39,40,41,42,43,44,45,46,47,48] [33,34,35,36,37,38,39,40,41,42,43,44,45,46,47,48] (fun n vals st=>(p_slices_stableCmpFunc_item_Item__l3  a1 (w64 ((2:Int) * y19)) n=some o22∧vals=[.i (0:Int),.i (w64 ((2:Int) * y19))]∧st=[.live (cellsM ItemItem.v l13) 0])) fuel 1 [] (⟨HL23,rfl,rfl⟩) (Nat.le_of_ble_eq_true rfl) rfl (by simp only [maskF,setF,List.set_cons_zero,List.set_cons_succ,V.ren.renL,V.ren,renL_id _ a2_h.own] <;> rfl) (by simp only [maskF,setF,List.set_cons_zero,List.set_cons_succ,V.idlt.belowL,V.idlt,fun n=>idltL_up (n:=n) _ a2_h.own] <;> rfl) rfl (wkB_live0 rfl (cellsM_idlt (f:=ItemItem.v) (fun _=>rfl) _) rfl trivial) ?_
 rintro (_ | n25) _ _ (⟨H,rfl,rfl⟩)
 ·rw [p_slices_stableCmpFunc_item_Item__l3] at H;cases H
 rw [p_slices_stableCmpFunc_item_Item__l3] at H
 conv=>whnf
 refine tst_c H (fun b26 H=>?_) (fun b26 H=>?_)
 ·conv=>whnf
  refine Ari.w ?_;conv=>whnf
  cases H
 conv=>whnf
 obtain rfl:=Option.some.inj H
 have H:=HQ24
 try dsimp only at H
 refine Ari.w ?_;conv=>whnf
 refine tst_c H (fun b27 H=>?_) (fun b27 H=>?_)
 ·conv=>whnf
  cases H
 conv=>whnf
 refine Ari.w ?_;conv=>whnf
 exact again_c [7,8,9,28,29,30,31,32,33,34,35,36,37,38,39,40,41,42,43,44,45,46,47,48,49,50,51,52,53,54,55,56,57,58,59,60,61,62,23] n18 1 [] (⟨_,H,rfl,rfl⟩) (Nat.lt_succ_self _) (Nat.le_of_ble_eq_true rfl) rfl (by simp only [maskF,setF,List.set_cons_zero,List.set_cons_succ,V.ren.renL,V.ren,renL_id _ a2_h.own] <;> rfl) (by simp only [maskF,setF,List.set_cons_zero,List.set_cons_succ,V.idlt.belowL,V.idlt,fun n=>idltL_up (n:=n) _ a2_h.own] <;> rfl) rfl (wkB_live0 rfl (cellsM_idlt (f:=ItemItem.v) (fun _=>rfl) _) rfl trivial)
theorem p_slices_stableCmpFunc_item_Item__n (a0:List ItemItem) (hn0:a0=[]) (a1:Int) (a2:ItemItem→ItemItem→Option Int) {a2_g:Nat} {a2_k:List V} (a2_h:Clo2 Try.prog a2_g a2_k ItemItem.v ItemItem.v V.i a2):CallsO Try.prog 80 [.sl (List.map ItemItem.v []) true,.i a1,.clo (.func a2_g) a2_k] (fun _:List ItemItem=>V.tup []) (p_slices_stableCmpFunc_item_Item_ a0 a1 a2):=by
 refine callsO_comp mix Try.func80 gc80_ok fun r H=>?_
 rw [p_slices_stableCmpFunc_item_Item_] at H
 conv=>whnf
 obtain ⟨o2,HL3,HQ4⟩:=bind_c H
 refine loop_c [7,8] [11,12,13,14,15,16,17,18,19,20,21,22] [11,12,13,14,15,16,17,18,19,20,21,22] (fun n vals st=>(∃ y6 y7 y8,p_slices_stableCmpFunc_item_Item__l1  a0 a2 a1 n y6 y7 y8=some o2∧vals=[.i y6,.i y7]∧st=[])) fuel 0 [] (⟨_,_,_,HL3,rfl,rfl⟩) (Nat.zero_le _) rfl (by simp only [maskF,setF,List.set_cons_zero,List.set_cons_succ,V.ren.renL,V.ren,renL_id _ a2_h.own] <;> rfl) (by simp only [maskF,setF,List.set_cons_zero,List.set_cons_succ,V.idlt.belowL,V.idlt,fun n=>idltL_up (n:=n) _ a2_h.own] <;> rfl) rfl trivial ?_
 rintro (_ | n5) _ _ (⟨y6,y7,y8,H,rfl,rfl⟩)
 ·rw [p_slices_stableCmpFunc_item_Item__l1] at H;cases H
 rw [p_slices_stableCmpFunc_item_Item__l1] at H
 conv=>whnf
 refine tst_c H (fun b9 H=>?_) (fun b9 H=>?_)
 ·conv=>whnf
  refine askInN_c (n:=(List.length a0)) (by rw [hn0];rfl) (fun y hy=>p_slices_insertionSortCmpFunc_item_Item__n y hy _ _ _ a2_h) H (by simp only [V.idlt.belowL,V.idlt,a2_h.own] <;> rfl) (fun l11 h10 H=>?_);conv=>whnf
  refine Ari.w ?_;conv=>whnf
  exact again_c [11,12,13,14,15,16,17,18,19,20,21,22] n5 0 [] (⟨_,_,_,H,rfl,rfl⟩) (Nat.lt_succ_self _) (Nat.zero_le _) rfl (by simp only [maskF,setF,List.set_cons_zero,List.set_cons_succ,V.ren.renL,V.ren,renL_id _ a2_h.own] <;> rfl) (by simp only [maskF,setF,List.set_cons_zero,List.set_cons_succ,V.idlt.belowL,V.idlt,fun n=>idltL_up (n:=n) _ a2_h.own] <;> rfl) rfl trivial
 conv=>whnf
 obtain rfl:=Option.some.inj H
 have H:=HQ4
 try dsimp only at H
 refine askInN_c (n:=(List.length a0)) (by rw [hn0];rfl) (fun y hy=>p_slices_insertionSortCmpFunc_item_Item__n y hy _ _ _ a2_h) H (by simp only [V.idlt.belowL,V.idlt,a2_h.own] <;> rfl) (fun l13 h12 H=>?_);conv=>whnf
 obtain ⟨o15,HL16,HQ17⟩:=bind_c H
 refine loop_c [6] [7,8,9,28,29,30,31,32,33,34,35,36,37,38,39,40,41,42,43,44,45,46,47,48,49,50,51,52,53,54,55,56,57,58,59,60,61,62] [7,8,9,28,29,30,31,32,33,34,35,36,37,38,39,40,41,42,43,44,45,46,47,48,49,50,51,52,53,54,55,56,57,58,59,60,61,62] (fun n vals st=>(∃ y19,p_slices_stableCmpFunc_item_Item__l2  a1 n y19=some o15∧vals=[.i y19]∧st=[])) fuel 0 [] (⟨_,HL16,rfl,rfl⟩) (Nat.zero_le _) rfl (by simp only [maskF,setF,List.set_cons_zero,List.set_cons_succ,V.ren.renL,V.ren,renL_id _ a2_h.own] <;> rfl) (by simp only [maskF,setF,List.set_cons_zero,List.set_cons_succ,V.idlt.belowL,V.idlt,fun n=>idltL_up (n:=n) _ a2_h.own] <;> rfl) rfl trivial ?_
 rintro (_ | n18) _ _ (⟨y19,H,rfl,rfl⟩)
 ·rw [p_slices_stableCmpFunc_item_Item__l2] at H;cases H
 rw [p_slices_stableCmpFunc_item_Item__l2] at H
 conv=>whnf
 refine tst_d H (fun b20 H=>?_) (fun b20 H=>?_)
 ·conv=>whnf
  obtain rfl:=Option.some.inj H
  have H:=HQ17
  try dsimp only at H
  exact fin0_c (enc:=fun _:List ItemItem=>V.tup []) H (.inl rfl) .nil rfl rfl
 conv=>whnf
 refine Ari.w ?_;conv=>whnf
 obtain ⟨o22,HL23,HQ24⟩:=bind_c H
 refine loop_c [7,8] [33,34,35,36,37,38,39,40,41,42,43,44,45,46,47,48] [33,34,35,36,37,38,39,40,41,42,43,44,45,46,47,48] (fun n vals st=>(p_slices_stableCmpFunc_item_Item__l3  a1 (w64 ((2:Int) * y19)) n=some o22∧vals=[.i (0:Int),.i (w64 ((2:Int) * y19))]∧st=[])) fuel 0 [] (⟨HL23,rfl,rfl⟩) (Nat.zero_le _) rfl (by simp only [maskF,setF,List.set_cons_zero,List.set_cons_succ,V.ren.renL,V.ren,renL_id _ a2_h.own] <;> rfl) (by simp only [maskF,setF,List.set_cons_zero,List.set_cons_succ,V.idlt.belowL,V.idlt,fun n=>idltL_up (n:=n) _ a2_h.own] <;> rfl) rfl trivial ?_
 rintro (_ | n25) _ _ (⟨H,rfl,rfl⟩)
 ·rw [p_slices_stableCmpFunc_item_Item__l3] at H;cases H
 rw [p_slices_stableCmpFunc_item_Item__l3] at H
 conv=>whnf
 refine tst_c H (fun b26 H=>?_) (fun b26 H=>?_)
 ·conv=>whnf
  refine Ari.w ?_;conv=>whnf
  cases H
 conv=>whnf
 obtain rfl:=Option.some.inj H
 have H:=HQ24
 try dsimp only at H
 refine Ari.w ?_;conv=>whnf
 refine tst_c H (fun b27 H=>?_) (fun b27 H=>?_)
 ·conv=>whnf
  cases H
 conv=>whnf
 refine Ari.w ?_;conv=>whnf
 exact again_c [7,8,9,28,29,30,31,32,33,34,35,36,37,38,39,40,41,42,43,44,45,46,47,48,49,50,51,52,53,54,55,56,57,58,59,60,61,62] n18 0 [] (⟨_,H,rfl,rfl⟩) (Nat.lt_succ_self _) (Nat.zero_le _) rfl (by simp only [maskF,setF,List.set_cons_zero,List.set_cons_succ,V.ren.renL,V.ren,renL_id _ a2_h.own] <;> rfl) (by simp only [maskF,setF,List.set_cons_zero,List.set_cons_succ,V.idlt.belowL,V.idlt,fun n=>idltL_up (n:=n) _ a2_h.own] <;> rfl) rfl trivial
def gc40:BCode:=(.reg 0 [⟨(some 4),.mv (.tmp 0),none,0⟩,⟨(some 5),.mv (.tmp 0),none,0⟩,⟨(some 6),.lens (.tmp 5),none,0⟩,⟨(some 7),.mv (.tmp 1),none,0⟩,⟨(some 8),.cl 80 [(.tmp 4),(.tmp 6),(.tmp 7)],none,0⟩] none 0 [])
theorem gc40_ok:compF Try.prog Try.f40=some (gc40.er,9,[]):=by unfold gc40;kernel_rfl
theorem p_slices_SortStableFunc_item_Item_v (a0:List ItemItem) (a1:ItemItem→ItemItem→Option Int) {a1_g:Nat} {a1_k:List V} (a1_h:Clo2 Try.prog a1_g a1_k ItemItem.v ItemItem.v V.i a1):InPl Try.prog 40 ItemItem.v 5 [.clo (.func a1_g) a1_k] a0 (p_slices_SortStableFunc_item_Item a0 a1):=by
 refine inPl_comp mix Try.func40 gc40_ok fun r H=>?_
 rw [p_slices_SortStableFunc_item_Item] at H
 conv=>whnf
 refine askIn_c (f:=ItemItem.v) (p_slices_stableCmpFunc_item_Item__v _ _ _ a1_h) H (by simp only [V.idlt.belowL,V.idlt,a1_h.own] <;> rfl) (fun _=>rfl) (fun _=>rfl) rfl (fun l2 h1 H=>?_);conv=>whnf
 exact inFin_c (f:=ItemItem.v) (es:=5) (l:=a0) (.inl rfl) H rfl (fun _=>rfl)
theorem p_slices_SortStableFunc_item_Item_n (a0:List ItemItem) (hn0:a0=[]) (a1:ItemItem→ItemItem→Option Int) {a1_g:Nat} {a1_k:List V} (a1_h:Clo2 Try.prog a1_g a1_k ItemItem.v ItemItem.v V.i a1):CallsO Try.prog 40 [.sl (List.map ItemItem.v []) true,.clo (.func a1_g) a1_k] (fun _:List ItemItem=>V.tup []) (p_slices_SortStableFunc_item_Item a0 a1):=by
 refine callsO_comp mix Try.func40 gc40_ok fun r H=>?_
 rw [p_slices_SortStableFunc_item_Item] at H
 conv=>whnf
 refine LenQ.ok ?_;conv=>whnf
 rw [show (((List.map ItemItem.v ([]:List ItemItem)).length:Nat):Int)=(List.length a0:Int) by rw [hn0];rfl]
 refine askInN_c (n:=(List.length a0)) (by rw [hn0];rfl) (fun y hy=>p_slices_stableCmpFunc_item_Item__n y hy _ _ a1_h) H (by simp only [V.idlt.belowL,V.idlt,a1_h.own] <;> rfl) (fun l2 h1 H=>?_);conv=>whnf
 exact fin0_c (enc:=fun _:List ItemItem=>V.tup []) H (.inl rfl) .nil rfl rfl
def gc118:BCode:=(.seq (.reg 0 [⟨(some 2),.mv (.const (.bool false)),none,0⟩] none 0 []) (.seq (.reg 0 [⟨(some 3),.mv (.tmp 0),none,0⟩,⟨(some 4),.mv (.tmp 0),none,0⟩,⟨(some 5),.bin .neq (.tmp 3) (.tmp 4),none,0⟩,⟨(some 2),.mv (.tmp 5),none,0⟩] none 0 []) .ret))
theorem gc118_ok:compF Try.prog Try.f118=some (gc118.er,6,[.tmp 2]):=by unfold gc118;kernel_rfl
theorem p_cmp_isNaN_int__v (a0:Int):CallsO Try.prog 118 [.i a0] V.b (p_cmp_isNaN_int_ a0):=by
 refine callsO_comp mix Try.func118 gc118_ok fun r H=>?_
 rw [p_cmp_isNaN_int_] at H
 conv=>whnf
 exact fb_ H
def gc83:BCode:=(.seq (.reg 0 [⟨(some 4),.mv (.const (.int .i64 0)),none,0⟩] none 0 []) (.seq (.reg 0 [⟨(some 7),.mv (.tmp 0),none,0⟩,⟨(some 8),.cl 118 [(.tmp 7)],none,0⟩,⟨(some 5),.mv (.tmp 8),none,0⟩] none 0 []) (.seq (.reg 0 [⟨(some 9),.mv (.tmp 1),none,0⟩,⟨(some 10),.cl 118 [(.tmp 9)],none,0⟩,⟨(some 6),.mv (.tmp 10),none,0⟩] none 0 []) (.seq (.seq (.reg 0 [⟨(some 11),.mv (.tmp 5),none,0⟩] none 0 []) (.cond (.tmp 11) (.seq (.seq (.reg 0 [⟨(some 12),.mv (.tmp 6),none,0⟩] none 0 []) (.cond (.tmp 12) (.seq (.reg 0 [⟨(some 4),.mv (.const (.int .i64 0)),none,0⟩] none 0 []) .ret) .skip)) (.seq (.reg 0 [⟨(some 4),.mv (.const (.int .i64 (-1))),none,0⟩] none 0 []) .ret)) .skip)) (.seq (.seq (.reg 0 [⟨(some 13),.mv (.tmp 6),none,0⟩] none 0 []) (.cond (.tmp 13) (.seq (.reg 0 [⟨(some 4),.mv (.const (.int .i64 1)),none,0⟩] none 0 []) .ret) .skip)) (.seq (.seq (.reg 0 [⟨(some 14),.mv (.tmp 0),none,0⟩,⟨(some 15),.mv (.tmp 1),none,0⟩,⟨(some 16),.bin .lss (.tmp 14) (.tmp 15),none,0⟩] none 0 []) (.cond (.tmp 16) (.seq (.reg 0 [⟨(some 4),.mv (.const (.int .i64 (-1))),none,0⟩] none 0 []) .ret) .skip)) (.seq (.seq (.reg 0 [⟨(some 17),.mv (.tmp 0),none,0⟩,⟨(some 18),.mv (.tmp 1),none,0⟩,⟨(some 19),.bin .gtr (.tmp 17) (.tmp 18),none,0⟩] none 0 []) (.cond (.tmp 19) (.seq (.reg 0 [⟨(some 4),.mv (.const (.int .i64 1)),none,0⟩] none 0 []) .ret) .skip)) (.seq (.reg 0 [⟨(some 4),.mv (.const (.int .i64 0)),none,0⟩] none 0 []) .ret))))))))
theorem gc83_ok:compF Try.prog Try.f83=some (gc83.er,20,[.tmp 4]):=by unfold gc83;kernel_rfl
theorem p_cmp_Compare_int__v (a0:Int) (a1:Int):CallsO Try.prog 83 [.i a0,.i a1] V.i (p_cmp_Compare_int_ a0 a1):=by
 refine callsO_comp mix Try.func83 gc83_ok fun r H=>?_
 rw [p_cmp_Compare_int_] at H
 conv=>whnf
 refine ask_c (p_cmp_isNaN_int__v _) H rfl rfl (fun v1 H=>?_);conv=>whnf
 refine ask_c (p_cmp_isNaN_int__v _) H rfl rfl (fun v2 H=>?_);conv=>whnf
 refine tst_c H (fun b3 H=>?_) (fun b3 H=>?_)
 ·conv=>whnf
  refine tst_c H (fun b4 H=>?_) (fun b4 H=>?_)
  ·conv=>whnf
   exact fi_ H
  conv=>whnf
  exact fi_ H
 conv=>whnf
 refine tst_c H (fun b5 H=>?_) (fun b5 H=>?_)
 ·conv=>whnf
  exact fi_ H
 conv=>whnf
 refine tst_c H (fun b6 H=>?_) (fun b6 H=>?_)
 ·conv=>whnf
  exact fi_ H
 conv=>whnf
 refine tst_c H (fun b7 H=>?_) (fun b7 H=>?_)
 ·conv=>whnf
  exact fi_ H
 conv=>whnf
 exact fi_ H
def gc81:BCode:=(.seq (.reg 0 [⟨(some 2),.mv (.const (.int .i64 0)),none,0⟩] none 0 []) (.seq (.reg 0 [⟨(some 3),.mv (.const (.int .i64 0)),none,0⟩] none 0 []) (.seq (.seq (.reg 0 [⟨(some 6),.mv (.tmp 0),none,0⟩,⟨(some 7),.lens (.tmp 6),none,0⟩,⟨(some 8),.mv (.const (.int .i64 0)),none,0⟩] none 0 []) (.block 0 (.loop (.seq (.reg 0 [⟨(some 9),.bin .lss (.tmp 8) (.tmp 7),none,0⟩] none 0 []) (.seq (.cond (.tmp 9) .skip (.exit 0)) (.seq (.block 1 (.seq (.reg 0 [⟨(some 10),.ixs 1 (.tmp 6) (.tmp 8),none,0⟩,⟨(some 11),.ld 1 false (.tmp 10),none,0⟩,⟨(some 5),.mv (.tmp 11),none,0⟩] none 0 []) (.seq (.reg 0 [⟨(some 12),.mv (.tmp 5),none,0⟩,⟨(some 13),.mv (.tmp 3),none,0⟩,⟨(some 14),.bin .neq (.tmp 12) (.tmp 13),none,0⟩] none 0 []) (.cond (.tmp 14) (.seq (.reg 0 [⟨(some 15),.mv (.tmp 5),none,0⟩,⟨(some 2),.mv (.tmp 15),none,0⟩] none 0 []) .ret) .skip)))) (.reg 0 [⟨(some 16),.bin .add (.tmp 8) (.const (.int .i64 1)),none,0⟩,⟨(some 8),.mv (.tmp 16),none,0⟩] none 0 []))))))) (.seq (.reg 0 [⟨(some 17),.mv (.tmp 3),none,0⟩,⟨(some 2),.mv (.tmp 17),none,0⟩] none 0 []) .ret))))
theorem gc81_ok:compF Try.prog Try.f81=some (gc81.er,18,[.tmp 2]):=by unfold gc81;kernel_rfl
theorem p_cmp_Or_int__v {u1:Bool} (a0:List Int):CallsO Try.prog 81 [.sl (List.map V.i a0) u1] V.i (p_cmp_Or_int_ a0):=by
 refine callsO_comp mix Try.func81 gc81_ok fun r H=>?_
 rw [p_cmp_Or_int_] at H
 conv=>whnf
 refine LenQ.M ?_;conv=>whnf
 obtain ⟨o2,HL3,HQ4⟩:=bind_c H
 refine loop_c [2,8] [5,9,10,11,12,13,14,15,16] [5,9,10,11,12,13,14,15,16] (fun n vals st=>(∃ y6,p_cmp_Or_int__l1  a0 (a0.length:Int) n y6=some o2∧vals=[.i (0:Int),.i y6]∧st=[])) fuel 0 [] (⟨_,HL3,rfl,rfl⟩) (Nat.zero_le _) rfl (by kernel_rfl) (by kernel_rfl) rfl trivial ?_
 rintro (_ | n5) _ _ (⟨y6,H,rfl,rfl⟩)
 ·rw [p_cmp_Or_int__l1] at H;cases H
 rw [p_cmp_Or_int__l1] at H
 conv=>whnf
 refine tst_d H (fun b7 H=>?_) (fun b7 H=>?_)
 ·conv=>whnf
  obtain rfl:=Option.some.inj H
  have H:=HQ4
  try dsimp only at H
  exact fi_ H
 conv=>whnf
 refine ixs_c (f:=V.i) H (fun _=>rfl) (fun x8 H=>?_);conv=>whnf
 refine tst_c H (fun b9 H=>?_) (fun b9 H=>?_)
 ·conv=>whnf
  obtain rfl:=Option.some.inj H
  have H:=HQ4
  try dsimp only at H
  exact fi_ H
 conv=>whnf
 refine Ari.w ?_;conv=>whnf
 exact again_c [5,9,10,11,12,13,14,15,16] n5 0 [] (⟨_,H,rfl,rfl⟩) (Nat.lt_succ_self _) (Nat.zero_le _) rfl (by kernel_rfl) (by kernel_rfl) rfl trivial
def gc41:BCode:=(.seq (.reg 2 [⟨(some 2),.bx (.tmp 0),none,0⟩,⟨(some 3),.bx (.tmp 1),none,1⟩,⟨(some 4),.mv (.const (.int .i64 0)),none,2⟩] none 0 []) (.seq (.reg 1 [⟨(some 5),.fa 0 (.tmp 2),none,0⟩,⟨(some 6),.ld 1 false (.tmp 5),none,0⟩,⟨(some 7),.fa 0 (.tmp 3),none,0⟩,⟨(some 8),.ld 1 false (.tmp 7),none,0⟩,⟨(some 9),.cl 82 [(.tmp 6),(.tmp 8)],none,0⟩,⟨(some 10),.fa 3 (.tmp 2),none,0⟩,⟨(some 11),.ld 1 false (.tmp 10),none,0⟩,⟨(some 12),.fa 3 (.tmp 3),none,0⟩,⟨(some 13),.ld 1 false (.tmp 12),none,0⟩,⟨(some 14),.cl 83 [(.tmp 11),(.tmp 13)],none,0⟩,⟨(some 15),.bs 1 2 [(.lit (.int .i64 0)),(.lit (.int .i64 0))] [(0,(.tmp 9)),(1,(.tmp 14))],none,0⟩,⟨(some 16),.cl 81 [(.tmp 15)],none,1⟩,⟨(some 4),.mv (.tmp 16),none,1⟩] (some [[],[0],[],[2],[2,3,0,1],[],[5],[],[7],[1,0,3,2,4,7,8,5,6],[6,5,8,7,9,1,0,3,2,4],[4,2,3,0,1,9,7,8,5,6,10],[10,6,5,8,7,9,1,0,3,2,4,11]]) 0 []) .ret))
theorem gc41_ok:compF Try.prog Try.f41=some (gc41.er,17,[.tmp 4]):=by unfold gc41;kernel_rfl
theorem p_item_Item_order_v (a0:ItemItem) (a1:ItemItem):CallsO Try.prog 41 [.agg [.s a0.Contact,.s a0.Name,.i a0.Sub,.i a0.Ver,.b a0.Own],.agg [.s a1.Contact,.s a1.Name,.i a1.Sub,.i a1.Ver,.b a1.Own]] V.i (p_item_Item_order a0 a1):=by
 refine callsO_comp mix Try.func41 gc41_ok fun r H=>?_
 rw [p_item_Item_order] at H
 conv=>whnf
 refine ask_c (p_strings_Compare_v _ _) H rfl rfl (fun v1 H=>?_);conv=>whnf
 refine ask_c (p_cmp_Compare_int__v _ _) H rfl rfl (fun v2 H=>?_);conv=>whnf
 refine askF_c (p_cmp_Or_int__v _) H (.cons (.c (fzown (f:=V.i) (l:=[v1,v2]) rfl rfl (fun _=>rfl) (fun _=>rfl))) (.nil)) (fun v3 H=>?_);conv=>whnf
 refine FootQ.mk ⟨rfl,?_⟩;conv=>whnf
 exact fi_ H
def gc9:BCode:=(.seq (.reg 0 [⟨(some 2),.mv (.const (.slice none 0 0)),none,0⟩] none 0 []) (.seq (.reg 0 [⟨(some 4),.mv (.tmp 0),none,0⟩,⟨(some 5),.cl 39 [(.tmp 4)],none,0⟩,⟨(some 3),.mv (.tmp 5),none,0⟩] none 1 []) (.seq (.reg 0 [⟨(some 6),.mv (.tmp 3),none,0⟩,⟨(some 7),.cl 40 [(.tmp 6),(.func 41)],none,0⟩] none 0 []) (.seq (.reg 0 [⟨(some 8),.mv (.tmp 3),none,0⟩,⟨(some 2),.mv (.tmp 8),none,0⟩] none 0 []) .ret))))
theorem gc9_ok:compF Try.prog Try.f9=some (gc9.er,9,[.tmp 2]):=by unfold gc9;kernel_rfl
theorem p_item_Sort_v {u1:Bool} (a0:List ItemItem):CallsO Try.prog 9 [.sl (List.map ItemItem.v a0) u1] (fun l:List ItemItem=>V.sl (l.map ItemItem.v) false) (p_item_Sort a0):=by
 refine callsO_comp mix Try.func9 gc9_ok fun r H=>?_
 rw [p_item_Sort] at H
 conv=>whnf
 refine clone_c (f:=ItemItem.v) (id:=0) cloR39_v H (fun _=>rfl) (fun _=>rfl) rfl (fun H=>?_) (fun l1 H=>?_)
 ·conv=>whnf
  refine askInN_c (n:=(List.length ([]:List ItemItem))) rfl (fun y hy=>p_slices_SortStableFunc_item_Item_n y hy _ ⟨⟨_,Try.func41,by kernel_rfl,by kernel_rfl⟩,rfl,fun x0 x1=>p_item_Item_order_v _ _⟩) H rfl (fun l5 h4 H=>?_);conv=>whnf
  obtain rfl:=nil_len h4
  refine finR_c (enc:=(fun l:List ItemItem=>V.sl (l.map ItemItem.v) false)) H ?_;conv=>whnf
  exact ⟨_,.v (.c (.slw))⟩
 conv=>whnf
 refine askIn_c (f:=ItemItem.v) (p_slices_SortStableFunc_item_Item_v _ _ ⟨⟨_,Try.func41,by kernel_rfl,by kernel_rfl⟩,rfl,fun x0 x1=>p_item_Item_order_v _ _⟩) H rfl (fun _=>rfl) (fun _=>rfl) rfl (fun l3 h2 H=>?_);conv=>whnf
 refine finRz_c (enc:=(fun l:List ItemItem=>V.sl (l.map ItemItem.v) false)) [0] H ?_;conv=>whnf
 refine ⟨Nat.zero_le _,?_⟩;conv=>whnf
 exact ⟨_,.v (.c (fzc_made (f:=ItemItem.v) (l:=l3) rfl rfl rfl h2 (fun _=>rfl) (fun _=>rfl)))⟩
def gc68:BCode:=(.seq (.reg 1 [⟨(some 2),.bx (.tmp 0),none,0⟩,⟨(some 4),.mv (.const (.bool false)),none,1⟩] none 0 []) (.seq (.reg 0 [⟨(some 5),.fa 2 (.tmp 2),none,0⟩,⟨(some 6),.ld 1 false (.tmp 5),none,0⟩,⟨(some 7),.cl 17 [(.tmp 6)],none,0⟩,⟨(some 8),.bin .eql (.tmp 7) (.const (.int .i64 0)),none,0⟩,⟨(some 9),.mv (.tmp 8),none,0⟩,⟨(some 10),.fa 2 (.tmp 2),(some (9,true)),0⟩,⟨(some 11),.ld 1 false (.tmp 10),(some (9,true)),0⟩,⟨(some 12),.mv (.tmp 1),(some (9,true)),0⟩,⟨(some 13),.bin .and (.tmp 11) (.tmp 12),(some (9,true)),0⟩,⟨(some 14),.bin .neq (.tmp 13) (.const (.int .i64 0)),(some (9,true)),0⟩,⟨(some 15),.pick (.tmp 9) (.tmp 14) (.const (.bool false)),none,0⟩,⟨(some 4),.mv (.tmp 15),none,0⟩] none 0 []) .ret))
theorem gc68_ok:compF Try.prog Try.f68=some (gc68.er,16,[.tmp 4]):=by unfold gc68;kernel_rfl
theorem p_item_Item_has_v (a0:ItemItem) (a1:Int):CallsO Try.prog 68 [.agg [.s a0.Contact,.s a0.Name,.i a0.Sub,.i a0.Ver,.b a0.Own],.i a1] V.b (p_item_Item_has a0 a1):=by
 refine callsO_comp mix Try.func68 gc68_ok fun r H=>?_
 rw [p_item_Item_has] at H
 conv=>whnf
 refine ask_c (p_subs_Check_v _) H rfl rfl (fun v1 H=>?_);conv=>whnf
 refine tst_c H (fun b2 H=>?_) (fun b2 H=>?_)
 ·conv=>whnf
  iterate 5 (refine Tst.T ?_;conv=>whnf)
  exact fb_ H
 conv=>whnf
 iterate 5 (refine Tst.F ?_;conv=>whnf)
 exact fb_ H
end Go.Proofs.Ytpmoioopjbfhkaa

/- That the program's functions yield what the plain ones tell (written by a program of mine). -/
namespace Go.Proofs.Ytpmoioopjbfhkaa
open Go.RowKit
set_option maxRecDepth 100000
set_option maxHeartbeats 4000000
def gc28:BCode:=(.seq (.reg 1 [⟨(some 1),.bx (.tmp 0),none,0⟩,⟨(some 2),.mv (.const (.bool false)),none,1⟩] none 0 []) (.seq (.reg 0 [⟨(some 3),.fa 4 (.tmp 1),none,0⟩,⟨(some 4),.ld 1 false (.tmp 3),none,0⟩,⟨(some 5),.mv (.tmp 4),none,0⟩,⟨(some 6),.ld 5 true (.tmp 1),(some (5,false)),0⟩,⟨(some 7),.cl 68 [(.tmp 6),(.const (.int .i64 7))],(some (5,false)),0⟩,⟨(some 8),.pick (.tmp 5) (.const (.bool true)) (.tmp 7),none,0⟩,⟨(some 2),.mv (.tmp 8),none,0⟩] none 0 []) .ret))
theorem gc28_ok:compF Try.prog Try.f28=some (gc28.er,9,[.tmp 2]):=by unfold gc28;kernel_rfl
theorem p_item_Listed_v (a0:ItemItem):CallsO Try.prog 28 [.agg [.s a0.Contact,.s a0.Name,.i a0.Sub,.i a0.Ver,.b a0.Own]] V.b (p_item_Listed a0):=by
 refine callsO_comp mix Try.func28 gc28_ok fun r H=>?_
 rw [p_item_Listed] at H
 conv=>whnf
 refine tst_c H (fun b1 H=>?_) (fun b1 H=>?_)
 ·conv=>whnf
  iterate 2 (refine Tst.T ?_;conv=>whnf)
  exact fb_ H
 conv=>whnf
 refine Tst.F ?_;conv=>whnf
 refine ask_c (p_item_Item_has_v _ _) H rfl rfl (fun v2 H=>?_);conv=>whnf
 refine Tst.F ?_;conv=>whnf
 exact fb_ H
def gc29:BCode:=(.seq (.reg 1 [⟨(some 1),.bx (.tmp 0),none,0⟩,⟨(some 2),.mv (.const (.bool false)),none,1⟩] none 0 []) (.seq (.reg 0 [⟨(some 3),.fa 2 (.tmp 1),none,0⟩,⟨(some 4),.ld 1 false (.tmp 3),none,0⟩,⟨(some 5),.bin .eql (.tmp 4) (.const (.int .i64 0)),none,0⟩,⟨(some 6),.mv (.tmp 5),none,0⟩,⟨(some 7),.fa 4 (.tmp 1),(some (6,true)),0⟩,⟨(some 8),.ld 1 false (.tmp 7),(some (6,true)),0⟩,⟨(some 9),.un .not (.tmp 8),(some (6,true)),0⟩,⟨(some 10),.pick (.tmp 6) (.tmp 9) (.const (.bool false)),none,0⟩,⟨(some 2),.mv (.tmp 10),none,0⟩] none 0 []) .ret))
theorem gc29_ok:compF Try.prog Try.f29=some (gc29.er,11,[.tmp 2]):=by unfold gc29;kernel_rfl
theorem p_item_Idle_v (a0:ItemItem):CallsO Try.prog 29 [.agg [.s a0.Contact,.s a0.Name,.i a0.Sub,.i a0.Ver,.b a0.Own]] V.b (p_item_Idle a0):=by
 refine callsO_comp mix Try.func29 gc29_ok fun r H=>?_
 rw [p_item_Idle] at H
 conv=>whnf
 refine tst_c H (fun b1 H=>?_) (fun b1 H=>?_)
 ·conv=>whnf
  iterate 3 (refine Tst.T ?_;conv=>whnf)
  exact fb_ H
 conv=>whnf
 iterate 3 (refine Tst.F ?_;conv=>whnf)
 exact fb_ H
def gc37:BCode:=(.seq (.reg 1 [⟨(some 1),.bx (.tmp 0),none,0⟩,⟨(some 2),.mv (.const (.bool false)),none,1⟩] none 0 []) (.seq (.reg 0 [⟨(some 3),.ld 5 true (.tmp 1),none,0⟩,⟨(some 4),.cl 68 [(.tmp 3),(.const (.int .i64 1))],none,0⟩,⟨(some 2),.mv (.tmp 4),none,0⟩] none 0 []) .ret))
theorem gc37_ok:compF Try.prog Try.f37=some (gc37.er,5,[.tmp 2]):=by unfold gc37;kernel_rfl
theorem p_item_Sees_v (a0:ItemItem):CallsO Try.prog 37 [.agg [.s a0.Contact,.s a0.Name,.i a0.Sub,.i a0.Ver,.b a0.Own]] V.b (p_item_Sees a0):=by
 refine callsO_comp mix Try.func37 gc37_ok fun r H=>?_
 rw [p_item_Sees] at H
 conv=>whnf
 refine ask_c (p_item_Item_has_v _ _) H rfl rfl (fun v1 H=>?_);conv=>whnf
 exact fb_ H
def gc38:BCode:=(.seq (.reg 1 [⟨(some 1),.bx (.tmp 0),none,0⟩,⟨(some 2),.mv (.const (.bool false)),none,1⟩] none 0 []) (.seq (.reg 0 [⟨(some 3),.ld 5 true (.tmp 1),none,0⟩,⟨(some 4),.cl 68 [(.tmp 3),(.const (.int .i64 2))],none,0⟩,⟨(some 2),.mv (.tmp 4),none,0⟩] none 0 []) .ret))
theorem gc38_ok:compF Try.prog Try.f38=some (gc38.er,5,[.tmp 2]):=by unfold gc38;kernel_rfl
theorem p_item_Seen_v (a0:ItemItem):CallsO Try.prog 38 [.agg [.s a0.Contact,.s a0.Name,.i a0.Sub,.i a0.Ver,.b a0.Own]] V.b (p_item_Seen a0):=by
 refine callsO_comp mix Try.func38 gc38_ok fun r H=>?_
 rw [p_item_Seen] at H
 conv=>whnf
 refine ask_c (p_item_Item_has_v _ _) H rfl rfl (fun v1 H=>?_);conv=>whnf
 exact fb_ H
def gc26:BCode:=(.seq (.reg 2 [⟨(some 1),.bx (.tmp 0),none,0⟩,⟨(some 2),.al (.agg [(.lit (.int .u8 0)),(.lit (.string ⟨#[]⟩)),(.lit (.string ⟨#[]⟩)),(.lit (.string ⟨#[]⟩)),(.lit (.int .i64 0)),(.lit (.int .i64 0)),(.lit (.int .i64 0)),(.lit (.int .i64 0))]),none,1⟩] none 0 []) (.seq (.seq (.reg 0 [⟨(some 3),.ld 5 true (.tmp 1),none,0⟩,⟨(some 4),.cl 25 [(.tmp 3)],none,0⟩,⟨(some 5),.bin .neq (.tmp 4) (.const (.int .i64 0)),none,0⟩] none 0 []) (.cond (.tmp 5) (.seq (.reg 0 [⟨(some 6),.bd [(.lit (.int .u8 0)),(.lit (.string ⟨#[]⟩)),(.lit (.string ⟨#[]⟩)),(.lit (.string ⟨#[]⟩)),(.lit (.int .i64 0)),(.lit (.int .i64 0)),(.lit (.int .i64 0)),(.lit (.int .i64 0))] [],none,0⟩,⟨none,.st 8 (.tmp 2) (.tmp 6),none,0⟩] none 0 []) .ret) .skip)) (.seq (.seq (.reg 0 [⟨(some 7),.ld 5 true (.tmp 1),none,0⟩,⟨(some 8),.cl 28 [(.tmp 7)],none,0⟩,⟨(some 9),.un .not (.tmp 8),none,0⟩] none 0 []) (.cond (.tmp 9) (.seq (.reg 0 [⟨(some 10),.fa 0 (.tmp 1),none,0⟩,⟨(some 11),.ld 1 false (.tmp 10),none,0⟩,⟨(some 12),.fa 3 (.tmp 1),none,0⟩,⟨(some 13),.ld 1 false (.tmp 12),none,0⟩,⟨(some 14),.bd [(.lit (.int .u8 0)),(.lit (.string ⟨#[]⟩)),(.lit (.string ⟨#[]⟩)),(.lit (.string ⟨#[]⟩)),(.lit (.int .i64 0)),(.lit (.int .i64 0)),(.lit (.int .i64 0)),(.lit (.int .i64 0))] [(0,1,(.const (.int .u8 39))),(1,1,(.tmp 11)),(7,1,(.tmp 13))],none,0⟩,⟨none,.st 8 (.tmp 2) (.tmp 14),none,0⟩] none 0 []) .ret) .skip)) (.seq (.reg 0 [⟨(some 15),.fa 0 (.tmp 1),none,0⟩,⟨(some 16),.ld 1 false (.tmp 15),none,0⟩,⟨(some 17),.fa 1 (.tmp 1),none,0⟩,⟨(some 18),.ld 1 false (.tmp 17),none,0⟩,⟨(some 19),.fa 2 (.tmp 1),none,0⟩,⟨(some 20),.ld 1 false (.tmp 19),none,0⟩,⟨(some 21),.bin .andNot (.tmp 20) (.const (.int .i64 8)),none,0⟩,⟨(some 22),.fa 3 (.tmp 1),none,0⟩,⟨(some 23),.ld 1 false (.tmp 22),none,0⟩,⟨(some 24),.bd [(.lit (.int .u8 0)),(.lit (.string ⟨#[]⟩)),(.lit (.string ⟨#[]⟩)),(.lit (.string ⟨#[]⟩)),(.lit (.int .i64 0)),(.lit (.int .i64 0)),(.lit (.int .i64 0)),(.lit (.int .i64 0))] [(0,1,(.const (.int .u8 38))),(1,1,(.tmp 16)),(3,1,(.tmp 18)),(4,1,(.tmp 21)),(7,1,(.tmp 23))],none,0⟩,⟨none,.st 8 (.tmp 2) (.tmp 24),none,0⟩] none 0 []) .ret))))
theorem gc26_ok:compF Try.prog Try.f26=some (gc26.er,25,[.cell 2 8 true]):=by unfold gc26;kernel_rfl
theorem p_item_Push_v (a0:ItemItem):CallsO Try.prog 26 [.agg [.s a0.Contact,.s a0.Name,.i a0.Sub,.i a0.Ver,.b a0.Own]] StanzaStanza.v (p_item_Push a0):=by
 refine callsO_comp mix Try.func26 gc26_ok fun r H=>?_
 rw [p_item_Push] at H
 conv=>whnf
 refine ask_c (p_item_Check_v _) H rfl rfl (fun v1 H=>?_);conv=>whnf
 refine tst_c H (fun b2 H=>?_) (fun b2 H=>?_)
 ·conv=>whnf
  refine ⟨Nat.le_of_ble_eq_true rfl,?_⟩;conv=>whnf
  exact fin0_c (enc:=StanzaStanza.v) H (.inr rfl) (.cons (.cell rfl rfl (Nat.le_of_ble_eq_true rfl)) (.nil)) rfl rfl
 conv=>whnf
 refine ask_c (p_item_Listed_v _) H rfl rfl (fun v3 H=>?_);conv=>whnf
 refine Tst.not ?_
 refine tst_c H (fun b4 H=>?_) (fun b4 H=>?_)
 ·conv=>whnf
  refine ⟨Nat.le_of_ble_eq_true rfl,?_⟩;conv=>whnf
  exact fin0_c (enc:=StanzaStanza.v) H (.inr rfl) (.cons (.cell rfl rfl (Nat.le_of_ble_eq_true rfl)) (.nil)) rfl rfl
 conv=>whnf
 refine ⟨Nat.le_of_ble_eq_true rfl,?_⟩;conv=>whnf
 exact fin0_c (enc:=StanzaStanza.v) H (.inr rfl) (.cons (.cell rfl rfl (Nat.le_of_ble_eq_true rfl)) (.nil)) rfl rfl
def gc13:BCode:=(.seq (.reg 2 [⟨(some 2),.bx (.tmp 0),none,0⟩,⟨(some 3),.bx (.tmp 1),none,1⟩,⟨(some 4),.mv (.const (.bool false)),none,2⟩] none 0 []) (.seq (.reg 0 [⟨(some 5),.ld 5 true (.tmp 2),none,0⟩,⟨(some 6),.ld 5 true (.tmp 3),none,0⟩,⟨(some 7),.cl 41 [(.tmp 5),(.tmp 6)],none,0⟩,⟨(some 8),.bin .lss (.tmp 7) (.const (.int .i64 0)),none,0⟩,⟨(some 4),.mv (.tmp 8),none,0⟩] none 0 []) .ret))
theorem gc13_ok:compF Try.prog Try.f13=some (gc13.er,9,[.tmp 4]):=by unfold gc13;kernel_rfl
theorem p_item_Less_v (a0:ItemItem) (a1:ItemItem):CallsO Try.prog 13 [.agg [.s a0.Contact,.s a0.Name,.i a0.Sub,.i a0.Ver,.b a0.Own],.agg [.s a1.Contact,.s a1.Name,.i a1.Sub,.i a1.Ver,.b a1.Own]] V.b (p_item_Less a0 a1):=by
 refine callsO_comp mix Try.func13 gc13_ok fun r H=>?_
 rw [p_item_Less] at H
 conv=>whnf
 refine ask_c (p_item_Item_order_v _ _) H rfl rfl (fun v1 H=>?_);conv=>whnf
 exact fb_ H
end Go.Proofs.Ytpmoioopjbfhkaa

