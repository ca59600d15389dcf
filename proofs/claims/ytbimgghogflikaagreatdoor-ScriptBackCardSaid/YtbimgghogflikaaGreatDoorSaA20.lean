/- A part of the proof: 4 texts joined. -/
import Derived.Test.YtbimgghogflikaaGreatDoorSaA17
import Derived.Test.YtbimgghogflikaaGreatDoorSaA18
import Derived.Test.YtbimgghogflikaaGreatDoorSaA19
import Derived.Test.YtbimgghogflikaaGreatDoorSaA11
import Derived.KernelRfl
set_option linter.all false
namespace Go.Proofs.YtbimgghogflikaaGreatDoor
open Go.RowKit
set_option maxRecDepth 100000
set_option maxHeartbeats 4000000
def gc7:BCode:=(.seq (R_ 1 [O_ 2 (.al (.agg [(.lit (.int .u8 0)),(.lit (.int .i64 0)),(.lit (.int .i64 0)),(.lit (.string ⟨#[]⟩))])) 0,O_ 3 (.mv (i_ 0)) 1,O_ 4 (.mv (i_ 0)) 1]) (.seq (.seq (R_ 0 [O_ 9 (.mv (t_ 0)) 0,O_ 10 (.bin .eql (t_ 9) (.const (.string ⟨#[]⟩))) 0]) (.cond (t_ 10) (.seq (R_ 0 [O_ 11 (.bd [(.lit (.int .u8 0)),(.lit (.int .i64 0)),(.lit (.int .i64 0)),(.lit (.string ⟨#[]⟩))] []) 0,U_ (.st 4 (t_ 2) (t_ 11)) 0,O_ 3 (.mv (i_ 0)) 0,O_ 4 (.mv (i_ 3)) 0]) .ret) .skip)) (.seq (R_ 1 [O_ 13 (.mv (t_ 0)) 0,O_ 14 (.ixt (t_ 13) (i_ 0)) 0,O_ 15 (.cl 27 [(t_ 14)]) 0,O_ 12 (.mv (t_ 15)) 0,O_ 16 (.ex (t_ 12) 0) 0,O_ 17 (.ex (t_ 12) 1) 0,O_ 5 (.al (.agg [(.lit (.string ⟨#[]⟩)),(.lit (.bool false)),(.lit (.int .i64 0)),(.lit (.bool false))])) 0,U_ (.st 4 (t_ 5) (t_ 16)) 1,O_ 6 (.mv (t_ 17)) 1]) (.seq (.seq (R_ 0 [O_ 18 (.mv (t_ 6)) 0,O_ 19 (.un .not (t_ 18)) 0]) (.cond (t_ 19) (.seq (R_ 0 [O_ 20 (.bd [(.lit (.int .u8 0)),(.lit (.int .i64 0)),(.lit (.int .i64 0)),(.lit (.string ⟨#[]⟩))] []) 0,U_ (.st 4 (t_ 2) (t_ 20)) 0,O_ 3 (.mv (i_ 0)) 0,O_ 4 (.mv (i_ 12)) 0]) .ret) .skip)) (.seq (R_ 1 [O_ 21 (.mv (t_ 0)) 0,O_ 22 (.ixt (t_ 21) (i_ 0)) 0,O_ 23 (.bd [(.lit (.int .u8 0)),(.lit (.int .i64 0)),(.lit (.int .i64 0)),(.lit (.string ⟨#[]⟩))] [(0,1,(t_ 22))]) 0,O_ 7 (.al (.agg [(.lit (.int .u8 0)),(.lit (.int .i64 0)),(.lit (.int .i64 0)),(.lit (.string ⟨#[]⟩))])) 0,U_ (.st 4 (t_ 7) (t_ 23)) 1]) (.seq (R_ 1 [O_ 24 (.mv (t_ 0)) 0,O_ 25 (.slt (t_ 24) (some (i_ 1)) none) 0,O_ 26 (.cl 28 [(t_ 25)]) 0,O_ 8 (.al (.agg [(.lit (.string ⟨#[]⟩)),(.lit (.int .i64 0)),(.lit (.int .i64 0))])) 0,U_ (.st 3 (t_ 8) (t_ 26)) 1]) (.seq (.seq (R_ 0 [O_ 27 (.fa 1 (t_ 5)) 0,O_ 28 (.ld 1 false (t_ 27)) 0]) (.cond (t_ 28) (R_ 0 [O_ 30 (.ld 3 true (t_ 8)) 0,O_ 31 (.cl 29 [(t_ 30),(i_ 1)]) 0,O_ 29 (.mv (t_ 31)) 0,O_ 32 (.ex (t_ 29) 0) 0,O_ 33 (.ex (t_ 29) 1) 0,U_ (.st 3 (t_ 8) (t_ 32)) 0,O_ 34 (.fa 1 (t_ 7)) 0,U_ (.st 1 (t_ 34) (t_ 33)) 0]) .skip)) (.seq (.seq (R_ 0 [O_ 35 (.fa 2 (t_ 5)) 0,O_ 36 (.ld 1 false (t_ 35)) 0,O_ 37 (.bin .gtr (t_ 36) (i_ 0)) 0]) (.cond (t_ 37) (R_ 0 [O_ 39 (.ld 3 true (t_ 8)) 0,O_ 40 (.fa 2 (t_ 5)) 0,O_ 41 (.ld 1 false (t_ 40)) 0,O_ 42 (.cl 29 [(t_ 39),(t_ 41)]) 0,O_ 38 (.mv (t_ 42)) 0,O_ 43 (.ex (t_ 38) 0) 0,O_ 44 (.ex (t_ 38) 1) 0,U_ (.st 3 (t_ 8) (t_ 43)) 0,O_ 45 (.fa 2 (t_ 7)) 0,U_ (.st 1 (t_ 45) (t_ 44)) 0]) .skip)) (.seq (.seq (R_ 0 [O_ 46 (.fa 3 (t_ 5)) 0,O_ 47 (.ld 1 false (t_ 46)) 0]) (.cond (t_ 47) (R_ 0 [O_ 49 (.ld 3 true (t_ 8)) 0,O_ 50 (.cl 30 [(t_ 49),(i_ 255)]) 0,O_ 48 (.mv (t_ 50)) 0,O_ 51 (.ex (t_ 48) 0) 0,O_ 52 (.ex (t_ 48) 1) 0,U_ (.st 3 (t_ 8) (t_ 51)) 0,O_ 53 (.fa 3 (t_ 7)) 0,U_ (.st 1 (t_ 53) (t_ 52)) 0]) .skip)) (.seq (.seq (R_ 0 [O_ 54 (.fa 2 (t_ 8)) 0,O_ 55 (.ld 1 false (t_ 54)) 0,O_ 56 (.bin .neq (t_ 55) (i_ 0)) 0]) (.cond (t_ 56) (.seq (.reg 0 [O_ 57 (.bd [(.lit (.int .u8 0)),(.lit (.int .i64 0)),(.lit (.int .i64 0)),(.lit (.string ⟨#[]⟩))] []) 0,O_ 58 (.fa 2 (t_ 8)) 0,O_ 59 (.ld 1 false (t_ 58)) 0,U_ (.st 4 (t_ 2) (t_ 57)) 0,O_ 3 (.mv (i_ 0)) 0,O_ 4 (.mv (t_ 59)) 0] (some [[],[],[1],[0],[0,3],[3,0,4,1,2]]) 0 []) .ret) .skip)) (.seq (.reg 0 [O_ 60 (.ld 4 true (t_ 7)) 0,O_ 61 (.fa 1 (t_ 8)) 0,O_ 62 (.ld 1 false (t_ 61)) 0,O_ 63 (.bin .add (i_ 1) (t_ 62)) 0,U_ (.st 4 (t_ 2) (t_ 60)) 0,O_ 3 (.mv (t_ 63)) 0,O_ 4 (.mv (i_ 0)) 0] (some [[],[],[1],[1,2],[0],[0,4,2,1,3],[3,1,2,4,0,5]]) 0 []) .ret)))))))))))
theorem gc7_ok:compF Tryz.prog Tryz.f7=some (gc7.er,64,[.cell 2 4 true,.tmp 3,.tmp 4]):=by unfold gc7;kernel_rfl
theorem p_script_Get_v (a0:ByteArray):CallsO Tryz.prog 7 [.s a0] (fun r:BrokerStep × Int × Int=>.tup [BrokerStep.v r.1,V.i r.2.1,V.i r.2.2]) (p_script_Get a0):=by
 refine callsO_comp mix Tryz.func7 gc7_ok fun r H=>?_
 rw [p_script_Get] at H
 conv=>whnf
 refine tst_c H (fun b1 H=>?_) (fun b1 H=>?_)
 ·conv=>whnf
  refine lq_ ?_;conv=>whnf
  exact fin0_c (enc:=(fun r:BrokerStep × Int × Int=>.tup [BrokerStep.v r.1,V.i r.2.1,V.i r.2.2])) H (.inr rfl) (.cons (.cell rfl rfl (Nat.le_of_ble_eq_true rfl)) (.cons (.tmp rfl) (.cons (.tmp rfl) (.nil)))) rfl rfl
 conv=>whnf
 refine ixt_c H (fun c2 H=>?_);conv=>whnf
 refine ask_c (p_script_shapes_v _) H rfl rfl (fun v3 H=>?_);conv=>whnf
 refine lq_ ?_;conv=>whnf
 refine Tst.not ?_
 refine tst_d H (fun b4 H=>?_) (fun b4 H=>?_)
 ·conv=>whnf
  refine lq_ ?_;conv=>whnf
  exact fin0_c (enc:=(fun r:BrokerStep × Int × Int=>.tup [BrokerStep.v r.1,V.i r.2.1,V.i r.2.2])) H (.inr rfl) (.cons (.cell rfl rfl (Nat.le_of_ble_eq_true rfl)) (.cons (.tmp rfl) (.cons (.tmp rfl) (.nil)))) rfl rfl
 conv=>whnf
 refine ixt_c H (fun c5 H=>?_);conv=>whnf
 refine lq_ ?_;conv=>whnf
 refine slt_c H (fun s6 H=>?_);conv=>whnf
 refine ask_c (p_octet_Open_v _) H rfl rfl (fun v7 H=>?_);conv=>whnf
 refine lq_ ?_;conv=>whnf
 refine tst_d H (fun b8 H=>?_) (fun b8 H=>?_)
 ·conv=>whnf
  refine tst_d H (fun b20 H=>?_) (fun b20 H=>?_)
  ·conv=>whnf
   refine tst_d H (fun b26 H=>?_) (fun b26 H=>?_)
   ·conv=>whnf
    refine tst_c H (fun b29 H=>?_) (fun b29 H=>?_)
    ·conv=>whnf
     refine lq_ ?_;conv=>whnf
     refine FootQ.mk ⟨rfl,?_⟩;conv=>whnf
     exact fin0_c (enc:=(fun r:BrokerStep × Int × Int=>.tup [BrokerStep.v r.1,V.i r.2.1,V.i r.2.2])) H (.inr rfl) (.cons (.cell rfl rfl (Nat.le_of_ble_eq_true rfl)) (.cons (.tmp rfl) (.cons (.tmp rfl) (.nil)))) rfl rfl
    conv=>whnf
    refine Ari.w ?_;conv=>whnf
    refine lq_ ?_;conv=>whnf
    refine FootQ.mk ⟨rfl,?_⟩;conv=>whnf
    exact fin0_c (enc:=(fun r:BrokerStep × Int × Int=>.tup [BrokerStep.v r.1,V.i r.2.1,V.i r.2.2])) H (.inr rfl) (.cons (.cell rfl rfl (Nat.le_of_ble_eq_true rfl)) (.cons (.tmp rfl) (.cons (.tmp rfl) (.nil)))) rfl rfl
   conv=>whnf
   refine ask_c (p_octet_Text_v _ _) H rfl rfl (fun v27 H=>?_);conv=>whnf
   refine lq_ ?_;conv=>whnf
   refine lq_ ?_;conv=>whnf
   refine tst_c H (fun b28 H=>?_) (fun b28 H=>?_)
   ·conv=>whnf
    refine lq_ ?_;conv=>whnf
    refine FootQ.mk ⟨rfl,?_⟩;conv=>whnf
    exact fin0_c (enc:=(fun r:BrokerStep × Int × Int=>.tup [BrokerStep.v r.1,V.i r.2.1,V.i r.2.2])) H (.inr rfl) (.cons (.cell rfl rfl (Nat.le_of_ble_eq_true rfl)) (.cons (.tmp rfl) (.cons (.tmp rfl) (.nil)))) rfl rfl
   conv=>whnf
   refine Ari.w ?_;conv=>whnf
   refine lq_ ?_;conv=>whnf
   refine FootQ.mk ⟨rfl,?_⟩;conv=>whnf
   exact fin0_c (enc:=(fun r:BrokerStep × Int × Int=>.tup [BrokerStep.v r.1,V.i r.2.1,V.i r.2.2])) H (.inr rfl) (.cons (.cell rfl rfl (Nat.le_of_ble_eq_true rfl)) (.cons (.tmp rfl) (.cons (.tmp rfl) (.nil)))) rfl rfl
  conv=>whnf
  refine ask_c (p_octet_Num_v _ _) H rfl rfl (fun v21 H=>?_);conv=>whnf
  refine lq_ ?_;conv=>whnf
  refine lq_ ?_;conv=>whnf
  refine tst_d H (fun b22 H=>?_) (fun b22 H=>?_)
  ·conv=>whnf
   refine tst_c H (fun b25 H=>?_) (fun b25 H=>?_)
   ·conv=>whnf
    refine lq_ ?_;conv=>whnf
    refine FootQ.mk ⟨rfl,?_⟩;conv=>whnf
    exact fin0_c (enc:=(fun r:BrokerStep × Int × Int=>.tup [BrokerStep.v r.1,V.i r.2.1,V.i r.2.2])) H (.inr rfl) (.cons (.cell rfl rfl (Nat.le_of_ble_eq_true rfl)) (.cons (.tmp rfl) (.cons (.tmp rfl) (.nil)))) rfl rfl
   conv=>whnf
   refine Ari.w ?_;conv=>whnf
   refine lq_ ?_;conv=>whnf
   refine FootQ.mk ⟨rfl,?_⟩;conv=>whnf
   exact fin0_c (enc:=(fun r:BrokerStep × Int × Int=>.tup [BrokerStep.v r.1,V.i r.2.1,V.i r.2.2])) H (.inr rfl) (.cons (.cell rfl rfl (Nat.le_of_ble_eq_true rfl)) (.cons (.tmp rfl) (.cons (.tmp rfl) (.nil)))) rfl rfl
  conv=>whnf
  refine ask_c (p_octet_Text_v _ _) H rfl rfl (fun v23 H=>?_);conv=>whnf
  refine lq_ ?_;conv=>whnf
  refine lq_ ?_;conv=>whnf
  refine tst_c H (fun b24 H=>?_) (fun b24 H=>?_)
  ·conv=>whnf
   refine lq_ ?_;conv=>whnf
   refine FootQ.mk ⟨rfl,?_⟩;conv=>whnf
   exact fin0_c (enc:=(fun r:BrokerStep × Int × Int=>.tup [BrokerStep.v r.1,V.i r.2.1,V.i r.2.2])) H (.inr rfl) (.cons (.cell rfl rfl (Nat.le_of_ble_eq_true rfl)) (.cons (.tmp rfl) (.cons (.tmp rfl) (.nil)))) rfl rfl
  conv=>whnf
  refine Ari.w ?_;conv=>whnf
  refine lq_ ?_;conv=>whnf
  refine FootQ.mk ⟨rfl,?_⟩;conv=>whnf
  exact fin0_c (enc:=(fun r:BrokerStep × Int × Int=>.tup [BrokerStep.v r.1,V.i r.2.1,V.i r.2.2])) H (.inr rfl) (.cons (.cell rfl rfl (Nat.le_of_ble_eq_true rfl)) (.cons (.tmp rfl) (.cons (.tmp rfl) (.nil)))) rfl rfl
 conv=>whnf
 refine ask_c (p_octet_Num_v _ _) H rfl rfl (fun v9 H=>?_);conv=>whnf
 refine lq_ ?_;conv=>whnf
 refine lq_ ?_;conv=>whnf
 refine tst_d H (fun b10 H=>?_) (fun b10 H=>?_)
 ·conv=>whnf
  refine tst_d H (fun b16 H=>?_) (fun b16 H=>?_)
  ·conv=>whnf
   refine tst_c H (fun b19 H=>?_) (fun b19 H=>?_)
   ·conv=>whnf
    refine lq_ ?_;conv=>whnf
    refine FootQ.mk ⟨rfl,?_⟩;conv=>whnf
    exact fin0_c (enc:=(fun r:BrokerStep × Int × Int=>.tup [BrokerStep.v r.1,V.i r.2.1,V.i r.2.2])) H (.inr rfl) (.cons (.cell rfl rfl (Nat.le_of_ble_eq_true rfl)) (.cons (.tmp rfl) (.cons (.tmp rfl) (.nil)))) rfl rfl
   conv=>whnf
   refine Ari.w ?_;conv=>whnf
   refine lq_ ?_;conv=>whnf
   refine FootQ.mk ⟨rfl,?_⟩;conv=>whnf
   exact fin0_c (enc:=(fun r:BrokerStep × Int × Int=>.tup [BrokerStep.v r.1,V.i r.2.1,V.i r.2.2])) H (.inr rfl) (.cons (.cell rfl rfl (Nat.le_of_ble_eq_true rfl)) (.cons (.tmp rfl) (.cons (.tmp rfl) (.nil)))) rfl rfl
  conv=>whnf
  refine ask_c (p_octet_Text_v _ _) H rfl rfl (fun v17 H=>?_);conv=>whnf
  refine lq_ ?_;conv=>whnf
  refine lq_ ?_;conv=>whnf
  refine tst_c H (fun b18 H=>?_) (fun b18 H=>?_)
  ·conv=>whnf
   refine lq_ ?_;conv=>whnf
   refine FootQ.mk ⟨rfl,?_⟩;conv=>whnf
   exact fin0_c (enc:=(fun r:BrokerStep × Int × Int=>.tup [BrokerStep.v r.1,V.i r.2.1,V.i r.2.2])) H (.inr rfl) (.cons (.cell rfl rfl (Nat.le_of_ble_eq_true rfl)) (.cons (.tmp rfl) (.cons (.tmp rfl) (.nil)))) rfl rfl
  conv=>whnf
  refine Ari.w ?_;conv=>whnf
  refine lq_ ?_;conv=>whnf
  refine FootQ.mk ⟨rfl,?_⟩;conv=>whnf
  exact fin0_c (enc:=(fun r:BrokerStep × Int × Int=>.tup [BrokerStep.v r.1,V.i r.2.1,V.i r.2.2])) H (.inr rfl) (.cons (.cell rfl rfl (Nat.le_of_ble_eq_true rfl)) (.cons (.tmp rfl) (.cons (.tmp rfl) (.nil)))) rfl rfl
 conv=>whnf
 refine ask_c (p_octet_Num_v _ _) H rfl rfl (fun v11 H=>?_);conv=>whnf
 refine lq_ ?_;conv=>whnf
 refine lq_ ?_;conv=>whnf
 refine tst_d H (fun b12 H=>?_) (fun b12 H=>?_)
 ·conv=>whnf
  refine tst_c H (fun b15 H=>?_) (fun b15 H=>?_)
  ·conv=>whnf
   refine lq_ ?_;conv=>whnf
   refine FootQ.mk ⟨rfl,?_⟩;conv=>whnf
   exact fin0_c (enc:=(fun r:BrokerStep × Int × Int=>.tup [BrokerStep.v r.1,V.i r.2.1,V.i r.2.2])) H (.inr rfl) (.cons (.cell rfl rfl (Nat.le_of_ble_eq_true rfl)) (.cons (.tmp rfl) (.cons (.tmp rfl) (.nil)))) rfl rfl
  conv=>whnf
  refine Ari.w ?_;conv=>whnf
  refine lq_ ?_;conv=>whnf
  refine FootQ.mk ⟨rfl,?_⟩;conv=>whnf
  exact fin0_c (enc:=(fun r:BrokerStep × Int × Int=>.tup [BrokerStep.v r.1,V.i r.2.1,V.i r.2.2])) H (.inr rfl) (.cons (.cell rfl rfl (Nat.le_of_ble_eq_true rfl)) (.cons (.tmp rfl) (.cons (.tmp rfl) (.nil)))) rfl rfl
 conv=>whnf
 refine ask_c (p_octet_Text_v _ _) H rfl rfl (fun v13 H=>?_);conv=>whnf
 refine lq_ ?_;conv=>whnf
 refine lq_ ?_;conv=>whnf
 refine tst_c H (fun b14 H=>?_) (fun b14 H=>?_)
 ·conv=>whnf
  refine lq_ ?_;conv=>whnf
  refine FootQ.mk ⟨rfl,?_⟩;conv=>whnf
  exact fin0_c (enc:=(fun r:BrokerStep × Int × Int=>.tup [BrokerStep.v r.1,V.i r.2.1,V.i r.2.2])) H (.inr rfl) (.cons (.cell rfl rfl (Nat.le_of_ble_eq_true rfl)) (.cons (.tmp rfl) (.cons (.tmp rfl) (.nil)))) rfl rfl
 conv=>whnf
 refine Ari.w ?_;conv=>whnf
 refine lq_ ?_;conv=>whnf
 refine FootQ.mk ⟨rfl,?_⟩;conv=>whnf
 exact fin0_c (enc:=(fun r:BrokerStep × Int × Int=>.tup [BrokerStep.v r.1,V.i r.2.1,V.i r.2.2])) H (.inr rfl) (.cons (.cell rfl rfl (Nat.le_of_ble_eq_true rfl)) (.cons (.tmp rfl) (.cons (.tmp rfl) (.nil)))) rfl rfl
def gc9:BCode:=(.seq (R_ 0 [O_ 2 (.mv (.const (.slice none 0 0))) 0,O_ 3 (.mv (i_ 0)) 0]) (.seq (R_ 0 [O_ 4 (.mv (.const (.slice none 0 0))) 0]) (.seq (.block 0 (.loop (.seq (.seq (R_ 0 [O_ 8 (.mv (t_ 0)) 0,O_ 9 (.bin .neq (t_ 8) (.const (.string ⟨#[]⟩))) 0]) (.cond (t_ 9) .skip (.exit 0))) (.block 1 (.seq (R_ 1 [O_ 11 (.mv (t_ 0)) 0,O_ 12 (.cl 7 [(t_ 11)]) 0,O_ 10 (.mv (t_ 12)) 0,O_ 13 (.ex (t_ 10) 0) 0,O_ 14 (.ex (t_ 10) 1) 0,O_ 15 (.ex (t_ 10) 2) 0,O_ 5 (.al (.agg [(.lit (.int .u8 0)),(.lit (.int .i64 0)),(.lit (.int .i64 0)),(.lit (.string ⟨#[]⟩))])) 0,U_ (.st 4 (t_ 5) (t_ 13)) 1,O_ 6 (.mv (t_ 14)) 1,O_ 7 (.mv (t_ 15)) 1]) (.seq (.seq (R_ 0 [O_ 16 (.mv (t_ 7)) 0,O_ 17 (.bin .neq (t_ 16) (i_ 0)) 0]) (.cond (t_ 17) (.seq (R_ 0 [O_ 18 (.mv (t_ 7)) 0,O_ 2 (.mv (.const (.slice none 0 0))) 0,O_ 3 (.mv (t_ 18)) 0]) .ret) .skip)) (.seq (R_ 2 [O_ 19 (.mv (t_ 4)) 0,O_ 20 (.ld 4 true (t_ 5)) 0,O_ 21 (.bs 4 1 [(.lit (.int .u8 0)),(.lit (.int .i64 0)),(.lit (.int .i64 0)),(.lit (.string ⟨#[]⟩))] [(0,(t_ 20))]) 0,O_ 22 (.ap 4 40 (t_ 19) (t_ 21)) 1,O_ 4 (.mv (t_ 22)) 2]) (R_ 0 [O_ 23 (.mv (t_ 0)) 0,O_ 24 (.mv (t_ 6)) 0,O_ 25 (.slt (t_ 23) (some (t_ 24)) none) 0,O_ 0 (.mv (t_ 25)) 0])))))))) (.seq (R_ 0 [O_ 26 (.mv (t_ 4)) 0,O_ 2 (.mv (t_ 26)) 0,O_ 3 (.mv (i_ 0)) 0]) .ret))))
theorem gc9_ok:compF Tryz.prog Tryz.f9=some (gc9.er,27,[.tmp 2,.tmp 3]):=by unfold gc9;kernel_rfl
theorem p_script_All_v (a0:ByteArray):CallsO Tryz.prog 9 [.s a0] (fun r:(List BrokerStep) × Int=>.tup [(fun l:List BrokerStep=>V.sl (l.map BrokerStep.v) false) r.1,V.i r.2]) (p_script_All a0):=by
 refine callsO_comp mix Tryz.func9 gc9_ok fun r H=>?_
 rw [p_script_All] at H
 conv=>whnf
 obtain ⟨o2,HL3,HQ4⟩:=bind_c H
 refine loop_c [0,2,3,4] [5,6,7,8,9,10,11,12,13,14,15,16,17,18,19,20,21,22,23,24,25] [5,6,7,8,9,10,11,12,13,14,15,16,17,18,19,20,21,22,23,24,25] (fun n vals st=>(∃ y6,p_script_All_l1  n y6 []=some o2∧vals=[.s y6,.sl (List.map BrokerStep.v []) true,.i (0:Int),.sl (List.map BrokerStep.v []) true]∧st=[])∨(∃ y12 y13,p_script_All_l1  n y12 y13=some o2∧vals=[.s y12,.sl (List.map BrokerStep.v []) true,.i (0:Int),.osl 0 0 (List.length y13) 4 false]∧st=[.live (cellsM BrokerStep.v y13) (cellsM BrokerStep.v y13).length])) fuel 0 [] (.inl (⟨_,HL3,rfl,rfl⟩)) (Nat.zero_le _) rfl (by kernel_rfl) (by kernel_rfl) rfl trivial ?_
 rintro (_ | n5) _ _ (⟨y6,H,rfl,rfl⟩ | ⟨y12,y13,H,rfl,rfl⟩)
 ·rw [p_script_All_l1] at H;cases H
 ·rw [p_script_All_l1] at H;cases H
 ·rw [p_script_All_l1] at H
  conv=>whnf
  refine Tst.not ?_
  refine tst_c H (fun b7 H=>?_) (fun b7 H=>?_)
  ·conv=>whnf
   obtain rfl:=Option.some.inj H
   have H:=HQ4
   try dsimp only at H
   refine finR_c (enc:=(fun r:(List BrokerStep) × Int=>.tup [(fun l:List BrokerStep=>V.sl (l.map BrokerStep.v) false) r.1,V.i r.2])) H ?_;conv=>whnf
   exact ⟨_,.tup (.cons (.c (.slw)) (.cons (.c (.id rfl)) (.nil)))⟩
  conv=>whnf
  refine ask_c (p_script_Get_v _) H rfl rfl (fun v8 H=>?_);conv=>whnf
  refine lq_ ?_;conv=>whnf
  refine tst_c H (fun b9 H=>?_) (fun b9 H=>?_)
  ·conv=>whnf
   obtain rfl:=Option.some.inj H
   have H:=HQ4
   try dsimp only at H
   refine finR_c (enc:=(fun r:(List BrokerStep) × Int=>.tup [(fun l:List BrokerStep=>V.sl (l.map BrokerStep.v) false) r.1,V.i r.2])) H ?_;conv=>whnf
   exact ⟨_,.tup (.cons (.c (.slw)) (.cons (.c (.id rfl)) (.nil)))⟩
  conv=>whnf
  refine appN_c (f:=BrokerStep.v) H (fun _=>rfl) (srcM (f:=BrokerStep.v) (fun _=>rfl) [] true) rfl (.v (srcOwn (f:=BrokerStep.v) (l:=[v8.1]) (fun _=>rfl) rfl rfl rfl)) (by decide) rfl (by simp) (fun l10 H=>?_);conv=>whnf
  refine slt_c H (fun s11 H=>?_);conv=>whnf
  exact again_c [5,6,7,8,9,10,11,12,13,14,15,16,17,18,19,20,21,22,23,24,25] n5 1 [2] (.inr (⟨_,_,H,rfl,rfl⟩)) (Nat.lt_succ_self _) (Nat.zero_le _) rfl (by kernel_rfl) (by kernel_rfl) rfl (wkB_live0 rfl (cellsM_idlt (f:=BrokerStep.v) (fun _=>rfl) _) rfl trivial)
 rw [p_script_All_l1] at H
 conv=>whnf
 refine Tst.not ?_
 refine tst_c H (fun b14 H=>?_) (fun b14 H=>?_)
 ·conv=>whnf
  obtain rfl:=Option.some.inj H
  have H:=HQ4
  try dsimp only at H
  refine finR_c (enc:=(fun r:(List BrokerStep) × Int=>.tup [(fun l:List BrokerStep=>V.sl (l.map BrokerStep.v) false) r.1,V.i r.2])) H ?_;conv=>whnf
  exact ⟨_,.tup (.cons (.c (fzown (f:=BrokerStep.v) (l:=y13) rfl rfl (fun _=>rfl) (fun _=>rfl))) (.cons (.c (.id rfl)) (.nil)))⟩
 conv=>whnf
 refine ask_c (p_script_Get_v _) H rfl rfl (fun v15 H=>?_);conv=>whnf
 refine lq_ ?_;conv=>whnf
 refine tst_c H (fun b16 H=>?_) (fun b16 H=>?_)
 ·conv=>whnf
  obtain rfl:=Option.some.inj H
  have H:=HQ4
  try dsimp only at H
  refine finR_c (enc:=(fun r:(List BrokerStep) × Int=>.tup [(fun l:List BrokerStep=>V.sl (l.map BrokerStep.v) false) r.1,V.i r.2])) H ?_;conv=>whnf
  exact ⟨_,.tup (.cons (.c (.slw)) (.cons (.c (.id rfl)) (.nil)))⟩
 conv=>whnf
 refine appO_c (f:=BrokerStep.v) H (fun _=>rfl) rfl (Nat.le_refl _) (.v (srcOwn (f:=BrokerStep.v) (l:=[v15.1]) (fun _=>rfl) rfl rfl rfl)) (by decide) rfl (by simp) (fun l17 H=>?_);conv=>whnf
 refine slt_c H (fun s18 H=>?_);conv=>whnf
 exact again_c [5,6,7,8,9,10,11,12,13,14,15,16,17,18,19,20,21,22,23,24,25] n5 1 [3] (.inr (⟨_,_,H,rfl,rfl⟩)) (Nat.lt_succ_self _) (Nat.zero_le _) rfl (by kernel_rfl) (by kernel_rfl) rfl (wkB_live0 rfl (cellsM_idlt (f:=BrokerStep.v) (fun _=>rfl) _) rfl trivial)
def gc47:BCode:=(.seq (R_ 0 [O_ 2 (.mv (.const (.string ⟨#[]⟩))) 0,O_ 3 (.mv (i_ 0)) 0]) (.seq (R_ 0 [O_ 4 (.mv (.const (.slice none 0 0))) 0]) (.seq (.seq (R_ 0 [O_ 9 (.mv (t_ 0)) 0,O_ 10 (.lens (t_ 9)) 0,O_ 11 (.mv (i_ 0)) 0]) (.block 0 (.loop (.seq (R_ 0 [O_ 12 (.bin .lss (t_ 11) (t_ 10)) 0]) (.seq (.cond (t_ 12) .skip (.exit 0)) (.seq (.block 1 (.seq (R_ 1 [O_ 13 (.ixs 8 (t_ 9) (t_ 11)) 0,O_ 14 (.ld 8 true (t_ 13)) 0,O_ 6 (.al (.agg [(.lit (.int .u8 0)),(.lit (.string ⟨#[]⟩)),(.lit (.string ⟨#[]⟩)),(.lit (.string ⟨#[]⟩)),(.lit (.int .i64 0)),(.lit (.int .i64 0)),(.lit (.int .i64 0)),(.lit (.int .i64 0))])) 0,U_ (.st 8 (t_ 6) (t_ 14)) 1]) (.seq (R_ 0 [O_ 16 (.ld 8 true (t_ 6)) 0,O_ 17 (.cl 61 [(t_ 16)]) 0,O_ 15 (.mv (t_ 17)) 0,O_ 18 (.ex (t_ 15) 0) 0,O_ 19 (.ex (t_ 15) 1) 0,O_ 7 (.mv (t_ 18)) 0,O_ 8 (.mv (t_ 19)) 0]) (.seq (.seq (R_ 0 [O_ 20 (.mv (t_ 8)) 0,O_ 21 (.bin .neq (t_ 20) (i_ 0)) 0]) (.cond (t_ 21) (.seq (R_ 0 [O_ 22 (.mv (t_ 8)) 0,O_ 2 (.mv (.const (.string ⟨#[]⟩))) 0,O_ 3 (.mv (t_ 22)) 0]) .ret) .skip)) (R_ 2 [O_ 23 (.mv (t_ 4)) 0,O_ 24 (.mv (t_ 7)) 0,O_ 25 (.bs 1 1 [(.lit (.string ⟨#[]⟩))] [(0,(t_ 24))]) 0,O_ 26 (.ap 1 16 (t_ 23) (t_ 25)) 1,O_ 4 (.mv (t_ 26)) 2]))))) (R_ 0 [O_ 27 (.bin .add (t_ 11) (i_ 1)) 0,O_ 11 (.mv (t_ 27)) 0]))))))) (.seq (R_ 0 [O_ 28 (.mv (t_ 4)) 0,O_ 29 (.cl 62 [(t_ 28)]) 0,O_ 30 (.ex (t_ 29) 0) 0,O_ 31 (.ex (t_ 29) 1) 0,O_ 2 (.mv (t_ 30)) 0,O_ 3 (.mv (t_ 31)) 0]) .ret))))
theorem gc47_ok:compF Tryz.prog Tryz.f47=some (gc47.er,32,[.tmp 2,.tmp 3]):=by unfold gc47;kernel_rfl
theorem p_deframe_Encode_v {u1:Bool} (a0:List StanzaStanza):CallsO Tryz.prog 47 [.sl (List.map StanzaStanza.v a0) u1] (fun r:ByteArray × Int=>.tup [V.s r.1,V.i r.2]) (p_deframe_Encode a0):=by
 refine callsO_comp mix Tryz.func47 gc47_ok fun r H=>?_
 rw [p_deframe_Encode] at H
 conv=>whnf
 refine LenQ.M ?_;conv=>whnf
 obtain ⟨o2,HL3,HQ4⟩:=bind_c H
 refine loop_c [2,3,4,11] [6,7,8,12,13,14,15,16,17,18,19,20,21,22,23,24,25,26,27] [6,7,8,12,13,14,15,16,17,18,19,20,21,22,23,24,25,26,27] (fun n vals st=>(∃ y6,p_deframe_Encode_l1  a0 (a0.length:Int) n [] y6=some o2∧vals=[.s (⟨#[]⟩ : ByteArray),.i (0:Int),.sl (List.map V.s []) true,.i y6]∧st=[])∨(∃ y12 y13,p_deframe_Encode_l1  a0 (a0.length:Int) n y12 y13=some o2∧vals=[.s (⟨#[]⟩ : ByteArray),.i (0:Int),.osl 0 0 (List.length y12) 1 false,.i y13]∧st=[.live (cellsM V.s y12) (cellsM V.s y12).length])) fuel 0 [] (.inl (⟨_,HL3,rfl,rfl⟩)) (Nat.zero_le _) rfl (by kernel_rfl) (by kernel_rfl) rfl trivial ?_
 rintro (_ | n5) _ _ (⟨y6,H,rfl,rfl⟩ | ⟨y12,y13,H,rfl,rfl⟩)
 ·rw [p_deframe_Encode_l1] at H;cases H
 ·rw [p_deframe_Encode_l1] at H;cases H
 ·rw [p_deframe_Encode_l1] at H
  conv=>whnf
  refine tst_d H (fun b7 H=>?_) (fun b7 H=>?_)
  ·conv=>whnf
   obtain rfl:=Option.some.inj H
   have H:=HQ4
   try dsimp only at H
   refine ask_c (p_frame_Join_v _) H rfl rfl (fun v14 H=>?_);conv=>whnf
   exact fin0_c (enc:=(fun r:ByteArray × Int=>.tup [V.s r.1,V.i r.2])) H (.inr rfl) (.cons (.tmp rfl) (.cons (.tmp rfl) (.nil))) rfl rfl
  conv=>whnf
  refine ixs_c (f:=StanzaStanza.v) H (fun _=>rfl) (fun x8 H=>?_);conv=>whnf
  refine lq_ ?_;conv=>whnf
  refine ask_c (p_stanza_Put_v _) H rfl rfl (fun v9 H=>?_);conv=>whnf
  refine tst_c H (fun b10 H=>?_) (fun b10 H=>?_)
  ·conv=>whnf
   obtain rfl:=Option.some.inj H
   have H:=HQ4
   try dsimp only at H
   exact fin0_c (enc:=(fun r:ByteArray × Int=>.tup [V.s r.1,V.i r.2])) H (.inr rfl) (.cons (.tmp rfl) (.cons (.tmp rfl) (.nil))) rfl rfl
  conv=>whnf
  refine appN_c (f:=V.s) H (fun _=>rfl) (srcM (f:=V.s) (fun _=>rfl) [] true) rfl (.v (srcOwn (f:=V.s) (l:=[v9.1]) (fun _=>rfl) rfl rfl rfl)) (by decide) rfl (by simp) (fun l11 H=>?_);conv=>whnf
  refine Ari.w ?_;conv=>whnf
  exact again_c [6,7,8,12,13,14,15,16,17,18,19,20,21,22,23,24,25,26,27] n5 1 [2] (.inr (⟨_,_,H,rfl,rfl⟩)) (Nat.lt_succ_self _) (Nat.zero_le _) rfl (by kernel_rfl) (by kernel_rfl) rfl (wkB_live0 rfl (cellsM_idlt (f:=V.s) (fun _=>rfl) _) rfl trivial)
 rw [p_deframe_Encode_l1] at H
 conv=>whnf
 refine tst_d H (fun b15 H=>?_) (fun b15 H=>?_)
 ·conv=>whnf
  obtain rfl:=Option.some.inj H
  have H:=HQ4
  try dsimp only at H
  refine askF_c (p_frame_Join_v _) H (.cons (.c (fzown (f:=V.s) (l:=y12) rfl rfl (fun _=>rfl) (fun _=>rfl))) (.nil)) (fun v20 H=>?_);conv=>whnf
  exact fin0_c (enc:=(fun r:ByteArray × Int=>.tup [V.s r.1,V.i r.2])) H (.inr rfl) (.cons (.tmp rfl) (.cons (.tmp rfl) (.nil))) rfl rfl
 conv=>whnf
 refine ixs_c (f:=StanzaStanza.v) H (fun _=>rfl) (fun x16 H=>?_);conv=>whnf
 refine lq_ ?_;conv=>whnf
 refine ask_c (p_stanza_Put_v _) H rfl rfl (fun v17 H=>?_);conv=>whnf
 refine tst_c H (fun b18 H=>?_) (fun b18 H=>?_)
 ·conv=>whnf
  obtain rfl:=Option.some.inj H
  have H:=HQ4
  try dsimp only at H
  exact fin0_c (enc:=(fun r:ByteArray × Int=>.tup [V.s r.1,V.i r.2])) H (.inr rfl) (.cons (.tmp rfl) (.cons (.tmp rfl) (.nil))) rfl rfl
 conv=>whnf
 refine appO_c (f:=V.s) H (fun _=>rfl) rfl (Nat.le_refl _) (.v (srcOwn (f:=V.s) (l:=[v17.1]) (fun _=>rfl) rfl rfl rfl)) (by decide) rfl (by simp) (fun l19 H=>?_);conv=>whnf
 refine Ari.w ?_;conv=>whnf
 exact again_c [6,7,8,12,13,14,15,16,17,18,19,20,21,22,23,24,25,26,27] n5 1 [3] (.inr (⟨_,_,H,rfl,rfl⟩)) (Nat.lt_succ_self _) (Nat.zero_le _) rfl (by kernel_rfl) (by kernel_rfl) rfl (wkB_live0 rfl (cellsM_idlt (f:=V.s) (fun _=>rfl) _) rfl trivial)
end Go.Proofs.YtbimgghogflikaaGreatDoor

namespace Go.Proofs.YtbimgghogflikaaGreatDoor
open Go.RowKit
set_option maxRecDepth 100000
set_option maxHeartbeats 4000000
def gc21:BCode:=(.seq (R_ 1 [O_ 4 (.al (.agg [(.lit (.int .u8 0)),(.lit (.int .i64 0)),(.lit (.int .i64 0)),(.lit (.string ⟨#[]⟩))])) 0,O_ 5 (.mv (i_ 0)) 1]) (.seq (R_ 0 [O_ 9 (.mv (t_ 1)) 0,O_ 10 (.cl 47 [(t_ 9)]) 0,O_ 8 (.mv (t_ 10)) 0,O_ 11 (.ex (t_ 8) 0) 0,O_ 12 (.ex (t_ 8) 1) 0,O_ 6 (.mv (t_ 11)) 0,O_ 7 (.mv (t_ 12)) 0]) (.seq (.seq (R_ 0 [O_ 13 (.mv (t_ 7)) 0,O_ 14 (.bin .neq (t_ 13) (i_ 0)) 0]) (.cond (t_ 14) (.seq (R_ 0 [O_ 15 (.bd [(.lit (.int .u8 0)),(.lit (.int .i64 0)),(.lit (.int .i64 0)),(.lit (.string ⟨#[]⟩))] []) 0,O_ 16 (.mv (t_ 7)) 0,U_ (.st 4 (t_ 4) (t_ 15)) 0,O_ 5 (.mv (t_ 16)) 0]) .ret) .skip)) (.seq (.seq (R_ 0 [O_ 17 (.mv (t_ 6)) 0,O_ 18 (.lent (t_ 17)) 0,O_ 19 (.bin .gtr (t_ 18) (i_ 255)) 0]) (.cond (t_ 19) (.seq (R_ 0 [O_ 20 (.bd [(.lit (.int .u8 0)),(.lit (.int .i64 0)),(.lit (.int .i64 0)),(.lit (.string ⟨#[]⟩))] []) 0,U_ (.st 4 (t_ 4) (t_ 20)) 0,O_ 5 (.mv (i_ 5)) 0]) .ret) .skip)) (.seq (R_ 0 [O_ 21 (.mv (t_ 0)) 0,O_ 22 (.mv (t_ 6)) 0,O_ 23 (.bd [(.lit (.int .u8 0)),(.lit (.int .i64 0)),(.lit (.int .i64 0)),(.lit (.string ⟨#[]⟩))] [(0,1,(.const (.int .u8 1))),(1,1,(t_ 21)),(3,1,(t_ 22))]) 0,U_ (.st 4 (t_ 4) (t_ 23)) 0,O_ 5 (.mv (i_ 0)) 0]) .ret)))))
theorem gc21_ok:compF Tryz.prog Tryz.f21=some (gc21.er,24,[.cell 4 4 true,.tmp 5]):=by unfold gc21;kernel_rfl
theorem p_script_Ask_v {u1:Bool} (a0:Int) (a1:List StanzaStanza):CallsO Tryz.prog 21 [.i a0,.sl (List.map StanzaStanza.v a1) u1] (fun r:BrokerStep × Int=>.tup [BrokerStep.v r.1,V.i r.2]) (p_script_Ask a0 a1):=by
 refine callsO_comp mix Tryz.func21 gc21_ok fun r H=>?_
 rw [p_script_Ask] at H
 conv=>whnf
 refine ask_c (p_deframe_Encode_v _) H rfl rfl (fun v1 H=>?_);conv=>whnf
 refine tst_c H (fun b2 H=>?_) (fun b2 H=>?_)
 ·conv=>whnf
  refine lq_ ?_;conv=>whnf
  exact fin0_c (enc:=(fun r:BrokerStep × Int=>.tup [BrokerStep.v r.1,V.i r.2])) H (.inr rfl) (.cons (.cell rfl rfl (Nat.le_of_ble_eq_true rfl)) (.cons (.tmp rfl) (.nil))) rfl rfl
 conv=>whnf
 refine tst_c H (fun b3 H=>?_) (fun b3 H=>?_)
 ·conv=>whnf
  refine lq_ ?_;conv=>whnf
  exact fin0_c (enc:=(fun r:BrokerStep × Int=>.tup [BrokerStep.v r.1,V.i r.2])) H (.inr rfl) (.cons (.cell rfl rfl (Nat.le_of_ble_eq_true rfl)) (.cons (.tmp rfl) (.nil))) rfl rfl
 conv=>whnf
 refine lq_ ?_;conv=>whnf
 exact fin0_c (enc:=(fun r:BrokerStep × Int=>.tup [BrokerStep.v r.1,V.i r.2])) H (.inr rfl) (.cons (.cell rfl rfl (Nat.le_of_ble_eq_true rfl)) (.cons (.tmp rfl) (.nil))) rfl rfl
def gc23:BCode:=(.seq (R_ 0 [O_ 2 (.mv (.const (.string ⟨#[]⟩))) 0]) (.seq (R_ 1 [O_ 6 (.mv (t_ 0)) 0,O_ 7 (.cl 27 [(t_ 6)]) 0,O_ 5 (.mv (t_ 7)) 0,O_ 8 (.ex (t_ 5) 0) 0,O_ 9 (.ex (t_ 5) 1) 0,O_ 3 (.al (.agg [(.lit (.string ⟨#[]⟩)),(.lit (.bool false)),(.lit (.int .i64 0)),(.lit (.bool false))])) 0,U_ (.st 4 (t_ 3) (t_ 8)) 1,O_ 4 (.mv (t_ 9)) 1]) (.seq (R_ 0 [O_ 10 (.fa 0 (t_ 3)) 0,O_ 11 (.ld 1 false (t_ 10)) 0,O_ 2 (.mv (t_ 11)) 0]) .ret)))
theorem gc23_ok:compF Tryz.prog Tryz.f23=some (gc23.er,12,[.tmp 2]):=by unfold gc23;kernel_rfl
theorem p_script_Name_v (a0:Int):CallsO Tryz.prog 23 [.y8 a0] V.s (p_script_Name a0):=by
 refine callsO_comp mix Tryz.func23 gc23_ok fun r H=>?_
 rw [p_script_Name] at H
 conv=>whnf
 refine ask_c (p_script_shapes_v _) H rfl rfl (fun v1 H=>?_);conv=>whnf
 refine lq_ ?_;conv=>whnf
 exact fin0_c (enc:=V.s) H (.inr rfl) (.cons (.tmp rfl) (.nil)) rfl rfl
def gc16:BCode:=(.seq (R_ 1 [O_ 1 (.bx (t_ 0)) 0,O_ 2 (.mv (.const (.string ⟨#[]⟩))) 1]) (.seq (R_ 1 [O_ 6 (.fa 0 (t_ 1)) 0,O_ 7 (.ld 1 false (t_ 6)) 0,O_ 8 (.cl 27 [(t_ 7)]) 0,O_ 5 (.mv (t_ 8)) 0,O_ 9 (.ex (t_ 5) 0) 0,O_ 10 (.ex (t_ 5) 1) 0,O_ 3 (.al (.agg [(.lit (.string ⟨#[]⟩)),(.lit (.bool false)),(.lit (.int .i64 0)),(.lit (.bool false))])) 0,U_ (.st 4 (t_ 3) (t_ 9)) 1,O_ 4 (.mv (t_ 10)) 1]) (.seq (.seq (R_ 0 [O_ 11 (.mv (t_ 4)) 0,O_ 12 (.un .not (t_ 11)) 0]) (.cond (t_ 12) (.seq (R_ 0 [O_ 2 (.mv (.const (.string ⟨#[]⟩))) 0]) .ret) .skip)) (.seq (.reg 1 [O_ 13 (.fa 0 (t_ 3)) 0,O_ 14 (.ld 1 false (t_ 13)) 0,O_ 15 (.fa 1 (t_ 1)) 0,O_ 16 (.ld 1 false (t_ 15)) 0,O_ 17 (.cl 43 [(t_ 16)]) 0,O_ 18 (.fa 2 (t_ 1)) 0,O_ 19 (.ld 1 false (t_ 18)) 0,O_ 20 (.cl 43 [(t_ 19)]) 0,O_ 21 (.fa 3 (t_ 1)) 0,O_ 22 (.ld 1 false (t_ 21)) 0,O_ 23 (.lent (t_ 22)) 0,O_ 24 (.cl 43 [(t_ 23)]) 0,O_ 25 (.bs 1 4 [(.lit (.string ⟨#[]⟩)),(.lit (.string ⟨#[]⟩)),(.lit (.string ⟨#[]⟩)),(.lit (.string ⟨#[]⟩))] [(0,(t_ 14)),(1,(t_ 17)),(2,(t_ 20)),(3,(t_ 24))]) 0,O_ 26 (.cl 42 [(t_ 25),(.const (.string ⟨#[32]⟩))]) 1,O_ 2 (.mv (t_ 26)) 1] (some [[],[0],[],[2],[2,3],[],[5],[3,2,4,5,6],[],[8],[8,9],[6,5,4,2,3,7,9,8,10],[10,8,9,11,6,5,7,3,2,4,0,1],[1,0,4,2,3,7,5,6,11,9,8,10,12],[12,10,8,9,11,6,5,7,3,2,4,0,1,13]]) 0 []) .ret))))
theorem gc16_ok:compF Tryz.prog Tryz.f16=some (gc16.er,27,[.tmp 2]):=by unfold gc16;kernel_rfl
theorem p_script_Say_v (a0:BrokerStep):CallsO Tryz.prog 16 [.agg [.y8 a0.Kind,.i a0.Conn,.i a0.N,.s a0.Text]] V.s (p_script_Say a0):=by
 refine callsO_comp mix Tryz.func16 gc16_ok fun r H=>?_
 rw [p_script_Say] at H
 conv=>whnf
 refine ask_c (p_script_shapes_v _) H rfl rfl (fun v1 H=>?_);conv=>whnf
 refine lq_ ?_;conv=>whnf
 refine Tst.not ?_
 refine tst_d H (fun b2 H=>?_) (fun b2 H=>?_)
 ·conv=>whnf
  exact fin0_c (enc:=V.s) H (.inr rfl) (.cons (.tmp rfl) (.nil)) rfl rfl
 conv=>whnf
 refine ask_c (p_strconv_Itoa_v _) H rfl rfl (fun v3 H=>?_);conv=>whnf
 refine ask_c (p_strconv_Itoa_v _) H rfl rfl (fun v4 H=>?_);conv=>whnf
 refine ask_c (p_strconv_Itoa_v _) H rfl rfl (fun v5 H=>?_);conv=>whnf
 refine askF_c (p_strings_Join_v _ _) H (.cons (.c (fzown (f:=V.s) (l:=[v1.1.name,v3,v4,v5]) rfl rfl (fun _=>rfl) (fun _=>rfl))) (.cons (.c (.id rfl)) (.nil))) (fun v6 H=>?_);conv=>whnf
 refine FootQ.mk ⟨rfl,?_⟩;conv=>whnf
 exact fin0_c (enc:=V.s) H (.inr rfl) (.cons (.tmp rfl) (.nil)) rfl rfl
def gc25:BCode:=(.seq (R_ 0 [O_ 4 (.mv (i_ 0)) 0]) (.seq (R_ 0 [O_ 5 (.mv (i_ 0)) 0]) (.seq (.seq (R_ 0 [O_ 8 (.mv (t_ 0)) 0,O_ 9 (.lens (t_ 8)) 0,O_ 10 (.mv (i_ 0)) 0]) (.block 0 (.loop (.seq (R_ 0 [O_ 11 (.bin .lss (t_ 10) (t_ 9)) 0]) (.seq (.cond (t_ 11) .skip (.exit 0)) (.seq (.block 1 (.seq (R_ 1 [O_ 12 (.ixs 4 (t_ 8) (t_ 10)) 0,O_ 13 (.ld 4 true (t_ 12)) 0,O_ 7 (.al (.agg [(.lit (.int .u8 0)),(.lit (.int .i64 0)),(.lit (.int .i64 0)),(.lit (.string ⟨#[]⟩))])) 0,U_ (.st 4 (t_ 7) (t_ 13)) 1]) (.seq (R_ 0 [O_ 14 (.fa 0 (t_ 7)) 0,O_ 15 (.ld 1 false (t_ 14)) 0,O_ 16 (.mv (t_ 1)) 0,O_ 17 (.bin .eql (t_ 15) (t_ 16)) 0]) (.cond (t_ 17) (R_ 0 [O_ 18 (.mv (t_ 5)) 0,O_ 19 (.bin .add (t_ 18) (i_ 1)) 0,O_ 5 (.mv (t_ 19)) 0]) .skip)))) (R_ 0 [O_ 20 (.bin .add (t_ 10) (i_ 1)) 0,O_ 10 (.mv (t_ 20)) 0]))))))) (.seq (R_ 0 [O_ 21 (.mv (t_ 5)) 0,O_ 4 (.mv (t_ 21)) 0]) .ret))))
theorem gc25_ok:compF Tryz.prog Tryz.f25=some (gc25.er,22,[.tmp 4]):=by unfold gc25;kernel_rfl
theorem p_script_Count_v {u1:Bool} (a0:List BrokerStep) (a1:Int):CallsO Tryz.prog 25 [.sl (List.map BrokerStep.v a0) u1,.y8 a1] V.i (p_script_Count a0 a1):=by
 refine callsO_comp mix Tryz.func25 gc25_ok fun r H=>?_
 rw [p_script_Count] at H
 conv=>whnf
 refine LenQ.M ?_;conv=>whnf
 obtain ⟨o2,HL3,HQ4⟩:=bind_c H
 refine loop_c [5,10] [7,11,12,13,14,15,16,17,18,19,20] [7,11,12,13,14,15,16,17,18,19,20] (fun n vals st=>(∃ y6 y7,p_script_Count_l1  a1 a0 (a0.length:Int) n y6 y7=some o2∧vals=[.i y6,.i y7]∧st=[])) fuel 0 [] (⟨_,_,HL3,rfl,rfl⟩) (Nat.zero_le _) rfl (by kernel_rfl) (by kernel_rfl) rfl trivial ?_
 rintro (_ | n5) _ _ (⟨y6,y7,H,rfl,rfl⟩)
 ·rw [p_script_Count_l1] at H;cases H
 rw [p_script_Count_l1] at H
 conv=>whnf
 refine tst_d H (fun b8 H=>?_) (fun b8 H=>?_)
 ·conv=>whnf
  obtain rfl:=Option.some.inj H
  have H:=HQ4
  try dsimp only at H
  exact fi_ H
 conv=>whnf
 refine ixs_c (f:=BrokerStep.v) H (fun _=>rfl) (fun x9 H=>?_);conv=>whnf
 refine lq_ ?_;conv=>whnf
 refine tst_d H (fun b10 H=>?_) (fun b10 H=>?_)
 ·conv=>whnf
  refine Ari.w ?_;conv=>whnf
  exact again_c [7,11,12,13,14,15,16,17,18,19,20] n5 0 [] (⟨_,_,H,rfl,rfl⟩) (Nat.lt_succ_self _) (Nat.zero_le _) rfl (by kernel_rfl) (by kernel_rfl) rfl trivial
 conv=>whnf
 iterate 2 (refine Ari.w ?_;conv=>whnf)
 exact again_c [7,11,12,13,14,15,16,17,18,19,20] n5 0 [] (⟨_,_,H,rfl,rfl⟩) (Nat.lt_succ_self _) (Nat.zero_le _) rfl (by kernel_rfl) (by kernel_rfl) rfl trivial
def gc32:BCode:=(.seq (R_ 0 [O_ 2 (.mv (.const (.string ⟨#[]⟩))) 0]) (.seq (.seq (R_ 0 [O_ 3 (.mv (t_ 0)) 0]) (.block 0 (.seq (R_ 0 [O_ 5 (.bin .eql (t_ 3) (.const (.int .u8 0))) 0,O_ 4 (.mv (t_ 5)) 0]) (.cond (t_ 4) (.seq (R_ 0 [O_ 2 (.mv (.const (.string ⟨#[99,50]⟩))) 0]) .ret) (.seq (R_ 0 [O_ 7 (.bin .eql (t_ 3) (.const (.int .u8 1))) 0,O_ 6 (.mv (t_ 7)) 0]) (.cond (t_ 6) (.seq (R_ 0 [O_ 2 (.mv (.const (.string ⟨#[99,116]⟩))) 0]) .ret) (.seq (R_ 0 [O_ 9 (.bin .eql (t_ 3) (.const (.int .u8 2))) 0,O_ 8 (.mv (t_ 9)) 0]) (.cond (t_ 8) (.seq (R_ 0 [O_ 2 (.mv (.const (.string ⟨#[99]⟩))) 0]) .ret) (.seq (R_ 0 [O_ 11 (.bin .eql (t_ 3) (.const (.int .u8 4))) 0,O_ 10 (.mv (t_ 11)) 0]) (.cond (t_ 10) (.seq (R_ 0 [O_ 2 (.mv (.const (.string ⟨#[99,52]⟩))) 0]) .ret) (.seq (R_ 0 [O_ 13 (.bin .eql (t_ 3) (.const (.int .u8 5))) 0,O_ 12 (.mv (t_ 13)) 0]) (.cond (t_ 12) (.seq (R_ 0 [O_ 2 (.mv (.const (.string ⟨#[54]⟩))) 0]) .ret) .skip)))))))))))) (.seq (R_ 0 [O_ 2 (.mv (.const (.string ⟨#[]⟩))) 0]) .ret)))
theorem gc32_ok:compF Tryz.prog Tryz.f32=some (gc32.er,14,[.tmp 2]):=by unfold gc32;kernel_rfl
theorem p_ref34_has_v (a0:Int):CallsO Tryz.prog 32 [.y8 a0] V.s (p_ref34_has a0):=by
 refine callsO_comp mix Tryz.func32 gc32_ok fun r H=>?_
 rw [p_ref34_has] at H
 conv=>whnf
 refine tst_c H (fun b1 H=>?_) (fun b1 H=>?_)
 ·conv=>whnf
  exact fin0_c (enc:=V.s) H (.inr rfl) (.cons (.tmp rfl) (.nil)) rfl rfl
 conv=>whnf
 refine tst_c H (fun b2 H=>?_) (fun b2 H=>?_)
 ·conv=>whnf
  exact fin0_c (enc:=V.s) H (.inr rfl) (.cons (.tmp rfl) (.nil)) rfl rfl
 conv=>whnf
 refine tst_c H (fun b3 H=>?_) (fun b3 H=>?_)
 ·conv=>whnf
  exact fin0_c (enc:=V.s) H (.inr rfl) (.cons (.tmp rfl) (.nil)) rfl rfl
 conv=>whnf
 refine tst_c H (fun b4 H=>?_) (fun b4 H=>?_)
 ·conv=>whnf
  exact fin0_c (enc:=V.s) H (.inr rfl) (.cons (.tmp rfl) (.nil)) rfl rfl
 conv=>whnf
 refine tst_c H (fun b5 H=>?_) (fun b5 H=>?_)
 ·conv=>whnf
  exact fin0_c (enc:=V.s) H (.inr rfl) (.cons (.tmp rfl) (.nil)) rfl rfl
 conv=>whnf
 exact fin0_c (enc:=V.s) H (.inr rfl) (.cons (.tmp rfl) (.nil)) rfl rfl
def gc55:BCode:=(.seq (R_ 0 [O_ 2 (.mv (b_ false)) 0]) (.seq (R_ 0 [O_ 3 (.mv (t_ 0)) 0,O_ 4 (.bin .eql (t_ 3) (i_ 1)) 0,O_ 5 (.mv (t_ 4)) 0,⟨(some 6),.mv (t_ 0),(some (5,false)),0⟩,⟨(some 7),.bin .eql (t_ 6) (i_ 2),(some (5,false)),0⟩,O_ 8 (.pick (t_ 5) (b_ true) (t_ 7)) 0,O_ 9 (.mv (t_ 8)) 0,⟨(some 10),.mv (t_ 0),(some (9,false)),0⟩,⟨(some 11),.bin .eql (t_ 10) (i_ 4),(some (9,false)),0⟩,O_ 12 (.pick (t_ 9) (b_ true) (t_ 11)) 0,O_ 13 (.mv (t_ 12)) 0,⟨(some 14),.mv (t_ 0),(some (13,false)),0⟩,⟨(some 15),.bin .eql (t_ 14) (i_ 6),(some (13,false)),0⟩,O_ 16 (.pick (t_ 13) (b_ true) (t_ 15)) 0,O_ 2 (.mv (t_ 16)) 0]) .ret))
theorem gc55_ok:compF Tryz.prog Tryz.f55=some (gc55.er,17,[.tmp 2]):=by unfold gc55;kernel_rfl
theorem p_ref01_wide_v (a0:Int):CallsO Tryz.prog 55 [.i a0] V.b (p_ref01_wide a0):=by
 refine callsO_comp mix Tryz.func55 gc55_ok fun r H=>?_
 rw [p_ref01_wide] at H
 conv=>whnf
 refine tst_c H (fun b1 H=>?_) (fun b1 H=>?_)
 ·conv=>whnf
  iterate 8 (refine Tst.T ?_;conv=>whnf)
  exact fb_ H
 conv=>whnf
 iterate 2 (refine Tst.F ?_;conv=>whnf)
 refine tst_c H (fun b2 H=>?_) (fun b2 H=>?_)
 ·conv=>whnf
  iterate 5 (refine Tst.T ?_;conv=>whnf)
  exact fb_ H
 conv=>whnf
 iterate 2 (refine Tst.F ?_;conv=>whnf)
 refine tst_c H (fun b3 H=>?_) (fun b3 H=>?_)
 ·conv=>whnf
  iterate 2 (refine Tst.T ?_;conv=>whnf)
  exact fb_ H
 conv=>whnf
 iterate 2 (refine Tst.F ?_;conv=>whnf)
 exact fb_ H
end Go.Proofs.YtbimgghogflikaaGreatDoor

namespace Go.Proofs.YtbimgghogflikaaGreatDoor
open Go.RowKit
end Go.Proofs.YtbimgghogflikaaGreatDoor

namespace Go.Proofs.YtbimgghogflikaaGreatDoor
open Go.RowKit
set_option maxRecDepth 100000
set_option maxHeartbeats 4000000
def gc31:BCode:=(.seq (R_ 1 [O_ 2 (.al (.agg [(.lit (.string ⟨#[]⟩)),(.lit (.int .i64 0)),(.lit (.int .i64 0))])) 0]) (.seq (R_ 0 [O_ 3 (.mv (t_ 0)) 0,O_ 4 (.bd [(.lit (.string ⟨#[]⟩)),(.lit (.int .i64 0)),(.lit (.int .i64 0))] [(0,1,(t_ 3))]) 0,U_ (.st 3 (t_ 2) (t_ 4)) 0]) .ret))
theorem gc31_ok:compF Tryz.prog Tryz.f31=some (gc31.er,5,[.cell 2 3 true]):=by unfold gc31;kernel_rfl
theorem p_ref01_Open_v (a0:ByteArray):CallsO Tryz.prog 31 [.s a0] OctetRead.v (p_ref01_Open a0):=by
 refine callsO_comp mix Tryz.func31 gc31_ok fun r H=>?_
 rw [p_ref01_Open] at H
 conv=>whnf
 refine lq_ ?_;conv=>whnf
 exact fin0_c (enc:=OctetRead.v) H (.inr rfl) (.cons (.cell rfl rfl (Nat.le_of_ble_eq_true rfl)) (.nil)) rfl rfl
def gc53:BCode:=(.seq (R_ 1 [O_ 1 (.bx (t_ 0)) 0,O_ 2 (.mv (i_ 0)) 1]) (.seq (.seq (R_ 0 [O_ 3 (.fa 2 (t_ 1)) 0,O_ 4 (.ld 1 false (t_ 3)) 0,O_ 5 (.bin .eql (t_ 4) (i_ 0)) 0,O_ 6 (.mv (t_ 5)) 0,⟨(some 7),.fa 1 (t_ 1),(some (6,true)),0⟩,⟨(some 8),.ld 1 false (t_ 7),(some (6,true)),0⟩,⟨(some 9),.bin .lss (t_ 8) (i_ 0),(some (6,true)),0⟩,⟨(some 10),.mv (t_ 9),(some (6,true)),0⟩,⟨(some 11),.fa 1 (t_ 1),(some (10,false)),0⟩,⟨(some 12),.ld 1 false (t_ 11),(some (10,false)),0⟩,⟨(some 13),.fa 0 (t_ 1),(some (10,false)),0⟩,⟨(some 14),.ld 1 false (t_ 13),(some (10,false)),0⟩,⟨(some 15),.lent (t_ 14),(some (10,false)),0⟩,⟨(some 16),.bin .gtr (t_ 12) (t_ 15),(some (10,false)),0⟩,⟨(some 17),.pick (t_ 10) (b_ true) (t_ 16),(some (6,true)),0⟩,O_ 18 (.pick (t_ 6) (t_ 17) (b_ false)) 0]) (.cond (t_ 18) (.seq (R_ 0 [O_ 2 (.mv (i_ 2)) 0]) .ret) .skip)) (.seq (R_ 0 [O_ 19 (.fa 2 (t_ 1)) 0,O_ 20 (.ld 1 false (t_ 19)) 0,O_ 2 (.mv (t_ 20)) 0]) .ret)))
theorem gc53_ok:compF Tryz.prog Tryz.f53=some (gc53.er,21,[.tmp 2]):=by unfold gc53;kernel_rfl
theorem p_ref01_bad_v (a0:OctetRead):CallsO Tryz.prog 53 [.agg [.s a0.S,.i a0.At,.i a0.Bad]] V.i (p_ref01_bad a0):=by
 refine callsO_comp mix Tryz.func53 gc53_ok fun r H=>?_
 rw [p_ref01_bad] at H
 conv=>whnf
 refine tst_d H (fun b1 H=>?_) (fun b1 H=>?_)
 ·conv=>whnf
  iterate 6 (refine Tst.F ?_;conv=>whnf)
  exact fi_ H
 conv=>whnf
 iterate 3 (refine Tst.T ?_;conv=>whnf)
 refine tst_c H (fun b2 H=>?_) (fun b2 H=>?_)
 ·conv=>whnf
  iterate 9 (refine Tst.T ?_;conv=>whnf)
  exact fi_ H
 conv=>whnf
 iterate 5 (refine Tst.F ?_;conv=>whnf)
 refine Tst.T ?_;conv=>whnf
 refine Tst.F ?_;conv=>whnf
 refine Tst.T ?_;conv=>whnf
 refine tst_c H (fun b3 H=>?_) (fun b3 H=>?_)
 ·conv=>whnf
  exact fi_ H
 conv=>whnf
 exact fi_ H
def gc54:BCode:=(.seq (R_ 2 [O_ 2 (.bx (t_ 0)) 0,O_ 4 (.al (.agg [(.lit (.string ⟨#[]⟩)),(.lit (.int .i64 0)),(.lit (.int .i64 0))])) 1]) (.seq (R_ 0 [O_ 5 (.mv (t_ 1)) 0,O_ 6 (.fa 2 (t_ 2)) 0,U_ (.st 1 (t_ 6) (t_ 5)) 0]) (.seq (R_ 0 [O_ 7 (.ld 3 true (t_ 2)) 0,U_ (.st 3 (t_ 4) (t_ 7)) 0]) .ret)))
theorem gc54_ok:compF Tryz.prog Tryz.f54=some (gc54.er,8,[.cell 4 3 true]):=by unfold gc54;kernel_rfl
theorem p_ref01_with_v (a0:OctetRead) (a1:Int):CallsO Tryz.prog 54 [.agg [.s a0.S,.i a0.At,.i a0.Bad],.i a1] OctetRead.v (p_ref01_with a0 a1):=by
 refine callsO_comp mix Tryz.func54 gc54_ok fun r H=>?_
 rw [p_ref01_with] at H
 conv=>whnf
 refine lq_ ?_;conv=>whnf
 refine lq_ ?_;conv=>whnf
 exact fin0_c (enc:=OctetRead.v) H (.inr rfl) (.cons (.cell rfl rfl (Nat.le_of_ble_eq_true rfl)) (.nil)) rfl rfl
def gc56:BCode:=(.seq (R_ 1 [O_ 1 (.bx (t_ 0)) 0,O_ 2 (.mv (i_ 0)) 1]) (.seq (.seq (R_ 0 [O_ 3 (.ld 3 true (t_ 1)) 0,O_ 4 (.cl 53 [(t_ 3)]) 0,O_ 5 (.bin .neq (t_ 4) (i_ 0)) 0]) (.cond (t_ 5) (.seq (R_ 0 [O_ 2 (.mv (i_ 0)) 0]) .ret) .skip)) (.seq (R_ 0 [O_ 6 (.fa 0 (t_ 1)) 0,O_ 7 (.ld 1 false (t_ 6)) 0,O_ 8 (.lent (t_ 7)) 0,O_ 9 (.fa 1 (t_ 1)) 0,O_ 10 (.ld 1 false (t_ 9)) 0,O_ 11 (.bin .sub (t_ 8) (t_ 10)) 0,O_ 2 (.mv (t_ 11)) 0]) .ret)))
theorem gc56_ok:compF Tryz.prog Tryz.f56=some (gc56.er,12,[.tmp 2]):=by unfold gc56;kernel_rfl
theorem p_ref01_Left_v (a0:OctetRead):CallsO Tryz.prog 56 [.agg [.s a0.S,.i a0.At,.i a0.Bad]] V.i (p_ref01_Left a0):=by
 refine callsO_comp mix Tryz.func56 gc56_ok fun r H=>?_
 rw [p_ref01_Left] at H
 conv=>whnf
 refine ask_c (p_ref01_bad_v _) H rfl rfl (fun v1 H=>?_);conv=>whnf
 refine tst_c H (fun b2 H=>?_) (fun b2 H=>?_)
 ·conv=>whnf
  exact fi_ H
 conv=>whnf
 refine Ari.w ?_;conv=>whnf
 exact fi_ H
end Go.Proofs.YtbimgghogflikaaGreatDoor

