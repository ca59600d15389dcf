/- A part of the proof: 5 texts joined. -/
import Derived.Test.YtmmmcpeickfolaaGreatZaA16
import Derived.Test.YtmmmcpeickfolaaGreatZaA14
import Derived.Test.YtmmmcpeickfolaaGreatZaA12
import Derived.Test.YtmmmcpeickfolaaGreatZaA18
import Derived.Test.YtmmmcpeickfolaaGreatZaA10
import Derived.KernelRfl
import Derived.Test.YtmmmcpeickfolaaGreatZaA15
import Derived.Test.YtmmmcpeickfolaaGreatZaA13
import Derived.Lib.SliceRun
set_option linter.all false
namespace Go.Proofs.YtmmmcpeickfolaaGreat
open Go.RowKit
set_option maxRecDepth 100000
set_option maxHeartbeats 4000000
def gc82:BCode:=(.seq (R_ 1 [O_ 1 (.bx (t_ 0)) 0,O_ 2 (.mv (i_ 0)) 1]) (.seq (.seq (R_ 0 [O_ 6 (.fa 2 (t_ 1)) 0,O_ 7 (.ld 1 false (t_ 6)) 0,O_ 8 (.lens (t_ 7)) 0,O_ 9 (.mv (i_ 0)) 0]) (.block 0 (.loop (.seq (R_ 0 [O_ 10 (.bin .lss (t_ 9) (t_ 8)) 0]) (.seq (.cond (t_ 10) .skip (.exit 0)) (.seq (.block 1 (.seq (R_ 1 [O_ 11 (.ixs 5 (t_ 7) (t_ 9)) 0,O_ 12 (.ld 5 true (t_ 11)) 0,O_ 4 (.al (.agg [(.lit (.string ⟨#[]⟩)),(.lit (.string ⟨#[]⟩)),(.lit (.int .i64 0)),(.lit (.int .i64 0)),(.lit (.bool false))])) 0,U_ (.st 5 (t_ 4) (t_ 12)) 1]) (.seq (.seq (R_ 0 [O_ 13 (.ld 5 true (t_ 4)) 0,O_ 14 (.cl 124 [(t_ 13)]) 0,O_ 5 (.mv (t_ 14)) 0]) (.seq (R_ 0 [O_ 15 (.mv (t_ 5)) 0,O_ 16 (.bin .neq (t_ 15) (i_ 0)) 0]) (.cond (t_ 16) (.seq (R_ 0 [O_ 17 (.mv (t_ 5)) 0,O_ 2 (.mv (t_ 17)) 0]) .ret) .skip))) (.seq (R_ 0 [O_ 18 (.ld 5 true (t_ 4)) 0,O_ 19 (.cl 135 [(t_ 18)]) 0]) (.cond (t_ 19) (.seq (R_ 0 [O_ 2 (.mv (i_ 4)) 0]) .ret) .skip))))) (R_ 0 [O_ 20 (.bin .add (t_ 9) (i_ 1)) 0,O_ 9 (.mv (t_ 20)) 0]))))))) (.seq (R_ 0 [O_ 2 (.mv (i_ 0)) 0]) .ret)))
theorem gc82_ok:compF Tryz.prog Tryz.f82=some (gc82.er,21,[.tmp 2]):=by unfold gc82;kernel_rfl
theorem p_roster_State_errors_v {u1 u2:Bool} (a0:RosterState):CallsO Tryz.prog 82 [.agg [.i a0.Ver,.i a0.Floor,.sl (List.map ItemItem.v a0.Items) u1,.sl (List.map RosterGone.v a0.Gone) u2]] V.i (p_roster_State_errors a0):=by
 refine callsO_comp mix Tryz.func82 gc82_ok fun r H=>?_
 rw [p_roster_State_errors] at H
 conv=>whnf
 refine LenQ.M ?_;conv=>whnf
 obtain ⟨o2,HL3,HQ4⟩:=bind_c H
 refine loop_c [2,9] [4,5,10,11,12,13,14,15,16,17,18,19,20,1,6] [4,5,10,11,12,13,14,15,16,17,18,19,20,1,6] (fun n vals st=>(∃ y6,p_roster_State_errors_l1  a0.Items (a0.Items.length:Int) n y6=some o2∧vals=[.i (0:Int),.i y6]∧st=[])) fuel 0 [] (⟨_,HL3,rfl,rfl⟩) (Nat.zero_le _) rfl (by kernel_rfl) (by kernel_rfl) rfl trivial ?_
 rintro (_ | n5) _ _ (⟨y6,H,rfl,rfl⟩)
 ·rw [p_roster_State_errors_l1] at H;cases H
 rw [p_roster_State_errors_l1] at H
 conv=>whnf
 refine tst_d H (fun b7 H=>?_) (fun b7 H=>?_)
 ·conv=>whnf
  obtain rfl:=Option.some.inj H
  have H:=HQ4
  try dsimp only at H
  exact fi_ H
 conv=>whnf
 refine ixs_c (f:=ItemItem.v) H (fun _=>rfl) (fun x8 H=>?_);conv=>whnf
 refine lq_ ?_;conv=>whnf
 refine ask_c (p_item_Check_v _) H rfl rfl (fun v9 H=>?_);conv=>whnf
 refine tst_c H (fun b10 H=>?_) (fun b10 H=>?_)
 ·conv=>whnf
  obtain rfl:=Option.some.inj H
  have H:=HQ4
  try dsimp only at H
  exact fi_ H
 conv=>whnf
 refine ask_c (p_item_Idle_v _) H rfl rfl (fun v11 H=>?_);conv=>whnf
 refine tst_c H (fun b12 H=>?_) (fun b12 H=>?_)
 ·conv=>whnf
  obtain rfl:=Option.some.inj H
  have H:=HQ4
  try dsimp only at H
  exact fi_ H
 conv=>whnf
 refine Ari.w ?_;conv=>whnf
 exact again_c [4,5,10,11,12,13,14,15,16,17,18,19,20,1,6] n5 0 [] (⟨_,H,rfl,rfl⟩) (Nat.lt_succ_self _) (Nat.zero_le _) rfl (by kernel_rfl) (by kernel_rfl) rfl trivial
def gc84:BCode:=(.seq (R_ 1 [O_ 1 (.bx (t_ 0)) 0,O_ 2 (.mv (b_ false)) 1]) (.seq (R_ 0 [O_ 3 (.fa 0 (t_ 1)) 0,O_ 4 (.ld 1 false (t_ 3)) 0,O_ 5 (.cl 70 [(t_ 4)]) 0,O_ 6 (.un .not (t_ 5)) 0,O_ 2 (.mv (t_ 6)) 0]) .ret))
theorem gc84_ok:compF Tryz.prog Tryz.f84=some (gc84.er,7,[.tmp 2]):=by unfold gc84;kernel_rfl
theorem p_roster_Check_1_v (a0:RosterGone):CallsO Tryz.prog 84 [.agg [.s a0.Contact,.i a0.Ver]] V.b (p_roster_Check_1 a0):=by
 refine callsO_comp mix Tryz.func84 gc84_ok fun r H=>?_
 rw [p_roster_Check_1] at H
 conv=>whnf
 refine ask_c (p_addr_IsBare_v _) H rfl rfl (fun v1 H=>?_);conv=>whnf
 exact fb_ H
def gc83:BCode:=(.seq (R_ 0 [O_ 4 (.mv (b_ false)) 0]) (.seq (R_ 0 [O_ 5 (.mv (t_ 0)) 0,O_ 6 (.mv (t_ 1)) 0,O_ 7 (.cl 136 [(t_ 5),(t_ 6)]) 0,O_ 8 (.bin .geq (t_ 7) (i_ 0)) 0,O_ 4 (.mv (t_ 8)) 0]) .ret))
theorem gc83_ok:compF Tryz.prog Tryz.f83=some (gc83.er,9,[.tmp 4]):=by unfold gc83;kernel_rfl
theorem p_slices_ContainsFunc_roster_Gone_v {u1:Bool} (a0:List RosterGone) (a1:RosterGone→Option Bool) {a1_g:Nat} {a1_k:List V} (a1_h:Clo1 Tryz.prog a1_g a1_k RosterGone.v V.b a1):CallsO Tryz.prog 83 [.sl (List.map RosterGone.v a0) u1,.clo (.func a1_g) a1_k] V.b (p_slices_ContainsFunc_roster_Gone a0 a1):=by
 refine callsO_comp mix Tryz.func83 gc83_ok fun r H=>?_
 rw [p_slices_ContainsFunc_roster_Gone] at H
 conv=>whnf
 refine askF_c (p_slices_IndexFunc_roster_Gone_v _ _ a1_h) H (.cons (.c (.slw)) (.cons (.c (.id a1_h.own)) (.nil))) (fun v1 H=>?_);conv=>whnf
 exact fb_ H
def gc182:BCode:=(.seq (R_ 1 [O_ 2 (.bx (t_ 0)) 0,O_ 3 (.mv (b_ false)) 1]) (.seq (R_ 0 [O_ 4 (.fa 3 (t_ 2)) 0,O_ 5 (.ld 1 false (t_ 4)) 0,O_ 6 (.ld 1 false (t_ 1)) 0,O_ 7 (.bin .eql (t_ 5) (t_ 6)) 0,O_ 3 (.mv (t_ 7)) 0]) .ret))
theorem gc182_ok:compF Tryz.prog Tryz.f182=some (gc182.er,8,[.tmp 3]):=by unfold gc182;kernel_rfl
theorem p_roster_State_of_1_v (a0:ItemItem) (c0:Int):CallsO Tryz.prog 182 [.agg [.s a0.Contact,.s a0.Name,.i a0.Sub,.i a0.Ver,.b a0.Own],.eptr [.i c0]] V.b (p_roster_State_of_1 a0 c0):=by
 refine callsO_comp mix Tryz.func182 gc182_ok fun r H=>?_
 rw [p_roster_State_of_1] at H
 conv=>whnf
 exact fb_ H
def gc181:BCode:=(.seq (R_ 0 [O_ 4 (.mv (i_ 0)) 0]) (.seq (.seq (R_ 0 [O_ 6 (.mv (t_ 0)) 0,O_ 7 (.lens (t_ 6)) 0,O_ 8 (.mv (i_ 0)) 0]) (.block 0 (.loop (.seq (R_ 0 [O_ 9 (.bin .lss (t_ 8) (t_ 7)) 0]) (.seq (.cond (t_ 9) .skip (.exit 0)) (.seq (.block 1 (.seq (R_ 0 [O_ 10 (.mv (t_ 8)) 0,O_ 5 (.mv (t_ 10)) 0]) (.seq (R_ 0 [O_ 11 (.mv (t_ 1)) 0,O_ 12 (.mv (t_ 0)) 0,O_ 13 (.mv (t_ 5)) 0,O_ 14 (.ixs 5 (t_ 12) (t_ 13)) 0,O_ 15 (.ld 5 true (t_ 14)) 0,O_ 16 (.cv (t_ 11) [(t_ 15)]) 0]) (.cond (t_ 16) (.seq (R_ 0 [O_ 17 (.mv (t_ 5)) 0,O_ 4 (.mv (t_ 17)) 0]) .ret) .skip)))) (R_ 0 [O_ 18 (.bin .add (t_ 8) (i_ 1)) 0,O_ 8 (.mv (t_ 18)) 0]))))))) (.seq (R_ 0 [O_ 4 (.mv (.const (.int .i64 (-1)))) 0]) .ret)))
theorem gc181_ok:compF Tryz.prog Tryz.f181=some (gc181.er,19,[.tmp 4]):=by unfold gc181;kernel_rfl
theorem p_slices_IndexFunc_item_Item_v {u1:Bool} (a0:List ItemItem) (a1:ItemItem→Option Bool) {a1_g:Nat} {a1_k:List V} (a1_h:Clo1 Tryz.prog a1_g a1_k ItemItem.v V.b a1):CallsO Tryz.prog 181 [.sl (List.map ItemItem.v a0) u1,.clo (.func a1_g) a1_k] V.i (p_slices_IndexFunc_item_Item a0 a1):=by
 refine callsO_comp mix Tryz.func181 gc181_ok fun r H=>?_
 rw [p_slices_IndexFunc_item_Item] at H
 conv=>whnf
 refine LenQ.M ?_;conv=>whnf
 obtain ⟨o2,HL3,HQ4⟩:=bind_c H
 refine loop_c [4,8] [5,9,10,11,12,13,14,15,16,17,18] [5,9,10,11,12,13,14,15,16,17,18] (fun n vals st=>(∃ y6,p_slices_IndexFunc_item_Item_l1  a1 a0 (a0.length:Int) n y6=some o2∧vals=[.i (0:Int),.i y6]∧st=[])) fuel 0 [] (⟨_,HL3,rfl,rfl⟩) (Nat.zero_le _) rfl (by simp only [maskF,setF,List.set_cons_zero,List.set_cons_succ,V.ren.renL,V.ren,renL_id _ a1_h.own] <;> rfl) (by simp only [maskF,setF,List.set_cons_zero,List.set_cons_succ,V.idlt.belowL,V.idlt,fun n=>idltL_up (n:=n) _ a1_h.own] <;> rfl) rfl trivial ?_
 rintro (_ | n5) _ _ (⟨y6,H,rfl,rfl⟩)
 ·rw [p_slices_IndexFunc_item_Item_l1] at H;cases H
 rw [p_slices_IndexFunc_item_Item_l1] at H
 conv=>whnf
 refine tst_d H (fun b7 H=>?_) (fun b7 H=>?_)
 ·conv=>whnf
  obtain rfl:=Option.some.inj H
  have H:=HQ4
  try dsimp only at H
  exact fi_ H
 conv=>whnf
 refine ixs_c (f:=ItemItem.v) H (fun _=>rfl) (fun x8 H=>?_);conv=>whnf
 refine askC_c a1_h H (.cons (fzagg (.cons (.id rfl) (.cons (.id rfl) (.cons (.id rfl) (.cons (.id rfl) (.cons (.id rfl) (.nil)))))) rfl) (.nil)) (fun v9 H=>?_);conv=>whnf
 refine tst_c H (fun b10 H=>?_) (fun b10 H=>?_)
 ·conv=>whnf
  obtain rfl:=Option.some.inj H
  have H:=HQ4
  try dsimp only at H
  exact fi_ H
 conv=>whnf
 refine Ari.w ?_;conv=>whnf
 exact again_c [5,9,10,11,12,13,14,15,16,17,18] n5 0 [] (⟨_,H,rfl,rfl⟩) (Nat.lt_succ_self _) (Nat.zero_le _) rfl (by simp only [maskF,setF,List.set_cons_zero,List.set_cons_succ,V.ren.renL,V.ren,renL_id _ a1_h.own] <;> rfl) (by simp only [maskF,setF,List.set_cons_zero,List.set_cons_succ,V.idlt.belowL,V.idlt,fun n=>idltL_up (n:=n) _ a1_h.own] <;> rfl) rfl trivial
def gc137:BCode:=(.seq (R_ 2 [O_ 2 (.bx (t_ 0)) 0,O_ 3 (.bx (t_ 1)) 1,O_ 4 (.mv (i_ 0)) 2]) (.seq (.reg 0 [O_ 5 (.fa 2 (t_ 2)) 0,O_ 6 (.ld 1 false (t_ 5)) 0,O_ 7 (.mf (.func 182) [(t_ 3)]) 0,O_ 8 (.cl 181 [(t_ 6),(t_ 7)]) 0,O_ 4 (.mv (t_ 8)) 0] none 0 [3]) .ret))
theorem gc137_ok:compF Tryz.prog Tryz.f137=some (gc137.er,9,[.tmp 4]):=by unfold gc137;kernel_rfl
theorem p_roster_State_of_v {u1 u2:Bool} (a0:RosterState) (a1:Int):CallsO Tryz.prog 137 [.agg [.i a0.Ver,.i a0.Floor,.sl (List.map ItemItem.v a0.Items) u1,.sl (List.map RosterGone.v a0.Gone) u2],.i a1] V.i (p_roster_State_of a0 a1):=by
 refine callsO_comp mix Tryz.func137 gc137_ok fun r H=>?_
 rw [p_roster_State_of] at H
 conv=>whnf
 refine ⟨Nat.zero_le _,?_⟩;conv=>whnf
 refine askF_c (p_slices_IndexFunc_item_Item_v _ _ ⟨⟨_,Tryz.func182,by kernel_rfl,by kernel_rfl⟩,rfl,fun x0=>p_roster_State_of_1_v _ _⟩) H (.cons (.c (.slw)) (.cons (.c (.clo (.cons (.ptr rfl (Nat.le_of_ble_eq_true rfl) (.cons (.id rfl) (.nil))) (.nil)))) (.nil))) (fun v1 H=>?_);conv=>whnf
 exact fi_ H
def gc85:BCode:=(.seq (R_ 1 [O_ 1 (.bx (t_ 0)) 0,O_ 2 (.mv (b_ false)) 1]) (.seq (.seq (R_ 0 [O_ 5 (.fa 2 (t_ 1)) 0,O_ 6 (.ld 1 false (t_ 5)) 0,O_ 7 (.lens (t_ 6)) 0,O_ 8 (.mv (i_ 0)) 0]) (.block 0 (.loop (.seq (R_ 0 [O_ 9 (.bin .lss (t_ 8) (t_ 7)) 0]) (.seq (.cond (t_ 9) .skip (.exit 0)) (.seq (.block 1 (.seq (R_ 1 [O_ 10 (.mv (t_ 8)) 0,O_ 11 (.ixs 5 (t_ 6) (t_ 8)) 0,O_ 12 (.ld 5 true (t_ 11)) 0,O_ 4 (.al (.agg [(.lit (.string ⟨#[]⟩)),(.lit (.string ⟨#[]⟩)),(.lit (.int .i64 0)),(.lit (.int .i64 0)),(.lit (.bool false))])) 0,O_ 3 (.mv (t_ 10)) 1,U_ (.st 5 (t_ 4) (t_ 12)) 1]) (.seq (.reg 0 [O_ 13 (.fa 3 (t_ 4)) 0,O_ 14 (.ld 1 false (t_ 13)) 0,O_ 15 (.bin .lss (t_ 14) (i_ 1)) 0,O_ 16 (.mv (t_ 15)) 0,⟨(some 17),.fa 3 (t_ 4),(some (16,false)),0⟩,⟨(some 18),.ld 1 false (t_ 17),(some (16,false)),0⟩,⟨(some 19),.fa 0 (t_ 1),(some (16,false)),0⟩,⟨(some 20),.ld 1 false (t_ 19),(some (16,false)),0⟩,⟨(some 21),.bin .gtr (t_ 18) (t_ 20),(some (16,false)),0⟩,O_ 22 (.pick (t_ 16) (b_ true) (t_ 21)) 0,O_ 23 (.mv (t_ 22)) 0,⟨(some 24),.ld 4 true (t_ 1),(some (23,false)),0⟩,⟨(some 25),.fa 3 (t_ 4),(some (23,false)),0⟩,⟨(some 26),.ld 1 false (t_ 25),(some (23,false)),0⟩,⟨(some 27),.cl 137 [(t_ 24),(t_ 26)],(some (23,false)),0⟩,⟨(some 28),.mv (t_ 3),(some (23,false)),0⟩,⟨(some 29),.bin .neq (t_ 27) (t_ 28),(some (23,false)),0⟩,O_ 30 (.pick (t_ 23) (b_ true) (t_ 29)) 0,O_ 31 (.mv (t_ 30)) 0,⟨(some 32),.mv (t_ 3),(some (31,false)),0⟩,⟨(some 33),.bin .gtr (t_ 32) (i_ 0),(some (31,false)),0⟩,⟨(some 34),.mv (t_ 33),(some (31,false)),0⟩,⟨(some 35),.fa 2 (t_ 1),(some (34,true)),0⟩,⟨(some 36),.ld 1 false (t_ 35),(some (34,true)),0⟩,⟨(some 37),.mv (t_ 3),(some (34,true)),0⟩,⟨(some 38),.bin .sub (t_ 37) (i_ 1),(some (34,true)),0⟩,⟨(some 39),.ixs 5 (t_ 36) (t_ 38),(some (34,true)),0⟩,⟨(some 40),.fa 0 (t_ 39),(some (34,true)),0⟩,⟨(some 41),.ld 1 false (t_ 40),(some (34,true)),0⟩,⟨(some 42),.fa 0 (t_ 4),(some (34,true)),0⟩,⟨(some 43),.ld 1 false (t_ 42),(some (34,true)),0⟩,⟨(some 44),.bin .geq (t_ 41) (t_ 43),(some (34,true)),0⟩,⟨(some 45),.pick (t_ 34) (t_ 44) (b_ false),(some (31,false)),0⟩,O_ 46 (.pick (t_ 31) (b_ true) (t_ 45)) 0] (some [[],[0],[0,1],[1,0,2],[2,0,1,3],[3,1,0,2,4],[2,0,1,3],[3,1,0,2,6],[6,7,4,2,0,1,3,5],[5,4,7,6,8,2,0,1,3],[3,1,0,2,8,6,7,4,5,9],[9,5,4,7,6,8,2,0,1,3,10],[9,5,4,7,6,8,2,0,1,3,10],[10,3,1,0,2,8,6,7,4,5,9,12],[12,13,10,3,1,0,2,8,6,7,4,5,9,11],[9,5,4,7,6,8,2,0,1,3,10],[15,11,9,5,4,7,6,8,2,0,1,3,10,13,12,14],[14,12,13,11,15,16,9,5,4,7,6,8,2,0,1,3,10],[10,3,1,0,2,8,6,7,4,5,9,16,15,11,13,12,14,17],[17,14,12,13,11,15,16,9,5,4,7,6,8,2,0,1,3,10,18],[18,10,3,1,0,2,8,6,7,4,5,9,16,15,11,13,12,14,17,19],[19,17,14,12,13,11,15,16,9,5,4,7,6,8,2,0,1,3,10,18,20],[20,18,10,3,1,0,2,8,6,7,4,5,9,16,15,11,13,12,14,17,19,21],[21,19,17,14,12,13,11,15,16,9,5,4,7,6,8,2,0,1,3,10,18,20,22],[20,18,10,3,1,0,2,8,6,7,4,5,9,16,15,11,13,12,14,17,19,21],[21,19,17,14,12,13,11,15,16,9,5,4,7,6,8,2,0,1,3,10,18,20,24],[24,25,22,20,18,10,3,1,0,2,8,6,7,4,5,9,16,15,11,13,12,14,17,19,21,23],[23,21,19,17,14,12,13,11,15,16,9,5,4,7,6,8,2,0,1,3,10,18,20,22,25,24,26],[26,24,25,22,20,18,10,3,1,0,2,8,6,7,4,5,9,16,15,11,13,12,14,17,19,21,23,27],[20,18,10,3,1,0,2,8,6,7,4,5,9,16,15,11,13,12,14,17,19,21],[21,19,17,14,12,13,11,15,16,9,5,4,7,6,8,2,0,1,3,10,18,20,29],[29,30,27,23,21,19,17,14,12,13,11,15,16,9,5,4,7,6,8,2,0,1,3,10,18,20,22,25,24,26,28],[28,26,24,25,22,23,27,30,29,31,20,18,10,3,1,0,2,8,6,7,4,5,9,16,15,11,13,12,14,17,19,21],[21,19,20,31,29,30,27,23,22,25,24,26,28,32,17,14,12,13,11,15,16,9,5,4,7,6,8,2,0,1,3,10,18]]) 0 []) (.cond (t_ 46) (.seq (R_ 0 [O_ 2 (.mv (b_ false)) 0]) .ret) .skip)))) (R_ 0 [O_ 47 (.bin .add (t_ 8) (i_ 1)) 0,O_ 8 (.mv (t_ 47)) 0]))))))) (.seq (R_ 0 [O_ 2 (.mv (b_ true)) 0]) .ret)))
theorem gc85_ok:compF Tryz.prog Tryz.f85=some (gc85.er,48,[.tmp 2]):=by unfold gc85;kernel_rfl
theorem p_roster_State_rise_v {u1 u2:Bool} (a0:RosterState):CallsO Tryz.prog 85 [.agg [.i a0.Ver,.i a0.Floor,.sl (List.map ItemItem.v a0.Items) u1,.sl (List.map RosterGone.v a0.Gone) u2]] V.b (p_roster_State_rise a0):=by
 refine callsO_comp mix Tryz.func85 gc85_ok fun r H=>?_
 rw [p_roster_State_rise] at H
 conv=>whnf
 refine LenQ.M ?_;conv=>whnf
 obtain ⟨o2,HL3,HQ4⟩:=bind_c H
 refine loop_c [2,8] [3,4,9,10,11,12,13,14,15,16,17,18,19,20,21,22,23,24,25,26,27,28,29,30,31,32,33,34,35,36,37,38,39,40,41,42,43,44,45,46,47,5] [3,4,9,10,11,12,13,14,15,16,17,18,19,20,21,22,23,24,25,26,27,28,29,30,31,32,33,34,35,36,37,38,39,40,41,42,43,44,45,46,47,5] (fun n vals st=>(∃ y6,p_roster_State_rise_l1  a0.Items (a0.Items.length:Int) a0 n y6=some o2∧vals=[.b false,.i y6]∧st=[.live [.i a0.Ver,.i a0.Floor,.sl (List.map ItemItem.v a0.Items) u1,.sl (List.map RosterGone.v a0.Gone) u2] 0])) fuel 1 [] (⟨_,HL3,rfl,rfl⟩) (Nat.zero_le _) rfl (by kernel_rfl) (by kernel_rfl) rfl ⟨⟨rfl,rfl,rfl⟩,trivial⟩ ?_
 rintro (_ | n5) _ _ (⟨y6,H,rfl,rfl⟩)
 ·rw [p_roster_State_rise_l1] at H;cases H
 rw [p_roster_State_rise_l1] at H
 conv=>whnf
 refine tst_d H (fun b7 H=>?_) (fun b7 H=>?_)
 ·conv=>whnf
  obtain rfl:=Option.some.inj H
  have H:=HQ4
  try dsimp only at H
  exact fb_ H
 conv=>whnf
 refine ixs_c (f:=ItemItem.v) H (fun _=>rfl) (fun x8 H=>?_);conv=>whnf
 refine lq_ ?_;conv=>whnf
 refine tst_c H (fun b9 H=>?_) (fun b9 H=>?_)
 ·conv=>whnf
  iterate 17 (refine Tst.T ?_;conv=>whnf)
  refine FootQ.mk ⟨rfl,?_⟩;conv=>whnf
  refine Tst.T ?_;conv=>whnf
  obtain rfl:=Option.some.inj H
  have H:=HQ4
  try dsimp only at H
  exact fb_ H
 conv=>whnf
 iterate 5 (refine Tst.F ?_;conv=>whnf)
 refine tst_c H (fun b10 H=>?_) (fun b10 H=>?_)
 ·conv=>whnf
  iterate 11 (refine Tst.T ?_;conv=>whnf)
  refine FootQ.mk ⟨rfl,?_⟩;conv=>whnf
  refine Tst.T ?_;conv=>whnf
  obtain rfl:=Option.some.inj H
  have H:=HQ4
  try dsimp only at H
  exact fb_ H
 conv=>whnf
 iterate 3 (refine Tst.F ?_;conv=>whnf)
 refine ask_c (p_roster_State_of_v _ _) H rfl rfl (fun v11 H=>?_);conv=>whnf
 iterate 3 (refine Tst.F ?_;conv=>whnf)
 refine tst_c H (fun b12 H=>?_) (fun b12 H=>?_)
 ·conv=>whnf
  iterate 4 (refine Tst.T ?_;conv=>whnf)
  refine FootQ.mk ⟨rfl,?_⟩;conv=>whnf
  refine Tst.T ?_;conv=>whnf
  obtain rfl:=Option.some.inj H
  have H:=HQ4
  try dsimp only at H
  exact fb_ H
 conv=>whnf
 iterate 2 (refine Tst.F ?_;conv=>whnf)
 refine tst_d H (fun b13 H=>?_) (fun b13 H=>?_)
 ·conv=>whnf
  iterate 12 (refine Tst.F ?_;conv=>whnf)
  refine FootQ.mk ⟨rfl,?_⟩;conv=>whnf
  refine Tst.F ?_;conv=>whnf
  refine Ari.w ?_;conv=>whnf
  exact again_c [3,4,9,10,11,12,13,14,15,16,17,18,19,20,21,22,23,24,25,26,27,28,29,30,31,32,33,34,35,36,37,38,39,40,41,42,43,44,45,46,47,5] n5 1 [] (⟨_,H,rfl,rfl⟩) (Nat.lt_succ_self _) (Nat.zero_le _) rfl (by kernel_rfl) (by kernel_rfl) rfl ⟨⟨rfl,rfl,rfl⟩,trivial⟩
 conv=>whnf
 iterate 3 (refine Tst.T ?_;conv=>whnf)
 refine Ari.w ?_;conv=>whnf
 refine Tst.T ?_;conv=>whnf
 refine ixs_c (f:=ItemItem.v) H (fun _=>rfl) (fun x14 H=>?_);conv=>whnf
 refine Tst.T ?_;conv=>whnf
 refine lq_ ?_;conv=>whnf
 iterate 4 (refine Tst.T ?_;conv=>whnf)
 refine Tst.F ?_;conv=>whnf
 refine Tst.T ?_;conv=>whnf
 refine Tst.F ?_;conv=>whnf
 refine FootQ.mk ⟨rfl,?_⟩;conv=>whnf
 refine Tst.not ?_
 refine tst_d H (fun b15 H=>?_) (fun b15 H=>?_)
 ·conv=>whnf
  obtain rfl:=Option.some.inj H
  have H:=HQ4
  try dsimp only at H
  exact fb_ H
 conv=>whnf
 refine Ari.w ?_;conv=>whnf
 exact again_c [3,4,9,10,11,12,13,14,15,16,17,18,19,20,21,22,23,24,25,26,27,28,29,30,31,32,33,34,35,36,37,38,39,40,41,42,43,44,45,46,47,5] n5 1 [] (⟨_,H,rfl,rfl⟩) (Nat.lt_succ_self _) (Nat.zero_le _) rfl (by kernel_rfl) (by kernel_rfl) rfl ⟨⟨rfl,rfl,rfl⟩,trivial⟩
def gc138:BCode:=(.seq (R_ 1 [O_ 2 (.bx (t_ 0)) 0,O_ 3 (.mv (b_ false)) 1]) (.seq (R_ 0 [O_ 4 (.fa 0 (t_ 2)) 0,O_ 5 (.ld 1 false (t_ 4)) 0,O_ 6 (.fa 0 (t_ 1)) 0,O_ 7 (.ld 1 false (t_ 6)) 0,O_ 8 (.bin .eql (t_ 5) (t_ 7)) 0,O_ 3 (.mv (t_ 8)) 0]) .ret))
theorem gc138_ok:compF Tryz.prog Tryz.f138=some (gc138.er,9,[.tmp 3]):=by unfold gc138;kernel_rfl
theorem p_roster_State_left_1_v (a0:RosterGone) (c0:RosterGone):CallsO Tryz.prog 138 [.agg [.s a0.Contact,.i a0.Ver],.eptr [.s c0.Contact,.i c0.Ver]] V.b (p_roster_State_left_1 a0 c0):=by
 refine callsO_comp mix Tryz.func138 gc138_ok fun r H=>?_
 rw [p_roster_State_left_1] at H
 conv=>whnf
 refine lq_ ?_;conv=>whnf
 exact fb_ H
end Go.Proofs.YtmmmcpeickfolaaGreat

namespace Go.Proofs.YtmmmcpeickfolaaGreat
open Go.RowKit
set_option maxRecDepth 100000
set_option maxHeartbeats 4000000
def gc180:BCode:=(.seq (R_ 1 [O_ 2 (.bx (t_ 0)) 0,O_ 4 (.mv (i_ 0)) 1]) (.seq (R_ 0 [O_ 5 (.fa 0 (t_ 2)) 0,O_ 6 (.ld 1 false (t_ 5)) 0,O_ 7 (.mv (t_ 1)) 0,O_ 8 (.cl 141 [(t_ 6),(t_ 7)]) 0,O_ 4 (.mv (t_ 8)) 0]) .ret))
theorem gc180_ok:compF Tryz.prog Tryz.f180=some (gc180.er,9,[.tmp 4]):=by unfold gc180;kernel_rfl
theorem p_roster_State_find_1_v (a0:ItemItem) (a1:ByteArray):CallsO Tryz.prog 180 [.agg [.s a0.Contact,.s a0.Name,.i a0.Sub,.i a0.Ver,.b a0.Own],.s a1] V.i (p_roster_State_find_1 a0 a1):=by
 refine callsO_comp mix Tryz.func180 gc180_ok fun r H=>?_
 rw [p_roster_State_find_1] at H
 conv=>whnf
 refine ask_c (p_strings_Compare_v _ _) H rfl rfl (fun v1 H=>?_);conv=>whnf
 exact fi_ H
def gc179:BCode:=(.seq (R_ 0 [O_ 6 (.mv (i_ 0)) 0,O_ 7 (.mv (b_ false)) 0]) (.seq (R_ 0 [O_ 12 (.mv (t_ 0)) 0,O_ 13 (.lens (t_ 12)) 0,O_ 8 (.mv (t_ 13)) 0]) (.seq (R_ 0 [O_ 14 (.mv (t_ 8)) 0,O_ 9 (.mv (i_ 0)) 0,O_ 10 (.mv (t_ 14)) 0]) (.seq (.block 0 (.loop (.seq (.seq (R_ 0 [O_ 15 (.mv (t_ 9)) 0,O_ 16 (.mv (t_ 10)) 0,O_ 17 (.bin .lss (t_ 15) (t_ 16)) 0]) (.cond (t_ 17) .skip (.exit 0))) (.block 1 (.seq (R_ 0 [O_ 18 (.mv (t_ 9)) 0,O_ 19 (.mv (t_ 10)) 0,O_ 20 (.bin .add (t_ 18) (t_ 19)) 0,O_ 21 (.cvi .u64 (t_ 20)) 0,O_ 22 (.bin .shr (t_ 21) (.const (.int .u64 1))) 0,O_ 23 (.cvi .i64 (t_ 22)) 0,O_ 11 (.mv (t_ 23)) 0]) (.seq (R_ 0 [O_ 24 (.mv (t_ 2)) 0,O_ 25 (.mv (t_ 0)) 0,O_ 26 (.mv (t_ 11)) 0,O_ 27 (.ixs 5 (t_ 25) (t_ 26)) 0,O_ 28 (.ld 5 true (t_ 27)) 0,O_ 29 (.mv (t_ 1)) 0,O_ 30 (.cv (t_ 24) [(t_ 28),(t_ 29)]) 0,O_ 31 (.bin .lss (t_ 30) (i_ 0)) 0]) (.cond (t_ 31) (R_ 0 [O_ 32 (.mv (t_ 11)) 0,O_ 33 (.bin .add (t_ 32) (i_ 1)) 0,O_ 9 (.mv (t_ 33)) 0]) (R_ 0 [O_ 34 (.mv (t_ 11)) 0,O_ 10 (.mv (t_ 34)) 0])))))))) (.seq (R_ 0 [O_ 35 (.mv (t_ 9)) 0,O_ 36 (.mv (t_ 9)) 0,O_ 37 (.mv (t_ 8)) 0,O_ 38 (.bin .lss (t_ 36) (t_ 37)) 0,O_ 39 (.mv (t_ 38)) 0,⟨(some 40),.mv (t_ 2),(some (39,true)),0⟩,⟨(some 41),.mv (t_ 0),(some (39,true)),0⟩,⟨(some 42),.mv (t_ 9),(some (39,true)),0⟩,⟨(some 43),.ixs 5 (t_ 41) (t_ 42),(some (39,true)),0⟩,⟨(some 44),.ld 5 true (t_ 43),(some (39,true)),0⟩,⟨(some 45),.mv (t_ 1),(some (39,true)),0⟩,⟨(some 46),.cv (t_ 40) [(t_ 44),(t_ 45)],(some (39,true)),0⟩,⟨(some 47),.bin .eql (t_ 46) (i_ 0),(some (39,true)),0⟩,O_ 48 (.pick (t_ 39) (t_ 47) (b_ false)) 0,O_ 6 (.mv (t_ 35)) 0,O_ 7 (.mv (t_ 48)) 0]) .ret)))))
theorem gc179_ok:compF Tryz.prog Tryz.f179=some (gc179.er,49,[.tmp 6,.tmp 7]):=by unfold gc179;kernel_rfl
theorem p_slices_BinarySearchFunc_item_Item_v {u1:Bool} (a0:List ItemItem) (a1:ByteArray) (a2:ItemItem→ByteArray→Option Int) {a2_g:Nat} {a2_k:List V} (a2_h:Clo2 Tryz.prog a2_g a2_k ItemItem.v V.s V.i a2):CallsO Tryz.prog 179 [.sl (List.map ItemItem.v a0) u1,.s a1,.clo (.func a2_g) a2_k] (fun r:Int × Bool=>.tup [V.i r.1,V.b r.2]) (p_slices_BinarySearchFunc_item_Item a0 a1 a2):=by
 refine callsO_comp mix Tryz.func179 gc179_ok fun r H=>?_
 rw [p_slices_BinarySearchFunc_item_Item] at H
 conv=>whnf
 refine LenQ.M ?_;conv=>whnf
 obtain ⟨o2,HL3,HQ4⟩:=bind_c H
 refine loop_c [9,10] [11,15,16,17,18,19,20,21,22,23,24,25,26,27,28,29,30,31,32,33,34] [11,15,16,17,18,19,20,21,22,23,24,25,26,27,28,29,30,31,32,33,34] (fun n vals st=>(∃ y6 y7,p_slices_BinarySearchFunc_item_Item_l1  a2 a0 a1 n y6 y7=some o2∧vals=[.i y6,.i y7]∧st=[])) fuel 0 [] (⟨_,_,HL3,rfl,rfl⟩) (Nat.zero_le _) rfl (by simp only [maskF,setF,List.set_cons_zero,List.set_cons_succ,V.ren.renL,V.ren,renL_id _ a2_h.own] <;> rfl) (by simp only [maskF,setF,List.set_cons_zero,List.set_cons_succ,V.idlt.belowL,V.idlt,fun n=>idltL_up (n:=n) _ a2_h.own] <;> rfl) rfl trivial ?_
 rintro (_ | n5) _ _ (⟨y6,y7,H,rfl,rfl⟩)
 ·rw [p_slices_BinarySearchFunc_item_Item_l1] at H;cases H
 rw [p_slices_BinarySearchFunc_item_Item_l1] at H
 conv=>whnf
 refine tst_d H (fun b8 H=>?_) (fun b8 H=>?_)
 ·conv=>whnf
  obtain rfl:=Option.some.inj H
  have H:=HQ4
  try dsimp only at H
  refine tst_d H (fun b12 H=>?_) (fun b12 H=>?_)
  ·conv=>whnf
   iterate 8 (refine Tst.F ?_;conv=>whnf)
   exact fq_ H
  conv=>whnf
  iterate 3 (refine Tst.T ?_;conv=>whnf)
  refine ixs_c (f:=ItemItem.v) H (fun _=>rfl) (fun x13 H=>?_);conv=>whnf
  iterate 3 (refine Tst.T ?_;conv=>whnf)
  refine askC2_c a2_h H (.cons (fzagg (.cons (.id rfl) (.cons (.id rfl) (.cons (.id rfl) (.cons (.id rfl) (.cons (.id rfl) (.nil)))))) rfl) (.cons (.c (.id rfl)) (.nil))) (fun v14 H=>?_);conv=>whnf
  iterate 2 (refine Tst.T ?_;conv=>whnf)
  exact fq_ H
 conv=>whnf
 iterate 2 (refine Ari.w ?_;conv=>whnf)
 refine Shr.ok (by decide) ?_;conv=>whnf
 refine Ari.w ?_;conv=>whnf
 refine ixs_c (f:=ItemItem.v) H (fun _=>rfl) (fun x9 H=>?_);conv=>whnf
 refine askC2_c a2_h H (.cons (fzagg (.cons (.id rfl) (.cons (.id rfl) (.cons (.id rfl) (.cons (.id rfl) (.cons (.id rfl) (.nil)))))) rfl) (.cons (.c (.id rfl)) (.nil))) (fun v10 H=>?_);conv=>whnf
 refine tst_d H (fun b11 H=>?_) (fun b11 H=>?_)
 ·conv=>whnf
  exact again_c [11,15,16,17,18,19,20,21,22,23,24,25,26,27,28,29,30,31,32,33,34] n5 0 [] (⟨_,_,H,rfl,rfl⟩) (Nat.lt_succ_self _) (Nat.zero_le _) rfl (by simp only [maskF,setF,List.set_cons_zero,List.set_cons_succ,V.ren.renL,V.ren,renL_id _ a2_h.own] <;> rfl) (by simp only [maskF,setF,List.set_cons_zero,List.set_cons_succ,V.idlt.belowL,V.idlt,fun n=>idltL_up (n:=n) _ a2_h.own] <;> rfl) rfl trivial
 conv=>whnf
 refine Ari.w ?_;conv=>whnf
 exact again_c [11,15,16,17,18,19,20,21,22,23,24,25,26,27,28,29,30,31,32,33,34] n5 0 [] (⟨_,_,H,rfl,rfl⟩) (Nat.lt_succ_self _) (Nat.zero_le _) rfl (by simp only [maskF,setF,List.set_cons_zero,List.set_cons_succ,V.ren.renL,V.ren,renL_id _ a2_h.own] <;> rfl) (by simp only [maskF,setF,List.set_cons_zero,List.set_cons_succ,V.idlt.belowL,V.idlt,fun n=>idltL_up (n:=n) _ a2_h.own] <;> rfl) rfl trivial
def gc128:BCode:=(.seq (R_ 1 [O_ 2 (.bx (t_ 0)) 0,O_ 4 (.mv (i_ 0)) 1,O_ 5 (.mv (b_ false)) 1]) (.seq (R_ 0 [O_ 6 (.fa 2 (t_ 2)) 0,O_ 7 (.ld 1 false (t_ 6)) 0,O_ 8 (.mv (t_ 1)) 0,O_ 9 (.cl 179 [(t_ 7),(t_ 8),(.func 180)]) 0,O_ 10 (.ex (t_ 9) 0) 0,O_ 11 (.ex (t_ 9) 1) 0,O_ 4 (.mv (t_ 10)) 0,O_ 5 (.mv (t_ 11)) 0]) .ret))
theorem gc128_ok:compF Tryz.prog Tryz.f128=some (gc128.er,12,[.tmp 4,.tmp 5]):=by unfold gc128;kernel_rfl
theorem p_roster_State_find_v {u1 u2:Bool} (a0:RosterState) (a1:ByteArray):CallsO Tryz.prog 128 [.agg [.i a0.Ver,.i a0.Floor,.sl (List.map ItemItem.v a0.Items) u1,.sl (List.map RosterGone.v a0.Gone) u2],.s a1] (fun r:Int × Bool=>.tup [V.i r.1,V.b r.2]) (p_roster_State_find a0 a1):=by
 refine callsO_comp mix Tryz.func128 gc128_ok fun r H=>?_
 rw [p_roster_State_find] at H
 conv=>whnf
 refine askF_c (p_slices_BinarySearchFunc_item_Item_v _ _ _ ⟨⟨_,Tryz.func180,by kernel_rfl,by kernel_rfl⟩,rfl,fun x0 x1=>p_roster_State_find_1_v _ _⟩) H (.cons (.c (.slw)) (.cons (.c (.id rfl)) (.cons (.c (.clo (.nil))) (.nil)))) (fun v1 H=>?_);conv=>whnf
 exact fq_ H
def gc177:BCode:=(.seq (R_ 1 [O_ 2 (.bx (t_ 0)) 0,O_ 3 (.mv (b_ false)) 1]) (.seq (R_ 0 [O_ 4 (.fa 0 (t_ 2)) 0,O_ 5 (.ld 1 false (t_ 4)) 0,O_ 6 (.fa 0 (t_ 1)) 0,O_ 7 (.ld 1 false (t_ 6)) 0,O_ 8 (.bin .eql (t_ 5) (t_ 7)) 0,O_ 3 (.mv (t_ 8)) 0]) .ret))
theorem gc177_ok:compF Tryz.prog Tryz.f177=some (gc177.er,9,[.tmp 3]):=by unfold gc177;kernel_rfl
theorem p_roster_State_change_1_v (a0:RosterGone) (c0:ItemItem):CallsO Tryz.prog 177 [.agg [.s a0.Contact,.i a0.Ver],.eptr [.s c0.Contact,.s c0.Name,.i c0.Sub,.i c0.Ver,.b c0.Own]] V.b (p_roster_State_change_1 a0 c0):=by
 refine callsO_comp mix Tryz.func177 gc177_ok fun r H=>?_
 rw [p_roster_State_change_1] at H
 conv=>whnf
 refine lq_ ?_;conv=>whnf
 exact fb_ H
end Go.Proofs.YtmmmcpeickfolaaGreat

namespace Go.Proofs.YtmmmcpeickfolaaGreat
open Go.RowKit
set_option maxRecDepth 100000
set_option maxHeartbeats 4000000
def gc86:BCode:=(.seq (R_ 1 [O_ 1 (.bx (t_ 0)) 0,O_ 2 (.mv (b_ false)) 1]) (.seq (R_ 0 [O_ 9 (.fa 1 (t_ 1)) 0,O_ 10 (.ld 1 false (t_ 9)) 0,O_ 3 (.mv (t_ 10)) 0]) (.seq (.seq (R_ 0 [O_ 11 (.fa 3 (t_ 1)) 0,O_ 12 (.ld 1 false (t_ 11)) 0,O_ 13 (.lens (t_ 12)) 0,O_ 14 (.mv (i_ 0)) 0]) (.block 0 (.loop (.seq (R_ 0 [O_ 15 (.bin .lss (t_ 14) (t_ 13)) 0]) (.seq (.cond (t_ 15) .skip (.exit 0)) (.seq (.block 1 (.seq (R_ 1 [O_ 16 (.mv (t_ 14)) 0,O_ 17 (.ixs 2 (t_ 12) (t_ 14)) 0,O_ 18 (.ld 2 true (t_ 17)) 0,O_ 5 (.al (.agg [(.lit (.string ⟨#[]⟩)),(.lit (.int .i64 0))])) 0,O_ 4 (.mv (t_ 16)) 1,U_ (.st 2 (t_ 5) (t_ 18)) 1]) (.seq (.seq (R_ 0 [O_ 19 (.fa 1 (t_ 5)) 0,O_ 20 (.ld 1 false (t_ 19)) 0,O_ 21 (.mv (t_ 3)) 0,O_ 22 (.bin .leq (t_ 20) (t_ 21)) 0,O_ 23 (.mv (t_ 22)) 0,⟨(some 24),.fa 1 (t_ 5),(some (23,false)),0⟩,⟨(some 25),.ld 1 false (t_ 24),(some (23,false)),0⟩,⟨(some 26),.fa 0 (t_ 1),(some (23,false)),0⟩,⟨(some 27),.ld 1 false (t_ 26),(some (23,false)),0⟩,⟨(some 28),.bin .gtr (t_ 25) (t_ 27),(some (23,false)),0⟩,O_ 29 (.pick (t_ 23) (b_ true) (t_ 28)) 0]) (.cond (t_ 29) (.seq (R_ 0 [O_ 2 (.mv (b_ false)) 0]) .ret) .skip)) (.seq (R_ 0 [O_ 30 (.fa 1 (t_ 5)) 0,O_ 31 (.ld 1 false (t_ 30)) 0,O_ 3 (.mv (t_ 31)) 0]) (.seq (.seq (.reg 0 [O_ 32 (.fa 3 (t_ 1)) 0,O_ 33 (.ld 1 false (t_ 32)) 0,O_ 34 (.mv (t_ 4)) 0,O_ 35 (.sls 2 (t_ 33) none (some (t_ 34)) none) 0,O_ 36 (.mf (.func 138) [(t_ 5)]) 0,O_ 37 (.cl 83 [(t_ 35),(t_ 36)]) 0] none 0 [5]) (.cond (t_ 37) (.seq (R_ 0 [O_ 2 (.mv (b_ false)) 0]) .ret) .skip)) (.seq (.seq (R_ 0 [O_ 38 (.ld 4 true (t_ 1)) 0,O_ 39 (.fa 1 (t_ 5)) 0,O_ 40 (.ld 1 false (t_ 39)) 0,O_ 41 (.cl 137 [(t_ 38),(t_ 40)]) 0,O_ 6 (.mv (t_ 41)) 0]) (.seq (.reg 0 [O_ 42 (.mv (t_ 6)) 0,O_ 43 (.bin .geq (t_ 42) (i_ 0)) 0,O_ 44 (.mv (t_ 43)) 0,⟨(some 45),.fa 2 (t_ 1),(some (44,true)),0⟩,⟨(some 46),.ld 1 false (t_ 45),(some (44,true)),0⟩,⟨(some 47),.mv (t_ 6),(some (44,true)),0⟩,⟨(some 48),.ixs 5 (t_ 46) (t_ 47),(some (44,true)),0⟩,⟨(some 49),.fa 0 (t_ 48),(some (44,true)),0⟩,⟨(some 50),.ld 1 false (t_ 49),(some (44,true)),0⟩,⟨(some 51),.fa 0 (t_ 5),(some (44,true)),0⟩,⟨(some 52),.ld 1 false (t_ 51),(some (44,true)),0⟩,⟨(some 53),.bin .neq (t_ 50) (t_ 52),(some (44,true)),0⟩,O_ 54 (.pick (t_ 44) (t_ 53) (b_ false)) 0] (some [[],[0],[0,1],[1,0,2],[2,0,1,3],[1,0,2],[5,3,1,0,2,4],[4,2,0,1,3,5,6],[6,5,3,1,0,2,4,7],[1,0,2],[2,0,1,9],[9,10,7,4,2,0,1,3,5,6,8],[8,6,5,3,4,7,10,9,11,1,0,2]]) 0 []) (.cond (t_ 54) (.seq (R_ 0 [O_ 2 (.mv (b_ false)) 0]) .ret) .skip))) (.seq (R_ 0 [O_ 56 (.ld 4 true (t_ 1)) 0,O_ 57 (.fa 0 (t_ 5)) 0,O_ 58 (.ld 1 false (t_ 57)) 0,O_ 59 (.cl 128 [(t_ 56),(t_ 58)]) 0,O_ 55 (.mv (t_ 59)) 0,O_ 60 (.ex (t_ 55) 0) 0,O_ 61 (.ex (t_ 55) 1) 0,O_ 7 (.mv (t_ 60)) 0,O_ 8 (.mv (t_ 61)) 0]) (.seq (R_ 0 [O_ 62 (.mv (t_ 8)) 0,O_ 63 (.mv (t_ 62)) 0,⟨(some 64),.fa 2 (t_ 1),(some (63,true)),0⟩,⟨(some 65),.ld 1 false (t_ 64),(some (63,true)),0⟩,⟨(some 66),.mv (t_ 7),(some (63,true)),0⟩,⟨(some 67),.ixs 5 (t_ 65) (t_ 66),(some (63,true)),0⟩,⟨(some 68),.ld 5 true (t_ 67),(some (63,true)),0⟩,⟨(some 69),.cl 80 [(t_ 68)],(some (63,true)),0⟩,O_ 70 (.pick (t_ 63) (t_ 69) (b_ false)) 0]) (.cond (t_ 70) (.seq (R_ 0 [O_ 2 (.mv (b_ false)) 0]) .ret) .skip))))))))) (R_ 0 [O_ 71 (.bin .add (t_ 14) (i_ 1)) 0,O_ 14 (.mv (t_ 71)) 0]))))))) (.seq (R_ 0 [O_ 2 (.mv (b_ true)) 0]) .ret))))
theorem gc86_ok:compF Tryz.prog Tryz.f86=some (gc86.er,72,[.tmp 2]):=by unfold gc86;kernel_rfl
theorem p_roster_State_left_v {u1 u2:Bool} (a0:RosterState):CallsO Tryz.prog 86 [.agg [.i a0.Ver,.i a0.Floor,.sl (List.map ItemItem.v a0.Items) u1,.sl (List.map RosterGone.v a0.Gone) u2]] V.b (p_roster_State_left a0):=by
 refine callsO_comp mix Tryz.func86 gc86_ok fun r H=>?_
 rw [p_roster_State_left] at H
 conv=>whnf
 refine LenQ.M ?_;conv=>whnf
 obtain ⟨o2,HL3,HQ4⟩:=bind_c H
 refine loop_c [2,3,14] [4,5,6,7,8,15,16,17,18,19,20,21,22,23,24,25,26,27,28,29,30,31,32,33,34,35,36,37,38,39,40,41,42,43,44,45,46,47,48,49,50,51,52,53,54,55,56,57,58,59,60,61,62,63,64,65,66,67,68,69,70,71,9,11] [4,5,6,7,8,15,16,17,18,19,20,21,22,23,24,25,26,27,28,29,30,31,32,33,34,35,36,37,38,39,40,41,42,43,44,45,46,47,48,49,50,51,52,53,54,55,56,57,58,59,60,61,62,63,64,65,66,67,68,69,70,71,9,11] (fun n vals st=>(∃ y6 y7,p_roster_State_left_l1  a0.Gone (a0.Gone.length:Int) a0 n y6 y7=some o2∧vals=[.b false,.i y6,.i y7]∧st=[.live [.i a0.Ver,.i a0.Floor,.sl (List.map ItemItem.v a0.Items) u1,.sl (List.map RosterGone.v a0.Gone) u2] 0])) fuel 1 [] (⟨_,_,HL3,rfl,rfl⟩) (Nat.zero_le _) rfl (by kernel_rfl) (by kernel_rfl) rfl ⟨⟨rfl,rfl,rfl⟩,trivial⟩ ?_
 rintro (_ | n5) _ _ (⟨y6,y7,H,rfl,rfl⟩)
 ·rw [p_roster_State_left_l1] at H;cases H
 rw [p_roster_State_left_l1] at H
 conv=>whnf
 refine tst_d H (fun b8 H=>?_) (fun b8 H=>?_)
 ·conv=>whnf
  obtain rfl:=Option.some.inj H
  have H:=HQ4
  try dsimp only at H
  exact fb_ H
 conv=>whnf
 refine ixs_c (f:=RosterGone.v) H (fun _=>rfl) (fun x9 H=>?_);conv=>whnf
 refine lq_ ?_;conv=>whnf
 refine tst_c H (fun b10 H=>?_) (fun b10 H=>?_)
 ·conv=>whnf
  iterate 6 (refine Tst.T ?_;conv=>whnf)
  obtain rfl:=Option.some.inj H
  have H:=HQ4
  try dsimp only at H
  exact fb_ H
 conv=>whnf
 iterate 5 (refine Tst.F ?_;conv=>whnf)
 refine tst_c H (fun b11 H=>?_) (fun b11 H=>?_)
 ·conv=>whnf
  obtain rfl:=Option.some.inj H
  have H:=HQ4
  try dsimp only at H
  exact fb_ H
 conv=>whnf
 refine ⟨Nat.zero_le _,?_⟩;conv=>whnf
 refine slsH_c (f:=RosterGone.v) H (fun _=>rfl) (fun x12 H=>?_);conv=>whnf
 refine askF_c (p_slices_ContainsFunc_roster_Gone_v _ _ ⟨⟨_,Tryz.func138,by kernel_rfl,by kernel_rfl⟩,rfl,fun x0=>p_roster_State_left_1_v _ _⟩) H (.cons (.c (.id rfl)) (.cons (.c (.clo (.cons (.ptr rfl (Nat.le_of_ble_eq_true rfl) (.cons (.id rfl) (.cons (.id rfl) (.nil)))) (.nil)))) (.nil))) (fun v13 H=>?_);conv=>whnf
 refine tst_c H (fun b14 H=>?_) (fun b14 H=>?_)
 ·conv=>whnf
  obtain rfl:=Option.some.inj H
  have H:=HQ4
  try dsimp only at H
  exact fb_ H
 conv=>whnf
 refine ask_c (p_roster_State_of_v _ _) H rfl rfl (fun v15 H=>?_);conv=>whnf
 refine tst_d H (fun b16 H=>?_) (fun b16 H=>?_)
 ·conv=>whnf
  iterate 9 (refine Tst.F ?_;conv=>whnf)
  refine FootQ.mk ⟨rfl,?_⟩;conv=>whnf
  refine Tst.F ?_;conv=>whnf
  refine ask_c (p_roster_State_find_v _ _) H rfl rfl (fun v24 H=>?_);conv=>whnf
  refine tst_d H (fun b25 H=>?_) (fun b25 H=>?_)
  ·conv=>whnf
   iterate 7 (refine Tst.F ?_;conv=>whnf)
   refine Ari.w ?_;conv=>whnf
   exact again_c [4,5,6,7,8,15,16,17,18,19,20,21,22,23,24,25,26,27,28,29,30,31,32,33,34,35,36,37,38,39,40,41,42,43,44,45,46,47,48,49,50,51,52,53,54,55,56,57,58,59,60,61,62,63,64,65,66,67,68,69,70,71,9,11] n5 1 [] (⟨_,_,H,rfl,rfl⟩) (Nat.lt_succ_self _) (Nat.zero_le _) rfl (by kernel_rfl) (by kernel_rfl) rfl ⟨⟨rfl,rfl,rfl⟩,trivial⟩
  conv=>whnf
  iterate 3 (refine Tst.T ?_;conv=>whnf)
  refine ixs_c (f:=ItemItem.v) H (fun _=>rfl) (fun x26 H=>?_);conv=>whnf
  iterate 2 (refine Tst.T ?_;conv=>whnf)
  refine ask_c (p_item_Listed_v _) H rfl rfl (fun v27 H=>?_);conv=>whnf
  refine Tst.T ?_;conv=>whnf
  refine tst_c H (fun b28 H=>?_) (fun b28 H=>?_)
  ·conv=>whnf
   obtain rfl:=Option.some.inj H
   have H:=HQ4
   try dsimp only at H
   exact fb_ H
  conv=>whnf
  refine Ari.w ?_;conv=>whnf
  exact again_c [4,5,6,7,8,15,16,17,18,19,20,21,22,23,24,25,26,27,28,29,30,31,32,33,34,35,36,37,38,39,40,41,42,43,44,45,46,47,48,49,50,51,52,53,54,55,56,57,58,59,60,61,62,63,64,65,66,67,68,69,70,71,9,11] n5 1 [] (⟨_,_,H,rfl,rfl⟩) (Nat.lt_succ_self _) (Nat.zero_le _) rfl (by kernel_rfl) (by kernel_rfl) rfl ⟨⟨rfl,rfl,rfl⟩,trivial⟩
 conv=>whnf
 iterate 3 (refine Tst.T ?_;conv=>whnf)
 refine ixs_c (f:=ItemItem.v) H (fun _=>rfl) (fun x17 H=>?_);conv=>whnf
 refine Tst.T ?_;conv=>whnf
 refine lq_ ?_;conv=>whnf
 iterate 5 (refine Tst.T ?_;conv=>whnf)
 refine FootQ.mk ⟨rfl,?_⟩;conv=>whnf
 refine Tst.not ?_
 refine tst_d H (fun b18 H=>?_) (fun b18 H=>?_)
 ·conv=>whnf
  obtain rfl:=Option.some.inj H
  have H:=HQ4
  try dsimp only at H
  exact fb_ H
 conv=>whnf
 refine ask_c (p_roster_State_find_v _ _) H rfl rfl (fun v19 H=>?_);conv=>whnf
 refine tst_d H (fun b20 H=>?_) (fun b20 H=>?_)
 ·conv=>whnf
  iterate 7 (refine Tst.F ?_;conv=>whnf)
  refine Ari.w ?_;conv=>whnf
  exact again_c [4,5,6,7,8,15,16,17,18,19,20,21,22,23,24,25,26,27,28,29,30,31,32,33,34,35,36,37,38,39,40,41,42,43,44,45,46,47,48,49,50,51,52,53,54,55,56,57,58,59,60,61,62,63,64,65,66,67,68,69,70,71,9,11] n5 1 [] (⟨_,_,H,rfl,rfl⟩) (Nat.lt_succ_self _) (Nat.zero_le _) rfl (by kernel_rfl) (by kernel_rfl) rfl ⟨⟨rfl,rfl,rfl⟩,trivial⟩
 conv=>whnf
 iterate 3 (refine Tst.T ?_;conv=>whnf)
 refine ixs_c (f:=ItemItem.v) H (fun _=>rfl) (fun x21 H=>?_);conv=>whnf
 iterate 2 (refine Tst.T ?_;conv=>whnf)
 refine ask_c (p_item_Listed_v _) H rfl rfl (fun v22 H=>?_);conv=>whnf
 refine Tst.T ?_;conv=>whnf
 refine tst_c H (fun b23 H=>?_) (fun b23 H=>?_)
 ·conv=>whnf
  obtain rfl:=Option.some.inj H
  have H:=HQ4
  try dsimp only at H
  exact fb_ H
 conv=>whnf
 refine Ari.w ?_;conv=>whnf
 exact again_c [4,5,6,7,8,15,16,17,18,19,20,21,22,23,24,25,26,27,28,29,30,31,32,33,34,35,36,37,38,39,40,41,42,43,44,45,46,47,48,49,50,51,52,53,54,55,56,57,58,59,60,61,62,63,64,65,66,67,68,69,70,71,9,11] n5 1 [] (⟨_,_,H,rfl,rfl⟩) (Nat.lt_succ_self _) (Nat.zero_le _) rfl (by kernel_rfl) (by kernel_rfl) rfl ⟨⟨rfl,rfl,rfl⟩,trivial⟩
def gc45:BCode:=(.seq (R_ 1 [O_ 1 (.bx (t_ 0)) 0,O_ 2 (.mv (i_ 0)) 1]) (.seq (.block 0 (.seq (.seq (R_ 0 [O_ 5 (.fa 2 (t_ 1)) 0,O_ 6 (.ld 1 false (t_ 5)) 0,O_ 7 (.lens (t_ 6)) 0,O_ 8 (.bin .gtr (t_ 7) (i_ 12)) 0,O_ 4 (.mv (t_ 8)) 0]) (.cond (t_ 4) .skip (R_ 0 [O_ 9 (.fa 3 (t_ 1)) 0,O_ 10 (.ld 1 false (t_ 9)) 0,O_ 11 (.lens (t_ 10)) 0,O_ 12 (.bin .gtr (t_ 11) (i_ 8)) 0,O_ 4 (.mv (t_ 12)) 0]))) (.cond (t_ 4) (.seq (R_ 0 [O_ 2 (.mv (i_ 5)) 0]) .ret) (.seq (.seq (R_ 0 [O_ 14 (.fa 0 (t_ 1)) 0,O_ 15 (.ld 1 false (t_ 14)) 0,O_ 16 (.bin .lss (t_ 15) (i_ 0)) 0,O_ 13 (.mv (t_ 16)) 0]) (.cond (t_ 13) .skip (.seq (R_ 0 [O_ 17 (.fa 0 (t_ 1)) 0,O_ 18 (.ld 1 false (t_ 17)) 0,O_ 19 (.bin .gtr (t_ 18) (i_ 1099511627776)) 0,O_ 13 (.mv (t_ 19)) 0]) (.cond (t_ 13) .skip (.seq (R_ 0 [O_ 20 (.fa 1 (t_ 1)) 0,O_ 21 (.ld 1 false (t_ 20)) 0,O_ 22 (.bin .lss (t_ 21) (i_ 0)) 0,O_ 13 (.mv (t_ 22)) 0]) (.cond (t_ 13) .skip (R_ 0 [O_ 23 (.fa 1 (t_ 1)) 0,O_ 24 (.ld 1 false (t_ 23)) 0,O_ 25 (.fa 0 (t_ 1)) 0,O_ 26 (.ld 1 false (t_ 25)) 0,O_ 27 (.bin .gtr (t_ 24) (t_ 26)) 0,O_ 13 (.mv (t_ 27)) 0]))))))) (.cond (t_ 13) (.seq (R_ 0 [O_ 2 (.mv (i_ 8)) 0]) .ret) .skip))))) (.seq (.seq (R_ 0 [O_ 28 (.ld 4 true (t_ 1)) 0,O_ 29 (.cl 82 [(t_ 28)]) 0,O_ 3 (.mv (t_ 29)) 0]) (.seq (R_ 0 [O_ 30 (.mv (t_ 3)) 0,O_ 31 (.bin .neq (t_ 30) (i_ 0)) 0]) (.cond (t_ 31) (.seq (R_ 0 [O_ 32 (.mv (t_ 3)) 0,O_ 2 (.mv (t_ 32)) 0]) .ret) .skip))) (.seq (.block 1 (.seq (R_ 0 [O_ 34 (.fa 3 (t_ 1)) 0,O_ 35 (.ld 1 false (t_ 34)) 0,O_ 36 (.cl 83 [(t_ 35),(.func 84)]) 0,O_ 33 (.mv (t_ 36)) 0]) (.cond (t_ 33) (.seq (R_ 0 [O_ 2 (.mv (i_ 11)) 0]) .ret) (.seq (.seq (R_ 0 [O_ 38 (.ld 4 true (t_ 1)) 0,O_ 39 (.cl 85 [(t_ 38)]) 0,O_ 40 (.un .not (t_ 39)) 0,O_ 37 (.mv (t_ 40)) 0]) (.cond (t_ 37) .skip (R_ 0 [O_ 41 (.ld 4 true (t_ 1)) 0,O_ 42 (.cl 86 [(t_ 41)]) 0,O_ 43 (.un .not (t_ 42)) 0,O_ 37 (.mv (t_ 43)) 0]))) (.cond (t_ 37) (.seq (R_ 0 [O_ 2 (.mv (i_ 10)) 0]) .ret) .skip))))) (.seq (R_ 0 [O_ 2 (.mv (i_ 0)) 0]) .ret)))))
theorem gc45_ok:compF Tryz.prog Tryz.f45=some (gc45.er,44,[.tmp 2]):=by unfold gc45;kernel_rfl
theorem p_roster_Check_v {u1 u2:Bool} (a0:RosterState):CallsO Tryz.prog 45 [.agg [.i a0.Ver,.i a0.Floor,.sl (List.map ItemItem.v a0.Items) u1,.sl (List.map RosterGone.v a0.Gone) u2]] V.i (p_roster_Check a0):=by
 refine callsO_comp mix Tryz.func45 gc45_ok fun r H=>?_
 rw [p_roster_Check] at H
 conv=>whnf
 refine LenQ.M ?_;conv=>whnf
 refine tst_c H (fun b1 H=>?_) (fun b1 H=>?_)
 ·conv=>whnf
  refine Tst.T ?_;conv=>whnf
  exact fi_ H
 conv=>whnf
 refine LenQ.M ?_;conv=>whnf
 refine tst_c H (fun b2 H=>?_) (fun b2 H=>?_)
 ·conv=>whnf
  exact fi_ H
 conv=>whnf
 refine tst_c H (fun b3 H=>?_) (fun b3 H=>?_)
 ·conv=>whnf
  refine Tst.T ?_;conv=>whnf
  exact fi_ H
 conv=>whnf
 refine tst_c H (fun b4 H=>?_) (fun b4 H=>?_)
 ·conv=>whnf
  refine Tst.T ?_;conv=>whnf
  exact fi_ H
 conv=>whnf
 refine tst_c H (fun b5 H=>?_) (fun b5 H=>?_)
 ·conv=>whnf
  refine Tst.T ?_;conv=>whnf
  exact fi_ H
 conv=>whnf
 refine tst_c H (fun b6 H=>?_) (fun b6 H=>?_)
 ·conv=>whnf
  exact fi_ H
 conv=>whnf
 refine ask_c (p_roster_State_errors_v _) H rfl rfl (fun v7 H=>?_);conv=>whnf
 refine tst_c H (fun b8 H=>?_) (fun b8 H=>?_)
 ·conv=>whnf
  exact fi_ H
 conv=>whnf
 refine askF_c (p_slices_ContainsFunc_roster_Gone_v _ _ ⟨⟨_,Tryz.func84,by kernel_rfl,by kernel_rfl⟩,rfl,fun x0=>p_roster_Check_1_v _⟩) H (.cons (.c (.slw)) (.cons (.c (.clo (.nil))) (.nil))) (fun v9 H=>?_);conv=>whnf
 refine tst_c H (fun b10 H=>?_) (fun b10 H=>?_)
 ·conv=>whnf
  exact fi_ H
 conv=>whnf
 refine ask_c (p_roster_State_rise_v _) H rfl rfl (fun v11 H=>?_);conv=>whnf
 refine Tst.not ?_
 refine tst_d H (fun b12 H=>?_) (fun b12 H=>?_)
 ·conv=>whnf
  refine Tst.T ?_;conv=>whnf
  exact fi_ H
 conv=>whnf
 refine ask_c (p_roster_State_left_v _) H rfl rfl (fun v13 H=>?_);conv=>whnf
 refine Tst.not ?_
 refine tst_c H (fun b14 H=>?_) (fun b14 H=>?_)
 ·conv=>whnf
  exact fi_ H
 conv=>whnf
 exact fi_ H
def gc75:BCode:=(.seq (R_ 2 [O_ 2 (.bx (t_ 0)) 0,O_ 4 (.al (.agg [(.lit (.string ⟨#[]⟩)),(.lit (.string ⟨#[]⟩)),(.lit (.int .i64 0)),(.lit (.int .i64 0)),(.lit (.bool false))])) 1,O_ 5 (.mv (b_ false)) 2]) (.seq (.seq (R_ 0 [O_ 8 (.ld 4 true (t_ 2)) 0,O_ 9 (.cl 45 [(t_ 8)]) 0,O_ 10 (.bin .neq (t_ 9) (i_ 0)) 0]) (.cond (t_ 10) (.seq (R_ 0 [O_ 11 (.bd [(.lit (.string ⟨#[]⟩)),(.lit (.string ⟨#[]⟩)),(.lit (.int .i64 0)),(.lit (.int .i64 0)),(.lit (.bool false))] []) 0,U_ (.st 5 (t_ 4) (t_ 11)) 0,O_ 5 (.mv (b_ false)) 0]) .ret) .skip)) (.seq (R_ 0 [O_ 13 (.ld 4 true (t_ 2)) 0,O_ 14 (.mv (t_ 1)) 0,O_ 15 (.cl 128 [(t_ 13),(t_ 14)]) 0,O_ 12 (.mv (t_ 15)) 0,O_ 16 (.ex (t_ 12) 0) 0,O_ 17 (.ex (t_ 12) 1) 0,O_ 6 (.mv (t_ 16)) 0,O_ 7 (.mv (t_ 17)) 0]) (.seq (.seq (R_ 0 [O_ 18 (.mv (t_ 7)) 0,O_ 19 (.un .not (t_ 18)) 0]) (.cond (t_ 19) (.seq (R_ 0 [O_ 20 (.bd [(.lit (.string ⟨#[]⟩)),(.lit (.string ⟨#[]⟩)),(.lit (.int .i64 0)),(.lit (.int .i64 0)),(.lit (.bool false))] []) 0,U_ (.st 5 (t_ 4) (t_ 20)) 0,O_ 5 (.mv (b_ false)) 0]) .ret) .skip)) (.seq (R_ 0 [O_ 21 (.fa 2 (t_ 2)) 0,O_ 22 (.ld 1 false (t_ 21)) 0,O_ 23 (.mv (t_ 6)) 0,O_ 24 (.ixs 5 (t_ 22) (t_ 23)) 0,O_ 25 (.ld 5 true (t_ 24)) 0,U_ (.st 5 (t_ 4) (t_ 25)) 0,O_ 5 (.mv (b_ true)) 0]) .ret)))))
theorem gc75_ok:compF Tryz.prog Tryz.f75=some (gc75.er,26,[.cell 4 5 true,.tmp 5]):=by unfold gc75;kernel_rfl
theorem p_roster_Find_v {u1 u2:Bool} (a0:RosterState) (a1:ByteArray):CallsO Tryz.prog 75 [.agg [.i a0.Ver,.i a0.Floor,.sl (List.map ItemItem.v a0.Items) u1,.sl (List.map RosterGone.v a0.Gone) u2],.s a1] (fun r:ItemItem × Bool=>.tup [ItemItem.v r.1,V.b r.2]) (p_roster_Find a0 a1):=by
 refine callsO_comp mix Tryz.func75 gc75_ok fun r H=>?_
 rw [p_roster_Find] at H
 conv=>whnf
 refine ask_c (p_roster_Check_v _) H rfl rfl (fun v1 H=>?_);conv=>whnf
 refine tst_c H (fun b2 H=>?_) (fun b2 H=>?_)
 ·conv=>whnf
  refine lq_ ?_;conv=>whnf
  exact fin0_c (enc:=(fun r:ItemItem × Bool=>.tup [ItemItem.v r.1,V.b r.2])) H (.inr rfl) (.cons (.cell rfl rfl (Nat.le_of_ble_eq_true rfl)) (.cons (.tmp rfl) (.nil))) rfl rfl
 conv=>whnf
 refine ask_c (p_roster_State_find_v _ _) H rfl rfl (fun v3 H=>?_);conv=>whnf
 refine Tst.not ?_
 refine tst_d H (fun b4 H=>?_) (fun b4 H=>?_)
 ·conv=>whnf
  refine lq_ ?_;conv=>whnf
  exact fin0_c (enc:=(fun r:ItemItem × Bool=>.tup [ItemItem.v r.1,V.b r.2])) H (.inr rfl) (.cons (.cell rfl rfl (Nat.le_of_ble_eq_true rfl)) (.cons (.tmp rfl) (.nil))) rfl rfl
 conv=>whnf
 refine ixs_c (f:=ItemItem.v) H (fun _=>rfl) (fun x5 H=>?_);conv=>whnf
 refine lq_ ?_;conv=>whnf
 exact fin0_c (enc:=(fun r:ItemItem × Bool=>.tup [ItemItem.v r.1,V.b r.2])) H (.inr rfl) (.cons (.cell rfl rfl (Nat.le_of_ble_eq_true rfl)) (.cons (.tmp rfl) (.nil))) rfl rfl
def gc125:BCode:=(.seq (R_ 1 [O_ 3 (.bx (t_ 0)) 0,O_ 6 (.mv (i_ 0)) 1]) (.seq (.block 0 (.seq (R_ 0 [O_ 8 (.mv (t_ 2)) 0,O_ 9 (.mv (t_ 8)) 0,⟨(some 10),.mv (t_ 1),(some (9,true)),0⟩,⟨(some 11),.un .not (t_ 10),(some (9,true)),0⟩,O_ 12 (.pick (t_ 9) (t_ 11) (b_ false)) 0,O_ 13 (.mv (t_ 12)) 0,⟨(some 14),.fa 2 (t_ 3),(some (13,true)),0⟩,⟨(some 15),.ld 1 false (t_ 14),(some (13,true)),0⟩,⟨(some 16),.lens (t_ 15),(some (13,true)),0⟩,⟨(some 17),.bin .geq (t_ 16) (i_ 12),(some (13,true)),0⟩,O_ 18 (.pick (t_ 13) (t_ 17) (b_ false)) 0,O_ 7 (.mv (t_ 18)) 0]) (.cond (t_ 7) (.seq (R_ 0 [O_ 6 (.mv (i_ 7)) 0]) .ret) (.seq (R_ 0 [O_ 20 (.fa 0 (t_ 3)) 0,O_ 21 (.ld 1 false (t_ 20)) 0,O_ 22 (.bin .geq (t_ 21) (i_ 1099511627776)) 0,O_ 19 (.mv (t_ 22)) 0]) (.cond (t_ 19) (.seq (R_ 0 [O_ 6 (.mv (i_ 9)) 0]) .ret) .skip))))) (.seq (R_ 0 [O_ 6 (.mv (i_ 0)) 0]) .ret)))
theorem gc125_ok:compF Tryz.prog Tryz.f125=some (gc125.er,23,[.tmp 6]):=by unfold gc125;kernel_rfl
theorem p_roster_State_may_v {u1 u2:Bool} (a0:RosterState) (a1:Bool) (a2:Bool):CallsO Tryz.prog 125 [.agg [.i a0.Ver,.i a0.Floor,.sl (List.map ItemItem.v a0.Items) u1,.sl (List.map RosterGone.v a0.Gone) u2],.b a1,.b a2] V.i (p_roster_State_may a0 a1 a2):=by
 refine callsO_comp mix Tryz.func125 gc125_ok fun r H=>?_
 rw [p_roster_State_may] at H
 conv=>whnf
 refine tst_d H (fun b1 H=>?_) (fun b1 H=>?_)
 ·conv=>whnf
  iterate 8 (refine Tst.F ?_;conv=>whnf)
  refine tst_c H (fun b6 H=>?_) (fun b6 H=>?_)
  ·conv=>whnf
   exact fi_ H
  conv=>whnf
  exact fi_ H
 conv=>whnf
 iterate 2 (refine Tst.T ?_;conv=>whnf)
 refine Tst.not ?_
 refine tst_c H (fun b2 H=>?_) (fun b2 H=>?_)
 ·conv=>whnf
  iterate 5 (refine Tst.F ?_;conv=>whnf)
  refine tst_c H (fun b3 H=>?_) (fun b3 H=>?_)
  ·conv=>whnf
   exact fi_ H
  conv=>whnf
  exact fi_ H
 conv=>whnf
 iterate 2 (refine Tst.T ?_;conv=>whnf)
 refine LenQ.M ?_;conv=>whnf
 iterate 2 (refine Tst.T ?_;conv=>whnf)
 refine tst_c H (fun b4 H=>?_) (fun b4 H=>?_)
 ·conv=>whnf
  exact fi_ H
 conv=>whnf
 refine tst_c H (fun b5 H=>?_) (fun b5 H=>?_)
 ·conv=>whnf
  exact fi_ H
 conv=>whnf
 exact fi_ H
end Go.Proofs.YtmmmcpeickfolaaGreat

namespace Go.Proofs.YtmmmcpeickfolaaGreat
open Go.RowKit Go.Lib
set_option maxHeartbeats 4000000
set_option maxRecDepth 100000
theorem cloS173 (A:Addr) (n c:Nat) (cs:List Value) (w:World) (hn:0 < n) (hbig:n≤1000000) (hcl:cs.length=n * 2) (hcs:∀ j v,cs[j]?=some v→w.cell? (A.add j)=some v) (h1:∀ v ∈ cs,v.oneCell'=true) :
  Calls Tryz.prog 173 #[.slice (some A) n c] w fun e w'=>∃ ZS:Array Value,e=.returned (.slice (some ⟨w.heap.size + 1,0,none⟩) n (grownCap (w.alloc (.cells #[] 108)) n 0 108))∧w'=(w.alloc (.cells #[] 108)).drew.alloc (.cells (cs.toArray++ZS) 108)∧grownCap (w.alloc (.cells #[] 108)) n 0 108 * 2≤(cs.toArray++ZS).size:=by
 have tS:Tryz.prog.underlying 97=some (.slice 108):=by kernel_rfl
 have uS:=run_underlying tS
 have qS:∀ (w:World) (a:Option Addr) (n c n' c' : Nat),(binOp .eql 97 (.slice a n c) (.slice none n' c')).run Tryz.prog w=.ok (.bool a.isNone) w:=fun w a n c n' c'=>Lib.run_eql_slice_nil w _ _ a n c n' c' tS
 have mixed:Tryz.prog.follows .mixedOrders=true:=mix
 obtain ⟨i0,z,hi0,hzs,hz0,hzc,hzb⟩:=infB_ok (P:=Tryz.prog) (e:=108) (es:=2) (by kernel_rfl)
 have hsrc:Src Tryz.prog i0.size 97 (.slice (some A) n c) n cs (w.alloc (.cells #[] 108)):=by
  rw [hzs]
  exact Src.ofSlice _ tS A n c cs (by omega) (fun j u hj=>Lib.cell?_alloc_some _ (hcs j u hj)) h1
 have hold:(Builtin.firstCells i0.size 0 (.slice (some ⟨w.heap.size,0,none⟩) 0 0)).run Tryz.prog (w.alloc (.cells #[] 108)).drew=.ok ([]:List Value).toArray (w.alloc (.cells #[] 108)).drew:=by
  rw [hzs]
  exact run_firstCells_some _ 2 0 ⟨w.heap.size,0,none⟩ 0 0 [] (by simp) (fun j v hj=>by simp at hj)
 have hrun:∀ ty,(Builtin.append_ #[97,97] ty #[.slice (some ⟨w.heap.size,0,none⟩) 0 0,.slice (some A) n c]).run Tryz.prog (w.alloc (.cells #[] 108))=_:=fun ty =>
  run_append_grow_src (w.alloc (.cells #[] 108)) 97 97 ty 108 i0 z tS hi0 hz0 (some ⟨w.heap.size,0,none⟩) 0 0 [] hold _ n cs hsrc (by omega) (by omega) (growslice_fits (by omega) (grown_bound (by omega) hzb))
 simp only [Nat.zero_add,List.nil_append,World.size_alloc] at hrun
 have hge:=grownCap_ge (w.alloc (.cells #[] 108)) n 0 108
 have hsz:grownCap (w.alloc (.cells #[] 108)) n 0 108 * 2≤(cs.toArray++Builtin.zeroCells z.cells (grownCap (w.alloc (.cells #[] 108)) n 0 108 - n)).size:=by
  simp only [Array.size_append,size_zeroCells,hzc,List.size_toArray,hcl]
  omega
 obtain ⟨ZS,hrun,hsz⟩ : ∃ ZS:Array Value,(∀ ty,(Builtin.append_ #[97,97] ty #[.slice (some ⟨w.heap.size,0,none⟩) 0 0,.slice (some A) n c]).run Tryz.prog (w.alloc (.cells #[] 108))=.ok (.slice (some ⟨w.heap.size + 1,0,none⟩) n (grownCap (w.alloc (.cells #[] 108)) n 0 108)) ((w.alloc (.cells #[] 108)).drew.alloc (.cells (cs.toArray++ZS) 108)))∧grownCap (w.alloc (.cells #[] 108)) n 0 108 * 2≤(cs.toArray++ZS).size:=⟨_,hrun,hsz⟩
 have main:Calls Tryz.prog 173 #[.slice (some A) n c] w fun e w'=>e=.returned (.slice (some ⟨w.heap.size + 1,0,none⟩) n (grownCap (w.alloc (.cells #[] 108)) n 0 108))∧w'=(w.alloc (.cells #[] 108)).drew.alloc (.cells (cs.toArray++ZS) 108):=by
  clear hsz hold hsrc hz0 hcs
  go_enter Tryz.func173,Tryz.ntmps173
  go_wp2_with (at_builtin;refine Lib.wpList_append_run _ rfl _ _ _ _ rfl _ _ rfl rfl _ _ (hrun _) ?_)
  go_ret
  exact ⟨rfl,rfl⟩
 refine main.mono ?_
 rintro e w' ⟨rfl,rfl⟩
 exact ⟨ZS,rfl,rfl,hsz⟩
theorem cloZ173 (A:Addr) (c:Nat) (w:World):Calls Tryz.prog 173 #[.slice (some A) 0 c] w fun e w'=>e=.returned (.slice (some ⟨w.heap.size,0,none⟩) 0 0)∧∃ q,w'=(w.alloc (.cells #[] 108)).drewN q:=by
 have tS:Tryz.prog.underlying 97=some (.slice 108):=by kernel_rfl
 have uS:=run_underlying tS
 have qS:∀ (w:World) (a:Option Addr) (n c n' c' : Nat),(binOp .eql 97 (.slice a n c) (.slice none n' c')).run Tryz.prog w=.ok (.bool a.isNone) w:=fun w a n c n' c'=>Lib.run_eql_slice_nil w _ _ a n c n' c' tS
 have mixed:Tryz.prog.follows .mixedOrders=true:=mix
 obtain ⟨i0,z,hi0,hzs,hz0,hzc,hzb⟩:=infB_ok (P:=Tryz.prog) (e:=108) (es:=2) (by kernel_rfl)
 have hsz:(Tryz.prog.info? 108).map (·.size)=some 2:=by rw [hi0];simp [hzs]
 have hrun:∀ ty,(Builtin.append_ #[97,97] ty #[.slice (some ⟨w.heap.size,0,none⟩) 0 0,.slice (some A) 0 c]).run Tryz.prog (w.alloc (.cells #[] 108))=.ok (.slice (some ⟨w.heap.size,0,none⟩) 0 0) (w.alloc (.cells #[] 108)):=fun ty=>by
  have hl:∀ (x:Addr) (W:World),(loadCells x 0).run Tryz.prog W=.ok #[] W:=fun x W=>by simpa using run_loadCells_list (P:=Tryz.prog) W x [] (by simp)
  simp [Builtin.append_,uS,Builtin.lenOf,Builtin.firstCells,sizeOf,typeInfo,hi0,hl,storeCells]
 have main:Calls Tryz.prog 173 #[.slice (some A) 0 c] w fun e w'=>e=.returned (.slice (some ⟨w.heap.size,0,none⟩) 0 0)∧w'=w.alloc (.cells #[] 108):=by
  go_enter Tryz.func173,Tryz.ntmps173
  go_wp2_with (at_builtin;refine Lib.wpList_append_run _ rfl _ _ _ _ rfl _ _ rfl rfl _ _ (hrun _) ?_)
  go_ret
  exact ⟨rfl,rfl⟩
 refine main.mono ?_
 rintro e w' ⟨rfl,rfl⟩
 exact ⟨rfl,0,rfl⟩
theorem cloN173 (n c:Nat) (w:World):Calls Tryz.prog 173 #[.slice none n c] w fun e w'=>e=.returned (.slice none 0 0)∧w'=w:=by
 have tS:Tryz.prog.underlying 97=some (.slice 108):=by kernel_rfl
 have uS:=run_underlying tS
 have qS:∀ (w:World) (a:Option Addr) (n c n' c' : Nat),(binOp .eql 97 (.slice a n c) (.slice none n' c')).run Tryz.prog w=.ok (.bool a.isNone) w:=fun w a n c n' c'=>Lib.run_eql_slice_nil w _ _ a n c n' c' tS
 have mixed:Tryz.prog.follows .mixedOrders=true:=mix
 go_enter Tryz.func173,Tryz.ntmps173
 go_wp2
 go_ret
 exact ⟨rfl,rfl⟩
theorem cloR173_v:CloRoads Tryz.prog 173 2 108:=⟨cloS173,cloZ173,cloN173⟩
end Go.Proofs.YtmmmcpeickfolaaGreat

namespace Go.Proofs.YtmmmcpeickfolaaGreat
open Go.RowKit
set_option maxRecDepth 100000
set_option maxHeartbeats 4000000
def gc123:BCode:=(.seq (R_ 2 [O_ 1 (.bx (t_ 0)) 0,O_ 2 (.al (.agg [(.lit (.int .i64 0)),(.lit (.int .i64 0)),(.sl [] true),(.sl [] true)])) 1]) (.seq (.reg 0 [O_ 3 (.fa 2 (t_ 1)) 0,O_ 4 (.ld 1 false (t_ 3)) 0,O_ 5 (.cl 89 [(t_ 4)]) 0,O_ 6 (.fa 3 (t_ 1)) 0,O_ 7 (.ld 1 false (t_ 6)) 0,O_ 8 (.cl 173 [(t_ 7)]) 0,O_ 9 (.fa 2 (t_ 1)) 0,U_ (.st 1 (t_ 9) (t_ 5)) 0,O_ 10 (.fa 3 (t_ 1)) 0,U_ (.st 1 (t_ 10) (t_ 8)) 0] (some [[],[0],[0,1],[],[3],[1,0,2,3,4],[4,3,2,1,0],[5,0,1,2,3,4,6],[7,6,5,4,3,2,1,0],[0,1,2,3,4,5,6,7,8]]) 2 []) (.seq (R_ 0 [O_ 11 (.ld 4 true (t_ 1)) 0,U_ (.st 4 (t_ 2) (t_ 11)) 0]) .ret)))
theorem gc123_ok:compF Tryz.prog Tryz.f123=some (gc123.er,12,[.cell 2 4 true]):=by unfold gc123;kernel_rfl
theorem p_roster_State_own_00 {u1 u2:Bool} (a:RosterState) (h0:a.Items=[]) (h1:a.Gone=[]):CallsS Tryz.prog 123 [.agg [.i a.Ver,.i a.Floor,.sl (List.map ItemItem.v a.Items) u1,.sl (List.map RosterGone.v a.Gone) u2]] [.fresh,.fresh] (.agg [.i a.Ver,.i a.Floor,.sl (List.map ItemItem.v []) true,.sl (List.map RosterGone.v []) true]) [.fresh,.fresh]:=by
 refine callsR_c (n0:=2) mix Tryz.func123 gc123_ok rfl ?_
 conv=>whnf
 refine cloE_c cloR89_v h0 ?_;conv=>whnf
 refine cloE_c cloR173_v h1 ?_;conv=>whnf
 refine lq_ ?_;conv=>whnf
 refine lq_ ?_;conv=>whnf
 refine FootQ.mk ⟨rfl,?_⟩;conv=>whnf
 refine lq_ ?_;conv=>whnf
 exact ⟨f_R [0,1] (.inr rfl) (.cons (.cell rfl rfl (Nat.le_of_ble_eq_true rfl)) .nil) rfl rfl rfl (fun i hi h=>absurd (by rcases i with _ | _ | i <;> first | rfl | (exfalso;have hi2:i + 1 + 1 < 2:=hi;omega)) h) ⟨rfl,⟨rfl,trivial⟩⟩⟩
theorem p_roster_State_own_01 {u1 u2:Bool} (a:RosterState) (h0:a.Items=[]) (h1:a.Gone≠[]) (n1:a.Gone.length≤1000000):CallsS Tryz.prog 123 [.agg [.i a.Ver,.i a.Floor,.sl (List.map ItemItem.v a.Items) u1,.sl (List.map RosterGone.v a.Gone) u2]] [.fresh,.fresh] (.agg [.i a.Ver,.i a.Floor,.sl (List.map ItemItem.v []) true,.osl 1 0 a.Gone.length 2 false]) [.fresh,.live (cellsM RosterGone.v a.Gone) 0]:=by
 refine callsR_c (n0:=2) mix Tryz.func123 gc123_ok rfl ?_
 conv=>whnf
 refine cloE_c cloR89_v h0 ?_;conv=>whnf
 refine cloN_c cloR173_v 5 (fun _=>rfl) (fun _=>rfl) rfl h1 n1 ?_;conv=>whnf
 refine lq_ ?_;conv=>whnf
 refine lq_ ?_;conv=>whnf
 refine FootQ.mk ⟨rfl,?_⟩;conv=>whnf
 refine lq_ ?_;conv=>whnf
 exact ⟨f_R [0,5] (.inr rfl) (.cons (.cell rfl rfl (Nat.le_of_ble_eq_true rfl)) .nil) rfl rfl rfl (fun i hi h=>absurd (by rcases i with _ | _ | i <;> first | rfl | (exfalso;have hi2:i + 1 + 1 < 2:=hi;omega)) h) ⟨rfl,(wkB_live0 rfl (cellsM_idlt (f:=RosterGone.v) (fun _=>rfl) _) rfl trivial)⟩⟩
theorem p_roster_State_own_10 {u1 u2:Bool} (a:RosterState) (h0:a.Items≠[]) (n0:a.Items.length≤1000000) (h1:a.Gone=[]):CallsS Tryz.prog 123 [.agg [.i a.Ver,.i a.Floor,.sl (List.map ItemItem.v a.Items) u1,.sl (List.map RosterGone.v a.Gone) u2]] [.fresh,.fresh] (.agg [.i a.Ver,.i a.Floor,.osl 0 0 a.Items.length 5 false,.sl (List.map RosterGone.v []) true]) [.live (cellsM ItemItem.v a.Items) 0,.fresh]:=by
 refine callsR_c (n0:=2) mix Tryz.func123 gc123_ok rfl ?_
 conv=>whnf
 refine cloN_c cloR89_v 4 (fun _=>rfl) (fun _=>rfl) rfl h0 n0 ?_;conv=>whnf
 refine cloE_c cloR173_v h1 ?_;conv=>whnf
 refine lq_ ?_;conv=>whnf
 refine lq_ ?_;conv=>whnf
 refine FootQ.mk ⟨rfl,?_⟩;conv=>whnf
 refine lq_ ?_;conv=>whnf
 exact ⟨f_R [4,1] (.inr rfl) (.cons (.cell rfl rfl (Nat.le_of_ble_eq_true rfl)) .nil) rfl rfl rfl (fun i hi h=>absurd (by rcases i with _ | _ | i <;> first | rfl | (exfalso;have hi2:i + 1 + 1 < 2:=hi;omega)) h) (wkB_live0 rfl (cellsM_idlt (f:=ItemItem.v) (fun _=>rfl) _) rfl ⟨rfl,trivial⟩)⟩
theorem p_roster_State_own_11 {u1 u2:Bool} (a:RosterState) (h0:a.Items≠[]) (n0:a.Items.length≤1000000) (h1:a.Gone≠[]) (n1:a.Gone.length≤1000000):CallsS Tryz.prog 123 [.agg [.i a.Ver,.i a.Floor,.sl (List.map ItemItem.v a.Items) u1,.sl (List.map RosterGone.v a.Gone) u2]] [.fresh,.fresh] (.agg [.i a.Ver,.i a.Floor,.osl 0 0 a.Items.length 5 false,.osl 1 0 a.Gone.length 2 false]) [.live (cellsM ItemItem.v a.Items) 0,.live (cellsM RosterGone.v a.Gone) 0]:=by
 refine callsR_c (n0:=2) mix Tryz.func123 gc123_ok rfl ?_
 conv=>whnf
 refine cloN_c cloR89_v 4 (fun _=>rfl) (fun _=>rfl) rfl h0 n0 ?_;conv=>whnf
 refine cloN_c cloR173_v 5 (fun _=>rfl) (fun _=>rfl) rfl h1 n1 ?_;conv=>whnf
 refine lq_ ?_;conv=>whnf
 refine lq_ ?_;conv=>whnf
 refine FootQ.mk ⟨rfl,?_⟩;conv=>whnf
 refine lq_ ?_;conv=>whnf
 exact ⟨f_R [4,5] (.inr rfl) (.cons (.cell rfl rfl (Nat.le_of_ble_eq_true rfl)) .nil) rfl rfl rfl (fun i hi h=>absurd (by rcases i with _ | _ | i <;> first | rfl | (exfalso;have hi2:i + 1 + 1 < 2:=hi;omega)) h) (wkB_live0 rfl (cellsM_idlt (f:=ItemItem.v) (fun _=>rfl) _) rfl (wkB_live0 rfl (cellsM_idlt (f:=RosterGone.v) (fun _=>rfl) _) rfl trivial))⟩
theorem p_roster_State_own_c {β:Type} {r:β} {st:List Slot} {i j:Nat} {u1 u2:Bool} {a:RosterState} {X:RosterState→Option β} {K:V→List Nat→List Nat→List Slot→Prop} (H:(p_roster_State_own a).bind X=some r) (hij:i≠j) (hi:st[i]?=some .fresh) (hj:st[j]?=some .fresh)
  (h00:X ⟨a.Ver,a.Floor,[],[]⟩=some r→ssetK st i (.fresh) fun st1=>ssetK st1 j (.fresh) fun st2=>K (.agg [.i a.Ver,.i a.Floor,.sl (List.map ItemItem.v []) true,.sl (List.map RosterGone.v []) true]) [] [i,j] st2) (h01:∀ G:List RosterGone,X ⟨a.Ver,a.Floor,[],G⟩=some r→ssetK st i (.fresh) fun st1=>ssetK st1 j (.live (cellsM RosterGone.v G) 0) fun st2=>K (.agg [.i a.Ver,.i a.Floor,.sl (List.map ItemItem.v []) true,.osl j 0 G.length 2 false]) [] [i,j] st2) (h10:∀ I:List ItemItem,X ⟨a.Ver,a.Floor,I,[]⟩=some r→ssetK st i (.live (cellsM ItemItem.v I) 0) fun st1=>ssetK st1 j (.fresh) fun st2=>K (.agg [.i a.Ver,.i a.Floor,.osl i 0 I.length 5 false,.sl (List.map RosterGone.v []) true]) [] [i,j] st2) (h11:∀ (I:List ItemItem) (G:List RosterGone),X ⟨a.Ver,a.Floor,I,G⟩=some r→ssetK st i (.live (cellsM ItemItem.v I) 0) fun st1=>ssetK st1 j (.live (cellsM RosterGone.v G) 0) fun st2=>K (.agg [.i a.Ver,.i a.Floor,.osl i 0 I.length 5 false,.osl j 0 G.length 2 false]) [] [i,j] st2):Ask Tryz.prog 123 [.agg [.i a.Ver,.i a.Floor,.sl (List.map ItemItem.v a.Items) u1,.sl (List.map RosterGone.v a.Gone) u2]] st K:=by
 obtain ⟨s,hs,H⟩:=bind_c H
 unfold p_roster_State_own at hs
 obtain ⟨l1,k1,hs⟩:=bind_c hs
 obtain ⟨l2,k2,hs⟩:=bind_c hs
 unfold clone? at k1 k2
 split at k1
 case isFalse=>cases k1
 split at k2
 case isFalse=>cases k2
 rename_i n0 n1
 obtain rfl:=Option.some.inj k1
 obtain rfl:=Option.some.inj k2
 obtain rfl:=Option.some.inj hs
 by_cases e0:a.Items=[] <;> by_cases e1:a.Gone=[]
 ·have h:=h00 (by rw [e0,e1] at H;exact H)
  rw [ssetK_eq,ssetK_eq] at h
  exact Ask_L (rd:=[]) (ef:=[(i,.fresh),(j,.fresh)]) (fun st2 _ h2=>callsS_new (p_roster_State_own_00 a e0 e1) rfl hij ((h2 i (.inr (by simp))).trans hi) ((h2 j (.inr (by simp))).trans hj) (fun cs f h=>by rcases h with h | h <;> cases h)) h
 ·have h:=h01 a.Gone (by rw [e0] at H;exact H)
  rw [ssetK_eq,ssetK_eq] at h
  exact Ask_L (rd:=[]) (ef:=[(i,.fresh),(j,.live (cellsM RosterGone.v a.Gone) 0)]) (fun st2 _ h2=>callsS_new (p_roster_State_own_01 a e0 e1 n1) rfl hij ((h2 i (.inr (by simp))).trans hi) ((h2 j (.inr (by simp))).trans hj) (fun cs f h=>by rcases h with h | h <;> first | (cases h;done) | (simp only [Slot.live.injEq] at h;obtain ⟨rfl,rfl⟩:=h;exact litL_M (fun _=>rfl) _))) h
 ·have h:=h10 a.Items (by rw [e1] at H;exact H)
  rw [ssetK_eq,ssetK_eq] at h
  exact Ask_L (rd:=[]) (ef:=[(i,.live (cellsM ItemItem.v a.Items) 0),(j,.fresh)]) (fun st2 _ h2=>callsS_new (p_roster_State_own_10 a e0 n0 e1) rfl hij ((h2 i (.inr (by simp))).trans hi) ((h2 j (.inr (by simp))).trans hj) (fun cs f h=>by rcases h with h | h <;> first | (cases h;done) | (simp only [Slot.live.injEq] at h;obtain ⟨rfl,rfl⟩:=h;exact litL_M (fun _=>rfl) _))) h
 ·have h:=h11 a.Items a.Gone (by exact H)
  rw [ssetK_eq,ssetK_eq] at h
  exact Ask_L (rd:=[]) (ef:=[(i,.live (cellsM ItemItem.v a.Items) 0),(j,.live (cellsM RosterGone.v a.Gone) 0)]) (fun st2 _ h2=>callsS_new (p_roster_State_own_11 a e0 n0 e1 n1) rfl hij ((h2 i (.inr (by simp))).trans hi) ((h2 j (.inr (by simp))).trans hj) (fun cs f h=>by rcases h with h | h <;> (simp only [Slot.live.injEq] at h;obtain ⟨rfl,rfl⟩:=h;exact litL_M (fun _=>rfl) _))) h
end Go.Proofs.YtmmmcpeickfolaaGreat

