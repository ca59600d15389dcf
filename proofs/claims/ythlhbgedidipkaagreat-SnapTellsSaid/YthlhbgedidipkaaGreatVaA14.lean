/- A part of the proof: 8 texts joined. -/
import Derived.Test.YthlhbgedidipkaaGreatVaA13
import Derived.Test.YthlhbgedidipkaaGreatVaA8
import Derived.KernelRfl
import Derived.Test.YthlhbgedidipkaaGreatVaA11
import Derived.Test.YthlhbgedidipkaaGreatVaA12
set_option linter.all false
/- That the program's functions yield what the plain ones tell (written by a program of mine). -/
namespace Go.Proofs.YthlhbgedidipkaaGreat
open Go.RowKit
def gc149 : BCode := (.seq (.reg 0 [⟨(some 4),.mv (.const (.bool false)),none,0⟩] none 0 []) (.seq (.reg 0 [⟨(some 5),.mv (.tmp 1),none,0⟩,⟨(some 6),.cl 143 [(.tmp 5)],none,0⟩,⟨(some 7),.bin .eql (.tmp 6) (.const (.int .i64 0)),none,0⟩,⟨(some 8),.mv (.tmp 7),none,0⟩,⟨(some 9),.mv (.tmp 0),(some (8,true)),0⟩,⟨(some 10),.cl 104 [(.tmp 9)],(some (8,true)),0⟩,⟨(some 11),.pick (.tmp 8) (.tmp 10) (.const (.bool false)),none,0⟩,⟨(some 4),.mv (.tmp 11),none,0⟩] none 0 []) .ret))
theorem gc149_ok : compF Tryz.prog Tryz.f149 = some (gc149.er,12,[.tmp 4]) := by unfold gc149;kernel_rfl
set_option maxRecDepth 100000 in
set_option maxHeartbeats 4000000 in
theorem p_pres_named_v (a0 : ByteArray) (a1 : ByteArray) : CallsO Tryz.prog 149 [.s a0,.s a1] V.b (p_pres_named a0 a1) := by
 refine callsO_comp mix Tryz.func149 gc149_ok fun r H=>?_
 rw [p_pres_named] at H
 conv=>whnf
 refine ask_c (p_addr_Resource_v _) H rfl rfl (fun v1 H=>?_);conv=>whnf
 refine tst_d H (fun b2 H=>?_) (fun b2 H=>?_)
 ·conv=>whnf
  iterate 2 (refine Tst.F ?_;conv=>whnf)
  exact fin0_c (enc := V.b) H (.inr rfl) (.cons (.tmp rfl) (.nil)) rfl rfl
 conv=>whnf
 refine Tst.T ?_;conv=>whnf
 refine ask_c (p_addr_IsBare_v _) H rfl rfl (fun v3 H=>?_);conv=>whnf
 refine Tst.T ?_;conv=>whnf
 exact fin0_c (enc := V.b) H (.inr rfl) (.cons (.tmp rfl) (.nil)) rfl rfl
def gc85 : BCode := (.seq (.reg 0 [⟨(some 4),.mv (.const (.string ⟨#[]⟩)),none,0⟩] none 0 []) (.seq (.seq (.reg 0 [⟨(some 5),.mv (.tmp 0),none,0⟩,⟨(some 6),.mv (.tmp 1),none,0⟩,⟨(some 7),.cl 149 [(.tmp 5),(.tmp 6)],none,0⟩,⟨(some 8),.un .not (.tmp 7),none,0⟩] none 0 []) (.cond (.tmp 8) (.seq (.reg 0 [⟨(some 4),.mv (.const (.string ⟨#[]⟩)),none,0⟩] none 0 []) .ret) .skip)) (.seq (.reg 0 [⟨(some 9),.mv (.tmp 0),none,0⟩,⟨(some 10),.bin .add (.tmp 9) (.const (.string ⟨#[32]⟩)),none,0⟩,⟨(some 11),.mv (.tmp 1),none,0⟩,⟨(some 12),.bin .add (.tmp 10) (.tmp 11),none,0⟩,⟨(some 4),.mv (.tmp 12),none,0⟩] none 0 []) .ret)))
theorem gc85_ok : compF Tryz.prog Tryz.f85 = some (gc85.er,13,[.tmp 4]) := by unfold gc85;kernel_rfl
set_option maxRecDepth 100000 in
set_option maxHeartbeats 4000000 in
theorem p_pres_Key_v (a0 : ByteArray) (a1 : ByteArray) : CallsO Tryz.prog 85 [.s a0,.s a1] V.s (p_pres_Key a0 a1) := by
 refine callsO_comp mix Tryz.func85 gc85_ok fun r H=>?_
 rw [p_pres_Key] at H
 conv=>whnf
 refine ask_c (p_pres_named_v _ _) H rfl rfl (fun v1 H=>?_);conv=>whnf
 refine Tst.not ?_
 refine tst_d H (fun b2 H=>?_) (fun b2 H=>?_)
 ·conv=>whnf
  exact fin0_c (enc := V.s) H (.inr rfl) (.cons (.tmp rfl) (.nil)) rfl rfl
 conv=>whnf
 refine cat_c H (fun s3 H=>?_);conv=>whnf
 refine cat_c H (fun s4 H=>?_);conv=>whnf
 exact fin0_c (enc := V.s) H (.inr rfl) (.cons (.tmp rfl) (.nil)) rfl rfl
def gc153 : BCode := (.seq (.reg 1 [⟨(some 1),.bx (.tmp 0),none,0⟩,⟨(some 2),.mv (.const (.string ⟨#[]⟩)),none,1⟩] none 0 []) (.seq (.reg 0 [⟨(some 3),.fa 0 (.tmp 1),none,0⟩,⟨(some 4),.ld 1 false (.tmp 3),none,0⟩,⟨(some 5),.fa 1 (.tmp 1),none,0⟩,⟨(some 6),.ld 1 false (.tmp 5),none,0⟩,⟨(some 7),.cl 85 [(.tmp 4),(.tmp 6)],none,0⟩,⟨(some 2),.mv (.tmp 7),none,0⟩] none 0 []) .ret))
theorem gc153_ok : compF Tryz.prog Tryz.f153 = some (gc153.er,8,[.tmp 2]) := by unfold gc153;kernel_rfl
set_option maxRecDepth 100000 in
set_option maxHeartbeats 4000000 in
theorem p_book_Row_key_v (a0 : BookRow) : CallsO Tryz.prog 153 [.agg [.s a0.User,.s a0.Res,.b a0.P.On,.i a0.P.Show,.i a0.P.Prio,.i a0.P.Seq]] V.s (p_book_Row_key a0) := by
 refine callsO_comp mix Tryz.func153 gc153_ok fun r H=>?_
 rw [p_book_Row_key] at H
 conv=>whnf
 refine ask_c (p_pres_Key_v _ _) H rfl rfl (fun v1 H=>?_);conv=>whnf
 exact fin0_c (enc := V.s) H (.inr rfl) (.cons (.tmp rfl) (.nil)) rfl rfl
def gc220 : BCode := (.seq (.reg 1 [⟨(some 1),.bx (.tmp 0),none,0⟩,⟨(some 2),.mv (.const (.bool false)),none,1⟩] none 0 []) (.seq (.reg 0 [⟨(some 3),.ld 6 true (.tmp 1),none,0⟩,⟨(some 4),.cl 153 [(.tmp 3)],none,0⟩,⟨(some 5),.bin .eql (.tmp 4) (.const (.string ⟨#[]⟩)),none,0⟩,⟨(some 2),.mv (.tmp 5),none,0⟩] none 0 []) .ret))
theorem gc220_ok : compF Tryz.prog Tryz.f220 = some (gc220.er,6,[.tmp 2]) := by unfold gc220;kernel_rfl
set_option maxRecDepth 100000 in
set_option maxHeartbeats 4000000 in
theorem p_book_Check_1_v (a0 : BookRow) : CallsO Tryz.prog 220 [.agg [.s a0.User,.s a0.Res,.b a0.P.On,.i a0.P.Show,.i a0.P.Prio,.i a0.P.Seq]] V.b (p_book_Check_1 a0) := by
 refine callsO_comp mix Tryz.func220 gc220_ok fun r H=>?_
 rw [p_book_Check_1] at H
 conv=>whnf
 refine ask_c (p_book_Row_key_v _) H rfl rfl (fun v1 H=>?_);conv=>whnf
 exact fin0_c (enc := V.b) H (.inr rfl) (.cons (.tmp rfl) (.nil)) rfl rfl
def gc266 : BCode := (.seq (.reg 0 [⟨(some 4),.mv (.const (.int .i64 0)),none,0⟩] none 0 []) (.seq (.seq (.reg 0 [⟨(some 6),.mv (.tmp 0),none,0⟩,⟨(some 7),.lens (.tmp 6),none,0⟩,⟨(some 8),.mv (.const (.int .i64 0)),none,0⟩] none 0 []) (.block 0 (.loop (.seq (.reg 0 [⟨(some 9),.bin .lss (.tmp 8) (.tmp 7),none,0⟩] none 0 []) (.seq (.cond (.tmp 9) .skip (.exit 0)) (.seq (.block 1 (.seq (.reg 0 [⟨(some 10),.mv (.tmp 8),none,0⟩,⟨(some 5),.mv (.tmp 10),none,0⟩] none 0 []) (.seq (.reg 0 [⟨(some 11),.mv (.tmp 1),none,0⟩,⟨(some 12),.mv (.tmp 0),none,0⟩,⟨(some 13),.mv (.tmp 5),none,0⟩,⟨(some 14),.ixs 6 (.tmp 12) (.tmp 13),none,0⟩,⟨(some 15),.ld 6 true (.tmp 14),none,0⟩,⟨(some 16),.cv (.tmp 11) [(.tmp 15)],none,0⟩] none 0 []) (.cond (.tmp 16) (.seq (.reg 0 [⟨(some 17),.mv (.tmp 5),none,0⟩,⟨(some 4),.mv (.tmp 17),none,0⟩] none 0 []) .ret) .skip)))) (.reg 0 [⟨(some 18),.bin .add (.tmp 8) (.const (.int .i64 1)),none,0⟩,⟨(some 8),.mv (.tmp 18),none,0⟩] none 0 []))))))) (.seq (.reg 0 [⟨(some 4),.mv (.const (.int .i64 (-1))),none,0⟩] none 0 []) .ret)))
theorem gc266_ok : compF Tryz.prog Tryz.f266 = some (gc266.er,19,[.tmp 4]) := by unfold gc266;kernel_rfl
set_option maxRecDepth 100000 in
set_option maxHeartbeats 4000000 in
theorem p_slices_IndexFunc_book_Row_v {u1 : Bool} (a0 : List BookRow) (a1 : BookRow → Option Bool) {a1_g : Nat} {a1_k : List V} (a1_h : Clo1 Tryz.prog a1_g a1_k BookRow.v V.b a1) : CallsO Tryz.prog 266 [.sl (List.map BookRow.v a0) u1,.clo (.func a1_g) a1_k] V.i (p_slices_IndexFunc_book_Row a0 a1) := by
 refine callsO_comp mix Tryz.func266 gc266_ok fun r H=>?_
 rw [p_slices_IndexFunc_book_Row] at H
 conv=>whnf
 refine LenQ.M ?_;conv=>whnf
 obtain ⟨o2,HL3,HQ4⟩ := bind_c H
 refine loop_c [4,8] [5,9,10,11,12,13,14,15,16,17,18] [5,9,10,11,12,13,14,15,16,17,18] (fun n vals st=>(∃ y6,p_slices_IndexFunc_book_Row_l1  a1 a0 (a0.length : Int) n y6 = some o2 ∧ vals = [.i (0 : Int),.i y6] ∧ st = [])) fuel 0 [] (⟨_,HL3,rfl,rfl⟩) (Nat.zero_le _) rfl (by simp only [maskF,setF,List.set_cons_zero,List.set_cons_succ,V.ren.renL,V.ren,renL_id _ a1_h.own] <;> rfl) (by simp only [maskF,setF,List.set_cons_zero,List.set_cons_succ,V.idlt.belowL,V.idlt,fun n=>idltL_up (n := n) _ a1_h.own] <;> rfl) rfl trivial ?_
 rintro (_ | n5) _ _ (⟨y6,H,rfl,rfl⟩)
 ·rw [p_slices_IndexFunc_book_Row_l1] at H;cases H
 rw [p_slices_IndexFunc_book_Row_l1] at H
 conv=>whnf
 refine tst_d H (fun b7 H=>?_) (fun b7 H=>?_)
 ·conv=>whnf
  obtain rfl := Option.some.inj H
  have H := HQ4
  try dsimp only at H
  exact fin0_c (enc := V.i) H (.inr rfl) (.cons (.tmp rfl) (.nil)) rfl rfl
 conv=>whnf
 refine ixs_c (f := BookRow.v) H (fun _=>rfl) (fun x8 H=>?_);conv=>whnf
 refine askC_c a1_h H (.cons (fzagg (.cons (.id rfl) (.cons (.id rfl) (.cons (.id rfl) (.cons (.id rfl) (.cons (.id rfl) (.cons (.id rfl) (.nil))))))) rfl) (.nil)) (fun v9 H=>?_);conv=>whnf
 refine tst_c H (fun b10 H=>?_) (fun b10 H=>?_)
 ·conv=>whnf
  obtain rfl := Option.some.inj H
  have H := HQ4
  try dsimp only at H
  exact fin0_c (enc := V.i) H (.inr rfl) (.cons (.tmp rfl) (.nil)) rfl rfl
 conv=>whnf
 refine Ari.w ?_;conv=>whnf
 exact again_c [5,9,10,11,12,13,14,15,16,17,18] n5 0 [] (⟨_,H,rfl,rfl⟩) (Nat.lt_succ_self _) (Nat.zero_le _) rfl (by simp only [maskF,setF,List.set_cons_zero,List.set_cons_succ,V.ren.renL,V.ren,renL_id _ a1_h.own] <;> rfl) (by simp only [maskF,setF,List.set_cons_zero,List.set_cons_succ,V.idlt.belowL,V.idlt,fun n=>idltL_up (n := n) _ a1_h.own] <;> rfl) rfl trivial
def gc219 : BCode := (.seq (.reg 0 [⟨(some 4),.mv (.const (.bool false)),none,0⟩] none 0 []) (.seq (.reg 0 [⟨(some 5),.mv (.tmp 0),none,0⟩,⟨(some 6),.mv (.tmp 1),none,0⟩,⟨(some 7),.cl 266 [(.tmp 5),(.tmp 6)],none,0⟩,⟨(some 8),.bin .geq (.tmp 7) (.const (.int .i64 0)),none,0⟩,⟨(some 4),.mv (.tmp 8),none,0⟩] none 0 []) .ret))
theorem gc219_ok : compF Tryz.prog Tryz.f219 = some (gc219.er,9,[.tmp 4]) := by unfold gc219;kernel_rfl
set_option maxRecDepth 100000 in
set_option maxHeartbeats 4000000 in
theorem p_slices_ContainsFunc_book_Row_v {u1 : Bool} (a0 : List BookRow) (a1 : BookRow → Option Bool) {a1_g : Nat} {a1_k : List V} (a1_h : Clo1 Tryz.prog a1_g a1_k BookRow.v V.b a1) : CallsO Tryz.prog 219 [.sl (List.map BookRow.v a0) u1,.clo (.func a1_g) a1_k] V.b (p_slices_ContainsFunc_book_Row a0 a1) := by
 refine callsO_comp mix Tryz.func219 gc219_ok fun r H=>?_
 rw [p_slices_ContainsFunc_book_Row] at H
 conv=>whnf
 refine askF_c (p_slices_IndexFunc_book_Row_v _ _ a1_h) H (.cons (.c (.slw)) (.cons (.c (.id a1_h.own)) (.nil))) (fun v1 H=>?_);conv=>whnf
 exact fin0_c (enc := V.b) H (.inr rfl) (.cons (.tmp rfl) (.nil)) rfl rfl
def gc218 : BCode := (.seq (.reg 0 [⟨(some 6),.mv (.const (.bool false)),none,0⟩] none 0 []) (.seq (.reg 0 [⟨(some 7),.mv (.tmp 1),none,0⟩,⟨(some 8),.mv (.tmp 0),none,0⟩,⟨(some 9),.bin .leq (.tmp 7) (.tmp 8),none,0⟩,⟨(some 10),.mv (.tmp 9),none,0⟩,⟨(some 11),.mv (.tmp 0),(some (10,true)),0⟩,⟨(some 12),.mv (.tmp 2),(some (10,true)),0⟩,⟨(some 13),.bin .leq (.tmp 11) (.tmp 12),(some (10,true)),0⟩,⟨(some 14),.pick (.tmp 10) (.tmp 13) (.const (.bool false)),none,0⟩,⟨(some 6),.mv (.tmp 14),none,0⟩] none 0 []) .ret))
theorem gc218_ok : compF Tryz.prog Tryz.f218 = some (gc218.er,15,[.tmp 6]) := by unfold gc218;kernel_rfl
set_option maxRecDepth 100000 in
set_option maxHeartbeats 4000000 in
theorem p_pres_in_v (a0 : Int) (a1 : Int) (a2 : Int) : CallsO Tryz.prog 218 [.i a0,.i a1,.i a2] V.b (p_pres_in a0 a1 a2) := by
 refine callsO_comp mix Tryz.func218 gc218_ok fun r H=>?_
 rw [p_pres_in] at H
 conv=>whnf
 refine tst_c H (fun b1 H=>?_) (fun b1 H=>?_)
 ·conv=>whnf
  iterate 3 (refine Tst.T ?_;conv=>whnf)
  exact fin0_c (enc := V.b) H (.inr rfl) (.cons (.tmp rfl) (.nil)) rfl rfl
 conv=>whnf
 iterate 3 (refine Tst.F ?_;conv=>whnf)
 exact fin0_c (enc := V.b) H (.inr rfl) (.cons (.tmp rfl) (.nil)) rfl rfl
def gc148 : BCode := (.seq (.reg 1 [⟨(some 1),.bx (.tmp 0),none,0⟩,⟨(some 2),.mv (.const (.int .i64 0)),none,1⟩] none 0 []) (.seq (.seq (.reg 0 [⟨(some 4),.fa 1 (.tmp 1),none,0⟩,⟨(some 5),.ld 1 false (.tmp 4),none,0⟩,⟨(some 6),.cl 218 [(.tmp 5),(.const (.int .i64 0)),(.const (.int .i64 4))],none,0⟩,⟨(some 7),.un .not (.tmp 6),none,0⟩,⟨(some 8),.mv (.tmp 7),none,0⟩,⟨(some 9),.fa 2 (.tmp 1),(some (8,false)),0⟩,⟨(some 10),.ld 1 false (.tmp 9),(some (8,false)),0⟩,⟨(some 11),.cl 218 [(.tmp 10),(.const (.int .i64 (-128))),(.const (.int .i64 127))],(some (8,false)),0⟩,⟨(some 12),.un .not (.tmp 11),(some (8,false)),0⟩,⟨(some 13),.pick (.tmp 8) (.const (.bool true)) (.tmp 12),none,0⟩,⟨(some 14),.mv (.tmp 13),none,0⟩,⟨(some 15),.fa 3 (.tmp 1),(some (14,false)),0⟩,⟨(some 16),.ld 1 false (.tmp 15),(some (14,false)),0⟩,⟨(some 17),.cl 218 [(.tmp 16),(.const (.int .i64 0)),(.const (.int .i64 1099511627776))],(some (14,false)),0⟩,⟨(some 18),.un .not (.tmp 17),(some (14,false)),0⟩,⟨(some 19),.pick (.tmp 14) (.const (.bool true)) (.tmp 18),none,0⟩] none 0 []) (.cond (.tmp 19) (.seq (.reg 0 [⟨(some 2),.mv (.const (.int .i64 8)),none,0⟩] none 0 []) .ret) .skip)) (.seq (.seq (.reg 1 [⟨(some 20),.fa 3 (.tmp 1),none,0⟩,⟨(some 21),.ld 1 false (.tmp 20),none,0⟩,⟨(some 22),.bd [(.lit (.bool false)),(.lit (.int .i64 0)),(.lit (.int .i64 0)),(.lit (.int .i64 0))] [(3,1,(.tmp 21))],none,0⟩,⟨(some 3),.al (.agg [(.lit (.bool false)),(.lit (.int .i64 0)),(.lit (.int .i64 0)),(.lit (.int .i64 0))]),none,0⟩,⟨none,.st 4 (.tmp 3) (.tmp 22),none,1⟩] none 0 []) (.seq (.reg 0 [⟨(some 23),.fa 0 (.tmp 1),none,0⟩,⟨(some 24),.ld 1 false (.tmp 23),none,0⟩,⟨(some 25),.un .not (.tmp 24),none,0⟩,⟨(some 26),.mv (.tmp 25),none,0⟩,⟨(some 27),.ld 4 true (.tmp 1),(some (26,true)),0⟩,⟨(some 28),.ld 4 true (.tmp 3),(some (26,true)),0⟩,⟨(some 29),.eqa true [0,1,1,1] (.tmp 27) (.tmp 28),(some (26,true)),0⟩,⟨(some 30),.pick (.tmp 26) (.tmp 29) (.const (.bool false)),none,0⟩] none 0 []) (.cond (.tmp 30) (.seq (.reg 0 [⟨(some 2),.mv (.const (.int .i64 4)),none,0⟩] none 0 []) .ret) .skip))) (.seq (.reg 0 [⟨(some 2),.mv (.const (.int .i64 0)),none,0⟩] none 0 []) .ret))))
theorem gc148_ok : compF Tryz.prog Tryz.f148 = some (gc148.er,31,[.tmp 2]) := by unfold gc148;kernel_rfl
set_option maxRecDepth 100000 in
set_option maxHeartbeats 4000000 in
theorem p_pres_Check_v (a0 : PresPres) : CallsO Tryz.prog 148 [.agg [.b a0.On,.i a0.Show,.i a0.Prio,.i a0.Seq]] V.i (p_pres_Check a0) := by
 refine callsO_comp mix Tryz.func148 gc148_ok fun r H=>?_
 rw [p_pres_Check] at H
 conv=>whnf
 refine ask_c (p_pres_in_v _ _ _) H rfl rfl (fun v1 H=>?_);conv=>whnf
 refine Tst.not ?_
 refine tst_d H (fun b2 H=>?_) (fun b2 H=>?_)
 ·conv=>whnf
  iterate 10 (refine Tst.T ?_;conv=>whnf)
  exact fin0_c (enc := V.i) H (.inr rfl) (.cons (.tmp rfl) (.nil)) rfl rfl
 conv=>whnf
 iterate 2 (refine Tst.F ?_;conv=>whnf)
 refine ask_c (p_pres_in_v _ _ _) H rfl rfl (fun v3 H=>?_);conv=>whnf
 iterate 2 (refine Tst.F ?_;conv=>whnf)
 refine Tst.not ?_
 refine tst_d H (fun b4 H=>?_) (fun b4 H=>?_)
 ·conv=>whnf
  iterate 5 (refine Tst.T ?_;conv=>whnf)
  exact fin0_c (enc := V.i) H (.inr rfl) (.cons (.tmp rfl) (.nil)) rfl rfl
 conv=>whnf
 iterate 2 (refine Tst.F ?_;conv=>whnf)
 refine ask_c (p_pres_in_v _ _ _) H rfl rfl (fun v5 H=>?_);conv=>whnf
 iterate 2 (refine Tst.F ?_;conv=>whnf)
 refine Tst.not ?_
 refine tst_d H (fun b6 H=>?_) (fun b6 H=>?_)
 ·conv=>whnf
  exact fin0_c (enc := V.i) H (.inr rfl) (.cons (.tmp rfl) (.nil)) rfl rfl
 conv=>whnf
 refine ⟨Nat.le_of_ble_eq_true rfl,?_⟩;conv=>whnf
 refine Tst.not ?_
 refine tst_c H (fun b7 H=>?_) (fun b7 H=>?_)
 ·conv=>whnf
  iterate 4 (refine Tst.F ?_;conv=>whnf)
  exact fin0_c (enc := V.i) H (.inr rfl) (.cons (.tmp rfl) (.nil)) rfl rfl
 conv=>whnf
 iterate 3 (refine Tst.T ?_;conv=>whnf)
 refine Tst.not ?_
 refine tst_c H (fun b8 H=>?_) (fun b8 H=>?_)
 ·conv=>whnf
  exact fin0_c (enc := V.i) H (.inr rfl) (.cons (.tmp rfl) (.nil)) rfl rfl
 conv=>whnf
 exact fin0_c (enc := V.i) H (.inr rfl) (.cons (.tmp rfl) (.nil)) rfl rfl
def gc221 : BCode := (.seq (.reg 1 [⟨(some 1),.bx (.tmp 0),none,0⟩,⟨(some 2),.mv (.const (.int .i64 0)),none,1⟩] none 0 []) (.seq (.seq (.reg 0 [⟨(some 6),.fa 1 (.tmp 1),none,0⟩,⟨(some 7),.ld 1 false (.tmp 6),none,0⟩,⟨(some 8),.lens (.tmp 7),none,0⟩,⟨(some 9),.mv (.const (.int .i64 0)),none,0⟩] none 0 []) (.block 0 (.loop (.seq (.reg 0 [⟨(some 10),.bin .lss (.tmp 9) (.tmp 8),none,0⟩] none 0 []) (.seq (.cond (.tmp 10) .skip (.exit 0)) (.seq (.block 1 (.seq (.reg 1 [⟨(some 11),.ixs 6 (.tmp 7) (.tmp 9),none,0⟩,⟨(some 12),.ld 6 true (.tmp 11),none,0⟩,⟨(some 4),.al (.agg [(.lit (.string ⟨#[]⟩)),(.lit (.string ⟨#[]⟩)),(.lit (.bool false)),(.lit (.int .i64 0)),(.lit (.int .i64 0)),(.lit (.int .i64 0))]),none,0⟩,⟨none,.st 6 (.tmp 4) (.tmp 12),none,1⟩] none 0 []) (.seq (.seq (.reg 0 [⟨(some 13),.fa 2 (.tmp 4),none,0⟩,⟨(some 14),.ld 4 true (.tmp 13),none,0⟩,⟨(some 15),.cl 148 [(.tmp 14)],none,0⟩,⟨(some 5),.mv (.tmp 15),none,0⟩] none 0 []) (.seq (.reg 0 [⟨(some 16),.mv (.tmp 5),none,0⟩,⟨(some 17),.bin .neq (.tmp 16) (.const (.int .i64 0)),none,0⟩] none 0 []) (.cond (.tmp 17) (.seq (.reg 0 [⟨(some 18),.mv (.tmp 5),none,0⟩,⟨(some 2),.mv (.tmp 18),none,0⟩] none 0 []) .ret) .skip))) (.seq (.reg 0 [⟨(some 19),.fa 2 (.tmp 4),none,0⟩,⟨(some 20),.fa 0 (.tmp 19),none,0⟩,⟨(some 21),.ld 1 false (.tmp 20),none,0⟩,⟨(some 22),.un .not (.tmp 21),none,0⟩] none 0 []) (.cond (.tmp 22) (.seq (.reg 0 [⟨(some 2),.mv (.const (.int .i64 4)),none,0⟩] none 0 []) .ret) .skip))))) (.reg 0 [⟨(some 23),.bin .add (.tmp 9) (.const (.int .i64 1)),none,0⟩,⟨(some 9),.mv (.tmp 23),none,0⟩] none 0 []))))))) (.seq (.reg 0 [⟨(some 2),.mv (.const (.int .i64 0)),none,0⟩] none 0 []) .ret)))
theorem gc221_ok : compF Tryz.prog Tryz.f221 = some (gc221.er,24,[.tmp 2]) := by unfold gc221;kernel_rfl
set_option maxRecDepth 100000 in
set_option maxHeartbeats 4000000 in
theorem p_book_State_errors_v {u1 : Bool} (a0 : BookState) : CallsO Tryz.prog 221 [.agg [.i a0.Seq,.sl (List.map BookRow.v a0.Rows) u1]] V.i (p_book_State_errors a0) := by
 refine callsO_comp mix Tryz.func221 gc221_ok fun r H=>?_
 rw [p_book_State_errors] at H
 conv=>whnf
 refine LenQ.M ?_;conv=>whnf
 obtain ⟨o2,HL3,HQ4⟩ := bind_c H
 refine loop_c [2,9] [4,5,10,11,12,13,14,15,16,17,18,19,20,21,22,23,1,6] [4,5,10,11,12,13,14,15,16,17,18,19,20,21,22,23,1,6] (fun n vals st=>(∃ y6,p_book_State_errors_l1  a0.Rows (a0.Rows.length : Int) n y6 = some o2 ∧ vals = [.i (0 : Int),.i y6] ∧ st = [])) fuel 0 [] (⟨_,HL3,rfl,rfl⟩) (Nat.zero_le _) rfl (by kernel_rfl) (by kernel_rfl) rfl trivial ?_
 rintro (_ | n5) _ _ (⟨y6,H,rfl,rfl⟩)
 ·rw [p_book_State_errors_l1] at H;cases H
 rw [p_book_State_errors_l1] at H
 conv=>whnf
 refine tst_d H (fun b7 H=>?_) (fun b7 H=>?_)
 ·conv=>whnf
  obtain rfl := Option.some.inj H
  have H := HQ4
  try dsimp only at H
  exact fin0_c (enc := V.i) H (.inr rfl) (.cons (.tmp rfl) (.nil)) rfl rfl
 conv=>whnf
 refine ixs_c (f := BookRow.v) H (fun _=>rfl) (fun x8 H=>?_);conv=>whnf
 refine ⟨Nat.le_of_ble_eq_true rfl,?_⟩;conv=>whnf
 refine ask_c (p_pres_Check_v _) H rfl rfl (fun v9 H=>?_);conv=>whnf
 refine tst_c H (fun b10 H=>?_) (fun b10 H=>?_)
 ·conv=>whnf
  obtain rfl := Option.some.inj H
  have H := HQ4
  try dsimp only at H
  exact fin0_c (enc := V.i) H (.inr rfl) (.cons (.tmp rfl) (.nil)) rfl rfl
 conv=>whnf
 refine Tst.not ?_
 refine tst_d H (fun b11 H=>?_) (fun b11 H=>?_)
 ·conv=>whnf
  obtain rfl := Option.some.inj H
  have H := HQ4
  try dsimp only at H
  exact fin0_c (enc := V.i) H (.inr rfl) (.cons (.tmp rfl) (.nil)) rfl rfl
 conv=>whnf
 refine Ari.w ?_;conv=>whnf
 exact again_c [4,5,10,11,12,13,14,15,16,17,18,19,20,21,22,23,1,6] n5 0 [] (⟨_,H,rfl,rfl⟩) (Nat.lt_succ_self _) (Nat.zero_le _) rfl (by kernel_rfl) (by kernel_rfl) rfl trivial
def gc267 : BCode := (.seq (.reg 1 [⟨(some 2),.bx (.tmp 0),none,0⟩,⟨(some 3),.mv (.const (.bool false)),none,1⟩] none 0 []) (.seq (.reg 0 [⟨(some 4),.fa 2 (.tmp 2),none,0⟩,⟨(some 5),.fa 3 (.tmp 4),none,0⟩,⟨(some 6),.ld 1 false (.tmp 5),none,0⟩,⟨(some 7),.fa 2 (.tmp 1),none,0⟩,⟨(some 8),.fa 3 (.tmp 7),none,0⟩,⟨(some 9),.ld 1 false (.tmp 8),none,0⟩,⟨(some 10),.bin .eql (.tmp 6) (.tmp 9),none,0⟩,⟨(some 3),.mv (.tmp 10),none,0⟩] none 0 []) .ret))
theorem gc267_ok : compF Tryz.prog Tryz.f267 = some (gc267.er,11,[.tmp 3]) := by unfold gc267;kernel_rfl
set_option maxRecDepth 100000 in
set_option maxHeartbeats 4000000 in
theorem p_book_State_ordered_1_v (a0 : BookRow) (c0 : BookRow) : CallsO Tryz.prog 267 [.agg [.s a0.User,.s a0.Res,.b a0.P.On,.i a0.P.Show,.i a0.P.Prio,.i a0.P.Seq],.eptr [.s c0.User,.s c0.Res,.b c0.P.On,.i c0.P.Show,.i c0.P.Prio,.i c0.P.Seq]] V.b (p_book_State_ordered_1 a0 c0) := by
 refine callsO_comp mix Tryz.func267 gc267_ok fun r H=>?_
 rw [p_book_State_ordered_1] at H
 conv=>whnf
 refine ⟨Nat.le_of_ble_eq_true rfl,?_⟩;conv=>whnf
 refine ⟨Nat.le_of_ble_eq_true rfl,?_⟩;conv=>whnf
 exact fin0_c (enc := V.b) H (.inr rfl) (.cons (.tmp rfl) (.nil)) rfl rfl
def gc222 : BCode := (.seq (.reg 1 [⟨(some 1),.bx (.tmp 0),none,0⟩,⟨(some 2),.mv (.const (.bool false)),none,1⟩] none 0 []) (.seq (.seq (.reg 0 [⟨(some 5),.fa 1 (.tmp 1),none,0⟩,⟨(some 6),.ld 1 false (.tmp 5),none,0⟩,⟨(some 7),.lens (.tmp 6),none,0⟩,⟨(some 8),.mv (.const (.int .i64 0)),none,0⟩] none 0 []) (.block 0 (.loop (.seq (.reg 0 [⟨(some 9),.bin .lss (.tmp 8) (.tmp 7),none,0⟩] none 0 []) (.seq (.cond (.tmp 9) .skip (.exit 0)) (.seq (.block 1 (.seq (.reg 1 [⟨(some 10),.mv (.tmp 8),none,0⟩,⟨(some 11),.ixs 6 (.tmp 6) (.tmp 8),none,0⟩,⟨(some 12),.ld 6 true (.tmp 11),none,0⟩,⟨(some 4),.al (.agg [(.lit (.string ⟨#[]⟩)),(.lit (.string ⟨#[]⟩)),(.lit (.bool false)),(.lit (.int .i64 0)),(.lit (.int .i64 0)),(.lit (.int .i64 0))]),none,0⟩,⟨(some 3),.mv (.tmp 10),none,1⟩,⟨none,.st 6 (.tmp 4) (.tmp 12),none,1⟩] none 0 []) (.seq (.seq (.reg 0 [⟨(some 13),.fa 2 (.tmp 4),none,0⟩,⟨(some 14),.fa 3 (.tmp 13),none,0⟩,⟨(some 15),.ld 1 false (.tmp 14),none,0⟩,⟨(some 16),.bin .lss (.tmp 15) (.const (.int .i64 1)),none,0⟩,⟨(some 17),.mv (.tmp 16),none,0⟩,⟨(some 18),.fa 2 (.tmp 4),(some (17,false)),0⟩,⟨(some 19),.fa 3 (.tmp 18),(some (17,false)),0⟩,⟨(some 20),.ld 1 false (.tmp 19),(some (17,false)),0⟩,⟨(some 21),.fa 0 (.tmp 1),(some (17,false)),0⟩,⟨(some 22),.ld 1 false (.tmp 21),(some (17,false)),0⟩,⟨(some 23),.bin .gtr (.tmp 20) (.tmp 22),(some (17,false)),0⟩,⟨(some 24),.pick (.tmp 17) (.const (.bool true)) (.tmp 23),none,0⟩] none 0 []) (.cond (.tmp 24) (.seq (.reg 0 [⟨(some 2),.mv (.const (.bool false)),none,0⟩] none 0 []) .ret) .skip)) (.seq (.seq (.reg 0 [⟨(some 25),.mv (.tmp 3),none,0⟩,⟨(some 26),.bin .gtr (.tmp 25) (.const (.int .i64 0)),none,0⟩,⟨(some 27),.mv (.tmp 26),none,0⟩,⟨(some 28),.fa 1 (.tmp 1),(some (27,true)),0⟩,⟨(some 29),.ld 1 false (.tmp 28),(some (27,true)),0⟩,⟨(some 30),.mv (.tmp 3),(some (27,true)),0⟩,⟨(some 31),.bin .sub (.tmp 30) (.const (.int .i64 1)),(some (27,true)),0⟩,⟨(some 32),.ixs 6 (.tmp 29) (.tmp 31),(some (27,true)),0⟩,⟨(some 33),.ld 6 true (.tmp 32),(some (27,true)),0⟩,⟨(some 34),.cl 153 [(.tmp 33)],(some (27,true)),0⟩,⟨(some 35),.ld 6 true (.tmp 4),(some (27,true)),0⟩,⟨(some 36),.cl 153 [(.tmp 35)],(some (27,true)),0⟩,⟨(some 37),.bin .geq (.tmp 34) (.tmp 36),(some (27,true)),0⟩,⟨(some 38),.pick (.tmp 27) (.tmp 37) (.const (.bool false)),none,0⟩] (some [[],[0],[0,1],[1,0,2],[2,0,1,3],[1,0,2],[2,0,1,5],[5,6,3,1,0,2,4],[4,2,0,1,3,6,5,7],[7,5,6,3,1,0,2,4,8],[1,0,2],[8,4,3,6,5,7,9,2,0,1,10],[10,11,8,4,2,0,1,3,6,5,7,9],[9,7,5,6,3,4,8,11,10,12,1,0,2]]) 0 []) (.cond (.tmp 38) (.seq (.reg 0 [⟨(some 2),.mv (.const (.bool false)),none,0⟩] none 0 []) .ret) .skip)) (.seq (.reg 0 [⟨(some 39),.fa 1 (.tmp 1),none,0⟩,⟨(some 40),.ld 1 false (.tmp 39),none,0⟩,⟨(some 41),.mv (.tmp 3),none,0⟩,⟨(some 42),.sls 6 (.tmp 40) none (some (.tmp 41)) none,none,0⟩,⟨(some 43),.mf (.func 267) [(.tmp 4)],none,0⟩,⟨(some 44),.cl 219 [(.tmp 42),(.tmp 43)],none,0⟩] none 0 [4]) (.cond (.tmp 44) (.seq (.reg 0 [⟨(some 2),.mv (.const (.bool false)),none,0⟩] none 0 []) .ret) .skip)))))) (.reg 0 [⟨(some 45),.bin .add (.tmp 8) (.const (.int .i64 1)),none,0⟩,⟨(some 8),.mv (.tmp 45),none,0⟩] none 0 []))))))) (.seq (.reg 0 [⟨(some 2),.mv (.const (.bool true)),none,0⟩] none 0 []) .ret)))
theorem gc222_ok : compF Tryz.prog Tryz.f222 = some (gc222.er,46,[.tmp 2]) := by unfold gc222;kernel_rfl
set_option maxRecDepth 100000 in
set_option maxHeartbeats 4000000 in
theorem p_book_State_ordered_v {u1 : Bool} (a0 : BookState) : CallsO Tryz.prog 222 [.agg [.i a0.Seq,.sl (List.map BookRow.v a0.Rows) u1]] V.b (p_book_State_ordered a0) := by
 refine callsO_comp mix Tryz.func222 gc222_ok fun r H=>?_
 rw [p_book_State_ordered] at H
 conv=>whnf
 refine LenQ.M ?_;conv=>whnf
 obtain ⟨o2,HL3,HQ4⟩ := bind_c H
 refine loop_c [2,8] [3,4,9,10,11,12,13,14,15,16,17,18,19,20,21,22,23,24,25,26,27,28,29,30,31,32,33,34,35,36,37,38,39,40,41,42,43,44,45,5] [3,4,9,10,11,12,13,14,15,16,17,18,19,20,21,22,23,24,25,26,27,28,29,30,31,32,33,34,35,36,37,38,39,40,41,42,43,44,45,5] (fun n vals st=>(∃ y6,p_book_State_ordered_l1  a0.Rows (a0.Rows.length : Int) a0 n y6 = some o2 ∧ vals = [.b false,.i y6] ∧ st = [.live [.i a0.Seq,.sl (List.map BookRow.v a0.Rows) u1] 0])) fuel 1 [] (⟨_,HL3,rfl,rfl⟩) (Nat.zero_le _) rfl (by kernel_rfl) (by kernel_rfl) rfl ⟨⟨rfl,rfl,rfl⟩,trivial⟩ ?_
 rintro (_ | n5) _ _ (⟨y6,H,rfl,rfl⟩)
 ·rw [p_book_State_ordered_l1] at H;cases H
 rw [p_book_State_ordered_l1] at H
 conv=>whnf
 refine tst_d H (fun b7 H=>?_) (fun b7 H=>?_)
 ·conv=>whnf
  obtain rfl := Option.some.inj H
  have H := HQ4
  try dsimp only at H
  exact fin0_c (enc := V.b) H (.inr rfl) (.cons (.tmp rfl) (.nil)) rfl rfl
 conv=>whnf
 refine ixs_c (f := BookRow.v) H (fun _=>rfl) (fun x8 H=>?_);conv=>whnf
 refine ⟨Nat.le_of_ble_eq_true rfl,?_⟩;conv=>whnf
 refine tst_c H (fun b9 H=>?_) (fun b9 H=>?_)
 ·conv=>whnf
  iterate 7 (refine Tst.T ?_;conv=>whnf)
  obtain rfl := Option.some.inj H
  have H := HQ4
  try dsimp only at H
  exact fin0_c (enc := V.b) H (.inr rfl) (.cons (.tmp rfl) (.nil)) rfl rfl
 conv=>whnf
 iterate 6 (refine Tst.F ?_;conv=>whnf)
 refine tst_c H (fun b10 H=>?_) (fun b10 H=>?_)
 ·conv=>whnf
  obtain rfl := Option.some.inj H
  have H := HQ4
  try dsimp only at H
  exact fin0_c (enc := V.b) H (.inr rfl) (.cons (.tmp rfl) (.nil)) rfl rfl
 conv=>whnf
 refine tst_d H (fun b11 H=>?_) (fun b11 H=>?_)
 ·conv=>whnf
  iterate 10 (refine Tst.F ?_;conv=>whnf)
  refine FootQ.mk ⟨rfl,?_⟩;conv=>whnf
  refine Tst.F ?_;conv=>whnf
  refine ⟨Nat.zero_le _,?_⟩;conv=>whnf
  refine slsH_c (f := BookRow.v) H (fun _=>rfl) (fun x19 H=>?_);conv=>whnf
  refine askF_c (p_slices_ContainsFunc_book_Row_v _ _ ⟨⟨_,Tryz.func267,by kernel_rfl,by kernel_rfl⟩,rfl,fun x0=>p_book_State_ordered_1_v _ _⟩) H (.cons (.c (.id rfl)) (.cons (.c (.clo (.cons (.ptr rfl (Nat.le_of_ble_eq_true rfl) (.cons (.id rfl) (.cons (.id rfl) (.cons (.id rfl) (.cons (.id rfl) (.cons (.id rfl) (.cons (.id rfl) (.nil)))))))) (.nil)))) (.nil))) (fun v20 H=>?_);conv=>whnf
  refine tst_c H (fun b21 H=>?_) (fun b21 H=>?_)
  ·conv=>whnf
   obtain rfl := Option.some.inj H
   have H := HQ4
   try dsimp only at H
   exact fin0_c (enc := V.b) H (.inr rfl) (.cons (.tmp rfl) (.nil)) rfl rfl
  conv=>whnf
  refine Ari.w ?_;conv=>whnf
  exact again_c [3,4,9,10,11,12,13,14,15,16,17,18,19,20,21,22,23,24,25,26,27,28,29,30,31,32,33,34,35,36,37,38,39,40,41,42,43,44,45,5] n5 1 [] (⟨_,H,rfl,rfl⟩) (Nat.lt_succ_self _) (Nat.zero_le _) rfl (by kernel_rfl) (by kernel_rfl) rfl ⟨⟨rfl,rfl,rfl⟩,trivial⟩
 conv=>whnf
 iterate 3 (refine Tst.T ?_;conv=>whnf)
 refine Ari.w ?_;conv=>whnf
 refine Tst.T ?_;conv=>whnf
 refine ixs_c (f := BookRow.v) H (fun _=>rfl) (fun x12 H=>?_);conv=>whnf
 iterate 2 (refine Tst.T ?_;conv=>whnf)
 refine ask_c (p_book_Row_key_v _) H rfl rfl (fun v13 H=>?_);conv=>whnf
 iterate 2 (refine Tst.T ?_;conv=>whnf)
 refine ask_c (p_book_Row_key_v _) H rfl rfl (fun v14 H=>?_);conv=>whnf
 iterate 2 (refine Tst.T ?_;conv=>whnf)
 refine FootQ.mk ⟨rfl,?_⟩;conv=>whnf
 refine Tst.not ?_
 refine tst_d H (fun b15 H=>?_) (fun b15 H=>?_)
 ·conv=>whnf
  obtain rfl := Option.some.inj H
  have H := HQ4
  try dsimp only at H
  exact fin0_c (enc := V.b) H (.inr rfl) (.cons (.tmp rfl) (.nil)) rfl rfl
 conv=>whnf
 refine ⟨Nat.zero_le _,?_⟩;conv=>whnf
 refine slsH_c (f := BookRow.v) H (fun _=>rfl) (fun x16 H=>?_);conv=>whnf
 refine askF_c (p_slices_ContainsFunc_book_Row_v _ _ ⟨⟨_,Tryz.func267,by kernel_rfl,by kernel_rfl⟩,rfl,fun x0=>p_book_State_ordered_1_v _ _⟩) H (.cons (.c (.id rfl)) (.cons (.c (.clo (.cons (.ptr rfl (Nat.le_of_ble_eq_true rfl) (.cons (.id rfl) (.cons (.id rfl) (.cons (.id rfl) (.cons (.id rfl) (.cons (.id rfl) (.cons (.id rfl) (.nil)))))))) (.nil)))) (.nil))) (fun v17 H=>?_);conv=>whnf
 refine tst_c H (fun b18 H=>?_) (fun b18 H=>?_)
 ·conv=>whnf
  obtain rfl := Option.some.inj H
  have H := HQ4
  try dsimp only at H
  exact fin0_c (enc := V.b) H (.inr rfl) (.cons (.tmp rfl) (.nil)) rfl rfl
 conv=>whnf
 refine Ari.w ?_;conv=>whnf
 exact again_c [3,4,9,10,11,12,13,14,15,16,17,18,19,20,21,22,23,24,25,26,27,28,29,30,31,32,33,34,35,36,37,38,39,40,41,42,43,44,45,5] n5 1 [] (⟨_,H,rfl,rfl⟩) (Nat.lt_succ_self _) (Nat.zero_le _) rfl (by kernel_rfl) (by kernel_rfl) rfl ⟨⟨rfl,rfl,rfl⟩,trivial⟩
end Go.Proofs.YthlhbgedidipkaaGreat
/- That the program's functions yield what the plain ones tell (written by a program of mine). -/
namespace Go.Proofs.YthlhbgedidipkaaGreat
open Go.RowKit
def gc155 : BCode := (.seq (.reg 1 [⟨(some 2),.bx (.tmp 0),none,0⟩,⟨(some 4),.mv (.const (.int .i64 0)),none,1⟩] none 0 []) (.seq (.reg 0 [⟨(some 5),.mv (.const (.int .i64 0)),none,0⟩] none 0 []) (.seq (.seq (.reg 0 [⟨(some 8),.fa 1 (.tmp 2),none,0⟩,⟨(some 9),.ld 1 false (.tmp 8),none,0⟩,⟨(some 10),.lens (.tmp 9),none,0⟩,⟨(some 11),.mv (.const (.int .i64 0)),none,0⟩] none 0 []) (.block 0 (.loop (.seq (.reg 0 [⟨(some 12),.bin .lss (.tmp 11) (.tmp 10),none,0⟩] none 0 []) (.seq (.cond (.tmp 12) .skip (.exit 0)) (.seq (.block 1 (.seq (.reg 1 [⟨(some 13),.ixs 6 (.tmp 9) (.tmp 11),none,0⟩,⟨(some 14),.ld 6 true (.tmp 13),none,0⟩,⟨(some 7),.al (.agg [(.lit (.string ⟨#[]⟩)),(.lit (.string ⟨#[]⟩)),(.lit (.bool false)),(.lit (.int .i64 0)),(.lit (.int .i64 0)),(.lit (.int .i64 0))]),none,0⟩,⟨none,.st 6 (.tmp 7) (.tmp 14),none,1⟩] none 0 []) (.seq (.reg 0 [⟨(some 15),.fa 0 (.tmp 7),none,0⟩,⟨(some 16),.ld 1 false (.tmp 15),none,0⟩,⟨(some 17),.mv (.tmp 1),none,0⟩,⟨(some 18),.bin .eql (.tmp 16) (.tmp 17),none,0⟩] none 0 []) (.cond (.tmp 18) (.reg 0 [⟨(some 19),.mv (.tmp 5),none,0⟩,⟨(some 20),.bin .add (.tmp 19) (.const (.int .i64 1)),none,0⟩,⟨(some 5),.mv (.tmp 20),none,0⟩] none 0 []) .skip)))) (.reg 0 [⟨(some 21),.bin .add (.tmp 11) (.const (.int .i64 1)),none,0⟩,⟨(some 11),.mv (.tmp 21),none,0⟩] none 0 []))))))) (.seq (.reg 0 [⟨(some 22),.mv (.tmp 5),none,0⟩,⟨(some 4),.mv (.tmp 22),none,0⟩] none 0 []) .ret))))
theorem gc155_ok : compF Tryz.prog Tryz.f155 = some (gc155.er,23,[.tmp 4]) := by unfold gc155;kernel_rfl
set_option maxRecDepth 100000 in
set_option maxHeartbeats 4000000 in
theorem p_book_State_many_v {u1 : Bool} (a0 : BookState) (a1 : ByteArray) : CallsO Tryz.prog 155 [.agg [.i a0.Seq,.sl (List.map BookRow.v a0.Rows) u1],.s a1] V.i (p_book_State_many a0 a1) := by
 refine callsO_comp mix Tryz.func155 gc155_ok fun r H=>?_
 rw [p_book_State_many] at H
 conv=>whnf
 refine LenQ.M ?_;conv=>whnf
 obtain ⟨o2,HL3,HQ4⟩ := bind_c H
 refine loop_c [5,11] [7,12,13,14,15,16,17,18,19,20,21,2,8] [7,12,13,14,15,16,17,18,19,20,21,2,8] (fun n vals st=>(∃ y6 y7,p_book_State_many_l1  a1 a0.Rows (a0.Rows.length : Int) n y6 y7 = some o2 ∧ vals = [.i y6,.i y7] ∧ st = [])) fuel 0 [] (⟨_,_,HL3,rfl,rfl⟩) (Nat.zero_le _) rfl (by kernel_rfl) (by kernel_rfl) rfl trivial ?_
 rintro (_ | n5) _ _ (⟨y6,y7,H,rfl,rfl⟩)
 ·rw [p_book_State_many_l1] at H;cases H
 rw [p_book_State_many_l1] at H
 conv=>whnf
 refine tst_d H (fun b8 H=>?_) (fun b8 H=>?_)
 ·conv=>whnf
  obtain rfl := Option.some.inj H
  have H := HQ4
  try dsimp only at H
  exact fin0_c (enc := V.i) H (.inr rfl) (.cons (.tmp rfl) (.nil)) rfl rfl
 conv=>whnf
 refine ixs_c (f := BookRow.v) H (fun _=>rfl) (fun x9 H=>?_);conv=>whnf
 refine ⟨Nat.le_of_ble_eq_true rfl,?_⟩;conv=>whnf
 refine tst_d H (fun b10 H=>?_) (fun b10 H=>?_)
 ·conv=>whnf
  refine Ari.w ?_;conv=>whnf
  exact again_c [7,12,13,14,15,16,17,18,19,20,21,2,8] n5 0 [] (⟨_,_,H,rfl,rfl⟩) (Nat.lt_succ_self _) (Nat.zero_le _) rfl (by kernel_rfl) (by kernel_rfl) rfl trivial
 conv=>whnf
 iterate 2 (refine Ari.w ?_;conv=>whnf)
 exact again_c [7,12,13,14,15,16,17,18,19,20,21,2,8] n5 0 [] (⟨_,_,H,rfl,rfl⟩) (Nat.lt_succ_self _) (Nat.zero_le _) rfl (by kernel_rfl) (by kernel_rfl) rfl trivial
def gc223 : BCode := (.seq (.reg 1 [⟨(some 2),.bx (.tmp 0),none,0⟩,⟨(some 3),.mv (.const (.bool false)),none,1⟩] none 0 []) (.seq (.reg 0 [⟨(some 4),.ld 2 true (.tmp 1),none,0⟩,⟨(some 5),.fa 0 (.tmp 2),none,0⟩,⟨(some 6),.ld 1 false (.tmp 5),none,0⟩,⟨(some 7),.cl 155 [(.tmp 4),(.tmp 6)],none,0⟩,⟨(some 8),.bin .gtr (.tmp 7) (.const (.int .i64 3)),none,0⟩,⟨(some 3),.mv (.tmp 8),none,0⟩] none 0 []) .ret))
theorem gc223_ok : compF Tryz.prog Tryz.f223 = some (gc223.er,9,[.tmp 3]) := by unfold gc223;kernel_rfl
set_option maxRecDepth 100000 in
set_option maxHeartbeats 4000000 in
theorem p_book_Check_2_v {u1 : Bool} (a0 : BookRow) (c0 : BookState) : CallsO Tryz.prog 223 [.agg [.s a0.User,.s a0.Res,.b a0.P.On,.i a0.P.Show,.i a0.P.Prio,.i a0.P.Seq],.eptr [.i c0.Seq,.sl (List.map BookRow.v c0.Rows) u1]] V.b (p_book_Check_2 a0 c0) := by
 refine callsO_comp mix Tryz.func223 gc223_ok fun r H=>?_
 rw [p_book_Check_2] at H
 conv=>whnf
 refine ask_c (p_book_State_many_v _ _) H rfl rfl (fun v1 H=>?_);conv=>whnf
 exact fin0_c (enc := V.b) H (.inr rfl) (.cons (.tmp rfl) (.nil)) rfl rfl
def gc152 : BCode := (.seq (.reg 1 [⟨(some 1),.bx (.tmp 0),none,0⟩,⟨(some 2),.mv (.const (.int .i64 0)),none,1⟩] none 0 []) (.seq (.block 0 (.seq (.reg 0 [⟨(some 5),.fa 1 (.tmp 1),none,0⟩,⟨(some 6),.ld 1 false (.tmp 5),none,0⟩,⟨(some 7),.lens (.tmp 6),none,0⟩,⟨(some 8),.bin .gtr (.tmp 7) (.const (.int .i64 16)),none,0⟩,⟨(some 4),.mv (.tmp 8),none,0⟩] none 0 []) (.cond (.tmp 4) (.seq (.reg 0 [⟨(some 2),.mv (.const (.int .i64 5)),none,0⟩] none 0 []) .ret) (.seq (.seq (.reg 0 [⟨(some 10),.fa 0 (.tmp 1),none,0⟩,⟨(some 11),.ld 1 false (.tmp 10),none,0⟩,⟨(some 12),.bin .lss (.tmp 11) (.const (.int .i64 0)),none,0⟩,⟨(some 9),.mv (.tmp 12),none,0⟩] none 0 []) (.cond (.tmp 9) .skip (.reg 0 [⟨(some 13),.fa 0 (.tmp 1),none,0⟩,⟨(some 14),.ld 1 false (.tmp 13),none,0⟩,⟨(some 15),.bin .gtr (.tmp 14) (.const (.int .i64 1099511627776)),none,0⟩,⟨(some 9),.mv (.tmp 15),none,0⟩] none 0 []))) (.cond (.tmp 9) (.seq (.reg 0 [⟨(some 2),.mv (.const (.int .i64 8)),none,0⟩] none 0 []) .ret) (.seq (.reg 0 [⟨(some 17),.fa 1 (.tmp 1),none,0⟩,⟨(some 18),.ld 1 false (.tmp 17),none,0⟩,⟨(some 19),.cl 219 [(.tmp 18),(.func 220)],none,0⟩,⟨(some 16),.mv (.tmp 19),none,0⟩] none 0 []) (.cond (.tmp 16) (.seq (.reg 0 [⟨(some 2),.mv (.const (.int .i64 11)),none,0⟩] none 0 []) .ret) .skip))))))) (.seq (.seq (.reg 0 [⟨(some 20),.ld 2 true (.tmp 1),none,0⟩,⟨(some 21),.cl 221 [(.tmp 20)],none,0⟩,⟨(some 3),.mv (.tmp 21),none,0⟩] none 0 []) (.seq (.reg 0 [⟨(some 22),.mv (.tmp 3),none,0⟩,⟨(some 23),.bin .neq (.tmp 22) (.const (.int .i64 0)),none,0⟩] none 0 []) (.cond (.tmp 23) (.seq (.reg 0 [⟨(some 24),.mv (.tmp 3),none,0⟩,⟨(some 2),.mv (.tmp 24),none,0⟩] none 0 []) .ret) .skip))) (.seq (.block 1 (.seq (.reg 0 [⟨(some 26),.ld 2 true (.tmp 1),none,0⟩,⟨(some 27),.cl 222 [(.tmp 26)],none,0⟩,⟨(some 28),.un .not (.tmp 27),none,0⟩,⟨(some 25),.mv (.tmp 28),none,0⟩] none 0 []) (.cond (.tmp 25) (.seq (.reg 0 [⟨(some 2),.mv (.const (.int .i64 10)),none,0⟩] none 0 []) .ret) (.seq (.reg 0 [⟨(some 30),.fa 1 (.tmp 1),none,0⟩,⟨(some 31),.ld 1 false (.tmp 30),none,0⟩,⟨(some 32),.mf (.func 223) [(.tmp 1)],none,0⟩,⟨(some 33),.cl 219 [(.tmp 31),(.tmp 32)],none,0⟩,⟨(some 29),.mv (.tmp 33),none,0⟩] none 0 [1]) (.cond (.tmp 29) (.seq (.reg 0 [⟨(some 2),.mv (.const (.int .i64 7)),none,0⟩] none 0 []) .ret) .skip))))) (.seq (.reg 0 [⟨(some 2),.mv (.const (.int .i64 0)),none,0⟩] none 0 []) .ret)))))
theorem gc152_ok : compF Tryz.prog Tryz.f152 = some (gc152.er,34,[.tmp 2]) := by unfold gc152;kernel_rfl
set_option maxRecDepth 100000 in
set_option maxHeartbeats 4000000 in
theorem p_book_Check_v {u1 : Bool} (a0 : BookState) : CallsO Tryz.prog 152 [.agg [.i a0.Seq,.sl (List.map BookRow.v a0.Rows) u1]] V.i (p_book_Check a0) := by
 refine callsO_comp mix Tryz.func152 gc152_ok fun r H=>?_
 rw [p_book_Check] at H
 conv=>whnf
 refine LenQ.M ?_;conv=>whnf
 refine tst_c H (fun b1 H=>?_) (fun b1 H=>?_)
 ·conv=>whnf
  exact fin0_c (enc := V.i) H (.inr rfl) (.cons (.tmp rfl) (.nil)) rfl rfl
 conv=>whnf
 refine tst_c H (fun b2 H=>?_) (fun b2 H=>?_)
 ·conv=>whnf
  refine Tst.T ?_;conv=>whnf
  exact fin0_c (enc := V.i) H (.inr rfl) (.cons (.tmp rfl) (.nil)) rfl rfl
 conv=>whnf
 refine tst_c H (fun b3 H=>?_) (fun b3 H=>?_)
 ·conv=>whnf
  exact fin0_c (enc := V.i) H (.inr rfl) (.cons (.tmp rfl) (.nil)) rfl rfl
 conv=>whnf
 refine askF_c (p_slices_ContainsFunc_book_Row_v _ _ ⟨⟨_,Tryz.func220,by kernel_rfl,by kernel_rfl⟩,rfl,fun x0=>p_book_Check_1_v _⟩) H (.cons (.c (.slw)) (.cons (.c (.clo (.nil))) (.nil))) (fun v4 H=>?_);conv=>whnf
 refine tst_c H (fun b5 H=>?_) (fun b5 H=>?_)
 ·conv=>whnf
  exact fin0_c (enc := V.i) H (.inr rfl) (.cons (.tmp rfl) (.nil)) rfl rfl
 conv=>whnf
 refine ask_c (p_book_State_errors_v _) H rfl rfl (fun v6 H=>?_);conv=>whnf
 refine tst_c H (fun b7 H=>?_) (fun b7 H=>?_)
 ·conv=>whnf
  exact fin0_c (enc := V.i) H (.inr rfl) (.cons (.tmp rfl) (.nil)) rfl rfl
 conv=>whnf
 refine ask_c (p_book_State_ordered_v _) H rfl rfl (fun v8 H=>?_);conv=>whnf
 refine Tst.not ?_
 refine tst_d H (fun b9 H=>?_) (fun b9 H=>?_)
 ·conv=>whnf
  exact fin0_c (enc := V.i) H (.inr rfl) (.cons (.tmp rfl) (.nil)) rfl rfl
 conv=>whnf
 refine ⟨Nat.zero_le _,?_⟩;conv=>whnf
 refine askF_c (p_slices_ContainsFunc_book_Row_v _ _ ⟨⟨_,Tryz.func223,by kernel_rfl,by kernel_rfl⟩,rfl,fun x0=>p_book_Check_2_v _ _⟩) H (.cons (.c (.slw)) (.cons (.c (.clo (.cons (.ptr rfl (Nat.le_of_ble_eq_true rfl) (.cons (.id rfl) (.cons (.id rfl) (.nil)))) (.nil)))) (.nil))) (fun v10 H=>?_);conv=>whnf
 refine tst_c H (fun b11 H=>?_) (fun b11 H=>?_)
 ·conv=>whnf
  exact fin0_c (enc := V.i) H (.inr rfl) (.cons (.tmp rfl) (.nil)) rfl rfl
 conv=>whnf
 exact fin0_c (enc := V.i) H (.inr rfl) (.cons (.tmp rfl) (.nil)) rfl rfl
def gc225 : BCode := (.seq (.reg 1 [⟨(some 2),.bx (.tmp 0),none,0⟩,⟨(some 4),.mv (.const (.int .i64 0)),none,1⟩] none 0 []) (.seq (.reg 0 [⟨(some 5),.ld 6 true (.tmp 2),none,0⟩,⟨(some 6),.cl 153 [(.tmp 5)],none,0⟩,⟨(some 7),.mv (.tmp 1),none,0⟩,⟨(some 8),.cl 183 [(.tmp 6),(.tmp 7)],none,0⟩,⟨(some 4),.mv (.tmp 8),none,0⟩] none 0 []) .ret))
theorem gc225_ok : compF Tryz.prog Tryz.f225 = some (gc225.er,9,[.tmp 4]) := by unfold gc225;kernel_rfl
set_option maxRecDepth 100000 in
set_option maxHeartbeats 4000000 in
theorem p_book_State_find_1_v (a0 : BookRow) (a1 : ByteArray) : CallsO Tryz.prog 225 [.agg [.s a0.User,.s a0.Res,.b a0.P.On,.i a0.P.Show,.i a0.P.Prio,.i a0.P.Seq],.s a1] V.i (p_book_State_find_1 a0 a1) := by
 refine callsO_comp mix Tryz.func225 gc225_ok fun r H=>?_
 rw [p_book_State_find_1] at H
 conv=>whnf
 refine ask_c (p_book_Row_key_v _) H rfl rfl (fun v1 H=>?_);conv=>whnf
 refine ask_c (p_strings_Compare_v _ _) H rfl rfl (fun v2 H=>?_);conv=>whnf
 exact fin0_c (enc := V.i) H (.inr rfl) (.cons (.tmp rfl) (.nil)) rfl rfl
def gc224 : BCode := (.seq (.reg 0 [⟨(some 6),.mv (.const (.int .i64 0)),none,0⟩,⟨(some 7),.mv (.const (.bool false)),none,0⟩] none 0 []) (.seq (.reg 0 [⟨(some 12),.mv (.tmp 0),none,0⟩,⟨(some 13),.lens (.tmp 12),none,0⟩,⟨(some 8),.mv (.tmp 13),none,0⟩] none 0 []) (.seq (.reg 0 [⟨(some 14),.mv (.tmp 8),none,0⟩,⟨(some 9),.mv (.const (.int .i64 0)),none,0⟩,⟨(some 10),.mv (.tmp 14),none,0⟩] none 0 []) (.seq (.block 0 (.loop (.seq (.seq (.reg 0 [⟨(some 15),.mv (.tmp 9),none,0⟩,⟨(some 16),.mv (.tmp 10),none,0⟩,⟨(some 17),.bin .lss (.tmp 15) (.tmp 16),none,0⟩] none 0 []) (.cond (.tmp 17) .skip (.exit 0))) (.block 1 (.seq (.reg 0 [⟨(some 18),.mv (.tmp 9),none,0⟩,⟨(some 19),.mv (.tmp 10),none,0⟩,⟨(some 20),.bin .add (.tmp 18) (.tmp 19),none,0⟩,⟨(some 21),.cvi .u64 (.tmp 20),none,0⟩,⟨(some 22),.bin .shr (.tmp 21) (.const (.int .u64 1)),none,0⟩,⟨(some 23),.cvi .i64 (.tmp 22),none,0⟩,⟨(some 11),.mv (.tmp 23),none,0⟩] none 0 []) (.seq (.reg 0 [⟨(some 24),.mv (.tmp 2),none,0⟩,⟨(some 25),.mv (.tmp 0),none,0⟩,⟨(some 26),.mv (.tmp 11),none,0⟩,⟨(some 27),.ixs 6 (.tmp 25) (.tmp 26),none,0⟩,⟨(some 28),.ld 6 true (.tmp 27),none,0⟩,⟨(some 29),.mv (.tmp 1),none,0⟩,⟨(some 30),.cv (.tmp 24) [(.tmp 28),(.tmp 29)],none,0⟩,⟨(some 31),.bin .lss (.tmp 30) (.const (.int .i64 0)),none,0⟩] none 0 []) (.cond (.tmp 31) (.reg 0 [⟨(some 32),.mv (.tmp 11),none,0⟩,⟨(some 33),.bin .add (.tmp 32) (.const (.int .i64 1)),none,0⟩,⟨(some 9),.mv (.tmp 33),none,0⟩] none 0 []) (.reg 0 [⟨(some 34),.mv (.tmp 11),none,0⟩,⟨(some 10),.mv (.tmp 34),none,0⟩] none 0 [])))))))) (.seq (.reg 0 [⟨(some 35),.mv (.tmp 9),none,0⟩,⟨(some 36),.mv (.tmp 9),none,0⟩,⟨(some 37),.mv (.tmp 8),none,0⟩,⟨(some 38),.bin .lss (.tmp 36) (.tmp 37),none,0⟩,⟨(some 39),.mv (.tmp 38),none,0⟩,⟨(some 40),.mv (.tmp 2),(some (39,true)),0⟩,⟨(some 41),.mv (.tmp 0),(some (39,true)),0⟩,⟨(some 42),.mv (.tmp 9),(some (39,true)),0⟩,⟨(some 43),.ixs 6 (.tmp 41) (.tmp 42),(some (39,true)),0⟩,⟨(some 44),.ld 6 true (.tmp 43),(some (39,true)),0⟩,⟨(some 45),.mv (.tmp 1),(some (39,true)),0⟩,⟨(some 46),.cv (.tmp 40) [(.tmp 44),(.tmp 45)],(some (39,true)),0⟩,⟨(some 47),.bin .eql (.tmp 46) (.const (.int .i64 0)),(some (39,true)),0⟩,⟨(some 48),.pick (.tmp 39) (.tmp 47) (.const (.bool false)),none,0⟩,⟨(some 6),.mv (.tmp 35),none,0⟩,⟨(some 7),.mv (.tmp 48),none,0⟩] none 0 []) .ret)))))
theorem gc224_ok : compF Tryz.prog Tryz.f224 = some (gc224.er,49,[.tmp 6,.tmp 7]) := by unfold gc224;kernel_rfl
set_option maxRecDepth 100000 in
set_option maxHeartbeats 4000000 in
theorem p_slices_BinarySearchFunc_book_Row_v {u1 : Bool} (a0 : List BookRow) (a1 : ByteArray) (a2 : BookRow → ByteArray → Option Int) {a2_g : Nat} {a2_k : List V} (a2_h : Clo2 Tryz.prog a2_g a2_k BookRow.v V.s V.i a2) : CallsO Tryz.prog 224 [.sl (List.map BookRow.v a0) u1,.s a1,.clo (.func a2_g) a2_k] (fun r : Int × Bool=>.tup [V.i r.1,V.b r.2]) (p_slices_BinarySearchFunc_book_Row a0 a1 a2) := by
 refine callsO_comp mix Tryz.func224 gc224_ok fun r H=>?_
 rw [p_slices_BinarySearchFunc_book_Row] at H
 conv=>whnf
 refine LenQ.M ?_;conv=>whnf
 obtain ⟨o2,HL3,HQ4⟩ := bind_c H
 refine loop_c [9,10] [11,15,16,17,18,19,20,21,22,23,24,25,26,27,28,29,30,31,32,33,34] [11,15,16,17,18,19,20,21,22,23,24,25,26,27,28,29,30,31,32,33,34] (fun n vals st=>(∃ y6 y7,p_slices_BinarySearchFunc_book_Row_l1  a2 a0 a1 n y6 y7 = some o2 ∧ vals = [.i y6,.i y7] ∧ st = [])) fuel 0 [] (⟨_,_,HL3,rfl,rfl⟩) (Nat.zero_le _) rfl (by simp only [maskF,setF,List.set_cons_zero,List.set_cons_succ,V.ren.renL,V.ren,renL_id _ a2_h.own] <;> rfl) (by simp only [maskF,setF,List.set_cons_zero,List.set_cons_succ,V.idlt.belowL,V.idlt,fun n=>idltL_up (n := n) _ a2_h.own] <;> rfl) rfl trivial ?_
 rintro (_ | n5) _ _ (⟨y6,y7,H,rfl,rfl⟩)
 ·rw [p_slices_BinarySearchFunc_book_Row_l1] at H;cases H
 rw [p_slices_BinarySearchFunc_book_Row_l1] at H
 conv=>whnf
 refine tst_d H (fun b8 H=>?_) (fun b8 H=>?_)
 ·conv=>whnf
  obtain rfl := Option.some.inj H
  have H := HQ4
  try dsimp only at H
  refine tst_d H (fun b12 H=>?_) (fun b12 H=>?_)
  ·conv=>whnf
   iterate 8 (refine Tst.F ?_;conv=>whnf)
   exact fin0_c (enc := (fun r : Int × Bool=>.tup [V.i r.1,V.b r.2])) H (.inr rfl) (.cons (.tmp rfl) (.cons (.tmp rfl) (.nil))) rfl rfl
  conv=>whnf
  iterate 3 (refine Tst.T ?_;conv=>whnf)
  refine ixs_c (f := BookRow.v) H (fun _=>rfl) (fun x13 H=>?_);conv=>whnf
  iterate 3 (refine Tst.T ?_;conv=>whnf)
  refine askC2_c a2_h H (.cons (fzagg (.cons (.id rfl) (.cons (.id rfl) (.cons (.id rfl) (.cons (.id rfl) (.cons (.id rfl) (.cons (.id rfl) (.nil))))))) rfl) (.cons (.c (.id rfl)) (.nil))) (fun v14 H=>?_);conv=>whnf
  iterate 2 (refine Tst.T ?_;conv=>whnf)
  exact fin0_c (enc := (fun r : Int × Bool=>.tup [V.i r.1,V.b r.2])) H (.inr rfl) (.cons (.tmp rfl) (.cons (.tmp rfl) (.nil))) rfl rfl
 conv=>whnf
 iterate 2 (refine Ari.w ?_;conv=>whnf)
 refine Shr.ok (by decide) ?_;conv=>whnf
 refine Ari.w ?_;conv=>whnf
 refine ixs_c (f := BookRow.v) H (fun _=>rfl) (fun x9 H=>?_);conv=>whnf
 refine askC2_c a2_h H (.cons (fzagg (.cons (.id rfl) (.cons (.id rfl) (.cons (.id rfl) (.cons (.id rfl) (.cons (.id rfl) (.cons (.id rfl) (.nil))))))) rfl) (.cons (.c (.id rfl)) (.nil))) (fun v10 H=>?_);conv=>whnf
 refine tst_d H (fun b11 H=>?_) (fun b11 H=>?_)
 ·conv=>whnf
  exact again_c [11,15,16,17,18,19,20,21,22,23,24,25,26,27,28,29,30,31,32,33,34] n5 0 [] (⟨_,_,H,rfl,rfl⟩) (Nat.lt_succ_self _) (Nat.zero_le _) rfl (by simp only [maskF,setF,List.set_cons_zero,List.set_cons_succ,V.ren.renL,V.ren,renL_id _ a2_h.own] <;> rfl) (by simp only [maskF,setF,List.set_cons_zero,List.set_cons_succ,V.idlt.belowL,V.idlt,fun n=>idltL_up (n := n) _ a2_h.own] <;> rfl) rfl trivial
 conv=>whnf
 refine Ari.w ?_;conv=>whnf
 exact again_c [11,15,16,17,18,19,20,21,22,23,24,25,26,27,28,29,30,31,32,33,34] n5 0 [] (⟨_,_,H,rfl,rfl⟩) (Nat.lt_succ_self _) (Nat.zero_le _) rfl (by simp only [maskF,setF,List.set_cons_zero,List.set_cons_succ,V.ren.renL,V.ren,renL_id _ a2_h.own] <;> rfl) (by simp only [maskF,setF,List.set_cons_zero,List.set_cons_succ,V.idlt.belowL,V.idlt,fun n=>idltL_up (n := n) _ a2_h.own] <;> rfl) rfl trivial
def gc154 : BCode := (.seq (.reg 1 [⟨(some 2),.bx (.tmp 0),none,0⟩,⟨(some 4),.mv (.const (.int .i64 0)),none,1⟩,⟨(some 5),.mv (.const (.bool false)),none,1⟩] none 0 []) (.seq (.reg 0 [⟨(some 6),.fa 1 (.tmp 2),none,0⟩,⟨(some 7),.ld 1 false (.tmp 6),none,0⟩,⟨(some 8),.mv (.tmp 1),none,0⟩,⟨(some 9),.cl 224 [(.tmp 7),(.tmp 8),(.func 225)],none,0⟩,⟨(some 10),.ex (.tmp 9) 0,none,0⟩,⟨(some 11),.ex (.tmp 9) 1,none,0⟩,⟨(some 4),.mv (.tmp 10),none,0⟩,⟨(some 5),.mv (.tmp 11),none,0⟩] none 0 []) .ret))
theorem gc154_ok : compF Tryz.prog Tryz.f154 = some (gc154.er,12,[.tmp 4,.tmp 5]) := by unfold gc154;kernel_rfl
set_option maxRecDepth 100000 in
set_option maxHeartbeats 4000000 in
theorem p_book_State_find_v {u1 : Bool} (a0 : BookState) (a1 : ByteArray) : CallsO Tryz.prog 154 [.agg [.i a0.Seq,.sl (List.map BookRow.v a0.Rows) u1],.s a1] (fun r : Int × Bool=>.tup [V.i r.1,V.b r.2]) (p_book_State_find a0 a1) := by
 refine callsO_comp mix Tryz.func154 gc154_ok fun r H=>?_
 rw [p_book_State_find] at H
 conv=>whnf
 refine askF_c (p_slices_BinarySearchFunc_book_Row_v _ _ _ ⟨⟨_,Tryz.func225,by kernel_rfl,by kernel_rfl⟩,rfl,fun x0 x1=>p_book_State_find_1_v _ _⟩) H (.cons (.c (.slw)) (.cons (.c (.id rfl)) (.cons (.c (.clo (.nil))) (.nil)))) (fun v1 H=>?_);conv=>whnf
 exact fin0_c (enc := (fun r : Int × Bool=>.tup [V.i r.1,V.b r.2])) H (.inr rfl) (.cons (.tmp rfl) (.cons (.tmp rfl) (.nil))) rfl rfl
def gc159 : BCode := (.seq (.reg 2 [⟨(some 2),.bx (.tmp 0),none,0⟩,⟨(some 4),.al (.agg [(.lit (.string ⟨#[]⟩)),(.lit (.string ⟨#[]⟩)),(.lit (.bool false)),(.lit (.int .i64 0)),(.lit (.int .i64 0)),(.lit (.int .i64 0))]),none,1⟩,⟨(some 5),.mv (.const (.bool false)),none,2⟩] none 0 []) (.seq (.seq (.reg 0 [⟨(some 8),.ld 2 true (.tmp 2),none,0⟩,⟨(some 9),.cl 152 [(.tmp 8)],none,0⟩,⟨(some 10),.bin .neq (.tmp 9) (.const (.int .i64 0)),none,0⟩] none 0 []) (.cond (.tmp 10) (.seq (.reg 0 [⟨(some 11),.bd [(.lit (.string ⟨#[]⟩)),(.lit (.string ⟨#[]⟩)),(.lit (.bool false)),(.lit (.int .i64 0)),(.lit (.int .i64 0)),(.lit (.int .i64 0))] [],none,0⟩,⟨none,.st 6 (.tmp 4) (.tmp 11),none,0⟩,⟨(some 5),.mv (.const (.bool false)),none,0⟩] none 0 []) .ret) .skip)) (.seq (.reg 0 [⟨(some 13),.ld 2 true (.tmp 2),none,0⟩,⟨(some 14),.mv (.tmp 1),none,0⟩,⟨(some 15),.cl 154 [(.tmp 13),(.tmp 14)],none,0⟩,⟨(some 12),.mv (.tmp 15),none,0⟩,⟨(some 16),.ex (.tmp 12) 0,none,0⟩,⟨(some 17),.ex (.tmp 12) 1,none,0⟩,⟨(some 6),.mv (.tmp 16),none,0⟩,⟨(some 7),.mv (.tmp 17),none,0⟩] none 0 []) (.seq (.seq (.reg 0 [⟨(some 18),.mv (.tmp 7),none,0⟩] none 0 []) (.cond (.tmp 18) (.reg 0 [⟨(some 19),.mv (.tmp 6),none,0⟩,⟨(some 20),.bin .add (.tmp 19) (.const (.int .i64 1)),none,0⟩,⟨(some 6),.mv (.tmp 20),none,0⟩] none 0 []) .skip)) (.seq (.seq (.reg 0 [⟨(some 21),.mv (.tmp 6),none,0⟩,⟨(some 22),.fa 1 (.tmp 2),none,0⟩,⟨(some 23),.ld 1 false (.tmp 22),none,0⟩,⟨(some 24),.lens (.tmp 23),none,0⟩,⟨(some 25),.bin .eql (.tmp 21) (.tmp 24),none,0⟩] none 0 []) (.cond (.tmp 25) (.seq (.reg 0 [⟨(some 26),.bd [(.lit (.string ⟨#[]⟩)),(.lit (.string ⟨#[]⟩)),(.lit (.bool false)),(.lit (.int .i64 0)),(.lit (.int .i64 0)),(.lit (.int .i64 0))] [],none,0⟩,⟨none,.st 6 (.tmp 4) (.tmp 26),none,0⟩,⟨(some 5),.mv (.const (.bool false)),none,0⟩] none 0 []) .ret) .skip)) (.seq (.reg 0 [⟨(some 27),.fa 1 (.tmp 2),none,0⟩,⟨(some 28),.ld 1 false (.tmp 27),none,0⟩,⟨(some 29),.mv (.tmp 6),none,0⟩,⟨(some 30),.ixs 6 (.tmp 28) (.tmp 29),none,0⟩,⟨(some 31),.ld 6 true (.tmp 30),none,0⟩,⟨none,.st 6 (.tmp 4) (.tmp 31),none,0⟩,⟨(some 5),.mv (.const (.bool true)),none,0⟩] none 0 []) .ret))))))
theorem gc159_ok : compF Tryz.prog Tryz.f159 = some (gc159.er,32,[.cell 4 6 true,.tmp 5]) := by unfold gc159;kernel_rfl
set_option maxRecDepth 100000 in
set_option maxHeartbeats 4000000 in
theorem p_book_Next_v {u1 : Bool} (a0 : BookState) (a1 : ByteArray) : CallsO Tryz.prog 159 [.agg [.i a0.Seq,.sl (List.map BookRow.v a0.Rows) u1],.s a1] (fun r : BookRow × Bool=>.tup [BookRow.v r.1,V.b r.2]) (p_book_Next a0 a1) := by
 refine callsO_comp mix Tryz.func159 gc159_ok fun r H=>?_
 rw [p_book_Next] at H
 conv=>whnf
 refine ask_c (p_book_Check_v _) H rfl rfl (fun v1 H=>?_);conv=>whnf
 refine tst_c H (fun b2 H=>?_) (fun b2 H=>?_)
 ·conv=>whnf
  refine ⟨Nat.le_of_ble_eq_true rfl,?_⟩;conv=>whnf
  exact fin0_c (enc := (fun r : BookRow × Bool=>.tup [BookRow.v r.1,V.b r.2])) H (.inr rfl) (.cons (.cell rfl rfl (Nat.le_of_ble_eq_true rfl)) (.cons (.tmp rfl) (.nil))) rfl rfl
 conv=>whnf
 refine ask_c (p_book_State_find_v _ _) H rfl rfl (fun v3 H=>?_);conv=>whnf
 refine tst_d H (fun b4 H=>?_) (fun b4 H=>?_)
 ·conv=>whnf
  refine LenQ.M ?_;conv=>whnf
  refine tst_c H (fun b7 H=>?_) (fun b7 H=>?_)
  ·conv=>whnf
   refine ⟨Nat.le_of_ble_eq_true rfl,?_⟩;conv=>whnf
   exact fin0_c (enc := (fun r : BookRow × Bool=>.tup [BookRow.v r.1,V.b r.2])) H (.inr rfl) (.cons (.cell rfl rfl (Nat.le_of_ble_eq_true rfl)) (.cons (.tmp rfl) (.nil))) rfl rfl
  conv=>whnf
  refine ixs_c (f := BookRow.v) H (fun _=>rfl) (fun x8 H=>?_);conv=>whnf
  refine ⟨Nat.le_of_ble_eq_true rfl,?_⟩;conv=>whnf
  exact fin0_c (enc := (fun r : BookRow × Bool=>.tup [BookRow.v r.1,V.b r.2])) H (.inr rfl) (.cons (.cell rfl rfl (Nat.le_of_ble_eq_true rfl)) (.cons (.tmp rfl) (.nil))) rfl rfl
 conv=>whnf
 refine Ari.w ?_;conv=>whnf
 refine LenQ.M ?_;conv=>whnf
 refine tst_c H (fun b5 H=>?_) (fun b5 H=>?_)
 ·conv=>whnf
  refine ⟨Nat.le_of_ble_eq_true rfl,?_⟩;conv=>whnf
  exact fin0_c (enc := (fun r : BookRow × Bool=>.tup [BookRow.v r.1,V.b r.2])) H (.inr rfl) (.cons (.cell rfl rfl (Nat.le_of_ble_eq_true rfl)) (.cons (.tmp rfl) (.nil))) rfl rfl
 conv=>whnf
 refine ixs_c (f := BookRow.v) H (fun _=>rfl) (fun x6 H=>?_);conv=>whnf
 refine ⟨Nat.le_of_ble_eq_true rfl,?_⟩;conv=>whnf
 exact fin0_c (enc := (fun r : BookRow × Bool=>.tup [BookRow.v r.1,V.b r.2])) H (.inr rfl) (.cons (.cell rfl rfl (Nat.le_of_ble_eq_true rfl)) (.cons (.tmp rfl) (.nil))) rfl rfl
def gc77 : BCode := (.seq (.reg 2 [⟨(some 5),.bx (.tmp 2),none,0⟩,⟨(some 6),.al (.agg [(.lit (.int .u8 0)),(.lit (.string ⟨#[]⟩)),(.lit (.string ⟨#[]⟩)),(.lit (.string ⟨#[]⟩)),(.lit (.int .i64 0)),(.lit (.int .i64 0)),(.lit (.int .i64 0)),(.lit (.int .i64 0))]),none,1⟩] none 0 []) (.seq (.seq (.reg 0 [⟨(some 8),.ld 4 true (.tmp 5),none,0⟩,⟨(some 9),.cl 148 [(.tmp 8)],none,0⟩,⟨(some 10),.bin .neq (.tmp 9) (.const (.int .i64 0)),none,0⟩,⟨(some 11),.mv (.tmp 10),none,0⟩,⟨(some 12),.mv (.tmp 0),(some (11,false)),0⟩,⟨(some 13),.mv (.tmp 1),(some (11,false)),0⟩,⟨(some 14),.cl 149 [(.tmp 12),(.tmp 13)],(some (11,false)),0⟩,⟨(some 15),.un .not (.tmp 14),(some (11,false)),0⟩,⟨(some 16),.pick (.tmp 11) (.const (.bool true)) (.tmp 15),none,0⟩] none 0 []) (.cond (.tmp 16) (.seq (.reg 0 [⟨(some 17),.bd [(.lit (.int .u8 0)),(.lit (.string ⟨#[]⟩)),(.lit (.string ⟨#[]⟩)),(.lit (.string ⟨#[]⟩)),(.lit (.int .i64 0)),(.lit (.int .i64 0)),(.lit (.int .i64 0)),(.lit (.int .i64 0))] [],none,0⟩,⟨none,.st 8 (.tmp 6) (.tmp 17),none,0⟩] none 0 []) .ret) .skip)) (.seq (.reg 1 [⟨(some 18),.mv (.tmp 0),none,0⟩,⟨(some 19),.mv (.tmp 1),none,0⟩,⟨(some 20),.fa 3 (.tmp 5),none,0⟩,⟨(some 21),.ld 1 false (.tmp 20),none,0⟩,⟨(some 22),.bd [(.lit (.int .u8 0)),(.lit (.string ⟨#[]⟩)),(.lit (.string ⟨#[]⟩)),(.lit (.string ⟨#[]⟩)),(.lit (.int .i64 0)),(.lit (.int .i64 0)),(.lit (.int .i64 0)),(.lit (.int .i64 0))] [(0,1,(.const (.int .u8 35))),(1,1,(.tmp 18)),(2,1,(.tmp 19)),(7,1,(.tmp 21))],none,0⟩,⟨(some 7),.al (.agg [(.lit (.int .u8 0)),(.lit (.string ⟨#[]⟩)),(.lit (.string ⟨#[]⟩)),(.lit (.string ⟨#[]⟩)),(.lit (.int .i64 0)),(.lit (.int .i64 0)),(.lit (.int .i64 0)),(.lit (.int .i64 0))]),none,0⟩,⟨none,.st 8 (.tmp 7) (.tmp 22),none,1⟩] none 0 []) (.seq (.seq (.reg 0 [⟨(some 23),.fa 0 (.tmp 5),none,0⟩,⟨(some 24),.ld 1 false (.tmp 23),none,0⟩] none 0 []) (.cond (.tmp 24) (.reg 0 [⟨(some 25),.fa 1 (.tmp 5),none,0⟩,⟨(some 26),.ld 1 false (.tmp 25),none,0⟩,⟨(some 27),.fa 2 (.tmp 5),none,0⟩,⟨(some 28),.ld 1 false (.tmp 27),none,0⟩,⟨(some 29),.fa 0 (.tmp 7),none,0⟩,⟨none,.st 1 (.tmp 29) (.const (.int .u8 34)),none,0⟩,⟨(some 30),.fa 4 (.tmp 7),none,0⟩,⟨none,.st 1 (.tmp 30) (.tmp 26),none,0⟩,⟨(some 31),.fa 5 (.tmp 7),none,0⟩,⟨none,.st 1 (.tmp 31) (.tmp 28),none,0⟩] (some [[],[0],[],[2],[],[4],[5,4,1,0],[0,1,4,5,6],[7,6,5,4,3,2,1,0],[0,1,2,3,4,5,6,7,8]]) 0 []) .skip)) (.seq (.reg 0 [⟨(some 32),.ld 8 true (.tmp 7),none,0⟩,⟨none,.st 8 (.tmp 6) (.tmp 32),none,0⟩] none 0 []) .ret)))))
theorem gc77_ok : compF Tryz.prog Tryz.f77 = some (gc77.er,33,[.cell 6 8 true]) := by unfold gc77;kernel_rfl
set_option maxRecDepth 100000 in
set_option maxHeartbeats 4000000 in
theorem p_pres_Say_v (a0 : ByteArray) (a1 : ByteArray) (a2 : PresPres) : CallsO Tryz.prog 77 [.s a0,.s a1,.agg [.b a2.On,.i a2.Show,.i a2.Prio,.i a2.Seq]] StanzaStanza.v (p_pres_Say a0 a1 a2) := by
 refine callsO_comp mix Tryz.func77 gc77_ok fun r H=>?_
 rw [p_pres_Say] at H
 conv=>whnf
 refine ask_c (p_pres_Check_v _) H rfl rfl (fun v1 H=>?_);conv=>whnf
 refine tst_c H (fun b2 H=>?_) (fun b2 H=>?_)
 ·conv=>whnf
  iterate 5 (refine Tst.T ?_;conv=>whnf)
  refine ⟨Nat.le_of_ble_eq_true rfl,?_⟩;conv=>whnf
  exact fin0_c (enc := StanzaStanza.v) H (.inr rfl) (.cons (.cell rfl rfl (Nat.le_of_ble_eq_true rfl)) (.nil)) rfl rfl
 conv=>whnf
 iterate 2 (refine Tst.F ?_;conv=>whnf)
 refine ask_c (p_pres_named_v _ _) H rfl rfl (fun v3 H=>?_);conv=>whnf
 iterate 2 (refine Tst.F ?_;conv=>whnf)
 refine Tst.not ?_
 refine tst_d H (fun b4 H=>?_) (fun b4 H=>?_)
 ·conv=>whnf
  refine ⟨Nat.le_of_ble_eq_true rfl,?_⟩;conv=>whnf
  exact fin0_c (enc := StanzaStanza.v) H (.inr rfl) (.cons (.cell rfl rfl (Nat.le_of_ble_eq_true rfl)) (.nil)) rfl rfl
 conv=>whnf
 refine ⟨Nat.le_of_ble_eq_true rfl,?_⟩;conv=>whnf
 refine tst_d H (fun b5 H=>?_) (fun b5 H=>?_)
 ·conv=>whnf
  refine ⟨Nat.le_of_ble_eq_true rfl,?_⟩;conv=>whnf
  exact fin0_c (enc := StanzaStanza.v) H (.inr rfl) (.cons (.cell rfl rfl (Nat.le_of_ble_eq_true rfl)) (.nil)) rfl rfl
 conv=>whnf
 refine ⟨Nat.le_of_ble_eq_true rfl,?_⟩;conv=>whnf
 refine ⟨Nat.le_of_ble_eq_true rfl,?_⟩;conv=>whnf
 refine ⟨Nat.le_of_ble_eq_true rfl,?_⟩;conv=>whnf
 refine FootQ.mk ⟨rfl,?_⟩;conv=>whnf
 refine ⟨Nat.le_of_ble_eq_true rfl,?_⟩;conv=>whnf
 exact fin0_c (enc := StanzaStanza.v) H (.inr rfl) (.cons (.cell rfl rfl (Nat.le_of_ble_eq_true rfl)) (.nil)) rfl rfl
end Go.Proofs.YthlhbgedidipkaaGreat
/- That the program's functions yield what the plain ones tell (written by a program of mine). -/
namespace Go.Proofs.YthlhbgedidipkaaGreat
open Go.RowKit
def gc156 : BCode := (.seq (.reg 0 [⟨(some 4),.mv (.const (.int .i64 0)),none,0⟩] none 0 []) (.seq (.seq (.reg 0 [⟨(some 6),.mv (.tmp 0),none,0⟩,⟨(some 7),.lens (.tmp 6),none,0⟩,⟨(some 8),.mv (.const (.int .i64 0)),none,0⟩] none 0 []) (.block 0 (.loop (.seq (.reg 0 [⟨(some 9),.bin .lss (.tmp 8) (.tmp 7),none,0⟩] none 0 []) (.seq (.cond (.tmp 9) .skip (.exit 0)) (.seq (.block 1 (.seq (.reg 0 [⟨(some 10),.mv (.tmp 8),none,0⟩,⟨(some 5),.mv (.tmp 10),none,0⟩] none 0 []) (.seq (.reg 0 [⟨(some 11),.mv (.tmp 1),none,0⟩,⟨(some 12),.mv (.tmp 0),none,0⟩,⟨(some 13),.mv (.tmp 5),none,0⟩,⟨(some 14),.ixs 1 (.tmp 12) (.tmp 13),none,0⟩,⟨(some 15),.ld 1 false (.tmp 14),none,0⟩,⟨(some 16),.bin .eql (.tmp 11) (.tmp 15),none,0⟩] none 0 []) (.cond (.tmp 16) (.seq (.reg 0 [⟨(some 17),.mv (.tmp 5),none,0⟩,⟨(some 4),.mv (.tmp 17),none,0⟩] none 0 []) .ret) .skip)))) (.reg 0 [⟨(some 18),.bin .add (.tmp 8) (.const (.int .i64 1)),none,0⟩,⟨(some 8),.mv (.tmp 18),none,0⟩] none 0 []))))))) (.seq (.reg 0 [⟨(some 4),.mv (.const (.int .i64 (-1))),none,0⟩] none 0 []) .ret)))
theorem gc156_ok : compF Tryz.prog Tryz.f156 = some (gc156.er,19,[.tmp 4]) := by unfold gc156;kernel_rfl
set_option maxRecDepth 100000 in
set_option maxHeartbeats 4000000 in
theorem p_slices_Index_string_v {u1 : Bool} (a0 : List ByteArray) (a1 : ByteArray) : CallsO Tryz.prog 156 [.sl (List.map V.s a0) u1,.s a1] V.i (p_slices_Index_string a0 a1) := by
 refine callsO_comp mix Tryz.func156 gc156_ok fun r H=>?_
 rw [p_slices_Index_string] at H
 conv=>whnf
 refine LenQ.M ?_;conv=>whnf
 obtain ⟨o2,HL3,HQ4⟩ := bind_c H
 refine loop_c [4,8] [5,9,10,11,12,13,14,15,16,17,18] [5,9,10,11,12,13,14,15,16,17,18] (fun n vals st=>(∃ y6,p_slices_Index_string_l1  a0 a1 (a0.length : Int) n y6 = some o2 ∧ vals = [.i (0 : Int),.i y6] ∧ st = [])) fuel 0 [] (⟨_,HL3,rfl,rfl⟩) (Nat.zero_le _) rfl (by kernel_rfl) (by kernel_rfl) rfl trivial ?_
 rintro (_ | n5) _ _ (⟨y6,H,rfl,rfl⟩)
 ·rw [p_slices_Index_string_l1] at H;cases H
 rw [p_slices_Index_string_l1] at H
 conv=>whnf
 refine tst_d H (fun b7 H=>?_) (fun b7 H=>?_)
 ·conv=>whnf
  obtain rfl := Option.some.inj H
  have H := HQ4
  try dsimp only at H
  exact fin0_c (enc := V.i) H (.inr rfl) (.cons (.tmp rfl) (.nil)) rfl rfl
 conv=>whnf
 refine ixs_c (f := V.s) H (fun _=>rfl) (fun x8 H=>?_);conv=>whnf
 refine tst_c H (fun b9 H=>?_) (fun b9 H=>?_)
 ·conv=>whnf
  obtain rfl := Option.some.inj H
  have H := HQ4
  try dsimp only at H
  exact fin0_c (enc := V.i) H (.inr rfl) (.cons (.tmp rfl) (.nil)) rfl rfl
 conv=>whnf
 refine Ari.w ?_;conv=>whnf
 exact again_c [5,9,10,11,12,13,14,15,16,17,18] n5 0 [] (⟨_,H,rfl,rfl⟩) (Nat.lt_succ_self _) (Nat.zero_le _) rfl (by kernel_rfl) (by kernel_rfl) rfl trivial
def gc84 : BCode := (.seq (.reg 0 [⟨(some 4),.mv (.const (.bool false)),none,0⟩] none 0 []) (.seq (.reg 0 [⟨(some 5),.mv (.tmp 0),none,0⟩,⟨(some 6),.mv (.tmp 1),none,0⟩,⟨(some 7),.cl 156 [(.tmp 5),(.tmp 6)],none,0⟩,⟨(some 8),.bin .geq (.tmp 7) (.const (.int .i64 0)),none,0⟩,⟨(some 4),.mv (.tmp 8),none,0⟩] none 0 []) .ret))
theorem gc84_ok : compF Tryz.prog Tryz.f84 = some (gc84.er,9,[.tmp 4]) := by unfold gc84;kernel_rfl
set_option maxRecDepth 100000 in
set_option maxHeartbeats 4000000 in
theorem p_slices_Contains_string_v {u1 : Bool} (a0 : List ByteArray) (a1 : ByteArray) : CallsO Tryz.prog 84 [.sl (List.map V.s a0) u1,.s a1] V.b (p_slices_Contains_string a0 a1) := by
 refine callsO_comp mix Tryz.func84 gc84_ok fun r H=>?_
 rw [p_slices_Contains_string] at H
 conv=>whnf
 refine ask_c (p_slices_Index_string_v _ _) H rfl rfl (fun v1 H=>?_);conv=>whnf
 exact fin0_c (enc := V.b) H (.inr rfl) (.cons (.tmp rfl) (.nil)) rfl rfl
def gc15 : BCode := (.seq (.reg 2 [⟨(some 2),.bx (.tmp 0),none,0⟩,⟨(some 3),.bx (.tmp 1),none,1⟩,⟨(some 4),.mv (.const (.bool false)),none,2⟩] none 0 []) (.seq (.reg 0 [⟨(some 5),.fa 0 (.tmp 2),none,0⟩,⟨(some 6),.ld 1 false (.tmp 5),none,0⟩,⟨(some 7),.fa 0 (.tmp 3),none,0⟩,⟨(some 8),.ld 1 false (.tmp 7),none,0⟩,⟨(some 9),.cl 84 [(.tmp 6),(.tmp 8)],none,0⟩,⟨(some 10),.mv (.tmp 9),none,0⟩,⟨(some 11),.fa 1 (.tmp 2),(some (10,false)),0⟩,⟨(some 12),.ld 1 false (.tmp 11),(some (10,false)),0⟩,⟨(some 13),.fa 0 (.tmp 3),(some (10,false)),0⟩,⟨(some 14),.ld 1 false (.tmp 13),(some (10,false)),0⟩,⟨(some 15),.fa 1 (.tmp 3),(some (10,false)),0⟩,⟨(some 16),.ld 1 false (.tmp 15),(some (10,false)),0⟩,⟨(some 17),.cl 85 [(.tmp 14),(.tmp 16)],(some (10,false)),0⟩,⟨(some 18),.cl 84 [(.tmp 12),(.tmp 17)],(some (10,false)),0⟩,⟨(some 19),.pick (.tmp 10) (.const (.bool true)) (.tmp 18),none,0⟩,⟨(some 4),.mv (.tmp 19),none,0⟩] (some [[],[0],[],[2],[2,3,0,1],[1,0,3,2,4],[4,2,3,0,1,5],[5,1,0,3,2,4,6],[4,2,3,0,1,5],[5,1,0,3,2,4,8],[4,2,3,0,1,5],[5,1,0,3,2,4,10],[10,11,8,4,2,3,0,1,5,9],[9,8,11,10,12,6,4,2,3,0,1,5,7],[7,6,12,10,11,8,9,13,4,2,3,0,1,5],[5,1,0,3,2,4,13,9,8,11,10,12,6,7,14]]) 0 []) .ret))
theorem gc15_ok : compF Tryz.prog Tryz.f15 = some (gc15.er,20,[.tmp 4]) := by unfold gc15;kernel_rfl
set_option maxRecDepth 100000 in
set_option maxHeartbeats 4000000 in
theorem p_snap_Sees_v {u1 u2 : Bool} (a0 : SnapEyes) (a1 : BookRow) : CallsO Tryz.prog 15 [.agg [.sl (List.map V.s a0.Users) u1,.sl (List.map V.s a0.Keys) u2],.agg [.s a1.User,.s a1.Res,.b a1.P.On,.i a1.P.Show,.i a1.P.Prio,.i a1.P.Seq]] V.b (p_snap_Sees a0 a1) := by
 refine callsO_comp mix Tryz.func15 gc15_ok fun r H=>?_
 rw [p_snap_Sees] at H
 conv=>whnf
 refine ask_c (p_slices_Contains_string_v _ _) H rfl rfl (fun v1 H=>?_);conv=>whnf
 refine tst_c H (fun b2 H=>?_) (fun b2 H=>?_)
 ·conv=>whnf
  iterate 8 (refine Tst.T ?_;conv=>whnf)
  refine FootQ.mk ⟨rfl,?_⟩;conv=>whnf
  exact fin0_c (enc := V.b) H (.inr rfl) (.cons (.tmp rfl) (.nil)) rfl rfl
 conv=>whnf
 iterate 6 (refine Tst.F ?_;conv=>whnf)
 refine ask_c (p_pres_Key_v _ _) H rfl rfl (fun v3 H=>?_);conv=>whnf
 refine Tst.F ?_;conv=>whnf
 refine ask_c (p_slices_Contains_string_v _ _) H rfl rfl (fun v4 H=>?_);conv=>whnf
 refine Tst.F ?_;conv=>whnf
 refine FootQ.mk ⟨rfl,?_⟩;conv=>whnf
 exact fin0_c (enc := V.b) H (.inr rfl) (.cons (.tmp rfl) (.nil)) rfl rfl
def gc83 : BCode := (.seq (.reg 1 [⟨(some 1),.bx (.tmp 0),none,0⟩,⟨(some 2),.mv (.const (.int .i64 0)),none,1⟩] none 0 []) (.seq (.reg 1 [⟨(some 4),.ld 4 true (.tmp 1),none,0⟩,⟨(some 3),.al (.agg [(.lit (.bool false)),(.lit (.bool false)),(.lit (.string ⟨#[]⟩)),(.lit (.int .i64 0))]),none,0⟩,⟨none,.st 4 (.tmp 3) (.tmp 4),none,1⟩] none 0 []) (.seq (.seq (.reg 0 [⟨(some 5),.fa 0 (.tmp 3),none,0⟩,⟨(some 6),.ld 1 false (.tmp 5),none,0⟩] none 0 []) (.cond (.tmp 6) (.reg 0 [⟨(some 7),.fa 2 (.tmp 1),none,0⟩,⟨(some 8),.ld 1 false (.tmp 7),none,0⟩,⟨(some 9),.fa 3 (.tmp 1),none,0⟩,⟨(some 10),.ld 1 false (.tmp 9),none,0⟩,⟨(some 11),.bd [(.lit (.bool false)),(.lit (.bool false)),(.lit (.string ⟨#[]⟩)),(.lit (.int .i64 0))] [(2,1,(.tmp 8)),(3,1,(.tmp 10))],none,0⟩,⟨none,.st 4 (.tmp 3) (.tmp 11),none,0⟩] none 0 []) .skip)) (.seq (.seq (.reg 0 [⟨(some 12),.fa 1 (.tmp 1),none,0⟩,⟨(some 13),.ld 1 false (.tmp 12),none,0⟩,⟨(some 14),.mv (.tmp 13),none,0⟩,⟨(some 15),.fa 0 (.tmp 1),(some (14,true)),0⟩,⟨(some 16),.ld 1 false (.tmp 15),(some (14,true)),0⟩,⟨(some 17),.pick (.tmp 14) (.tmp 16) (.const (.bool false)),none,0⟩] none 0 []) (.cond (.tmp 17) (.reg 0 [⟨(some 18),.bd [(.lit (.bool false)),(.lit (.bool false)),(.lit (.string ⟨#[]⟩)),(.lit (.int .i64 0))] [],none,0⟩,⟨none,.st 4 (.tmp 3) (.tmp 18),none,0⟩] none 0 []) .skip)) (.seq (.seq (.reg 0 [⟨(some 19),.ld 4 true (.tmp 3),none,0⟩,⟨(some 20),.bd [(.lit (.bool false)),(.lit (.bool false)),(.lit (.string ⟨#[]⟩)),(.lit (.int .i64 0))] [],none,0⟩,⟨(some 21),.eqa true [0,0,2,1] (.tmp 19) (.tmp 20),none,0⟩] none 0 []) (.cond (.tmp 21) (.seq (.reg 0 [⟨(some 2),.mv (.const (.int .i64 4)),none,0⟩] none 0 []) .ret) .skip)) (.seq (.seq (.reg 0 [⟨(some 22),.fa 3 (.tmp 1),none,0⟩,⟨(some 23),.ld 1 false (.tmp 22),none,0⟩,⟨(some 24),.bin .lss (.tmp 23) (.const (.int .i64 0)),none,0⟩,⟨(some 25),.mv (.tmp 24),none,0⟩,⟨(some 26),.fa 3 (.tmp 1),(some (25,false)),0⟩,⟨(some 27),.ld 1 false (.tmp 26),(some (25,false)),0⟩,⟨(some 28),.bin .gtr (.tmp 27) (.const (.int .i64 1099511627776)),(some (25,false)),0⟩,⟨(some 29),.pick (.tmp 25) (.const (.bool true)) (.tmp 28),none,0⟩] none 0 []) (.cond (.tmp 29) (.seq (.reg 0 [⟨(some 2),.mv (.const (.int .i64 8)),none,0⟩] none 0 []) .ret) .skip)) (.seq (.reg 0 [⟨(some 2),.mv (.const (.int .i64 0)),none,0⟩] none 0 []) .ret)))))))
theorem gc83_ok : compF Tryz.prog Tryz.f83 = some (gc83.er,30,[.tmp 2]) := by unfold gc83;kernel_rfl
set_option maxRecDepth 100000 in
set_option maxHeartbeats 4000000 in
theorem p_snap_Check_v (a0 : SnapState) : CallsO Tryz.prog 83 [.agg [.b a0.On,.b a0.Begun,.s a0.After,.i a0.Told]] V.i (p_snap_Check a0) := by
 refine callsO_comp mix Tryz.func83 gc83_ok fun r H=>?_
 rw [p_snap_Check] at H
 conv=>whnf
 refine ⟨Nat.le_of_ble_eq_true rfl,?_⟩;conv=>whnf
 refine tst_d H (fun b1 H=>?_) (fun b1 H=>?_)
 ·conv=>whnf
  refine tst_d H (fun b9 H=>?_) (fun b9 H=>?_)
  ·conv=>whnf
   iterate 3 (refine Tst.F ?_;conv=>whnf)
   refine Tst.not ?_
   refine tst_d H (fun b13 H=>?_) (fun b13 H=>?_)
   ·conv=>whnf
    exact fin0_c (enc := V.i) H (.inr rfl) (.cons (.tmp rfl) (.nil)) rfl rfl
   conv=>whnf
   refine tst_c H (fun b14 H=>?_) (fun b14 H=>?_)
   ·conv=>whnf
    iterate 4 (refine Tst.T ?_;conv=>whnf)
    exact fin0_c (enc := V.i) H (.inr rfl) (.cons (.tmp rfl) (.nil)) rfl rfl
   conv=>whnf
   iterate 3 (refine Tst.F ?_;conv=>whnf)
   refine tst_c H (fun b15 H=>?_) (fun b15 H=>?_)
   ·conv=>whnf
    exact fin0_c (enc := V.i) H (.inr rfl) (.cons (.tmp rfl) (.nil)) rfl rfl
   conv=>whnf
   exact fin0_c (enc := V.i) H (.inr rfl) (.cons (.tmp rfl) (.nil)) rfl rfl
  conv=>whnf
  iterate 2 (refine Tst.T ?_;conv=>whnf)
  refine Tst.isF b1 ?_;conv=>whnf
  refine Tst.not ?_
  refine tst_d H (fun b10 H=>?_) (fun b10 H=>?_)
  ·conv=>whnf
   exact fin0_c (enc := V.i) H (.inr rfl) (.cons (.tmp rfl) (.nil)) rfl rfl
  conv=>whnf
  refine tst_c H (fun b11 H=>?_) (fun b11 H=>?_)
  ·conv=>whnf
   iterate 4 (refine Tst.T ?_;conv=>whnf)
   exact fin0_c (enc := V.i) H (.inr rfl) (.cons (.tmp rfl) (.nil)) rfl rfl
  conv=>whnf
  iterate 3 (refine Tst.F ?_;conv=>whnf)
  refine tst_c H (fun b12 H=>?_) (fun b12 H=>?_)
  ·conv=>whnf
   exact fin0_c (enc := V.i) H (.inr rfl) (.cons (.tmp rfl) (.nil)) rfl rfl
  conv=>whnf
  exact fin0_c (enc := V.i) H (.inr rfl) (.cons (.tmp rfl) (.nil)) rfl rfl
 conv=>whnf
 refine ⟨Nat.le_of_ble_eq_true rfl,?_⟩;conv=>whnf
 refine tst_d H (fun b2 H=>?_) (fun b2 H=>?_)
 ·conv=>whnf
  iterate 3 (refine Tst.F ?_;conv=>whnf)
  refine Tst.not ?_
  refine tst_d H (fun b6 H=>?_) (fun b6 H=>?_)
  ·conv=>whnf
   exact fin0_c (enc := V.i) H (.inr rfl) (.cons (.tmp rfl) (.nil)) rfl rfl
  conv=>whnf
  refine tst_c H (fun b7 H=>?_) (fun b7 H=>?_)
  ·conv=>whnf
   iterate 4 (refine Tst.T ?_;conv=>whnf)
   exact fin0_c (enc := V.i) H (.inr rfl) (.cons (.tmp rfl) (.nil)) rfl rfl
  conv=>whnf
  iterate 3 (refine Tst.F ?_;conv=>whnf)
  refine tst_c H (fun b8 H=>?_) (fun b8 H=>?_)
  ·conv=>whnf
   exact fin0_c (enc := V.i) H (.inr rfl) (.cons (.tmp rfl) (.nil)) rfl rfl
  conv=>whnf
  exact fin0_c (enc := V.i) H (.inr rfl) (.cons (.tmp rfl) (.nil)) rfl rfl
 conv=>whnf
 iterate 2 (refine Tst.T ?_;conv=>whnf)
 refine Tst.isT b1 ?_;conv=>whnf
 refine ⟨Nat.le_of_ble_eq_true rfl,?_⟩;conv=>whnf
 refine Tst.not ?_
 refine tst_d H (fun b3 H=>?_) (fun b3 H=>?_)
 ·conv=>whnf
  exact fin0_c (enc := V.i) H (.inr rfl) (.cons (.tmp rfl) (.nil)) rfl rfl
 conv=>whnf
 refine tst_c H (fun b4 H=>?_) (fun b4 H=>?_)
 ·conv=>whnf
  iterate 4 (refine Tst.T ?_;conv=>whnf)
  exact fin0_c (enc := V.i) H (.inr rfl) (.cons (.tmp rfl) (.nil)) rfl rfl
 conv=>whnf
 iterate 3 (refine Tst.F ?_;conv=>whnf)
 refine tst_c H (fun b5 H=>?_) (fun b5 H=>?_)
 ·conv=>whnf
  exact fin0_c (enc := V.i) H (.inr rfl) (.cons (.tmp rfl) (.nil)) rfl rfl
 conv=>whnf
 exact fin0_c (enc := V.i) H (.inr rfl) (.cons (.tmp rfl) (.nil)) rfl rfl
def gc82 : BCode := (.seq (.reg 1 [⟨(some 2),.bx (.tmp 0),none,0⟩,⟨(some 4),.mv (.const (.bool false)),none,1⟩] none 0 []) (.seq (.seq (.reg 0 [⟨(some 5),.fa 0 (.tmp 2),none,0⟩,⟨(some 6),.ld 1 false (.tmp 5),none,0⟩,⟨(some 7),.un .not (.tmp 6),none,0⟩] none 0 []) (.cond (.tmp 7) (.seq (.reg 0 [⟨(some 4),.mv (.const (.bool false)),none,0⟩] none 0 []) .ret) .skip)) (.seq (.reg 0 [⟨(some 8),.fa 1 (.tmp 2),none,0⟩,⟨(some 9),.ld 1 false (.tmp 8),none,0⟩,⟨(some 10),.un .not (.tmp 9),none,0⟩,⟨(some 11),.mv (.tmp 10),none,0⟩,⟨(some 12),.fa 2 (.tmp 2),(some (11,false)),0⟩,⟨(some 13),.ld 1 false (.tmp 12),(some (11,false)),0⟩,⟨(some 14),.mv (.tmp 1),(some (11,false)),0⟩,⟨(some 15),.bin .lss (.tmp 13) (.tmp 14),(some (11,false)),0⟩,⟨(some 16),.pick (.tmp 11) (.const (.bool true)) (.tmp 15),none,0⟩,⟨(some 4),.mv (.tmp 16),none,0⟩] none 0 []) .ret)))
theorem gc82_ok : compF Tryz.prog Tryz.f82 = some (gc82.er,17,[.tmp 4]) := by unfold gc82;kernel_rfl
set_option maxRecDepth 100000 in
set_option maxHeartbeats 4000000 in
theorem p_snap_Covers_v (a0 : SnapState) (a1 : ByteArray) : CallsO Tryz.prog 82 [.agg [.b a0.On,.b a0.Begun,.s a0.After,.i a0.Told],.s a1] V.b (p_snap_Covers a0 a1) := by
 refine callsO_comp mix Tryz.func82 gc82_ok fun r H=>?_
 rw [p_snap_Covers] at H
 conv=>whnf
 refine Tst.not ?_
 refine tst_d H (fun b1 H=>?_) (fun b1 H=>?_)
 ·conv=>whnf
  exact fin0_c (enc := V.b) H (.inr rfl) (.cons (.tmp rfl) (.nil)) rfl rfl
 conv=>whnf
 refine Tst.not ?_
 refine tst_c H (fun b2 H=>?_) (fun b2 H=>?_)
 ·conv=>whnf
  iterate 4 (refine Tst.F ?_;conv=>whnf)
  exact fin0_c (enc := V.b) H (.inr rfl) (.cons (.tmp rfl) (.nil)) rfl rfl
 conv=>whnf
 iterate 4 (refine Tst.T ?_;conv=>whnf)
 exact fin0_c (enc := V.b) H (.inr rfl) (.cons (.tmp rfl) (.nil)) rfl rfl
def gc81 : BCode := (.seq (.reg 1 [⟨(some 0),.al (.agg [(.lit (.bool false)),(.lit (.bool false)),(.lit (.string ⟨#[]⟩)),(.lit (.int .i64 0))]),none,0⟩] none 0 []) (.seq (.reg 0 [⟨(some 1),.bd [(.lit (.bool false)),(.lit (.bool false)),(.lit (.string ⟨#[]⟩)),(.lit (.int .i64 0))] [(0,1,(.const (.bool true)))],none,0⟩,⟨none,.st 4 (.tmp 0) (.tmp 1),none,0⟩] none 0 []) .ret))
theorem gc81_ok : compF Tryz.prog Tryz.f81 = some (gc81.er,2,[.cell 0 4 true]) := by unfold gc81;kernel_rfl
set_option maxRecDepth 100000 in
set_option maxHeartbeats 4000000 in
theorem p_snap_Begin_v : CallsO Tryz.prog 81 [] SnapState.v (p_snap_Begin) := by
 refine callsO_comp mix Tryz.func81 gc81_ok fun r H=>?_
 rw [p_snap_Begin] at H
 conv=>whnf
 refine ⟨Nat.le_of_ble_eq_true rfl,?_⟩;conv=>whnf
 exact fin0_c (enc := SnapState.v) H (.inr rfl) (.cons (.cell rfl rfl (Nat.le_of_ble_eq_true rfl)) (.nil)) rfl rfl
end Go.Proofs.YthlhbgedidipkaaGreat
/- Nothing more. -/
/- snap.View, given what its iterator hands over (wants the unit Tv: rng.py N A <snap.View> Tv). -/
namespace Go.Proofs.YthlhbgedidipkaaGreat
open Go.RowKit
def dv19 (c : Code) : BCode := (.seq (.reg 2 [⟨(some 2), .bx (.tmp 0), none, 0⟩, ⟨(some 3), .bx (.tmp 1), none, 1⟩, ⟨(some 4), .mv (.const (.slice none 0 0)), none, 2⟩] none 0 []) (.seq (.reg 1 [⟨(some 5), .al (.sl [] true), none, 0⟩] none 0 []) (.seq (.seq (.reg 0 [⟨(some 8), .ld 2 true (.tmp 2), none, 0⟩, ⟨(some 9), .ld 2 true (.tmp 3), none, 0⟩, ⟨(some 10), .cl 88 [(.tmp 8), (.tmp 9), (.const (.string ⟨#[]⟩))], none, 0⟩] none 3 []) (.block 0 (.raw c))) (.seq (.reg 0 [⟨(some 17), .ld 1 false (.tmp 5), none, 0⟩, ⟨(some 4), .mv (.tmp 17), none, 0⟩] none 0 []) .ret))))
theorem dv19_ok : compF Tryz.prog Tryz.f19 = some ((dv19 (rangeAt Tryz.f19 0)).er, 18, [.tmp 4]) := by unfold dv19; kernel_rfl
def aenS (x : ItmS) : List V := [.s x.1, x.2.v]
theorem haenS (z : ItmS) (m : Mem) (bk : Bks) : RepL m bk (encS z) (aenS z) := by
  have hrow : Rep m bk (.agg #[.string z.2.User, .string z.2.Res, .bool z.2.P.On, .int .i64 z.2.P.Show, .int .i64 z.2.P.Prio, .int .i64 z.2.P.Seq]) z.2.v := by
    refine .agg rfl (fun v hv => ?_) fun i g1 g2 => ?_
    · simp at hv
      rcases hv with rfl | rfl | rfl | rfl | rfl | rfl <;> rfl
    · have hi : i = 0 ∨ i = 1 ∨ i = 2 ∨ i = 3 ∨ i = 4 ∨ i = 5 := by simp at g1; omega
      rcases hi with rfl | rfl | rfl | rfl | rfl | rfl <;> exact .lit rfl
  refine ⟨rfl, fun j h1 h2 => ?_⟩
  have hj : j = 0 ∨ j = 1 := by simp [encS] at h1; omega
  rcases hj with rfl | rfl
  · exact .lit rfl
  · exact hrow
set_option maxRecDepth 100000 in
set_option maxHeartbeats 4000000 in
theorem view_of (e : SnapEyes) (b : BookState) (xs : List ItmS) (hn : xs.length ≤ 1000000)
    (hit : ∀ st : List Slot, st[3]? = some (.live [.i b.Seq, .sl (List.map BookRow.v b.Rows) false] 2) → st[4]? = some (.live [.s ⟨#[]⟩] 0) → st[5]? = some (.live [.sl (List.map V.s e.Users) false, .sl (List.map V.s e.Keys) false] 2) → ItS Tryz.prog 158 [.ptr 3 0, .ptr 4 0, .ptr 5 0] st 4 encS xs) :
    CallsO Tryz.prog 19 [e.v, b.v] (fun l : List BookRow => V.sl (l.map BookRow.v) false) (some (xs.map (·.2))) := by
  refine callsO_comp mix Tryz.func19 dv19_ok fun r H => ?_
  conv => whnf
  refine Ask_S (rowsS rfl rfl rfl e b ⟨#[]⟩) rfl ?_; conv => whnf
  rw [rg19]
  refine range_c (α := ItmS) mix da19_ok db19_ok fl19.1 fl19.2 sc19.1 sc19.2 (enters_of Tryz.func158 (by kernel_rfl) rfl) rfl (hit _ rfl rfl rfl) haenS (fun _ => rfl)
    (fun pre st1 => ∃ s : ByteArray, (pre = [] ∧ st1 = [Slot.live [V.sl (List.map V.s e.Users) false, V.sl (List.map V.s e.Keys) false] 0, Slot.live [V.i b.Seq, V.sl (List.map BookRow.v b.Rows) false] 0, Slot.live [V.sl (List.map BookRow.v []) true] 0, Slot.live [V.i b.Seq, V.sl (List.map BookRow.v b.Rows) false] 2, Slot.live [V.s s] 0, Slot.live [V.sl (List.map V.s e.Users) false, V.sl (List.map V.s e.Keys) false] 2]) ∨
      (pre ≠ [] ∧ st1 = [Slot.live [V.sl (List.map V.s e.Users) false, V.sl (List.map V.s e.Keys) false] 0, Slot.live [V.i b.Seq, V.sl (List.map BookRow.v b.Rows) false] 0, Slot.live [V.osl 6 0 (pre.map (·.2)).length 6 false] 0, Slot.live [V.i b.Seq, V.sl (List.map BookRow.v b.Rows) false] 2, Slot.live [V.s s] 0, Slot.live [V.sl (List.map V.s e.Users) false, V.sl (List.map V.s e.Keys) false] 2, Slot.live (cellsM BookRow.v (pre.map (·.2))) (cellsM BookRow.v (pre.map (·.2))).length])) ?_ ?_ ⟨_, .inl ⟨rfl, rfl⟩⟩ ?_ ?_
  · rintro pre st1 s ⟨s0, ⟨h, rfl⟩ | ⟨h, rfl⟩⟩
    · exact ⟨s, .inl ⟨h, rfl⟩⟩
    · exact ⟨s, .inr ⟨h, rfl⟩⟩
  · rintro pre st1 ⟨s0, ⟨h, rfl⟩ | ⟨h, rfl⟩⟩ <;> exact ⟨s0, rfl⟩
  · rintro pre ⟨k, x⟩ post st1 hx ⟨s, ⟨rfl, rfl⟩ | ⟨hne, rfl⟩⟩
    · conv => whnf
      refine ⟨Nat.le_of_ble_eq_true rfl, ?_⟩; conv => whnf
      refine ⟨rfl, fun s2 => ?_⟩; conv => whnf
      refine appN_c (f := BookRow.v) (F := []) (G := [x]) (X := some) (r := [x]) rfl (fun _ => rfl) (srcM (f := BookRow.v) (fun _ => rfl) _ _) rfl (.v (srcOwn (f := BookRow.v) (l := [x]) (fun _ => rfl) rfl rfl rfl)) (by decide) rfl (by simp) (fun L H => ?_); conv => whnf
      obtain rfl := Option.some.inj H
      refine ⟨Nat.le_of_ble_eq_true rfl, ?_⟩; conv => whnf
      refine ⟨rfl, fun _ => ⟨7, [0, 1, 2, 3, 4, 5, 8], _, ?_, s2, .inr ⟨by simp, rfl⟩⟩, fun h => absurd rfl h⟩
      exact wk_mask (junk := []) (Nat.le_of_ble_eq_true rfl) rfl rfl rfl rfl ⟨⟨rfl, rfl, rfl⟩, ⟨rfl, rfl, rfl⟩, ⟨rfl, rfl, rfl⟩, ⟨rfl, rfl, rfl⟩, ⟨rfl, rfl, rfl⟩, ⟨rfl, rfl, rfl⟩, wkB_live0 rfl (cellsM_idlt (f := BookRow.v) (fun _ => rfl) _) rfl trivial⟩
    · conv => whnf
      refine ⟨Nat.le_of_ble_eq_true rfl, ?_⟩; conv => whnf
      refine ⟨rfl, fun s2 => ?_⟩; conv => whnf
      have HA : (app? (pre.map (·.2)) [x]).bind some = some (pre.map (·.2) ++ [x]) := by
        unfold app?
        rw [if_pos (by rw [hx] at hn; simp at hn ⊢; omega)]; rfl
      refine appO_c (f := BookRow.v) HA (fun _ => rfl) rfl (Nat.le_refl _) (.v (srcOwn (f := BookRow.v) (l := [x]) (fun _ => rfl) rfl rfl rfl)) (by decide) rfl (by simp) (fun L H => ?_)
      conv => whnf
      obtain rfl := Option.some.inj H
      refine ⟨Nat.le_of_ble_eq_true rfl, ?_⟩; conv => whnf
      have em : (pre ++ [(k, x)]).map (·.2) = pre.map (·.2) ++ [x] := by simp
      rw [em]
      refine ⟨rfl, fun _ => ⟨7, [0, 1, 2, 3, 4, 5, 9], _, ?_, s2, .inr ⟨by simp, rfl⟩⟩, fun h => absurd rfl h⟩
      exact wk_mask (junk := []) (Nat.le_of_ble_eq_true rfl) rfl rfl rfl rfl ⟨⟨rfl, rfl, rfl⟩, ⟨rfl, rfl, rfl⟩, ⟨rfl, rfl, rfl⟩, ⟨rfl, rfl, rfl⟩, ⟨rfl, rfl, rfl⟩, ⟨rfl, rfl, rfl⟩, wkB_live0 rfl (cellsM_idlt (f := BookRow.v) (fun _ => rfl) _) rfl trivial⟩
  · rintro st1 ⟨s, ⟨h, rfl⟩ | ⟨hne, rfl⟩⟩
    · subst h
      conv => whnf
      refine finR_c (enc := fun l : List BookRow => V.sl (l.map BookRow.v) false) H ?_; conv => whnf
      exact ⟨_, .v (.c .slw)⟩
    · conv => whnf
      refine finR_c (enc := fun l : List BookRow => V.sl (l.map BookRow.v) false) H ?_; conv => whnf
      exact ⟨_, .v (.c (fzown (f := BookRow.v) (l := xs.map (·.2)) rfl rfl (fun _ => rfl) (fun _ => rfl)))⟩
def p_snap_items (e : SnapEyes) (b : BookState) (s : ByteArray) : Option (List ItmS) := rowsI p_book_Next p_pres_Key p_snap_Sees e b fuel s
theorem items_it {e : SnapEyes} {b : BookState} {s : ByteArray} {xs : List ItmS} (hx : p_snap_items e b s = some xs) {st : List Slot} {i3 i4 i5 : Nat} (h3 : st[i3]? = some (.live [.i b.Seq, .sl (List.map BookRow.v b.Rows) false] 2)) (h4 : st[i4]? = some (.live [.s s] 0)) (h5 : st[i5]? = some (.live [.sl (List.map V.s e.Users) false, .sl (List.map V.s e.Keys) false] 2)) : ItS Tryz.prog 158 [.ptr i3 0, .ptr i4 0, .ptr i5 0] st i4 encS xs :=
  it_rows (fun b a => p_book_Next_v b a) (fun u r => p_pres_Key_v u r) (fun e x => p_snap_Sees_v e x) hx h3 h4 h5
def p_snap_View (e : SnapEyes) (b : BookState) : Option (List BookRow) := (p_snap_items e b ⟨#[]⟩).bind fun xs => bif decide (xs.length ≤ 1000000) then some (xs.map (·.2)) else none
theorem p_snap_View_f (e : SnapEyes) (b : BookState) : CallsO Tryz.prog 19 [e.v, b.v] (fun l : List BookRow => V.sl (l.map BookRow.v) false) (p_snap_View e b) := by
  intro r hr
  unfold p_snap_View at hr
  obtain ⟨xs, hx, hr⟩ := Option.bind_eq_some_iff.1 hr
  by_cases hn : xs.length ≤ 1000000
  · rw [decide_eq_true hn, cond_true] at hr
    exact view_of e b xs hn (fun st h3 h4 h5 => items_it hx h3 h4 h5) r hr
  · rw [decide_eq_false hn, cond_false] at hr; cases hr
theorem callsV_fz {P : Program} {f : FuncId} {vs vs' : List V} {v : V} {rd : List Nat} (ha : FzA [] vs vs' rd) (h : CallsV P f vs' v) : CallsV P f vs v := fun m w cargs hg hm hr => by
  have s0 : Sim 0 m m noBk w [] := ⟨Nat.zero_le _, hm, fun _ _ h => h, fun _ _ h => .inl h, fun _ _ _ h => by simp at h, fun _ _ _ _ _ _ _ _ h => by simp at h, fun _ _ => rfl⟩
  have ht := (ha.rep s0 (cs := cargs.toList) ⟨by simpa using hr.1, fun j a b => by simpa using hr.2 j (by simpa using a) b⟩).toA
  rw [Array.toArray_toList] at ht
  exact h m w cargs hg hm ht
theorem p_snap_View_v {u1 u2 u3 : Bool} (e : SnapEyes) (b : BookState) : CallsO Tryz.prog 19 [.agg [.sl (List.map V.s e.Users) u1, .sl (List.map V.s e.Keys) u2], .agg [.i b.Seq, .sl (List.map BookRow.v b.Rows) u3]] (fun l : List BookRow => V.sl (l.map BookRow.v) false) (p_snap_View e b) := fun r hr =>
  callsV_fz (.cons (fzagg (.cons .slw (.cons .slw .nil)) rfl) (.cons (fzagg (.cons (.id rfl) (.cons .slw .nil)) rfl) .nil)) (p_snap_View_f e b r hr)
end Go.Proofs.YthlhbgedidipkaaGreat
/- Plain functions (written by a program of mine). -/
namespace Go.Proofs.YthlhbgedidipkaaGreat
open Go.RowKit
def p_snap_Count (a0 : SnapEyes) (a1 : BookState) : Option (Int) :=
  (p_snap_View a0 a1).bind fun v1 =>
  some (v1.length : Int)
end Go.Proofs.YthlhbgedidipkaaGreat
/- The codes of function 80. -/
namespace Go.Proofs.YthlhbgedidipkaaGreat
open Go.RowKit
def dc80 (c : Code) : BCode := (.seq (.reg 6 [⟨(some 3),.bx (.tmp 0),none,0⟩,⟨(some 4),.bx (.tmp 1),none,1⟩,⟨(some 5),.bx (.tmp 2),none,2⟩,⟨(some 6),.al (.agg [(.lit (.bool false)),(.lit (.bool false)),(.lit (.string ⟨#[]⟩)),(.lit (.int .i64 0))]),none,3⟩,⟨(some 7),.al (.agg [(.lit (.int .u8 0)),(.lit (.string ⟨#[]⟩)),(.lit (.string ⟨#[]⟩)),(.lit (.string ⟨#[]⟩)),(.lit (.int .i64 0)),(.lit (.int .i64 0)),(.lit (.int .i64 0)),(.lit (.int .i64 0))]),none,4⟩,⟨(some 8),.al (.lit (.bool false)),none,5⟩] none 0 []) (.seq (.seq (.reg 0 [⟨(some 11),.fa 0 (.tmp 3),none,0⟩,⟨(some 12),.ld 1 false (.tmp 11),none,0⟩,⟨(some 13),.un .not (.tmp 12),none,0⟩,⟨(some 14),.mv (.tmp 13),none,0⟩,⟨(some 15),.ld 4 true (.tmp 3),(some (14,false)),0⟩,⟨(some 16),.cl 83 [(.tmp 15)],(some (14,false)),0⟩,⟨(some 17),.bin .neq (.tmp 16) (.const (.int .i64 0)),(some (14,false)),0⟩,⟨(some 18),.pick (.tmp 14) (.const (.bool true)) (.tmp 17),none,0⟩,⟨(some 19),.mv (.tmp 18),none,0⟩,⟨(some 20),.ld 2 true (.tmp 5),(some (19,false)),0⟩,⟨(some 21),.cl 152 [(.tmp 20)],(some (19,false)),0⟩,⟨(some 22),.bin .neq (.tmp 21) (.const (.int .i64 0)),(some (19,false)),0⟩,⟨(some 23),.pick (.tmp 19) (.const (.bool true)) (.tmp 22),none,0⟩] none 0 []) (.cond (.tmp 23) (.seq (.reg 0 [⟨(some 24),.ld 4 true (.tmp 3),none,0⟩,⟨(some 25),.bd [(.lit (.int .u8 0)),(.lit (.string ⟨#[]⟩)),(.lit (.string ⟨#[]⟩)),(.lit (.string ⟨#[]⟩)),(.lit (.int .i64 0)),(.lit (.int .i64 0)),(.lit (.int .i64 0)),(.lit (.int .i64 0))] [],none,0⟩,⟨none,.st 4 (.tmp 6) (.tmp 24),none,0⟩,⟨none,.st 8 (.tmp 7) (.tmp 25),none,0⟩,⟨none,.st 1 (.tmp 8) (.const (.bool false)),none,0⟩] none 0 []) .ret) .skip)) (.seq (.seq (.reg 0 [⟨(some 26),.fa 1 (.tmp 3),none,0⟩,⟨(some 27),.ld 1 false (.tmp 26),none,0⟩,⟨(some 28),.un .not (.tmp 27),none,0⟩] none 0 []) (.cond (.tmp 28) (.seq (.reg 0 [⟨(some 29),.fa 1 (.tmp 3),none,0⟩,⟨none,.st 1 (.tmp 29) (.const (.bool true)),none,0⟩] none 0 []) (.seq (.reg 0 [⟨(some 30),.ld 4 true (.tmp 3),none,0⟩,⟨(some 31),.ld 2 true (.tmp 4),none,0⟩,⟨(some 32),.ld 2 true (.tmp 5),none,0⟩,⟨(some 33),.cl 21 [(.tmp 31),(.tmp 32)],none,0⟩,⟨(some 34),.bd [(.lit (.int .u8 0)),(.lit (.string ⟨#[]⟩)),(.lit (.string ⟨#[]⟩)),(.lit (.string ⟨#[]⟩)),(.lit (.int .i64 0)),(.lit (.int .i64 0)),(.lit (.int .i64 0)),(.lit (.int .i64 0))] [(0,1,(.const (.int .u8 36))),(7,1,(.tmp 33))],none,0⟩,⟨none,.st 4 (.tmp 6) (.tmp 30),none,0⟩,⟨none,.st 8 (.tmp 7) (.tmp 34),none,0⟩,⟨none,.st 1 (.tmp 8) (.const (.bool true)),none,0⟩] (some [[],[],[],[2,1],[1,2,3],[1,2,3,0],[0,5,3,2,1,4],[4,1,2,3,5,0,6]]) 0 []) .ret)) .skip)) (.seq (.seq (.reg 0 [⟨(some 35),.ld 2 true (.tmp 4),none,0⟩,⟨(some 36),.ld 2 true (.tmp 5),none,0⟩,⟨(some 37),.fa 2 (.tmp 3),none,0⟩,⟨(some 38),.ld 1 false (.tmp 37),none,0⟩,⟨(some 39),.cl 88 [(.tmp 35),(.tmp 36),(.tmp 38)],none,0⟩] none 0 []) (.block 0 (.raw c))) (.seq (.reg 0 [⟨(some 57),.bd [(.lit (.bool false)),(.lit (.bool false)),(.lit (.string ⟨#[]⟩)),(.lit (.int .i64 0))] [],none,0⟩,⟨(some 58),.bd [(.lit (.int .u8 0)),(.lit (.string ⟨#[]⟩)),(.lit (.string ⟨#[]⟩)),(.lit (.string ⟨#[]⟩)),(.lit (.int .i64 0)),(.lit (.int .i64 0)),(.lit (.int .i64 0)),(.lit (.int .i64 0))] [(0,1,(.const (.int .u8 37)))],none,0⟩,⟨none,.st 4 (.tmp 6) (.tmp 57),none,0⟩,⟨none,.st 8 (.tmp 7) (.tmp 58),none,0⟩,⟨none,.st 1 (.tmp 8) (.const (.bool true)),none,0⟩] none 0 []) .ret)))))
def da80 : BCode := (.seq (.reg 0 [⟨(some 9),.mv (.tmp 40),none,0⟩] none 0 []) (.reg 1 [⟨(some 10),.al (.agg [(.lit (.string ⟨#[]⟩)),(.lit (.string ⟨#[]⟩)),(.lit (.bool false)),(.lit (.int .i64 0)),(.lit (.int .i64 0)),(.lit (.int .i64 0))]),none,0⟩,⟨none,.st 6 (.tmp 10) (.tmp 41),none,1⟩] none 0 []))
def db80 : BCode := (.block 1 (.seq (.reg 0 [⟨(some 42),.mv (.tmp 9),none,0⟩,⟨(some 43),.fa 2 (.tmp 3),none,0⟩,⟨none,.st 1 (.tmp 43) (.tmp 42),none,0⟩] none 0 []) (.seq (.reg 0 [⟨(some 44),.fa 3 (.tmp 3),none,0⟩,⟨(some 45),.ld 1 false (.tmp 44),none,0⟩,⟨(some 46),.bin .add (.tmp 45) (.const (.int .i64 1)),none,0⟩,⟨(some 47),.mn false (.tmp 46) (.const (.int .i64 1099511627776)),none,0⟩,⟨(some 48),.fa 3 (.tmp 3),none,0⟩,⟨none,.st 1 (.tmp 48) (.tmp 47),none,0⟩] none 0 []) (.seq (.reg 0 [⟨(some 49),.ld 4 true (.tmp 3),none,0⟩,⟨(some 50),.fa 0 (.tmp 10),none,0⟩,⟨(some 51),.ld 1 false (.tmp 50),none,0⟩,⟨(some 52),.fa 1 (.tmp 10),none,0⟩,⟨(some 53),.ld 1 false (.tmp 52),none,0⟩,⟨(some 54),.fa 2 (.tmp 10),none,0⟩,⟨(some 55),.ld 4 true (.tmp 54),none,0⟩,⟨(some 56),.cl 77 [(.tmp 51),(.tmp 53),(.tmp 55)],none,0⟩,⟨none,.st 4 (.tmp 6) (.tmp 49),none,0⟩,⟨none,.st 8 (.tmp 7) (.tmp 56),none,0⟩,⟨none,.st 1 (.tmp 8) (.const (.bool true)),none,0⟩] (some [[],[],[1],[],[3],[],[5],[5,6,3,4,1,2],[2,1,4,3,6,5,7,0],[0,8,2,1,4,3,6,5,7],[7,5,6,3,4,1,2,8,0,9]]) 0 []) .ret))))
theorem dc80_ok : compF Tryz.prog Tryz.f80 = some ((dc80 (rangeAt Tryz.f80 0)).er,59,[.cell 6 4 true,.cell 7 8 true,.cell 8 1 false]) := by unfold dc80;kernel_rfl
theorem rg80 : rangeAt Tryz.f80 0 = .rangeFunc (.tmp 39) #[40,41] (rangeAsg (rangeAt Tryz.f80 0)) (rangeBody (rangeAt Tryz.f80 0)) := by kernel_rfl
theorem da80_ok : comp Tryz.prog (rangeAsg (rangeAt Tryz.f80 0)) = some da80.er := by unfold da80;kernel_rfl
theorem db80_ok : comp Tryz.prog (rangeBody (rangeAt Tryz.f80 0)) = some db80.er := by unfold db80;kernel_rfl
theorem fl80 : da80.er.flat = true ∧ db80.er.flat = true := ⟨rfl,rfl⟩
theorem sc80 : (rangeAsg (rangeAt Tryz.f80 0)).scopes = false ∧ (rangeBody (rangeAt Tryz.f80 0)).scopes = false := ⟨by kernel_rfl,by kernel_rfl⟩
end Go.Proofs.YthlhbgedidipkaaGreat
/- That the program's functions yield what the plain ones tell (written by a program of mine). -/
namespace Go.Proofs.YthlhbgedidipkaaGreat
open Go.RowKit
def gc21 : BCode := (.seq (.reg 2 [⟨(some 2),.bx (.tmp 0),none,0⟩,⟨(some 3),.bx (.tmp 1),none,1⟩,⟨(some 4),.mv (.const (.int .i64 0)),none,2⟩] none 0 []) (.seq (.reg 0 [⟨(some 5),.ld 2 true (.tmp 2),none,0⟩,⟨(some 6),.ld 2 true (.tmp 3),none,0⟩,⟨(some 7),.cl 19 [(.tmp 5),(.tmp 6)],none,0⟩,⟨(some 8),.lens (.tmp 7),none,0⟩,⟨(some 4),.mv (.tmp 8),none,0⟩] none 0 []) .ret))
theorem gc21_ok : compF Tryz.prog Tryz.f21 = some (gc21.er,9,[.tmp 4]) := by unfold gc21;kernel_rfl
set_option maxRecDepth 100000 in
set_option maxHeartbeats 4000000 in
theorem p_snap_Count_v {u1 u2 u3 : Bool} (a0 : SnapEyes) (a1 : BookState) : CallsO Tryz.prog 21 [.agg [.sl (List.map V.s a0.Users) u1,.sl (List.map V.s a0.Keys) u2],.agg [.i a1.Seq,.sl (List.map BookRow.v a1.Rows) u3]] V.i (p_snap_Count a0 a1) := by
 refine callsO_comp mix Tryz.func21 gc21_ok fun r H=>?_
 rw [p_snap_Count] at H
 conv=>whnf
 refine ask_c (p_snap_View_v _ _) H rfl rfl (fun v1 H=>?_);conv=>whnf
 refine LenQ.M ?_;conv=>whnf
 exact fin0_c (enc := V.i) H (.inr rfl) (.cons (.tmp rfl) (.nil)) rfl rfl
end Go.Proofs.YthlhbgedidipkaaGreat
