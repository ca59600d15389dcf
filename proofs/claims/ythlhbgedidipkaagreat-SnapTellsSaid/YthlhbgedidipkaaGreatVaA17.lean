/- A part of the proof: 3 texts joined. -/
import Derived.Test.YthlhbgedidipkaaGreatVaA15
import Derived.Test.YthlhbgedidipkaaGreatVaA13
import Derived.Test.YthlhbgedidipkaaGreatVaA8
import Derived.KernelRfl
set_option linter.all false
/- That the program's functions yield what the plain ones tell (written by a program of mine). -/
namespace Go.Proofs.YthlhbgedidipkaaGreat
open Go.RowKit
def gc11 : BCode := (.seq (.reg 1 [⟨(some 1),.bx (.tmp 0),none,0⟩,⟨(some 2),.mv (.const (.bool false)),none,1⟩] none 0 []) (.seq (.seq (.reg 0 [⟨(some 5),.fa 0 (.tmp 1),none,0⟩,⟨(some 6),.ld 1 false (.tmp 5),none,0⟩,⟨(some 7),.lens (.tmp 6),none,0⟩,⟨(some 8),.bin .gtr (.tmp 7) (.const (.int .i64 20)),none,0⟩,⟨(some 9),.mv (.tmp 8),none,0⟩,⟨(some 10),.fa 1 (.tmp 1),(some (9,false)),0⟩,⟨(some 11),.ld 1 false (.tmp 10),(some (9,false)),0⟩,⟨(some 12),.lens (.tmp 11),(some (9,false)),0⟩,⟨(some 13),.bin .gtr (.tmp 12) (.const (.int .i64 20)),(some (9,false)),0⟩,⟨(some 14),.pick (.tmp 9) (.const (.bool true)) (.tmp 13),none,0⟩] none 0 []) (.cond (.tmp 14) (.seq (.reg 0 [⟨(some 2),.mv (.const (.bool false)),none,0⟩] none 0 []) .ret) .skip)) (.seq (.seq (.reg 0 [⟨(some 3),.mv (.const (.int .i64 0)),none,0⟩] none 0 []) (.block 0 (.loop (.seq (.seq (.reg 0 [⟨(some 15),.mv (.tmp 3),none,0⟩,⟨(some 16),.fa 0 (.tmp 1),none,0⟩,⟨(some 17),.ld 1 false (.tmp 16),none,0⟩,⟨(some 18),.lens (.tmp 17),none,0⟩,⟨(some 19),.bin .lss (.tmp 15) (.tmp 18),none,0⟩] none 0 []) (.cond (.tmp 19) .skip (.exit 0))) (.seq (.block 1 (.seq (.reg 0 [⟨(some 22),.fa 0 (.tmp 1),none,0⟩,⟨(some 23),.ld 1 false (.tmp 22),none,0⟩,⟨(some 24),.mv (.tmp 3),none,0⟩,⟨(some 25),.ixs 1 (.tmp 23) (.tmp 24),none,0⟩,⟨(some 26),.ld 1 false (.tmp 25),none,0⟩,⟨(some 27),.lent (.tmp 26),none,0⟩,⟨(some 28),.bin .gtr (.tmp 27) (.const (.int .i64 100)),none,0⟩] none 0 []) (.cond (.tmp 28) (.seq (.reg 0 [⟨(some 2),.mv (.const (.bool false)),none,0⟩] none 0 []) .ret) .skip))) (.reg 0 [⟨(some 20),.mv (.tmp 3),none,0⟩,⟨(some 21),.bin .add (.tmp 20) (.const (.int .i64 1)),none,0⟩,⟨(some 3),.mv (.tmp 21),none,0⟩] none 0 [])))))) (.seq (.seq (.reg 0 [⟨(some 4),.mv (.const (.int .i64 0)),none,0⟩] none 0 []) (.block 2 (.loop (.seq (.seq (.reg 0 [⟨(some 29),.mv (.tmp 4),none,0⟩,⟨(some 30),.fa 1 (.tmp 1),none,0⟩,⟨(some 31),.ld 1 false (.tmp 30),none,0⟩,⟨(some 32),.lens (.tmp 31),none,0⟩,⟨(some 33),.bin .lss (.tmp 29) (.tmp 32),none,0⟩] none 0 []) (.cond (.tmp 33) .skip (.exit 2))) (.seq (.block 3 (.seq (.reg 0 [⟨(some 36),.fa 1 (.tmp 1),none,0⟩,⟨(some 37),.ld 1 false (.tmp 36),none,0⟩,⟨(some 38),.mv (.tmp 4),none,0⟩,⟨(some 39),.ixs 1 (.tmp 37) (.tmp 38),none,0⟩,⟨(some 40),.ld 1 false (.tmp 39),none,0⟩,⟨(some 41),.lent (.tmp 40),none,0⟩,⟨(some 42),.bin .gtr (.tmp 41) (.const (.int .i64 100)),none,0⟩] none 0 []) (.cond (.tmp 42) (.seq (.reg 0 [⟨(some 2),.mv (.const (.bool false)),none,0⟩] none 0 []) .ret) .skip))) (.reg 0 [⟨(some 34),.mv (.tmp 4),none,0⟩,⟨(some 35),.bin .add (.tmp 34) (.const (.int .i64 1)),none,0⟩,⟨(some 4),.mv (.tmp 35),none,0⟩] none 0 [])))))) (.seq (.reg 0 [⟨(some 2),.mv (.const (.bool true)),none,0⟩] none 0 []) .ret)))))
theorem gc11_ok : compF Tryz.prog Tryz.f11 = some (gc11.er,43,[.tmp 2]) := by unfold gc11;kernel_rfl
set_option maxRecDepth 100000 in
set_option maxHeartbeats 4000000 in
theorem p_ref26_Light_v {u1 u2 : Bool} (a0 : SnapEyes) : CallsO Tryz.prog 11 [.agg [.sl (List.map V.s a0.Users) u1,.sl (List.map V.s a0.Keys) u2]] V.b (p_ref26_Light a0) := by
 refine callsO_comp mix Tryz.func11 gc11_ok fun r H=>?_
 rw [p_ref26_Light] at H
 conv=>whnf
 refine LenQ.M ?_;conv=>whnf
 refine tst_c H (fun b1 H=>?_) (fun b1 H=>?_)
 ·conv=>whnf
  iterate 5 (refine Tst.T ?_;conv=>whnf)
  exact fin0_c (enc := V.b) H (.inr rfl) (.cons (.tmp rfl) (.nil)) rfl rfl
 conv=>whnf
 iterate 2 (refine Tst.F ?_;conv=>whnf)
 refine LenQ.M ?_;conv=>whnf
 iterate 2 (refine Tst.F ?_;conv=>whnf)
 refine tst_c H (fun b2 H=>?_) (fun b2 H=>?_)
 ·conv=>whnf
  exact fin0_c (enc := V.b) H (.inr rfl) (.cons (.tmp rfl) (.nil)) rfl rfl
 conv=>whnf
 obtain ⟨o4,HL5,HQ6⟩ := bind_c H
 refine loop_c [2,3] [15,16,17,18,19,20,21,22,23,24,25,26,27,28,5,10] [15,16,17,18,19,20,21,22,23,24,25,26,27,28,5,10] (fun n vals st=>(∃ y8,p_ref26_Light_l1  a0 n y8 = some o4 ∧ vals = [.b false,.i y8] ∧ st = [.live [.sl (List.map V.s a0.Users) u1,.sl (List.map V.s a0.Keys) u2] 0])) fuel 1 [] (⟨_,HL5,rfl,rfl⟩) (Nat.zero_le _) rfl (by kernel_rfl) (by kernel_rfl) rfl ⟨⟨rfl,rfl,rfl⟩,trivial⟩ ?_
 rintro (_ | n7) _ _ (⟨y8,H,rfl,rfl⟩)
 ·rw [p_ref26_Light_l1] at H;cases H
 rw [p_ref26_Light_l1] at H
 conv=>whnf
 refine LenQ.M ?_;conv=>whnf
 refine tst_c H (fun b9 H=>?_) (fun b9 H=>?_)
 ·conv=>whnf
  refine ixs_c (f := V.s) H (fun _=>rfl) (fun x10 H=>?_);conv=>whnf
  refine tst_c H (fun b11 H=>?_) (fun b11 H=>?_)
  ·conv=>whnf
   obtain rfl := Option.some.inj H
   have H := HQ6
   try dsimp only at H
   exact fin0_c (enc := V.b) H (.inr rfl) (.cons (.tmp rfl) (.nil)) rfl rfl
  conv=>whnf
  refine Ari.w ?_;conv=>whnf
  exact again_c [15,16,17,18,19,20,21,22,23,24,25,26,27,28,5,10] n7 1 [] (⟨_,H,rfl,rfl⟩) (Nat.lt_succ_self _) (Nat.zero_le _) rfl (by kernel_rfl) (by kernel_rfl) rfl ⟨⟨rfl,rfl,rfl⟩,trivial⟩
 conv=>whnf
 obtain rfl := Option.some.inj H
 have H := HQ6
 try dsimp only at H
 obtain ⟨o13,HL14,HQ15⟩ := bind_c H
 refine loop_c [2,4] [29,30,31,32,33,34,35,36,37,38,39,40,41,42,16] [29,30,31,32,33,34,35,36,37,38,39,40,41,42,16] (fun n vals st=>(∃ y17,p_ref26_Light_l2  a0 n y17 = some o13 ∧ vals = [.b false,.i y17] ∧ st = [.live [.sl (List.map V.s a0.Users) u1,.sl (List.map V.s a0.Keys) u2] 0])) fuel 1 [] (⟨_,HL14,rfl,rfl⟩) (Nat.zero_le _) rfl (by kernel_rfl) (by kernel_rfl) rfl ⟨⟨rfl,rfl,rfl⟩,trivial⟩ ?_
 rintro (_ | n16) _ _ (⟨y17,H,rfl,rfl⟩)
 ·rw [p_ref26_Light_l2] at H;cases H
 rw [p_ref26_Light_l2] at H
 conv=>whnf
 refine LenQ.M ?_;conv=>whnf
 refine tst_d H (fun b18 H=>?_) (fun b18 H=>?_)
 ·conv=>whnf
  obtain rfl := Option.some.inj H
  have H := HQ15
  try dsimp only at H
  exact fin0_c (enc := V.b) H (.inr rfl) (.cons (.tmp rfl) (.nil)) rfl rfl
 conv=>whnf
 refine ixs_c (f := V.s) H (fun _=>rfl) (fun x19 H=>?_);conv=>whnf
 refine tst_c H (fun b20 H=>?_) (fun b20 H=>?_)
 ·conv=>whnf
  obtain rfl := Option.some.inj H
  have H := HQ15
  try dsimp only at H
  exact fin0_c (enc := V.b) H (.inr rfl) (.cons (.tmp rfl) (.nil)) rfl rfl
 conv=>whnf
 refine Ari.w ?_;conv=>whnf
 exact again_c [29,30,31,32,33,34,35,36,37,38,39,40,41,42,16] n16 1 [] (⟨_,H,rfl,rfl⟩) (Nat.lt_succ_self _) (Nat.zero_le _) rfl (by kernel_rfl) (by kernel_rfl) rfl ⟨⟨rfl,rfl,rfl⟩,trivial⟩
def gc12 : BCode := (.seq (.reg 1 [⟨(some 1),.bx (.tmp 0),none,0⟩,⟨(some 2),.mv (.const (.bool false)),none,1⟩] none 0 []) (.seq (.seq (.reg 0 [⟨(some 4),.fa 1 (.tmp 1),none,0⟩,⟨(some 5),.ld 1 false (.tmp 4),none,0⟩,⟨(some 6),.lens (.tmp 5),none,0⟩,⟨(some 7),.bin .gtr (.tmp 6) (.const (.int .i64 20)),none,0⟩] none 0 []) (.cond (.tmp 7) (.seq (.reg 0 [⟨(some 2),.mv (.const (.bool false)),none,0⟩] none 0 []) .ret) .skip)) (.seq (.seq (.reg 0 [⟨(some 3),.mv (.const (.int .i64 0)),none,0⟩] none 0 []) (.block 0 (.loop (.seq (.seq (.reg 0 [⟨(some 8),.mv (.tmp 3),none,0⟩,⟨(some 9),.fa 1 (.tmp 1),none,0⟩,⟨(some 10),.ld 1 false (.tmp 9),none,0⟩,⟨(some 11),.lens (.tmp 10),none,0⟩,⟨(some 12),.bin .lss (.tmp 8) (.tmp 11),none,0⟩] none 0 []) (.cond (.tmp 12) .skip (.exit 0))) (.seq (.block 1 (.seq (.reg 0 [⟨(some 15),.fa 1 (.tmp 1),none,0⟩,⟨(some 16),.ld 1 false (.tmp 15),none,0⟩,⟨(some 17),.mv (.tmp 3),none,0⟩,⟨(some 18),.ixs 6 (.tmp 16) (.tmp 17),none,0⟩,⟨(some 19),.fa 0 (.tmp 18),none,0⟩,⟨(some 20),.ld 1 false (.tmp 19),none,0⟩,⟨(some 21),.lent (.tmp 20),none,0⟩,⟨(some 22),.bin .gtr (.tmp 21) (.const (.int .i64 100)),none,0⟩,⟨(some 23),.mv (.tmp 22),none,0⟩,⟨(some 24),.fa 1 (.tmp 1),(some (23,false)),0⟩,⟨(some 25),.ld 1 false (.tmp 24),(some (23,false)),0⟩,⟨(some 26),.mv (.tmp 3),(some (23,false)),0⟩,⟨(some 27),.ixs 6 (.tmp 25) (.tmp 26),(some (23,false)),0⟩,⟨(some 28),.fa 1 (.tmp 27),(some (23,false)),0⟩,⟨(some 29),.ld 1 false (.tmp 28),(some (23,false)),0⟩,⟨(some 30),.lent (.tmp 29),(some (23,false)),0⟩,⟨(some 31),.bin .gtr (.tmp 30) (.const (.int .i64 100)),(some (23,false)),0⟩,⟨(some 32),.pick (.tmp 23) (.const (.bool true)) (.tmp 31),none,0⟩] none 0 []) (.cond (.tmp 32) (.seq (.reg 0 [⟨(some 2),.mv (.const (.bool false)),none,0⟩] none 0 []) .ret) .skip))) (.reg 0 [⟨(some 13),.mv (.tmp 3),none,0⟩,⟨(some 14),.bin .add (.tmp 13) (.const (.int .i64 1)),none,0⟩,⟨(some 3),.mv (.tmp 14),none,0⟩] none 0 [])))))) (.seq (.reg 0 [⟨(some 2),.mv (.const (.bool true)),none,0⟩] none 0 []) .ret))))
theorem gc12_ok : compF Tryz.prog Tryz.f12 = some (gc12.er,33,[.tmp 2]) := by unfold gc12;kernel_rfl
set_option maxRecDepth 100000 in
set_option maxHeartbeats 4000000 in
theorem p_ref24_Light_v {u1 : Bool} (a0 : BookState) : CallsO Tryz.prog 12 [.agg [.i a0.Seq,.sl (List.map BookRow.v a0.Rows) u1]] V.b (p_ref24_Light a0) := by
 refine callsO_comp mix Tryz.func12 gc12_ok fun r H=>?_
 rw [p_ref24_Light] at H
 conv=>whnf
 refine LenQ.M ?_;conv=>whnf
 refine tst_c H (fun b1 H=>?_) (fun b1 H=>?_)
 ·conv=>whnf
  exact fin0_c (enc := V.b) H (.inr rfl) (.cons (.tmp rfl) (.nil)) rfl rfl
 conv=>whnf
 obtain ⟨o3,HL4,HQ5⟩ := bind_c H
 refine loop_c [2,3] [8,9,10,11,12,13,14,15,16,17,18,19,20,21,22,23,24,25,26,27,28,29,30,31,32,4] [8,9,10,11,12,13,14,15,16,17,18,19,20,21,22,23,24,25,26,27,28,29,30,31,32,4] (fun n vals st=>(∃ y7,p_ref24_Light_l1  a0 n y7 = some o3 ∧ vals = [.b false,.i y7] ∧ st = [.live [.i a0.Seq,.sl (List.map BookRow.v a0.Rows) u1] 0])) fuel 1 [] (⟨_,HL4,rfl,rfl⟩) (Nat.zero_le _) rfl (by kernel_rfl) (by kernel_rfl) rfl ⟨⟨rfl,rfl,rfl⟩,trivial⟩ ?_
 rintro (_ | n6) _ _ (⟨y7,H,rfl,rfl⟩)
 ·rw [p_ref24_Light_l1] at H;cases H
 rw [p_ref24_Light_l1] at H
 conv=>whnf
 refine LenQ.M ?_;conv=>whnf
 refine tst_d H (fun b8 H=>?_) (fun b8 H=>?_)
 ·conv=>whnf
  obtain rfl := Option.some.inj H
  have H := HQ5
  try dsimp only at H
  exact fin0_c (enc := V.b) H (.inr rfl) (.cons (.tmp rfl) (.nil)) rfl rfl
 conv=>whnf
 refine ixs_c (f := BookRow.v) H (fun _=>rfl) (fun x9 H=>?_);conv=>whnf
 refine ⟨Nat.le_of_ble_eq_true rfl,?_⟩;conv=>whnf
 refine tst_c H (fun b10 H=>?_) (fun b10 H=>?_)
 ·conv=>whnf
  iterate 9 (refine Tst.T ?_;conv=>whnf)
  obtain rfl := Option.some.inj H
  have H := HQ5
  try dsimp only at H
  exact fin0_c (enc := V.b) H (.inr rfl) (.cons (.tmp rfl) (.nil)) rfl rfl
 conv=>whnf
 iterate 3 (refine Tst.F ?_;conv=>whnf)
 refine ixs_c (f := BookRow.v) H (fun _=>rfl) (fun x11 H=>?_);conv=>whnf
 refine Tst.F ?_;conv=>whnf
 refine ⟨Nat.le_of_ble_eq_true rfl,?_⟩;conv=>whnf
 iterate 4 (refine Tst.F ?_;conv=>whnf)
 refine tst_c H (fun b12 H=>?_) (fun b12 H=>?_)
 ·conv=>whnf
  obtain rfl := Option.some.inj H
  have H := HQ5
  try dsimp only at H
  exact fin0_c (enc := V.b) H (.inr rfl) (.cons (.tmp rfl) (.nil)) rfl rfl
 conv=>whnf
 refine Ari.w ?_;conv=>whnf
 exact again_c [8,9,10,11,12,13,14,15,16,17,18,19,20,21,22,23,24,25,26,27,28,29,30,31,32,4] n6 1 [] (⟨_,H,rfl,rfl⟩) (Nat.lt_succ_self _) (Nat.zero_le _) rfl (by kernel_rfl) (by kernel_rfl) rfl ⟨⟨rfl,rfl,rfl⟩,trivial⟩
def gc14 : BCode := (.seq (.reg 2 [⟨(some 1),.bx (.tmp 0),none,0⟩,⟨(some 2),.al (.agg [(.lit (.int .i64 0)),(.sl [] true)]),none,1⟩] none 0 []) (.seq (.reg 1 [⟨(some 5),.fa 0 (.tmp 1),none,0⟩,⟨(some 6),.ld 1 false (.tmp 5),none,0⟩,⟨(some 7),.bd [(.lit (.int .i64 0)),(.sl [] true)] [(0,1,(.tmp 6))],none,0⟩,⟨(some 3),.al (.agg [(.lit (.int .i64 0)),(.sl [] true)]),none,0⟩,⟨none,.st 2 (.tmp 3) (.tmp 7),none,1⟩] none 0 []) (.seq (.seq (.reg 0 [⟨(some 4),.mv (.const (.int .i64 0)),none,0⟩] none 0 []) (.block 0 (.loop (.seq (.seq (.reg 0 [⟨(some 8),.mv (.tmp 4),none,0⟩,⟨(some 9),.fa 1 (.tmp 1),none,0⟩,⟨(some 10),.ld 1 false (.tmp 9),none,0⟩,⟨(some 11),.lens (.tmp 10),none,0⟩,⟨(some 12),.bin .lss (.tmp 8) (.tmp 11),none,0⟩] none 0 []) (.cond (.tmp 12) .skip (.exit 0))) (.seq (.block 1 (.reg 2 [⟨(some 15),.fa 1 (.tmp 3),none,0⟩,⟨(some 16),.ld 1 false (.tmp 15),none,0⟩,⟨(some 17),.fa 1 (.tmp 1),none,0⟩,⟨(some 18),.ld 1 false (.tmp 17),none,0⟩,⟨(some 19),.mv (.tmp 4),none,0⟩,⟨(some 20),.ixs 6 (.tmp 18) (.tmp 19),none,0⟩,⟨(some 21),.fa 0 (.tmp 20),none,0⟩,⟨(some 22),.ld 1 false (.tmp 21),none,0⟩,⟨(some 23),.fa 1 (.tmp 1),none,0⟩,⟨(some 24),.ld 1 false (.tmp 23),none,0⟩,⟨(some 25),.mv (.tmp 4),none,0⟩,⟨(some 26),.ixs 6 (.tmp 24) (.tmp 25),none,0⟩,⟨(some 27),.fa 1 (.tmp 26),none,0⟩,⟨(some 28),.ld 1 false (.tmp 27),none,0⟩,⟨(some 29),.fa 1 (.tmp 1),none,0⟩,⟨(some 30),.ld 1 false (.tmp 29),none,0⟩,⟨(some 31),.mv (.tmp 4),none,0⟩,⟨(some 32),.ixs 6 (.tmp 30) (.tmp 31),none,0⟩,⟨(some 33),.fa 2 (.tmp 32),none,0⟩,⟨(some 34),.ld 4 true (.tmp 33),none,0⟩,⟨(some 35),.bd [(.lit (.string ⟨#[]⟩)),(.lit (.string ⟨#[]⟩)),(.lit (.bool false)),(.lit (.int .i64 0)),(.lit (.int .i64 0)),(.lit (.int .i64 0))] [(0,1,(.tmp 22)),(1,1,(.tmp 28)),(2,4,(.tmp 34))],none,0⟩,⟨(some 36),.bs 6 1 [(.lit (.string ⟨#[]⟩)),(.lit (.string ⟨#[]⟩)),(.lit (.bool false)),(.lit (.int .i64 0)),(.lit (.int .i64 0)),(.lit (.int .i64 0))] [(0,(.tmp 35))],none,0⟩,⟨(some 37),.ap 6 64 (.tmp 16) (.tmp 36),none,1⟩,⟨(some 38),.fa 1 (.tmp 3),none,2⟩,⟨none,.st 1 (.tmp 38) (.tmp 37),none,2⟩] (some [[],[0],[],[2],[],[4,2,3],[3,2,4,5],[5,4,2,3,6],[],[8],[],[10,8,9],[9,8,10,11],[11,10,8,9,12],[],[14],[],[16,14,15],[15,14,16,17],[17,16,14,15,18],[18,15,14,16,17,19,12,9,8,10,11,13,6,3,2,4,5,7],[7,5,4,2,3,6,13,11,10,8,9,12,19,17,16,14,15,18,20],[20,18,15,14,16,17,19,12,9,8,10,11,13,6,3,2,4,5,7,21,0,1],[22,21,20,19,18,17,16,15,14,13,12,11,10,9,8,7,6,5,4,3,2,1,0],[0,1,2,3,4,5,6,7,8,9,10,11,12,13,14,15,16,17,18,19,20,21,22,23]]) 0 [])) (.reg 0 [⟨(some 13),.mv (.tmp 4),none,0⟩,⟨(some 14),.bin .add (.tmp 13) (.const (.int .i64 1)),none,0⟩,⟨(some 4),.mv (.tmp 14),none,0⟩] none 0 [])))))) (.seq (.reg 0 [⟨(some 39),.ld 2 true (.tmp 3),none,0⟩,⟨none,.st 2 (.tmp 2) (.tmp 39),none,0⟩] none 0 []) .ret))))
theorem gc14_ok : compF Tryz.prog Tryz.f14 = some (gc14.er,40,[.cell 2 2 true]) := by unfold gc14;kernel_rfl
set_option maxRecDepth 100000 in
set_option maxHeartbeats 4000000 in
theorem p_law26_Book_v {u1 : Bool} (a0 : BookState) : CallsO Tryz.prog 14 [.agg [.i a0.Seq,.sl (List.map BookRow.v a0.Rows) u1]] BookState.v (p_law26_Book a0) := by
 refine callsO_comp mix Tryz.func14 gc14_ok fun r H=>?_
 rw [p_law26_Book] at H
 conv=>whnf
 refine ⟨Nat.le_of_ble_eq_true rfl,?_⟩;conv=>whnf
 obtain ⟨o2,HL3,HQ4⟩ := bind_c H
 refine loop_c [4] [8,9,10,11,12,13,14,15,16,17,18,19,20,21,22,23,24,25,26,27,28,29,30,31,32,33,34,35,36,37,38,5] [8,9,10,11,12,13,14,15,16,17,18,19,20,21,22,23,24,25,26,27,28,29,30,31,32,33,34,35,36,37,38,5] (fun n vals st=>(∃ y6 y7,p_law26_Book_l1  a0 n y6 y7 = some o2 ∧ vals = [.i y6] ∧ st = [.live [.i a0.Seq,.sl (List.map BookRow.v a0.Rows) u1] 0,.live [.i (0 : Int),.sl (List.map BookRow.v []) true] 0,.live [.i y7.Seq,.sl (List.map BookRow.v y7.Rows) true] 0]) ∨ (∃ y13 y14,p_law26_Book_l1  a0 n y13 y14 = some o2 ∧ vals = [.i y13] ∧ st = [.live [.i a0.Seq,.sl (List.map BookRow.v a0.Rows) u1] 0,.live [.i (0 : Int),.sl (List.map BookRow.v []) true] 0,.live [.i y14.Seq,.osl 3 0 (List.length y14.Rows) 6 false] 0,.live (cellsM BookRow.v y14.Rows) (cellsM BookRow.v y14.Rows).length])) fuel 3 [] (.inl (⟨_,_,HL3,rfl,rfl⟩)) (Nat.zero_le _) rfl (by kernel_rfl) (by kernel_rfl) rfl ⟨⟨rfl,rfl,rfl⟩,⟨⟨rfl,rfl,rfl⟩,⟨⟨rfl,rfl,rfl⟩,trivial⟩⟩⟩ ?_
 rintro (_ | n5) _ _ (⟨y6,y7,H,rfl,rfl⟩ | ⟨y13,y14,H,rfl,rfl⟩)
 ·rw [p_law26_Book_l1] at H;cases H
 ·rw [p_law26_Book_l1] at H;cases H
 ·rw [p_law26_Book_l1] at H
  conv=>whnf
  refine LenQ.M ?_;conv=>whnf
  refine tst_d H (fun b8 H=>?_) (fun b8 H=>?_)
  ·conv=>whnf
   obtain rfl := Option.some.inj H
   have H := HQ4
   try dsimp only at H
   refine ⟨Nat.le_of_ble_eq_true rfl,?_⟩;conv=>whnf
   refine finR_c (enc := BookState.v) H ?_;conv=>whnf
   exact ⟨_,.v (fzagg (.cons (.id rfl) (.cons (.slw) (.nil))) rfl)⟩
  conv=>whnf
  refine ixs_c (f := BookRow.v) H (fun _=>rfl) (fun x9 H=>?_);conv=>whnf
  refine ⟨Nat.le_of_ble_eq_true rfl,?_⟩;conv=>whnf
  refine ixs_c (f := BookRow.v) H (fun _=>rfl) (fun x10 H=>?_);conv=>whnf
  refine ⟨Nat.le_of_ble_eq_true rfl,?_⟩;conv=>whnf
  refine ixs_c (f := BookRow.v) H (fun _=>rfl) (fun x11 H=>?_);conv=>whnf
  refine ⟨Nat.le_of_ble_eq_true rfl,?_⟩;conv=>whnf
  refine appN_c (f := BookRow.v) H (fun _=>rfl) (srcM (f := BookRow.v) (fun _=>rfl) _ _) rfl (.v (srcOwn (f := BookRow.v) (l := [(BookRow.mk x9.User x10.Res x11.P)]) (fun _=>rfl) rfl rfl rfl)) (by decide) rfl (by simp) (fun l12 H=>?_);conv=>whnf
  refine ⟨Nat.le_of_ble_eq_true rfl,?_⟩;conv=>whnf
  refine FootQ.mk ⟨rfl,?_⟩;conv=>whnf
  refine Ari.w ?_;conv=>whnf
  exact again_c [8,9,10,11,12,13,14,15,16,17,18,19,20,21,22,23,24,25,26,27,28,29,30,31,32,33,34,35,36,37,38,5] n5 4 [0,1,2,4] (.inr (⟨_,_,H,rfl,rfl⟩)) (Nat.lt_succ_self _) (Nat.zero_le _) rfl (by kernel_rfl) (by kernel_rfl) rfl ⟨⟨rfl,rfl,rfl⟩,⟨⟨rfl,rfl,rfl⟩,⟨⟨rfl,rfl,rfl⟩,wkB_live0 rfl (cellsM_idlt (f := BookRow.v) (fun _=>rfl) _) rfl trivial⟩⟩⟩
 rw [p_law26_Book_l1] at H
 conv=>whnf
 refine LenQ.M ?_;conv=>whnf
 refine tst_d H (fun b15 H=>?_) (fun b15 H=>?_)
 ·conv=>whnf
  obtain rfl := Option.some.inj H
  have H := HQ4
  try dsimp only at H
  refine ⟨Nat.le_of_ble_eq_true rfl,?_⟩;conv=>whnf
  refine finR_c (enc := BookState.v) H ?_;conv=>whnf
  exact ⟨_,.v (fzagg (.cons (.id rfl) (.cons (fzown (f := BookRow.v) (l := y14.Rows) rfl rfl (fun _=>rfl) (fun _=>rfl)) (.nil))) rfl)⟩
 conv=>whnf
 refine ixs_c (f := BookRow.v) H (fun _=>rfl) (fun x16 H=>?_);conv=>whnf
 refine ⟨Nat.le_of_ble_eq_true rfl,?_⟩;conv=>whnf
 refine ixs_c (f := BookRow.v) H (fun _=>rfl) (fun x17 H=>?_);conv=>whnf
 refine ⟨Nat.le_of_ble_eq_true rfl,?_⟩;conv=>whnf
 refine ixs_c (f := BookRow.v) H (fun _=>rfl) (fun x18 H=>?_);conv=>whnf
 refine ⟨Nat.le_of_ble_eq_true rfl,?_⟩;conv=>whnf
 refine appO_c (f := BookRow.v) H (fun _=>rfl) rfl (Nat.le_refl _) (.v (srcOwn (f := BookRow.v) (l := [(BookRow.mk x16.User x17.Res x18.P)]) (fun _=>rfl) rfl rfl rfl)) (by decide) rfl (by simp) (fun l19 H=>?_);conv=>whnf
 refine ⟨Nat.le_of_ble_eq_true rfl,?_⟩;conv=>whnf
 refine FootQ.mk ⟨rfl,?_⟩;conv=>whnf
 refine Ari.w ?_;conv=>whnf
 exact again_c [8,9,10,11,12,13,14,15,16,17,18,19,20,21,22,23,24,25,26,27,28,29,30,31,32,33,34,35,36,37,38,5] n5 4 [0,1,2,5] (.inr (⟨_,_,H,rfl,rfl⟩)) (Nat.lt_succ_self _) (Nat.zero_le _) rfl (by kernel_rfl) (by kernel_rfl) rfl ⟨⟨rfl,rfl,rfl⟩,⟨⟨rfl,rfl,rfl⟩,⟨⟨rfl,rfl,rfl⟩,wkB_live0 rfl (cellsM_idlt (f := BookRow.v) (fun _=>rfl) _) rfl trivial⟩⟩⟩
def gc86 : BCode := (.seq (.reg 0 [⟨(some 4),.mv (.const (.bool false)),none,0⟩] none 0 []) (.seq (.seq (.reg 0 [⟨(some 5),.mv (.const (.int .i64 0)),none,0⟩] none 0 []) (.block 0 (.loop (.seq (.seq (.reg 0 [⟨(some 6),.mv (.tmp 5),none,0⟩,⟨(some 7),.mv (.tmp 0),none,0⟩,⟨(some 8),.lens (.tmp 7),none,0⟩,⟨(some 9),.bin .lss (.tmp 6) (.tmp 8),none,0⟩] none 0 []) (.cond (.tmp 9) .skip (.exit 0))) (.seq (.block 1 (.seq (.reg 0 [⟨(some 12),.mv (.tmp 0),none,0⟩,⟨(some 13),.mv (.tmp 5),none,0⟩,⟨(some 14),.ixs 1 (.tmp 12) (.tmp 13),none,0⟩,⟨(some 15),.ld 1 false (.tmp 14),none,0⟩,⟨(some 16),.mv (.tmp 1),none,0⟩,⟨(some 17),.bin .eql (.tmp 15) (.tmp 16),none,0⟩] none 0 []) (.cond (.tmp 17) (.seq (.reg 0 [⟨(some 4),.mv (.const (.bool true)),none,0⟩] none 0 []) .ret) .skip))) (.reg 0 [⟨(some 10),.mv (.tmp 5),none,0⟩,⟨(some 11),.bin .add (.tmp 10) (.const (.int .i64 1)),none,0⟩,⟨(some 5),.mv (.tmp 11),none,0⟩] none 0 [])))))) (.seq (.reg 0 [⟨(some 4),.mv (.const (.bool false)),none,0⟩] none 0 []) .ret)))
theorem gc86_ok : compF Tryz.prog Tryz.f86 = some (gc86.er,18,[.tmp 4]) := by unfold gc86;kernel_rfl
set_option maxRecDepth 100000 in
set_option maxHeartbeats 4000000 in
theorem p_ref26_has_v {u1 : Bool} (a0 : List ByteArray) (a1 : ByteArray) : CallsO Tryz.prog 86 [.sl (List.map V.s a0) u1,.s a1] V.b (p_ref26_has a0 a1) := by
 refine callsO_comp mix Tryz.func86 gc86_ok fun r H=>?_
 rw [p_ref26_has] at H
 conv=>whnf
 obtain ⟨o2,HL3,HQ4⟩ := bind_c H
 refine loop_c [4,5] [6,7,8,9,10,11,12,13,14,15,16,17] [6,7,8,9,10,11,12,13,14,15,16,17] (fun n vals st=>(∃ y6,p_ref26_has_l1  a0 a1 n y6 = some o2 ∧ vals = [.b false,.i y6] ∧ st = [])) fuel 0 [] (⟨_,HL3,rfl,rfl⟩) (Nat.zero_le _) rfl (by kernel_rfl) (by kernel_rfl) rfl trivial ?_
 rintro (_ | n5) _ _ (⟨y6,H,rfl,rfl⟩)
 ·rw [p_ref26_has_l1] at H;cases H
 rw [p_ref26_has_l1] at H
 conv=>whnf
 refine LenQ.M ?_;conv=>whnf
 refine tst_d H (fun b7 H=>?_) (fun b7 H=>?_)
 ·conv=>whnf
  obtain rfl := Option.some.inj H
  have H := HQ4
  try dsimp only at H
  exact fin0_c (enc := V.b) H (.inr rfl) (.cons (.tmp rfl) (.nil)) rfl rfl
 conv=>whnf
 refine ixs_c (f := V.s) H (fun _=>rfl) (fun x8 H=>?_);conv=>whnf
 refine tst_c H (fun b9 H=>?_) (fun b9 H=>?_)
 ·conv=>whnf
  obtain rfl := Option.some.inj H
  have H := HQ4
  try dsimp only at H
  exact fin0_c (enc := V.b) H (.inr rfl) (.cons (.tmp rfl) (.nil)) rfl rfl
 conv=>whnf
 refine Ari.w ?_;conv=>whnf
 exact again_c [6,7,8,9,10,11,12,13,14,15,16,17] n5 0 [] (⟨_,H,rfl,rfl⟩) (Nat.lt_succ_self _) (Nat.zero_le _) rfl (by kernel_rfl) (by kernel_rfl) rfl trivial
def gc157 : BCode := (.seq (.reg 0 [⟨(some 4),.mv (.const (.bool false)),none,0⟩] none 0 []) (.seq (.reg 0 [⟨(some 5),.mv (.tmp 0),none,0⟩,⟨(some 6),.cl 107 [(.tmp 5)],none,0⟩,⟨(some 7),.mv (.tmp 6),none,0⟩,⟨(some 8),.mv (.tmp 1),(some (7,true)),0⟩,⟨(some 9),.cl 226 [(.tmp 8)],(some (7,true)),0⟩,⟨(some 10),.bin .eql (.tmp 9) (.const (.int .i64 0)),(some (7,true)),0⟩,⟨(some 11),.pick (.tmp 7) (.tmp 10) (.const (.bool false)),none,0⟩,⟨(some 4),.mv (.tmp 11),none,0⟩] none 0 []) .ret))
theorem gc157_ok : compF Tryz.prog Tryz.f157 = some (gc157.er,12,[.tmp 4]) := by unfold gc157;kernel_rfl
set_option maxRecDepth 100000 in
set_option maxHeartbeats 4000000 in
theorem p_ref23_named_v (a0 : ByteArray) (a1 : ByteArray) : CallsO Tryz.prog 157 [.s a0,.s a1] V.b (p_ref23_named a0 a1) := by
 refine callsO_comp mix Tryz.func157 gc157_ok fun r H=>?_
 rw [p_ref23_named] at H
 conv=>whnf
 refine ask_c (p_ref09_IsBare_v _) H rfl rfl (fun v1 H=>?_);conv=>whnf
 refine tst_d H (fun b2 H=>?_) (fun b2 H=>?_)
 ·conv=>whnf
  iterate 3 (refine Tst.F ?_;conv=>whnf)
  exact fin0_c (enc := V.b) H (.inr rfl) (.cons (.tmp rfl) (.nil)) rfl rfl
 conv=>whnf
 refine Tst.T ?_;conv=>whnf
 refine ask_c (p_ref09_Resource_v _) H rfl rfl (fun v3 H=>?_);conv=>whnf
 iterate 2 (refine Tst.T ?_;conv=>whnf)
 exact fin0_c (enc := V.b) H (.inr rfl) (.cons (.tmp rfl) (.nil)) rfl rfl
def gc87 : BCode := (.seq (.reg 0 [⟨(some 4),.mv (.const (.string ⟨#[]⟩)),none,0⟩] none 0 []) (.seq (.seq (.reg 0 [⟨(some 5),.mv (.tmp 0),none,0⟩,⟨(some 6),.mv (.tmp 1),none,0⟩,⟨(some 7),.cl 157 [(.tmp 5),(.tmp 6)],none,0⟩,⟨(some 8),.un .not (.tmp 7),none,0⟩] none 0 []) (.cond (.tmp 8) (.seq (.reg 0 [⟨(some 4),.mv (.const (.string ⟨#[]⟩)),none,0⟩] none 0 []) .ret) .skip)) (.seq (.reg 0 [⟨(some 9),.mv (.tmp 0),none,0⟩,⟨(some 10),.bin .add (.tmp 9) (.const (.string ⟨#[32]⟩)),none,0⟩,⟨(some 11),.mv (.tmp 1),none,0⟩,⟨(some 12),.bin .add (.tmp 10) (.tmp 11),none,0⟩,⟨(some 4),.mv (.tmp 12),none,0⟩] none 0 []) .ret)))
theorem gc87_ok : compF Tryz.prog Tryz.f87 = some (gc87.er,13,[.tmp 4]) := by unfold gc87;kernel_rfl
set_option maxRecDepth 100000 in
set_option maxHeartbeats 4000000 in
theorem p_ref23_Key_v (a0 : ByteArray) (a1 : ByteArray) : CallsO Tryz.prog 87 [.s a0,.s a1] V.s (p_ref23_Key a0 a1) := by
 refine callsO_comp mix Tryz.func87 gc87_ok fun r H=>?_
 rw [p_ref23_Key] at H
 conv=>whnf
 refine ask_c (p_ref23_named_v _ _) H rfl rfl (fun v1 H=>?_);conv=>whnf
 refine Tst.not ?_
 refine tst_d H (fun b2 H=>?_) (fun b2 H=>?_)
 ·conv=>whnf
  exact fin0_c (enc := V.s) H (.inr rfl) (.cons (.tmp rfl) (.nil)) rfl rfl
 conv=>whnf
 refine cat_c H (fun s3 H=>?_);conv=>whnf
 refine cat_c H (fun s4 H=>?_);conv=>whnf
 exact fin0_c (enc := V.s) H (.inr rfl) (.cons (.tmp rfl) (.nil)) rfl rfl
def gc16 : BCode := (.seq (.reg 2 [⟨(some 2),.bx (.tmp 0),none,0⟩,⟨(some 3),.bx (.tmp 1),none,1⟩,⟨(some 4),.mv (.const (.bool false)),none,2⟩] none 0 []) (.seq (.reg 0 [⟨(some 5),.fa 0 (.tmp 2),none,0⟩,⟨(some 6),.ld 1 false (.tmp 5),none,0⟩,⟨(some 7),.fa 0 (.tmp 3),none,0⟩,⟨(some 8),.ld 1 false (.tmp 7),none,0⟩,⟨(some 9),.cl 86 [(.tmp 6),(.tmp 8)],none,0⟩,⟨(some 10),.mv (.tmp 9),none,0⟩,⟨(some 11),.fa 1 (.tmp 2),(some (10,false)),0⟩,⟨(some 12),.ld 1 false (.tmp 11),(some (10,false)),0⟩,⟨(some 13),.fa 0 (.tmp 3),(some (10,false)),0⟩,⟨(some 14),.ld 1 false (.tmp 13),(some (10,false)),0⟩,⟨(some 15),.fa 1 (.tmp 3),(some (10,false)),0⟩,⟨(some 16),.ld 1 false (.tmp 15),(some (10,false)),0⟩,⟨(some 17),.cl 87 [(.tmp 14),(.tmp 16)],(some (10,false)),0⟩,⟨(some 18),.cl 86 [(.tmp 12),(.tmp 17)],(some (10,false)),0⟩,⟨(some 19),.pick (.tmp 10) (.const (.bool true)) (.tmp 18),none,0⟩,⟨(some 4),.mv (.tmp 19),none,0⟩] (some [[],[0],[],[2],[2,3,0,1],[1,0,3,2,4],[4,2,3,0,1,5],[5,1,0,3,2,4,6],[4,2,3,0,1,5],[5,1,0,3,2,4,8],[4,2,3,0,1,5],[5,1,0,3,2,4,10],[10,11,8,4,2,3,0,1,5,9],[9,8,11,10,12,6,4,2,3,0,1,5,7],[7,6,12,10,11,8,9,13,4,2,3,0,1,5],[5,1,0,3,2,4,13,9,8,11,10,12,6,7,14]]) 0 []) .ret))
theorem gc16_ok : compF Tryz.prog Tryz.f16 = some (gc16.er,20,[.tmp 4]) := by unfold gc16;kernel_rfl
set_option maxRecDepth 100000 in
set_option maxHeartbeats 4000000 in
theorem p_ref26_Sees_v {u1 u2 : Bool} (a0 : SnapEyes) (a1 : BookRow) : CallsO Tryz.prog 16 [.agg [.sl (List.map V.s a0.Users) u1,.sl (List.map V.s a0.Keys) u2],.agg [.s a1.User,.s a1.Res,.b a1.P.On,.i a1.P.Show,.i a1.P.Prio,.i a1.P.Seq]] V.b (p_ref26_Sees a0 a1) := by
 refine callsO_comp mix Tryz.func16 gc16_ok fun r H=>?_
 rw [p_ref26_Sees] at H
 conv=>whnf
 refine ask_c (p_ref26_has_v _ _) H rfl rfl (fun v1 H=>?_);conv=>whnf
 refine tst_c H (fun b2 H=>?_) (fun b2 H=>?_)
 ·conv=>whnf
  iterate 8 (refine Tst.T ?_;conv=>whnf)
  refine FootQ.mk ⟨rfl,?_⟩;conv=>whnf
  exact fin0_c (enc := V.b) H (.inr rfl) (.cons (.tmp rfl) (.nil)) rfl rfl
 conv=>whnf
 iterate 6 (refine Tst.F ?_;conv=>whnf)
 refine ask_c (p_ref23_Key_v _ _) H rfl rfl (fun v3 H=>?_);conv=>whnf
 refine Tst.F ?_;conv=>whnf
 refine ask_c (p_ref26_has_v _ _) H rfl rfl (fun v4 H=>?_);conv=>whnf
 refine Tst.F ?_;conv=>whnf
 refine FootQ.mk ⟨rfl,?_⟩;conv=>whnf
 exact fin0_c (enc := V.b) H (.inr rfl) (.cons (.tmp rfl) (.nil)) rfl rfl
end Go.Proofs.YthlhbgedidipkaaGreat
/- That the program's functions yield what the plain ones tell (written by a program of mine). -/
namespace Go.Proofs.YthlhbgedidipkaaGreat
open Go.RowKit
def gc18 : BCode := (.seq (.reg 0 [⟨(some 2),.mv (.const (.slice none 0 0)),none,0⟩] none 0 []) (.seq (.reg 0 [⟨(some 3),.mv (.const (.slice none 0 0)),none,0⟩] none 0 []) (.seq (.seq (.reg 0 [⟨(some 4),.mv (.const (.int .i64 0)),none,0⟩] none 0 []) (.block 0 (.loop (.seq (.seq (.reg 0 [⟨(some 5),.mv (.tmp 4),none,0⟩,⟨(some 6),.mv (.tmp 0),none,0⟩,⟨(some 7),.lens (.tmp 6),none,0⟩,⟨(some 8),.bin .lss (.tmp 5) (.tmp 7),none,0⟩] none 0 []) (.cond (.tmp 8) .skip (.exit 0))) (.seq (.block 1 (.reg 2 [⟨(some 11),.mv (.tmp 3),none,0⟩,⟨(some 12),.mv (.tmp 0),none,0⟩,⟨(some 13),.mv (.tmp 4),none,0⟩,⟨(some 14),.ixs 6 (.tmp 12) (.tmp 13),none,0⟩,⟨(some 15),.fa 0 (.tmp 14),none,0⟩,⟨(some 16),.ld 1 false (.tmp 15),none,0⟩,⟨(some 17),.mv (.tmp 0),none,0⟩,⟨(some 18),.mv (.tmp 4),none,0⟩,⟨(some 19),.ixs 6 (.tmp 17) (.tmp 18),none,0⟩,⟨(some 20),.fa 1 (.tmp 19),none,0⟩,⟨(some 21),.ld 1 false (.tmp 20),none,0⟩,⟨(some 22),.mv (.tmp 0),none,0⟩,⟨(some 23),.mv (.tmp 4),none,0⟩,⟨(some 24),.ixs 6 (.tmp 22) (.tmp 23),none,0⟩,⟨(some 25),.fa 2 (.tmp 24),none,0⟩,⟨(some 26),.ld 4 true (.tmp 25),none,0⟩,⟨(some 27),.bd [(.lit (.string ⟨#[]⟩)),(.lit (.string ⟨#[]⟩)),(.lit (.bool false)),(.lit (.int .i64 0)),(.lit (.int .i64 0)),(.lit (.int .i64 0))] [(0,1,(.tmp 16)),(1,1,(.tmp 21)),(2,4,(.tmp 26))],none,0⟩,⟨(some 28),.bs 6 1 [(.lit (.string ⟨#[]⟩)),(.lit (.string ⟨#[]⟩)),(.lit (.bool false)),(.lit (.int .i64 0)),(.lit (.int .i64 0)),(.lit (.int .i64 0))] [(0,(.tmp 27))],none,0⟩,⟨(some 29),.ap 6 64 (.tmp 11) (.tmp 28),none,1⟩,⟨(some 3),.mv (.tmp 29),none,2⟩] (some [[],[],[],[2,1],[1,2,3],[3,2,1,4],[],[],[7,6],[6,7,8],[8,7,6,9],[],[],[12,11],[11,12,13],[13,12,11,14],[14,11,12,13,15,9,6,7,8,10,4,1,2,3,5],[5,3,2,1,4,10,8,7,6,9,15,13,12,11,14,16],[16,14,11,12,13,15,9,6,7,8,10,4,1,2,3,5,17,0],[0,17,5,3,2,1,4,10,8,7,6,9,15,13,12,11,14,16,18]]) 0 [])) (.reg 0 [⟨(some 9),.mv (.tmp 4),none,0⟩,⟨(some 10),.bin .add (.tmp 9) (.const (.int .i64 1)),none,0⟩,⟨(some 4),.mv (.tmp 10),none,0⟩] none 0 [])))))) (.seq (.reg 0 [⟨(some 30),.mv (.tmp 3),none,0⟩,⟨(some 2),.mv (.tmp 30),none,0⟩] none 0 []) .ret))))
theorem gc18_ok : compF Tryz.prog Tryz.f18 = some (gc18.er,31,[.tmp 2]) := by unfold gc18;kernel_rfl
set_option maxRecDepth 100000 in
set_option maxHeartbeats 4000000 in
theorem p_law24_Rows_v {u1 : Bool} (a0 : List BookRow) : CallsO Tryz.prog 18 [.sl (List.map BookRow.v a0) u1] (fun l : List BookRow=>V.sl (l.map BookRow.v) false) (p_law24_Rows a0) := by
 refine callsO_comp mix Tryz.func18 gc18_ok fun r H=>?_
 rw [p_law24_Rows] at H
 conv=>whnf
 obtain ⟨o2,HL3,HQ4⟩ := bind_c H
 refine loop_c [3,4] [5,6,7,8,9,10,11,12,13,14,15,16,17,18,19,20,21,22,23,24,25,26,27,28,29] [5,6,7,8,9,10,11,12,13,14,15,16,17,18,19,20,21,22,23,24,25,26,27,28,29] (fun n vals st=>(∃ y6,p_law24_Rows_l1  a0 n [] y6 = some o2 ∧ vals = [.sl (List.map BookRow.v []) true,.i y6] ∧ st = []) ∨ (∃ y12 y13,p_law24_Rows_l1  a0 n y12 y13 = some o2 ∧ vals = [.osl 0 0 (List.length y12) 6 false,.i y13] ∧ st = [.live (cellsM BookRow.v y12) (cellsM BookRow.v y12).length])) fuel 0 [] (.inl (⟨_,HL3,rfl,rfl⟩)) (Nat.zero_le _) rfl (by kernel_rfl) (by kernel_rfl) rfl trivial ?_
 rintro (_ | n5) _ _ (⟨y6,H,rfl,rfl⟩ | ⟨y12,y13,H,rfl,rfl⟩)
 ·rw [p_law24_Rows_l1] at H;cases H
 ·rw [p_law24_Rows_l1] at H;cases H
 ·rw [p_law24_Rows_l1] at H
  conv=>whnf
  refine LenQ.M ?_;conv=>whnf
  refine tst_d H (fun b7 H=>?_) (fun b7 H=>?_)
  ·conv=>whnf
   obtain rfl := Option.some.inj H
   have H := HQ4
   try dsimp only at H
   refine finR_c (enc := (fun l : List BookRow=>V.sl (l.map BookRow.v) false)) H ?_;conv=>whnf
   exact ⟨_,.v (.c (.slw))⟩
  conv=>whnf
  refine ixs_c (f := BookRow.v) H (fun _=>rfl) (fun x8 H=>?_);conv=>whnf
  refine ⟨Nat.le_of_ble_eq_true rfl,?_⟩;conv=>whnf
  refine ixs_c (f := BookRow.v) H (fun _=>rfl) (fun x9 H=>?_);conv=>whnf
  refine ⟨Nat.le_of_ble_eq_true rfl,?_⟩;conv=>whnf
  refine ixs_c (f := BookRow.v) H (fun _=>rfl) (fun x10 H=>?_);conv=>whnf
  refine ⟨Nat.le_of_ble_eq_true rfl,?_⟩;conv=>whnf
  refine appN_c (f := BookRow.v) H (fun _=>rfl) (srcM (f := BookRow.v) (fun _=>rfl) _ _) rfl (.v (srcOwn (f := BookRow.v) (l := [(BookRow.mk x8.User x9.Res x10.P)]) (fun _=>rfl) rfl rfl rfl)) (by decide) rfl (by simp) (fun l11 H=>?_);conv=>whnf
  refine FootQ.mk ⟨rfl,?_⟩;conv=>whnf
  refine Ari.w ?_;conv=>whnf
  exact again_c [5,6,7,8,9,10,11,12,13,14,15,16,17,18,19,20,21,22,23,24,25,26,27,28,29] n5 1 [1] (.inr (⟨_,_,H,rfl,rfl⟩)) (Nat.lt_succ_self _) (Nat.zero_le _) rfl (by kernel_rfl) (by kernel_rfl) rfl (wkB_live0 rfl (cellsM_idlt (f := BookRow.v) (fun _=>rfl) _) rfl trivial)
 rw [p_law24_Rows_l1] at H
 conv=>whnf
 refine LenQ.M ?_;conv=>whnf
 refine tst_d H (fun b14 H=>?_) (fun b14 H=>?_)
 ·conv=>whnf
  obtain rfl := Option.some.inj H
  have H := HQ4
  try dsimp only at H
  refine finR_c (enc := (fun l : List BookRow=>V.sl (l.map BookRow.v) false)) H ?_;conv=>whnf
  exact ⟨_,.v (.c (fzown (f := BookRow.v) (l := y12) rfl rfl (fun _=>rfl) (fun _=>rfl)))⟩
 conv=>whnf
 refine ixs_c (f := BookRow.v) H (fun _=>rfl) (fun x15 H=>?_);conv=>whnf
 refine ⟨Nat.le_of_ble_eq_true rfl,?_⟩;conv=>whnf
 refine ixs_c (f := BookRow.v) H (fun _=>rfl) (fun x16 H=>?_);conv=>whnf
 refine ⟨Nat.le_of_ble_eq_true rfl,?_⟩;conv=>whnf
 refine ixs_c (f := BookRow.v) H (fun _=>rfl) (fun x17 H=>?_);conv=>whnf
 refine ⟨Nat.le_of_ble_eq_true rfl,?_⟩;conv=>whnf
 refine appO_c (f := BookRow.v) H (fun _=>rfl) rfl (Nat.le_refl _) (.v (srcOwn (f := BookRow.v) (l := [(BookRow.mk x15.User x16.Res x17.P)]) (fun _=>rfl) rfl rfl rfl)) (by decide) rfl (by simp) (fun l18 H=>?_);conv=>whnf
 refine FootQ.mk ⟨rfl,?_⟩;conv=>whnf
 refine Ari.w ?_;conv=>whnf
 exact again_c [5,6,7,8,9,10,11,12,13,14,15,16,17,18,19,20,21,22,23,24,25,26,27,28,29] n5 1 [2] (.inr (⟨_,_,H,rfl,rfl⟩)) (Nat.lt_succ_self _) (Nat.zero_le _) rfl (by kernel_rfl) (by kernel_rfl) rfl (wkB_live0 rfl (cellsM_idlt (f := BookRow.v) (fun _=>rfl) _) rfl trivial)
def gc144 : BCode := (.seq (.reg 1 [⟨(some 1),.bx (.tmp 0),none,0⟩,⟨(some 2),.mv (.const (.string ⟨#[]⟩)),none,1⟩] none 0 []) (.seq (.reg 0 [⟨(some 3),.fa 0 (.tmp 1),none,0⟩,⟨(some 4),.ld 1 false (.tmp 3),none,0⟩,⟨(some 5),.fa 1 (.tmp 1),none,0⟩,⟨(some 6),.ld 1 false (.tmp 5),none,0⟩,⟨(some 7),.cl 87 [(.tmp 4),(.tmp 6)],none,0⟩,⟨(some 2),.mv (.tmp 7),none,0⟩] none 0 []) .ret))
theorem gc144_ok : compF Tryz.prog Tryz.f144 = some (gc144.er,8,[.tmp 2]) := by unfold gc144;kernel_rfl
set_option maxRecDepth 100000 in
set_option maxHeartbeats 4000000 in
theorem p_ref24_key_v (a0 : BookRow) : CallsO Tryz.prog 144 [.agg [.s a0.User,.s a0.Res,.b a0.P.On,.i a0.P.Show,.i a0.P.Prio,.i a0.P.Seq]] V.s (p_ref24_key a0) := by
 refine callsO_comp mix Tryz.func144 gc144_ok fun r H=>?_
 rw [p_ref24_key] at H
 conv=>whnf
 refine ask_c (p_ref23_Key_v _ _) H rfl rfl (fun v1 H=>?_);conv=>whnf
 exact fin0_c (enc := V.s) H (.inr rfl) (.cons (.tmp rfl) (.nil)) rfl rfl
def gc145 : BCode := (.seq (.reg 1 [⟨(some 1),.bx (.tmp 0),none,0⟩,⟨(some 2),.mv (.const (.int .i64 0)),none,1⟩] none 0 []) (.seq (.seq (.reg 0 [⟨(some 3),.fa 1 (.tmp 1),none,0⟩,⟨(some 4),.ld 1 false (.tmp 3),none,0⟩,⟨(some 5),.bin .lss (.tmp 4) (.const (.int .i64 0)),none,0⟩,⟨(some 6),.mv (.tmp 5),none,0⟩,⟨(some 7),.fa 1 (.tmp 1),(some (6,false)),0⟩,⟨(some 8),.ld 1 false (.tmp 7),(some (6,false)),0⟩,⟨(some 9),.bin .gtr (.tmp 8) (.const (.int .i64 4)),(some (6,false)),0⟩,⟨(some 10),.pick (.tmp 6) (.const (.bool true)) (.tmp 9),none,0⟩,⟨(some 11),.mv (.tmp 10),none,0⟩,⟨(some 12),.fa 2 (.tmp 1),(some (11,false)),0⟩,⟨(some 13),.ld 1 false (.tmp 12),(some (11,false)),0⟩,⟨(some 14),.bin .lss (.tmp 13) (.const (.int .i64 (-128))),(some (11,false)),0⟩,⟨(some 15),.pick (.tmp 11) (.const (.bool true)) (.tmp 14),none,0⟩,⟨(some 16),.mv (.tmp 15),none,0⟩,⟨(some 17),.fa 2 (.tmp 1),(some (16,false)),0⟩,⟨(some 18),.ld 1 false (.tmp 17),(some (16,false)),0⟩,⟨(some 19),.bin .gtr (.tmp 18) (.const (.int .i64 127)),(some (16,false)),0⟩,⟨(some 20),.pick (.tmp 16) (.const (.bool true)) (.tmp 19),none,0⟩,⟨(some 21),.mv (.tmp 20),none,0⟩,⟨(some 22),.fa 3 (.tmp 1),(some (21,false)),0⟩,⟨(some 23),.ld 1 false (.tmp 22),(some (21,false)),0⟩,⟨(some 24),.bin .lss (.tmp 23) (.const (.int .i64 0)),(some (21,false)),0⟩,⟨(some 25),.pick (.tmp 21) (.const (.bool true)) (.tmp 24),none,0⟩,⟨(some 26),.mv (.tmp 25),none,0⟩,⟨(some 27),.fa 3 (.tmp 1),(some (26,false)),0⟩,⟨(some 28),.ld 1 false (.tmp 27),(some (26,false)),0⟩,⟨(some 29),.bin .gtr (.tmp 28) (.const (.int .i64 1099511627776)),(some (26,false)),0⟩,⟨(some 30),.pick (.tmp 26) (.const (.bool true)) (.tmp 29),none,0⟩] none 0 []) (.cond (.tmp 30) (.seq (.reg 0 [⟨(some 2),.mv (.const (.int .i64 8)),none,0⟩] none 0 []) .ret) .skip)) (.seq (.seq (.reg 0 [⟨(some 31),.fa 0 (.tmp 1),none,0⟩,⟨(some 32),.ld 1 false (.tmp 31),none,0⟩,⟨(some 33),.un .not (.tmp 32),none,0⟩,⟨(some 34),.mv (.tmp 33),none,0⟩,⟨(some 35),.fa 1 (.tmp 1),(some (34,true)),0⟩,⟨(some 36),.ld 1 false (.tmp 35),(some (34,true)),0⟩,⟨(some 37),.bin .neq (.tmp 36) (.const (.int .i64 0)),(some (34,true)),0⟩,⟨(some 38),.mv (.tmp 37),(some (34,true)),0⟩,⟨(some 39),.fa 2 (.tmp 1),(some (38,false)),0⟩,⟨(some 40),.ld 1 false (.tmp 39),(some (38,false)),0⟩,⟨(some 41),.bin .neq (.tmp 40) (.const (.int .i64 0)),(some (38,false)),0⟩,⟨(some 42),.pick (.tmp 38) (.const (.bool true)) (.tmp 41),(some (34,true)),0⟩,⟨(some 43),.pick (.tmp 34) (.tmp 42) (.const (.bool false)),none,0⟩] none 0 []) (.cond (.tmp 43) (.seq (.reg 0 [⟨(some 2),.mv (.const (.int .i64 4)),none,0⟩] none 0 []) .ret) .skip)) (.seq (.reg 0 [⟨(some 2),.mv (.const (.int .i64 0)),none,0⟩] none 0 []) .ret))))
theorem gc145_ok : compF Tryz.prog Tryz.f145 = some (gc145.er,44,[.tmp 2]) := by unfold gc145;kernel_rfl
set_option maxRecDepth 100000 in
set_option maxHeartbeats 4000000 in
theorem p_ref23_Check_v (a0 : PresPres) : CallsO Tryz.prog 145 [.agg [.b a0.On,.i a0.Show,.i a0.Prio,.i a0.Seq]] V.i (p_ref23_Check a0) := by
 refine callsO_comp mix Tryz.func145 gc145_ok fun r H=>?_
 rw [p_ref23_Check] at H
 conv=>whnf
 refine tst_c H (fun b1 H=>?_) (fun b1 H=>?_)
 ·conv=>whnf
  iterate 20 (refine Tst.T ?_;conv=>whnf)
  exact fin0_c (enc := V.i) H (.inr rfl) (.cons (.tmp rfl) (.nil)) rfl rfl
 conv=>whnf
 iterate 3 (refine Tst.F ?_;conv=>whnf)
 refine tst_c H (fun b2 H=>?_) (fun b2 H=>?_)
 ·conv=>whnf
  iterate 16 (refine Tst.T ?_;conv=>whnf)
  exact fin0_c (enc := V.i) H (.inr rfl) (.cons (.tmp rfl) (.nil)) rfl rfl
 conv=>whnf
 iterate 3 (refine Tst.F ?_;conv=>whnf)
 refine tst_c H (fun b3 H=>?_) (fun b3 H=>?_)
 ·conv=>whnf
  iterate 12 (refine Tst.T ?_;conv=>whnf)
  exact fin0_c (enc := V.i) H (.inr rfl) (.cons (.tmp rfl) (.nil)) rfl rfl
 conv=>whnf
 iterate 3 (refine Tst.F ?_;conv=>whnf)
 refine tst_c H (fun b4 H=>?_) (fun b4 H=>?_)
 ·conv=>whnf
  iterate 8 (refine Tst.T ?_;conv=>whnf)
  exact fin0_c (enc := V.i) H (.inr rfl) (.cons (.tmp rfl) (.nil)) rfl rfl
 conv=>whnf
 iterate 3 (refine Tst.F ?_;conv=>whnf)
 refine tst_c H (fun b5 H=>?_) (fun b5 H=>?_)
 ·conv=>whnf
  iterate 4 (refine Tst.T ?_;conv=>whnf)
  exact fin0_c (enc := V.i) H (.inr rfl) (.cons (.tmp rfl) (.nil)) rfl rfl
 conv=>whnf
 iterate 3 (refine Tst.F ?_;conv=>whnf)
 refine tst_c H (fun b6 H=>?_) (fun b6 H=>?_)
 ·conv=>whnf
  exact fin0_c (enc := V.i) H (.inr rfl) (.cons (.tmp rfl) (.nil)) rfl rfl
 conv=>whnf
 refine Tst.not ?_
 refine tst_c H (fun b7 H=>?_) (fun b7 H=>?_)
 ·conv=>whnf
  iterate 6 (refine Tst.F ?_;conv=>whnf)
  exact fin0_c (enc := V.i) H (.inr rfl) (.cons (.tmp rfl) (.nil)) rfl rfl
 conv=>whnf
 iterate 3 (refine Tst.T ?_;conv=>whnf)
 refine tst_c H (fun b8 H=>?_) (fun b8 H=>?_)
 ·conv=>whnf
  iterate 6 (refine Tst.T ?_;conv=>whnf)
  exact fin0_c (enc := V.i) H (.inr rfl) (.cons (.tmp rfl) (.nil)) rfl rfl
 conv=>whnf
 iterate 2 (refine Tst.F ?_;conv=>whnf)
 refine Tst.T ?_;conv=>whnf
 refine Tst.F ?_;conv=>whnf
 refine Tst.T ?_;conv=>whnf
 refine tst_c H (fun b9 H=>?_) (fun b9 H=>?_)
 ·conv=>whnf
  exact fin0_c (enc := V.i) H (.inr rfl) (.cons (.tmp rfl) (.nil)) rfl rfl
 conv=>whnf
 exact fin0_c (enc := V.i) H (.inr rfl) (.cons (.tmp rfl) (.nil)) rfl rfl
def gc146 : BCode := (.seq (.reg 1 [⟨(some 1),.bx (.tmp 0),none,0⟩,⟨(some 2),.mv (.const (.bool false)),none,1⟩] none 0 []) (.seq (.seq (.reg 0 [⟨(some 3),.mv (.const (.int .i64 0)),none,0⟩] none 0 []) (.block 0 (.loop (.seq (.seq (.reg 0 [⟨(some 6),.mv (.tmp 3),none,0⟩,⟨(some 7),.fa 1 (.tmp 1),none,0⟩,⟨(some 8),.ld 1 false (.tmp 7),none,0⟩,⟨(some 9),.lens (.tmp 8),none,0⟩,⟨(some 10),.bin .lss (.tmp 6) (.tmp 9),none,0⟩] none 0 []) (.cond (.tmp 10) .skip (.exit 0))) (.seq (.block 1 (.seq (.reg 1 [⟨(some 13),.fa 1 (.tmp 1),none,0⟩,⟨(some 14),.ld 1 false (.tmp 13),none,0⟩,⟨(some 15),.mv (.tmp 3),none,0⟩,⟨(some 16),.ixs 6 (.tmp 14) (.tmp 15),none,0⟩,⟨(some 17),.ld 6 true (.tmp 16),none,0⟩,⟨(some 4),.al (.agg [(.lit (.string ⟨#[]⟩)),(.lit (.string ⟨#[]⟩)),(.lit (.bool false)),(.lit (.int .i64 0)),(.lit (.int .i64 0)),(.lit (.int .i64 0))]),none,0⟩,⟨none,.st 6 (.tmp 4) (.tmp 17),none,1⟩] none 0 []) (.seq (.seq (.reg 0 [⟨(some 18),.fa 2 (.tmp 4),none,0⟩,⟨(some 19),.fa 3 (.tmp 18),none,0⟩,⟨(some 20),.ld 1 false (.tmp 19),none,0⟩,⟨(some 21),.bin .lss (.tmp 20) (.const (.int .i64 1)),none,0⟩,⟨(some 22),.mv (.tmp 21),none,0⟩,⟨(some 23),.fa 2 (.tmp 4),(some (22,false)),0⟩,⟨(some 24),.fa 3 (.tmp 23),(some (22,false)),0⟩,⟨(some 25),.ld 1 false (.tmp 24),(some (22,false)),0⟩,⟨(some 26),.fa 0 (.tmp 1),(some (22,false)),0⟩,⟨(some 27),.ld 1 false (.tmp 26),(some (22,false)),0⟩,⟨(some 28),.bin .gtr (.tmp 25) (.tmp 27),(some (22,false)),0⟩,⟨(some 29),.pick (.tmp 22) (.const (.bool true)) (.tmp 28),none,0⟩,⟨(some 30),.mv (.tmp 29),none,0⟩,⟨(some 31),.mv (.tmp 3),(some (30,false)),0⟩,⟨(some 32),.bin .gtr (.tmp 31) (.const (.int .i64 0)),(some (30,false)),0⟩,⟨(some 33),.mv (.tmp 32),(some (30,false)),0⟩,⟨(some 34),.fa 1 (.tmp 1),(some (33,true)),0⟩,⟨(some 35),.ld 1 false (.tmp 34),(some (33,true)),0⟩,⟨(some 36),.mv (.tmp 3),(some (33,true)),0⟩,⟨(some 37),.bin .sub (.tmp 36) (.const (.int .i64 1)),(some (33,true)),0⟩,⟨(some 38),.ixs 6 (.tmp 35) (.tmp 37),(some (33,true)),0⟩,⟨(some 39),.ld 6 true (.tmp 38),(some (33,true)),0⟩,⟨(some 40),.cl 144 [(.tmp 39)],(some (33,true)),0⟩,⟨(some 41),.ld 6 true (.tmp 4),(some (33,true)),0⟩,⟨(some 42),.cl 144 [(.tmp 41)],(some (33,true)),0⟩,⟨(some 43),.bin .geq (.tmp 40) (.tmp 42),(some (33,true)),0⟩,⟨(some 44),.pick (.tmp 33) (.tmp 43) (.const (.bool false)),(some (30,false)),0⟩,⟨(some 45),.pick (.tmp 30) (.const (.bool true)) (.tmp 44),none,0⟩] (some [[],[0],[0,1],[1,0,2],[2,0,1,3],[3,1,0,2,4],[4,2,0,1,3,5],[5,3,1,0,2,4,6],[3,1,0,2,4],[4,2,0,1,3,8],[8,9,6,4,2,0,1,3,5,7],[7,5,6,9,8,10,3,1,0,2,4],[4,2,0,1,3,10,8,9,6,5,7,11],[11,7,5,6,9,8,10,3,1,0,2,4,12],[12,4,2,0,1,3,10,8,9,6,5,7,11,13],[13,11,7,5,6,9,8,10,3,1,0,2,4,12,14],[14,12,4,2,0,1,3,10,8,9,6,5,7,11,13,15],[15,13,11,7,5,6,9,8,10,3,1,0,2,4,12,14,16],[14,12,4,2,0,1,3,10,8,9,6,5,7,11,13,15],[15,13,11,7,5,6,9,8,10,3,1,0,2,4,12,14,18],[18,19,16,14,12,4,2,0,1,3,10,8,9,6,5,7,11,13,15,17],[17,15,13,11,7,5,6,9,8,10,3,1,0,2,4,12,14,16,19,18,20],[20,18,19,16,14,12,4,2,0,1,3,10,8,9,6,5,7,11,13,15,17,21],[14,12,4,2,0,1,3,10,8,9,6,5,7,11,13,15],[21,17,16,19,18,20,22,15,13,11,7,5,6,9,8,10,3,1,0,2,4,12,14,23],[23,24,21,17,15,13,11,7,5,6,9,8,10,3,1,0,2,4,12,14,16,19,18,20,22],[22,20,18,19,16,17,21,24,23,25,14,12,4,2,0,1,3,10,8,9,6,5,7,11,13,15],[15,13,14,25,23,24,21,17,16,19,18,20,22,26,11,7,5,6,9,8,10,3,1,0,2,4,12]]) 0 []) (.cond (.tmp 45) (.seq (.reg 0 [⟨(some 2),.mv (.const (.bool false)),none,0⟩] none 0 []) .ret) .skip)) (.seq (.reg 0 [⟨(some 5),.mv (.const (.int .i64 0)),none,0⟩] none 0 []) (.block 2 (.loop (.seq (.seq (.reg 0 [⟨(some 46),.mv (.tmp 5),none,0⟩,⟨(some 47),.mv (.tmp 3),none,0⟩,⟨(some 48),.bin .lss (.tmp 46) (.tmp 47),none,0⟩] none 0 []) (.cond (.tmp 48) .skip (.exit 2))) (.seq (.block 3 (.seq (.reg 0 [⟨(some 51),.fa 1 (.tmp 1),none,0⟩,⟨(some 52),.ld 1 false (.tmp 51),none,0⟩,⟨(some 53),.mv (.tmp 5),none,0⟩,⟨(some 54),.ixs 6 (.tmp 52) (.tmp 53),none,0⟩,⟨(some 55),.fa 2 (.tmp 54),none,0⟩,⟨(some 56),.fa 3 (.tmp 55),none,0⟩,⟨(some 57),.ld 1 false (.tmp 56),none,0⟩,⟨(some 58),.fa 2 (.tmp 4),none,0⟩,⟨(some 59),.fa 3 (.tmp 58),none,0⟩,⟨(some 60),.ld 1 false (.tmp 59),none,0⟩,⟨(some 61),.bin .eql (.tmp 57) (.tmp 60),none,0⟩] (some [[],[0],[],[2,0,1],[1,0,2,3],[3,2,0,1,4],[4,1,0,2,3,5],[],[7],[7,8],[8,7,9,5,3,2,0,1,4,6]]) 0 []) (.cond (.tmp 61) (.seq (.reg 0 [⟨(some 2),.mv (.const (.bool false)),none,0⟩] none 0 []) .ret) .skip))) (.reg 0 [⟨(some 49),.mv (.tmp 5),none,0⟩,⟨(some 50),.bin .add (.tmp 49) (.const (.int .i64 1)),none,0⟩,⟨(some 5),.mv (.tmp 50),none,0⟩] none 0 []))))))))) (.reg 0 [⟨(some 11),.mv (.tmp 3),none,0⟩,⟨(some 12),.bin .add (.tmp 11) (.const (.int .i64 1)),none,0⟩,⟨(some 3),.mv (.tmp 12),none,0⟩] none 0 [])))))) (.seq (.reg 0 [⟨(some 2),.mv (.const (.bool true)),none,0⟩] none 0 []) .ret)))
theorem gc146_ok : compF Tryz.prog Tryz.f146 = some (gc146.er,62,[.tmp 2]) := by unfold gc146;kernel_rfl
set_option maxRecDepth 100000 in
set_option maxHeartbeats 4000000 in
theorem p_ref24_ordered_v {u1 : Bool} (a0 : BookState) : CallsO Tryz.prog 146 [.agg [.i a0.Seq,.sl (List.map BookRow.v a0.Rows) u1]] V.b (p_ref24_ordered a0) := by
 refine callsO_comp mix Tryz.func146 gc146_ok fun r H=>?_
 rw [p_ref24_ordered] at H
 conv=>whnf
 obtain ⟨o2,HL3,HQ4⟩ := bind_c H
 refine loop_c [2,3] [4,5,6,7,8,9,10,11,12,13,14,15,16,17,18,19,20,21,22,23,24,25,26,27,28,29,30,31,32,33,34,35,36,37,38,39,40,41,42,43,44,45,46,47,48,49,50,51,52,53,54,55,56,57,58,59,60,61] [4,5,6,7,8,9,10,11,12,13,14,15,16,17,18,19,20,21,22,23,24,25,26,27,28,29,30,31,32,33,34,35,36,37,38,39,40,41,42,43,44,45,46,47,48,49,50,51,52,53,54,55,56,57,58,59,60,61] (fun n vals st=>(∃ y6,p_ref24_ordered_l1  a0 n y6 = some o2 ∧ vals = [.b false,.i y6] ∧ st = [.live [.i a0.Seq,.sl (List.map BookRow.v a0.Rows) u1] 0])) fuel 1 [] (⟨_,HL3,rfl,rfl⟩) (Nat.zero_le _) rfl (by kernel_rfl) (by kernel_rfl) rfl ⟨⟨rfl,rfl,rfl⟩,trivial⟩ ?_
 rintro (_ | n5) _ _ (⟨y6,H,rfl,rfl⟩)
 ·rw [p_ref24_ordered_l1] at H;cases H
 rw [p_ref24_ordered_l1] at H
 conv=>whnf
 refine LenQ.M ?_;conv=>whnf
 refine tst_d H (fun b7 H=>?_) (fun b7 H=>?_)
 ·conv=>whnf
  obtain rfl := Option.some.inj H
  have H := HQ4
  try dsimp only at H
  exact fin0_c (enc := V.b) H (.inr rfl) (.cons (.tmp rfl) (.nil)) rfl rfl
 conv=>whnf
 refine ixs_c (f := BookRow.v) H (fun _=>rfl) (fun x8 H=>?_);conv=>whnf
 refine ⟨Nat.le_of_ble_eq_true rfl,?_⟩;conv=>whnf
 refine tst_c H (fun b9 H=>?_) (fun b9 H=>?_)
 ·conv=>whnf
  iterate 11 (refine Tst.T ?_;conv=>whnf)
  refine FootQ.mk ⟨rfl,?_⟩;conv=>whnf
  refine Tst.T ?_;conv=>whnf
  obtain rfl := Option.some.inj H
  have H := HQ4
  try dsimp only at H
  exact fin0_c (enc := V.b) H (.inr rfl) (.cons (.tmp rfl) (.nil)) rfl rfl
 conv=>whnf
 iterate 6 (refine Tst.F ?_;conv=>whnf)
 refine tst_c H (fun b10 H=>?_) (fun b10 H=>?_)
 ·conv=>whnf
  iterate 4 (refine Tst.T ?_;conv=>whnf)
  refine FootQ.mk ⟨rfl,?_⟩;conv=>whnf
  refine Tst.T ?_;conv=>whnf
  obtain rfl := Option.some.inj H
  have H := HQ4
  try dsimp only at H
  exact fin0_c (enc := V.b) H (.inr rfl) (.cons (.tmp rfl) (.nil)) rfl rfl
 conv=>whnf
 iterate 2 (refine Tst.F ?_;conv=>whnf)
 refine tst_d H (fun b11 H=>?_) (fun b11 H=>?_)
 ·conv=>whnf
  iterate 12 (refine Tst.F ?_;conv=>whnf)
  refine FootQ.mk ⟨rfl,?_⟩;conv=>whnf
  refine Tst.F ?_;conv=>whnf
  obtain ⟨o26,HL27,HQ28⟩ := bind_c H
  refine loop_c [2,5] [46,47,48,49,50,51,52,53,54,55,56,57,58,59,60,61,7,13,18,19,23,24,26] [46,47,48,49,50,51,52,53,54,55,56,57,58,59,60,61,7,13,18,19,23,24,26] (fun n vals st=>(∃ y30,p_ref24_ordered_l2  y6 a0 x8 n y30 = some o26 ∧ vals = [.b false,.i y30] ∧ st = [.live [.i a0.Seq,.sl (List.map BookRow.v a0.Rows) u1] 0,.live [.s x8.User,.s x8.Res,.b x8.P.On,.i x8.P.Show,.i x8.P.Prio,.i x8.P.Seq] 0])) fuel 2 [] (⟨_,HL27,rfl,rfl⟩) (Nat.zero_le _) rfl (by kernel_rfl) (by kernel_rfl) rfl ⟨⟨rfl,rfl,rfl⟩,⟨⟨rfl,rfl,rfl⟩,trivial⟩⟩ ?_
  rintro (_ | n29) _ _ (⟨y30,H,rfl,rfl⟩)
  ·rw [p_ref24_ordered_l2] at H;cases H
  rw [p_ref24_ordered_l2] at H
  conv=>whnf
  refine tst_d H (fun b31 H=>?_) (fun b31 H=>?_)
  ·conv=>whnf
   obtain rfl := Option.some.inj H
   have H := HQ28
   try dsimp only at H
   refine Ari.w ?_;conv=>whnf
   exact again_c [4,5,6,7,8,9,10,11,12,13,14,15,16,17,18,19,20,21,22,23,24,25,26,27,28,29,30,31,32,33,34,35,36,37,38,39,40,41,42,43,44,45,46,47,48,49,50,51,52,53,54,55,56,57,58,59,60,61] n5 1 [] (⟨_,H,rfl,rfl⟩) (Nat.lt_succ_self _) (Nat.zero_le _) rfl (by kernel_rfl) (by kernel_rfl) rfl ⟨⟨rfl,rfl,rfl⟩,trivial⟩
  conv=>whnf
  refine ixs_c (f := BookRow.v) H (fun _=>rfl) (fun x32 H=>?_);conv=>whnf
  refine ⟨Nat.le_of_ble_eq_true rfl,?_⟩;conv=>whnf
  refine ⟨Nat.le_of_ble_eq_true rfl,?_⟩;conv=>whnf
  refine FootQ.mk ⟨rfl,?_⟩;conv=>whnf
  refine tst_c H (fun b33 H=>?_) (fun b33 H=>?_)
  ·conv=>whnf
   obtain rfl := Option.some.inj H
   have H := HQ28
   try dsimp only at H
   obtain rfl := Option.some.inj H
   have H := HQ4
   try dsimp only at H
   exact fin0_c (enc := V.b) H (.inr rfl) (.cons (.tmp rfl) (.nil)) rfl rfl
  conv=>whnf
  refine Ari.w ?_;conv=>whnf
  exact again_c [46,47,48,49,50,51,52,53,54,55,56,57,58,59,60,61,7,13,18,19,23,24,26] n29 2 [] (⟨_,H,rfl,rfl⟩) (Nat.lt_succ_self _) (Nat.zero_le _) rfl (by kernel_rfl) (by kernel_rfl) rfl ⟨⟨rfl,rfl,rfl⟩,⟨⟨rfl,rfl,rfl⟩,trivial⟩⟩
 conv=>whnf
 iterate 3 (refine Tst.T ?_;conv=>whnf)
 refine Ari.w ?_;conv=>whnf
 refine Tst.T ?_;conv=>whnf
 refine ixs_c (f := BookRow.v) H (fun _=>rfl) (fun x12 H=>?_);conv=>whnf
 iterate 2 (refine Tst.T ?_;conv=>whnf)
 refine ask_c (p_ref24_key_v _) H rfl rfl (fun v13 H=>?_);conv=>whnf
 iterate 2 (refine Tst.T ?_;conv=>whnf)
 refine ask_c (p_ref24_key_v _) H rfl rfl (fun v14 H=>?_);conv=>whnf
 refine Tst.T ?_;conv=>whnf
 refine Tst.F ?_;conv=>whnf
 refine Tst.T ?_;conv=>whnf
 refine Tst.F ?_;conv=>whnf
 refine FootQ.mk ⟨rfl,?_⟩;conv=>whnf
 refine Tst.not ?_
 refine tst_d H (fun b15 H=>?_) (fun b15 H=>?_)
 ·conv=>whnf
  obtain rfl := Option.some.inj H
  have H := HQ4
  try dsimp only at H
  exact fin0_c (enc := V.b) H (.inr rfl) (.cons (.tmp rfl) (.nil)) rfl rfl
 conv=>whnf
 obtain ⟨o17,HL18,HQ19⟩ := bind_c H
 refine loop_c [2,5] [46,47,48,49,50,51,52,53,54,55,56,57,58,59,60,61,7,13,18,19,23,24,26,34] [46,47,48,49,50,51,52,53,54,55,56,57,58,59,60,61,7,13,18,19,23,24,26,34] (fun n vals st=>(∃ y21,p_ref24_ordered_l2  y6 a0 x8 n y21 = some o17 ∧ vals = [.b false,.i y21] ∧ st = [.live [.i a0.Seq,.sl (List.map BookRow.v a0.Rows) u1] 0,.live [.s x8.User,.s x8.Res,.b x8.P.On,.i x8.P.Show,.i x8.P.Prio,.i x8.P.Seq] 0])) fuel 2 [] (⟨_,HL18,rfl,rfl⟩) (Nat.zero_le _) rfl (by kernel_rfl) (by kernel_rfl) rfl ⟨⟨rfl,rfl,rfl⟩,⟨⟨rfl,rfl,rfl⟩,trivial⟩⟩ ?_
 rintro (_ | n20) _ _ (⟨y21,H,rfl,rfl⟩)
 ·rw [p_ref24_ordered_l2] at H;cases H
 rw [p_ref24_ordered_l2] at H
 conv=>whnf
 refine tst_d H (fun b22 H=>?_) (fun b22 H=>?_)
 ·conv=>whnf
  obtain rfl := Option.some.inj H
  have H := HQ19
  try dsimp only at H
  refine Ari.w ?_;conv=>whnf
  exact again_c [4,5,6,7,8,9,10,11,12,13,14,15,16,17,18,19,20,21,22,23,24,25,26,27,28,29,30,31,32,33,34,35,36,37,38,39,40,41,42,43,44,45,46,47,48,49,50,51,52,53,54,55,56,57,58,59,60,61] n5 1 [] (⟨_,H,rfl,rfl⟩) (Nat.lt_succ_self _) (Nat.zero_le _) rfl (by kernel_rfl) (by kernel_rfl) rfl ⟨⟨rfl,rfl,rfl⟩,trivial⟩
 conv=>whnf
 refine ixs_c (f := BookRow.v) H (fun _=>rfl) (fun x23 H=>?_);conv=>whnf
 refine ⟨Nat.le_of_ble_eq_true rfl,?_⟩;conv=>whnf
 refine ⟨Nat.le_of_ble_eq_true rfl,?_⟩;conv=>whnf
 refine FootQ.mk ⟨rfl,?_⟩;conv=>whnf
 refine tst_c H (fun b24 H=>?_) (fun b24 H=>?_)
 ·conv=>whnf
  obtain rfl := Option.some.inj H
  have H := HQ19
  try dsimp only at H
  obtain rfl := Option.some.inj H
  have H := HQ4
  try dsimp only at H
  exact fin0_c (enc := V.b) H (.inr rfl) (.cons (.tmp rfl) (.nil)) rfl rfl
 conv=>whnf
 refine Ari.w ?_;conv=>whnf
 exact again_c [46,47,48,49,50,51,52,53,54,55,56,57,58,59,60,61,7,13,18,19,23,24,26,34] n20 2 [] (⟨_,H,rfl,rfl⟩) (Nat.lt_succ_self _) (Nat.zero_le _) rfl (by kernel_rfl) (by kernel_rfl) rfl ⟨⟨rfl,rfl,rfl⟩,⟨⟨rfl,rfl,rfl⟩,trivial⟩⟩
end Go.Proofs.YthlhbgedidipkaaGreat
/- That the program's functions yield what the plain ones tell (written by a program of mine). -/
namespace Go.Proofs.YthlhbgedidipkaaGreat
open Go.RowKit
def gc147 : BCode := (.seq (.reg 1 [⟨(some 2),.bx (.tmp 0),none,0⟩,⟨(some 4),.mv (.const (.int .i64 0)),none,1⟩] none 0 []) (.seq (.reg 0 [⟨(some 5),.mv (.const (.int .i64 0)),none,0⟩] none 0 []) (.seq (.seq (.reg 0 [⟨(some 6),.mv (.const (.int .i64 0)),none,0⟩] none 0 []) (.block 0 (.loop (.seq (.seq (.reg 0 [⟨(some 7),.mv (.tmp 6),none,0⟩,⟨(some 8),.fa 1 (.tmp 2),none,0⟩,⟨(some 9),.ld 1 false (.tmp 8),none,0⟩,⟨(some 10),.lens (.tmp 9),none,0⟩,⟨(some 11),.bin .lss (.tmp 7) (.tmp 10),none,0⟩] none 0 []) (.cond (.tmp 11) .skip (.exit 0))) (.seq (.block 1 (.seq (.reg 0 [⟨(some 14),.fa 1 (.tmp 2),none,0⟩,⟨(some 15),.ld 1 false (.tmp 14),none,0⟩,⟨(some 16),.mv (.tmp 6),none,0⟩,⟨(some 17),.ixs 6 (.tmp 15) (.tmp 16),none,0⟩,⟨(some 18),.fa 0 (.tmp 17),none,0⟩,⟨(some 19),.ld 1 false (.tmp 18),none,0⟩,⟨(some 20),.mv (.tmp 1),none,0⟩,⟨(some 21),.bin .eql (.tmp 19) (.tmp 20),none,0⟩] none 0 []) (.cond (.tmp 21) (.reg 0 [⟨(some 22),.mv (.tmp 5),none,0⟩,⟨(some 23),.bin .add (.tmp 22) (.const (.int .i64 1)),none,0⟩,⟨(some 5),.mv (.tmp 23),none,0⟩] none 0 []) .skip))) (.reg 0 [⟨(some 12),.mv (.tmp 6),none,0⟩,⟨(some 13),.bin .add (.tmp 12) (.const (.int .i64 1)),none,0⟩,⟨(some 6),.mv (.tmp 13),none,0⟩] none 0 [])))))) (.seq (.reg 0 [⟨(some 24),.mv (.tmp 5),none,0⟩,⟨(some 4),.mv (.tmp 24),none,0⟩] none 0 []) .ret))))
theorem gc147_ok : compF Tryz.prog Tryz.f147 = some (gc147.er,25,[.tmp 4]) := by unfold gc147;kernel_rfl
set_option maxRecDepth 100000 in
set_option maxHeartbeats 4000000 in
theorem p_ref24_many_v {u1 : Bool} (a0 : BookState) (a1 : ByteArray) : CallsO Tryz.prog 147 [.agg [.i a0.Seq,.sl (List.map BookRow.v a0.Rows) u1],.s a1] V.i (p_ref24_many a0 a1) := by
 refine callsO_comp mix Tryz.func147 gc147_ok fun r H=>?_
 rw [p_ref24_many] at H
 conv=>whnf
 obtain ⟨o2,HL3,HQ4⟩ := bind_c H
 refine loop_c [5,6] [7,8,9,10,11,12,13,14,15,16,17,18,19,20,21,22,23] [7,8,9,10,11,12,13,14,15,16,17,18,19,20,21,22,23] (fun n vals st=>(∃ y6 y7,p_ref24_many_l1  a1 a0 n y6 y7 = some o2 ∧ vals = [.i y6,.i y7] ∧ st = [.live [.i a0.Seq,.sl (List.map BookRow.v a0.Rows) u1] 0])) fuel 1 [] (⟨_,_,HL3,rfl,rfl⟩) (Nat.zero_le _) rfl (by kernel_rfl) (by kernel_rfl) rfl ⟨⟨rfl,rfl,rfl⟩,trivial⟩ ?_
 rintro (_ | n5) _ _ (⟨y6,y7,H,rfl,rfl⟩)
 ·rw [p_ref24_many_l1] at H;cases H
 rw [p_ref24_many_l1] at H
 conv=>whnf
 refine LenQ.M ?_;conv=>whnf
 refine tst_d H (fun b8 H=>?_) (fun b8 H=>?_)
 ·conv=>whnf
  obtain rfl := Option.some.inj H
  have H := HQ4
  try dsimp only at H
  exact fin0_c (enc := V.i) H (.inr rfl) (.cons (.tmp rfl) (.nil)) rfl rfl
 conv=>whnf
 refine ixs_c (f := BookRow.v) H (fun _=>rfl) (fun x9 H=>?_);conv=>whnf
 refine ⟨Nat.le_of_ble_eq_true rfl,?_⟩;conv=>whnf
 refine tst_d H (fun b10 H=>?_) (fun b10 H=>?_)
 ·conv=>whnf
  refine Ari.w ?_;conv=>whnf
  exact again_c [7,8,9,10,11,12,13,14,15,16,17,18,19,20,21,22,23] n5 1 [] (⟨_,_,H,rfl,rfl⟩) (Nat.lt_succ_self _) (Nat.zero_le _) rfl (by kernel_rfl) (by kernel_rfl) rfl ⟨⟨rfl,rfl,rfl⟩,trivial⟩
 conv=>whnf
 iterate 2 (refine Ari.w ?_;conv=>whnf)
 exact again_c [7,8,9,10,11,12,13,14,15,16,17,18,19,20,21,22,23] n5 1 [] (⟨_,_,H,rfl,rfl⟩) (Nat.lt_succ_self _) (Nat.zero_le _) rfl (by kernel_rfl) (by kernel_rfl) rfl ⟨⟨rfl,rfl,rfl⟩,trivial⟩
def gc76 : BCode := (.seq (.reg 1 [⟨(some 1),.bx (.tmp 0),none,0⟩,⟨(some 2),.mv (.const (.int .i64 0)),none,1⟩] none 0 []) (.seq (.block 0 (.seq (.reg 0 [⟨(some 8),.fa 1 (.tmp 1),none,0⟩,⟨(some 9),.ld 1 false (.tmp 8),none,0⟩,⟨(some 10),.lens (.tmp 9),none,0⟩,⟨(some 11),.bin .gtr (.tmp 10) (.const (.int .i64 16)),none,0⟩,⟨(some 7),.mv (.tmp 11),none,0⟩] none 0 []) (.cond (.tmp 7) (.seq (.reg 0 [⟨(some 2),.mv (.const (.int .i64 5)),none,0⟩] none 0 []) .ret) (.seq (.reg 0 [⟨(some 13),.fa 0 (.tmp 1),none,0⟩,⟨(some 14),.ld 1 false (.tmp 13),none,0⟩,⟨(some 15),.bin .lss (.tmp 14) (.const (.int .i64 0)),none,0⟩,⟨(some 16),.mv (.tmp 15),none,0⟩,⟨(some 17),.fa 0 (.tmp 1),(some (16,false)),0⟩,⟨(some 18),.ld 1 false (.tmp 17),(some (16,false)),0⟩,⟨(some 19),.bin .gtr (.tmp 18) (.const (.int .i64 1099511627776)),(some (16,false)),0⟩,⟨(some 20),.pick (.tmp 16) (.const (.bool true)) (.tmp 19),none,0⟩,⟨(some 12),.mv (.tmp 20),none,0⟩] none 0 []) (.cond (.tmp 12) (.seq (.reg 0 [⟨(some 2),.mv (.const (.int .i64 8)),none,0⟩] none 0 []) .ret) .skip))))) (.seq (.seq (.reg 0 [⟨(some 3),.mv (.const (.int .i64 0)),none,0⟩] none 0 []) (.block 1 (.loop (.seq (.seq (.reg 0 [⟨(some 21),.mv (.tmp 3),none,0⟩,⟨(some 22),.fa 1 (.tmp 1),none,0⟩,⟨(some 23),.ld 1 false (.tmp 22),none,0⟩,⟨(some 24),.lens (.tmp 23),none,0⟩,⟨(some 25),.bin .lss (.tmp 21) (.tmp 24),none,0⟩] none 0 []) (.cond (.tmp 25) .skip (.exit 1))) (.seq (.block 2 (.seq (.reg 0 [⟨(some 28),.fa 1 (.tmp 1),none,0⟩,⟨(some 29),.ld 1 false (.tmp 28),none,0⟩,⟨(some 30),.mv (.tmp 3),none,0⟩,⟨(some 31),.ixs 6 (.tmp 29) (.tmp 30),none,0⟩,⟨(some 32),.ld 6 true (.tmp 31),none,0⟩,⟨(some 33),.cl 144 [(.tmp 32)],none,0⟩,⟨(some 34),.bin .eql (.tmp 33) (.const (.string ⟨#[]⟩)),none,0⟩] none 0 []) (.cond (.tmp 34) (.seq (.reg 0 [⟨(some 2),.mv (.const (.int .i64 11)),none,0⟩] none 0 []) .ret) .skip))) (.reg 0 [⟨(some 26),.mv (.tmp 3),none,0⟩,⟨(some 27),.bin .add (.tmp 26) (.const (.int .i64 1)),none,0⟩,⟨(some 3),.mv (.tmp 27),none,0⟩] none 0 [])))))) (.seq (.seq (.reg 0 [⟨(some 4),.mv (.const (.int .i64 0)),none,0⟩] none 0 []) (.block 3 (.loop (.seq (.seq (.reg 0 [⟨(some 35),.mv (.tmp 4),none,0⟩,⟨(some 36),.fa 1 (.tmp 1),none,0⟩,⟨(some 37),.ld 1 false (.tmp 36),none,0⟩,⟨(some 38),.lens (.tmp 37),none,0⟩,⟨(some 39),.bin .lss (.tmp 35) (.tmp 38),none,0⟩] none 0 []) (.cond (.tmp 39) .skip (.exit 3))) (.seq (.block 4 (.seq (.reg 0 [⟨(some 42),.fa 1 (.tmp 1),none,0⟩,⟨(some 43),.ld 1 false (.tmp 42),none,0⟩,⟨(some 44),.mv (.tmp 4),none,0⟩,⟨(some 45),.ixs 6 (.tmp 43) (.tmp 44),none,0⟩,⟨(some 46),.fa 2 (.tmp 45),none,0⟩,⟨(some 47),.ld 4 true (.tmp 46),none,0⟩,⟨(some 48),.cl 145 [(.tmp 47)],none,0⟩,⟨(some 5),.mv (.tmp 48),none,0⟩] none 0 []) (.seq (.seq (.reg 0 [⟨(some 49),.mv (.tmp 5),none,0⟩,⟨(some 50),.bin .neq (.tmp 49) (.const (.int .i64 0)),none,0⟩] none 0 []) (.cond (.tmp 50) (.seq (.reg 0 [⟨(some 51),.mv (.tmp 5),none,0⟩,⟨(some 2),.mv (.tmp 51),none,0⟩] none 0 []) .ret) .skip)) (.seq (.reg 0 [⟨(some 52),.fa 1 (.tmp 1),none,0⟩,⟨(some 53),.ld 1 false (.tmp 52),none,0⟩,⟨(some 54),.mv (.tmp 4),none,0⟩,⟨(some 55),.ixs 6 (.tmp 53) (.tmp 54),none,0⟩,⟨(some 56),.fa 2 (.tmp 55),none,0⟩,⟨(some 57),.fa 0 (.tmp 56),none,0⟩,⟨(some 58),.ld 1 false (.tmp 57),none,0⟩,⟨(some 59),.un .not (.tmp 58),none,0⟩] none 0 []) (.cond (.tmp 59) (.seq (.reg 0 [⟨(some 2),.mv (.const (.int .i64 4)),none,0⟩] none 0 []) .ret) .skip))))) (.reg 0 [⟨(some 40),.mv (.tmp 4),none,0⟩,⟨(some 41),.bin .add (.tmp 40) (.const (.int .i64 1)),none,0⟩,⟨(some 4),.mv (.tmp 41),none,0⟩] none 0 [])))))) (.seq (.seq (.reg 0 [⟨(some 60),.ld 2 true (.tmp 1),none,0⟩,⟨(some 61),.cl 146 [(.tmp 60)],none,0⟩,⟨(some 62),.un .not (.tmp 61),none,0⟩] none 0 []) (.cond (.tmp 62) (.seq (.reg 0 [⟨(some 2),.mv (.const (.int .i64 10)),none,0⟩] none 0 []) .ret) .skip)) (.seq (.seq (.reg 0 [⟨(some 6),.mv (.const (.int .i64 0)),none,0⟩] none 0 []) (.block 5 (.loop (.seq (.seq (.reg 0 [⟨(some 63),.mv (.tmp 6),none,0⟩,⟨(some 64),.fa 1 (.tmp 1),none,0⟩,⟨(some 65),.ld 1 false (.tmp 64),none,0⟩,⟨(some 66),.lens (.tmp 65),none,0⟩,⟨(some 67),.bin .lss (.tmp 63) (.tmp 66),none,0⟩] none 0 []) (.cond (.tmp 67) .skip (.exit 5))) (.seq (.block 6 (.seq (.reg 0 [⟨(some 70),.ld 2 true (.tmp 1),none,0⟩,⟨(some 71),.fa 1 (.tmp 1),none,0⟩,⟨(some 72),.ld 1 false (.tmp 71),none,0⟩,⟨(some 73),.mv (.tmp 6),none,0⟩,⟨(some 74),.ixs 6 (.tmp 72) (.tmp 73),none,0⟩,⟨(some 75),.fa 0 (.tmp 74),none,0⟩,⟨(some 76),.ld 1 false (.tmp 75),none,0⟩,⟨(some 77),.cl 147 [(.tmp 70),(.tmp 76)],none,0⟩,⟨(some 78),.bin .gtr (.tmp 77) (.const (.int .i64 3)),none,0⟩] (some [[],[],[1],[],[3,1,2],[2,1,3,4],[4,3,1,2,5],[5,2,1,3,4,6,0],[0,6,4,3,1,2,5,7]]) 0 []) (.cond (.tmp 78) (.seq (.reg 0 [⟨(some 2),.mv (.const (.int .i64 7)),none,0⟩] none 0 []) .ret) .skip))) (.reg 0 [⟨(some 68),.mv (.tmp 6),none,0⟩,⟨(some 69),.bin .add (.tmp 68) (.const (.int .i64 1)),none,0⟩,⟨(some 6),.mv (.tmp 69),none,0⟩] none 0 [])))))) (.seq (.reg 0 [⟨(some 2),.mv (.const (.int .i64 0)),none,0⟩] none 0 []) .ret)))))))
theorem gc76_ok : compF Tryz.prog Tryz.f76 = some (gc76.er,79,[.tmp 2]) := by unfold gc76;kernel_rfl
set_option maxRecDepth 100000 in
set_option maxHeartbeats 4000000 in
theorem p_ref24_Check_v {u1 : Bool} (a0 : BookState) : CallsO Tryz.prog 76 [.agg [.i a0.Seq,.sl (List.map BookRow.v a0.Rows) u1]] V.i (p_ref24_Check a0) := by
 refine callsO_comp mix Tryz.func76 gc76_ok fun r H=>?_
 rw [p_ref24_Check] at H
 conv=>whnf
 refine LenQ.M ?_;conv=>whnf
 refine tst_c H (fun b1 H=>?_) (fun b1 H=>?_)
 ·conv=>whnf
  exact fin0_c (enc := V.i) H (.inr rfl) (.cons (.tmp rfl) (.nil)) rfl rfl
 conv=>whnf
 refine tst_c H (fun b2 H=>?_) (fun b2 H=>?_)
 ·conv=>whnf
  iterate 4 (refine Tst.T ?_;conv=>whnf)
  exact fin0_c (enc := V.i) H (.inr rfl) (.cons (.tmp rfl) (.nil)) rfl rfl
 conv=>whnf
 iterate 3 (refine Tst.F ?_;conv=>whnf)
 refine tst_c H (fun b3 H=>?_) (fun b3 H=>?_)
 ·conv=>whnf
  exact fin0_c (enc := V.i) H (.inr rfl) (.cons (.tmp rfl) (.nil)) rfl rfl
 conv=>whnf
 obtain ⟨o5,HL6,HQ7⟩ := bind_c H
 refine loop_c [2,3] [21,22,23,24,25,26,27,28,29,30,31,32,33,34,8,13,17] [21,22,23,24,25,26,27,28,29,30,31,32,33,34,8,13,17] (fun n vals st=>(∃ y9,p_ref24_Check_l1  a0 n y9 = some o5 ∧ vals = [.i (0 : Int),.i y9] ∧ st = [.live [.i a0.Seq,.sl (List.map BookRow.v a0.Rows) u1] 0])) fuel 1 [] (⟨_,HL6,rfl,rfl⟩) (Nat.zero_le _) rfl (by kernel_rfl) (by kernel_rfl) rfl ⟨⟨rfl,rfl,rfl⟩,trivial⟩ ?_
 rintro (_ | n8) _ _ (⟨y9,H,rfl,rfl⟩)
 ·rw [p_ref24_Check_l1] at H;cases H
 rw [p_ref24_Check_l1] at H
 conv=>whnf
 refine LenQ.M ?_;conv=>whnf
 refine tst_c H (fun b10 H=>?_) (fun b10 H=>?_)
 ·conv=>whnf
  refine ixs_c (f := BookRow.v) H (fun _=>rfl) (fun x11 H=>?_);conv=>whnf
  refine ask_c (p_ref24_key_v _) H rfl rfl (fun v12 H=>?_);conv=>whnf
  refine tst_c H (fun b13 H=>?_) (fun b13 H=>?_)
  ·conv=>whnf
   obtain rfl := Option.some.inj H
   have H := HQ7
   try dsimp only at H
   exact fin0_c (enc := V.i) H (.inr rfl) (.cons (.tmp rfl) (.nil)) rfl rfl
  conv=>whnf
  refine Ari.w ?_;conv=>whnf
  exact again_c [21,22,23,24,25,26,27,28,29,30,31,32,33,34,8,13,17] n8 1 [] (⟨_,H,rfl,rfl⟩) (Nat.lt_succ_self _) (Nat.zero_le _) rfl (by kernel_rfl) (by kernel_rfl) rfl ⟨⟨rfl,rfl,rfl⟩,trivial⟩
 conv=>whnf
 obtain rfl := Option.some.inj H
 have H := HQ7
 try dsimp only at H
 obtain ⟨o15,HL16,HQ17⟩ := bind_c H
 refine loop_c [2,4] [5,35,36,37,38,39,40,41,42,43,44,45,46,47,48,49,50,51,52,53,54,55,56,57,58,59,22] [5,35,36,37,38,39,40,41,42,43,44,45,46,47,48,49,50,51,52,53,54,55,56,57,58,59,22] (fun n vals st=>(∃ y19,p_ref24_Check_l2  a0 n y19 = some o15 ∧ vals = [.i (0 : Int),.i y19] ∧ st = [.live [.i a0.Seq,.sl (List.map BookRow.v a0.Rows) u1] 0])) fuel 1 [] (⟨_,HL16,rfl,rfl⟩) (Nat.zero_le _) rfl (by kernel_rfl) (by kernel_rfl) rfl ⟨⟨rfl,rfl,rfl⟩,trivial⟩ ?_
 rintro (_ | n18) _ _ (⟨y19,H,rfl,rfl⟩)
 ·rw [p_ref24_Check_l2] at H;cases H
 rw [p_ref24_Check_l2] at H
 conv=>whnf
 refine LenQ.M ?_;conv=>whnf
 refine tst_c H (fun b20 H=>?_) (fun b20 H=>?_)
 ·conv=>whnf
  refine ixs_c (f := BookRow.v) H (fun _=>rfl) (fun x21 H=>?_);conv=>whnf
  refine ⟨Nat.le_of_ble_eq_true rfl,?_⟩;conv=>whnf
  refine ask_c (p_ref23_Check_v _) H rfl rfl (fun v22 H=>?_);conv=>whnf
  refine tst_c H (fun b23 H=>?_) (fun b23 H=>?_)
  ·conv=>whnf
   obtain rfl := Option.some.inj H
   have H := HQ17
   try dsimp only at H
   exact fin0_c (enc := V.i) H (.inr rfl) (.cons (.tmp rfl) (.nil)) rfl rfl
  conv=>whnf
  refine ixs_c (f := BookRow.v) H (fun _=>rfl) (fun x24 H=>?_);conv=>whnf
  refine ⟨Nat.le_of_ble_eq_true rfl,?_⟩;conv=>whnf
  refine ⟨Nat.le_of_ble_eq_true rfl,?_⟩;conv=>whnf
  refine Tst.not ?_
  refine tst_d H (fun b25 H=>?_) (fun b25 H=>?_)
  ·conv=>whnf
   obtain rfl := Option.some.inj H
   have H := HQ17
   try dsimp only at H
   exact fin0_c (enc := V.i) H (.inr rfl) (.cons (.tmp rfl) (.nil)) rfl rfl
  conv=>whnf
  refine Ari.w ?_;conv=>whnf
  exact again_c [5,35,36,37,38,39,40,41,42,43,44,45,46,47,48,49,50,51,52,53,54,55,56,57,58,59,22] n18 1 [] (⟨_,H,rfl,rfl⟩) (Nat.lt_succ_self _) (Nat.zero_le _) rfl (by kernel_rfl) (by kernel_rfl) rfl ⟨⟨rfl,rfl,rfl⟩,trivial⟩
 conv=>whnf
 obtain rfl := Option.some.inj H
 have H := HQ17
 try dsimp only at H
 refine ask_c (p_ref24_ordered_v _) H rfl rfl (fun v26 H=>?_);conv=>whnf
 refine Tst.not ?_
 refine tst_d H (fun b27 H=>?_) (fun b27 H=>?_)
 ·conv=>whnf
  exact fin0_c (enc := V.i) H (.inr rfl) (.cons (.tmp rfl) (.nil)) rfl rfl
 conv=>whnf
 obtain ⟨o29,HL30,HQ31⟩ := bind_c H
 refine loop_c [2,6] [63,64,65,66,67,68,69,70,71,72,73,74,75,76,77,78,36] [63,64,65,66,67,68,69,70,71,72,73,74,75,76,77,78,36] (fun n vals st=>(∃ y33,p_ref24_Check_l3  a0 n y33 = some o29 ∧ vals = [.i (0 : Int),.i y33] ∧ st = [.live [.i a0.Seq,.sl (List.map BookRow.v a0.Rows) u1] 0])) fuel 1 [] (⟨_,HL30,rfl,rfl⟩) (Nat.zero_le _) rfl (by kernel_rfl) (by kernel_rfl) rfl ⟨⟨rfl,rfl,rfl⟩,trivial⟩ ?_
 rintro (_ | n32) _ _ (⟨y33,H,rfl,rfl⟩)
 ·rw [p_ref24_Check_l3] at H;cases H
 rw [p_ref24_Check_l3] at H
 conv=>whnf
 refine LenQ.M ?_;conv=>whnf
 refine tst_d H (fun b34 H=>?_) (fun b34 H=>?_)
 ·conv=>whnf
  obtain rfl := Option.some.inj H
  have H := HQ31
  try dsimp only at H
  exact fin0_c (enc := V.i) H (.inr rfl) (.cons (.tmp rfl) (.nil)) rfl rfl
 conv=>whnf
 refine ixs_c (f := BookRow.v) H (fun _=>rfl) (fun x35 H=>?_);conv=>whnf
 refine ⟨Nat.le_of_ble_eq_true rfl,?_⟩;conv=>whnf
 refine ask_c (p_ref24_many_v _ _) H rfl rfl (fun v36 H=>?_);conv=>whnf
 refine FootQ.mk ⟨rfl,?_⟩;conv=>whnf
 refine tst_c H (fun b37 H=>?_) (fun b37 H=>?_)
 ·conv=>whnf
  obtain rfl := Option.some.inj H
  have H := HQ31
  try dsimp only at H
  exact fin0_c (enc := V.i) H (.inr rfl) (.cons (.tmp rfl) (.nil)) rfl rfl
 conv=>whnf
 refine Ari.w ?_;conv=>whnf
 exact again_c [63,64,65,66,67,68,69,70,71,72,73,74,75,76,77,78,36] n32 1 [] (⟨_,H,rfl,rfl⟩) (Nat.lt_succ_self _) (Nat.zero_le _) rfl (by kernel_rfl) (by kernel_rfl) rfl ⟨⟨rfl,rfl,rfl⟩,trivial⟩
def gc20 : BCode := (.seq (.reg 2 [⟨(some 2),.bx (.tmp 0),none,0⟩,⟨(some 3),.bx (.tmp 1),none,1⟩,⟨(some 4),.mv (.const (.slice none 0 0)),none,2⟩] none 0 []) (.seq (.reg 0 [⟨(some 5),.mv (.const (.slice none 0 0)),none,0⟩] none 0 []) (.seq (.seq (.reg 0 [⟨(some 6),.mv (.const (.int .i64 0)),none,0⟩] none 0 []) (.block 0 (.loop (.seq (.seq (.reg 0 [⟨(some 7),.mv (.tmp 6),none,0⟩,⟨(some 8),.fa 1 (.tmp 3),none,0⟩,⟨(some 9),.ld 1 false (.tmp 8),none,0⟩,⟨(some 10),.lens (.tmp 9),none,0⟩,⟨(some 11),.bin .lss (.tmp 7) (.tmp 10),none,0⟩,⟨(some 12),.mv (.tmp 11),none,0⟩,⟨(some 13),.ld 2 true (.tmp 3),(some (12,true)),0⟩,⟨(some 14),.cl 76 [(.tmp 13)],(some (12,true)),0⟩,⟨(some 15),.bin .eql (.tmp 14) (.const (.int .i64 0)),(some (12,true)),0⟩,⟨(some 16),.pick (.tmp 12) (.tmp 15) (.const (.bool false)),none,0⟩] none 0 []) (.cond (.tmp 16) .skip (.exit 0))) (.seq (.block 1 (.seq (.reg 0 [⟨(some 19),.ld 2 true (.tmp 2),none,0⟩,⟨(some 20),.fa 1 (.tmp 3),none,0⟩,⟨(some 21),.ld 1 false (.tmp 20),none,0⟩,⟨(some 22),.mv (.tmp 6),none,0⟩,⟨(some 23),.ixs 6 (.tmp 21) (.tmp 22),none,0⟩,⟨(some 24),.ld 6 true (.tmp 23),none,0⟩,⟨(some 25),.cl 16 [(.tmp 19),(.tmp 24)],none,0⟩] (some [[],[],[1],[],[3,1,2],[2,1,3,4],[4,3,1,2,5,0]]) 0 []) (.cond (.tmp 25) (.reg 2 [⟨(some 26),.mv (.tmp 5),none,0⟩,⟨(some 27),.fa 1 (.tmp 3),none,0⟩,⟨(some 28),.ld 1 false (.tmp 27),none,0⟩,⟨(some 29),.mv (.tmp 6),none,0⟩,⟨(some 30),.ixs 6 (.tmp 28) (.tmp 29),none,0⟩,⟨(some 31),.ld 6 true (.tmp 30),none,0⟩,⟨(some 32),.bs 6 1 [(.lit (.string ⟨#[]⟩)),(.lit (.string ⟨#[]⟩)),(.lit (.bool false)),(.lit (.int .i64 0)),(.lit (.int .i64 0)),(.lit (.int .i64 0))] [(0,(.tmp 31))],none,0⟩,⟨(some 33),.ap 6 64 (.tmp 26) (.tmp 32),none,1⟩,⟨(some 5),.mv (.tmp 33),none,2⟩] none 0 []) .skip))) (.reg 0 [⟨(some 17),.mv (.tmp 6),none,0⟩,⟨(some 18),.bin .add (.tmp 17) (.const (.int .i64 1)),none,0⟩,⟨(some 6),.mv (.tmp 18),none,0⟩] none 0 [])))))) (.seq (.reg 0 [⟨(some 34),.mv (.tmp 5),none,0⟩,⟨(some 4),.mv (.tmp 34),none,0⟩] none 0 []) .ret))))
theorem gc20_ok : compF Tryz.prog Tryz.f20 = some (gc20.er,35,[.tmp 4]) := by unfold gc20;kernel_rfl
set_option maxRecDepth 100000 in
set_option maxHeartbeats 4000000 in
theorem p_ref26_View_v {u1 u2 u3 : Bool} (a0 : SnapEyes) (a1 : BookState) : CallsO Tryz.prog 20 [.agg [.sl (List.map V.s a0.Users) u1,.sl (List.map V.s a0.Keys) u2],.agg [.i a1.Seq,.sl (List.map BookRow.v a1.Rows) u3]] (fun l : List BookRow=>V.sl (l.map BookRow.v) false) (p_ref26_View a0 a1) := by
 refine callsO_comp mix Tryz.func20 gc20_ok fun r H=>?_
 rw [p_ref26_View] at H
 conv=>whnf
 obtain ⟨o2,HL3,HQ4⟩ := bind_c H
 refine loop_c [5,6] [7,8,9,10,11,12,13,14,15,16,17,18,19,20,21,22,23,24,25,26,27,28,29,30,31,32,33] [7,8,9,10,11,12,13,14,15,16,17,18,19,20,21,22,23,24,25,26,27,28,29,30,31,32,33] (fun n vals st=>(∃ y6,p_ref26_View_l1  a0 a1 n [] y6 = some o2 ∧ vals = [.sl (List.map BookRow.v []) true,.i y6] ∧ st = [.live [.sl (List.map V.s a0.Users) u1,.sl (List.map V.s a0.Keys) u2] 0,.live [.i a1.Seq,.sl (List.map BookRow.v a1.Rows) u3] 0]) ∨ (∃ y15 y16,p_ref26_View_l1  a0 a1 n y15 y16 = some o2 ∧ vals = [.osl 2 0 (List.length y15) 6 false,.i y16] ∧ st = [.live [.sl (List.map V.s a0.Users) u1,.sl (List.map V.s a0.Keys) u2] 0,.live [.i a1.Seq,.sl (List.map BookRow.v a1.Rows) u3] 0,.live (cellsM BookRow.v y15) (cellsM BookRow.v y15).length])) fuel 2 [] (.inl (⟨_,HL3,rfl,rfl⟩)) (Nat.zero_le _) rfl (by kernel_rfl) (by kernel_rfl) rfl ⟨⟨rfl,rfl,rfl⟩,⟨⟨rfl,rfl,rfl⟩,trivial⟩⟩ ?_
 rintro (_ | n5) _ _ (⟨y6,H,rfl,rfl⟩ | ⟨y15,y16,H,rfl,rfl⟩)
 ·rw [p_ref26_View_l1] at H;cases H
 ·rw [p_ref26_View_l1] at H;cases H
 ·rw [p_ref26_View_l1] at H
  conv=>whnf
  refine LenQ.M ?_;conv=>whnf
  refine tst_d H (fun b7 H=>?_) (fun b7 H=>?_)
  ·conv=>whnf
   iterate 4 (refine Tst.F ?_;conv=>whnf)
   obtain rfl := Option.some.inj H
   have H := HQ4
   try dsimp only at H
   refine finR_c (enc := (fun l : List BookRow=>V.sl (l.map BookRow.v) false)) H ?_;conv=>whnf
   exact ⟨_,.v (.c (.slw))⟩
  conv=>whnf
  refine Tst.T ?_;conv=>whnf
  refine ask_c (p_ref24_Check_v _) H rfl rfl (fun v8 H=>?_);conv=>whnf
  iterate 2 (refine Tst.T ?_;conv=>whnf)
  refine tst_d H (fun b9 H=>?_) (fun b9 H=>?_)
  ·conv=>whnf
   obtain rfl := Option.some.inj H
   have H := HQ4
   try dsimp only at H
   refine finR_c (enc := (fun l : List BookRow=>V.sl (l.map BookRow.v) false)) H ?_;conv=>whnf
   exact ⟨_,.v (.c (.slw))⟩
  conv=>whnf
  refine ixs_c (f := BookRow.v) H (fun _=>rfl) (fun x10 H=>?_);conv=>whnf
  refine ask_c (p_ref26_Sees_v _ _) H rfl rfl (fun v11 H=>?_);conv=>whnf
  refine FootQ.mk ⟨rfl,?_⟩;conv=>whnf
  refine tst_d H (fun b12 H=>?_) (fun b12 H=>?_)
  ·conv=>whnf
   refine Ari.w ?_;conv=>whnf
   exact again_c [7,8,9,10,11,12,13,14,15,16,17,18,19,20,21,22,23,24,25,26,27,28,29,30,31,32,33] n5 2 [] (.inl (⟨_,H,rfl,rfl⟩)) (Nat.lt_succ_self _) (Nat.zero_le _) rfl (by kernel_rfl) (by kernel_rfl) rfl ⟨⟨rfl,rfl,rfl⟩,⟨⟨rfl,rfl,rfl⟩,trivial⟩⟩
  conv=>whnf
  refine ixs_c (f := BookRow.v) H (fun _=>rfl) (fun x13 H=>?_);conv=>whnf
  refine appN_c (f := BookRow.v) H (fun _=>rfl) (srcM (f := BookRow.v) (fun _=>rfl) _ _) rfl (.v (srcOwn (f := BookRow.v) (l := [x13]) (fun _=>rfl) rfl rfl rfl)) (by decide) rfl (by simp) (fun l14 H=>?_);conv=>whnf
  refine Ari.w ?_;conv=>whnf
  exact again_c [7,8,9,10,11,12,13,14,15,16,17,18,19,20,21,22,23,24,25,26,27,28,29,30,31,32,33] n5 3 [0,1,3] (.inr (⟨_,_,H,rfl,rfl⟩)) (Nat.lt_succ_self _) (Nat.zero_le _) rfl (by kernel_rfl) (by kernel_rfl) rfl ⟨⟨rfl,rfl,rfl⟩,⟨⟨rfl,rfl,rfl⟩,wkB_live0 rfl (cellsM_idlt (f := BookRow.v) (fun _=>rfl) _) rfl trivial⟩⟩
 rw [p_ref26_View_l1] at H
 conv=>whnf
 refine LenQ.M ?_;conv=>whnf
 refine tst_d H (fun b17 H=>?_) (fun b17 H=>?_)
 ·conv=>whnf
  iterate 4 (refine Tst.F ?_;conv=>whnf)
  obtain rfl := Option.some.inj H
  have H := HQ4
  try dsimp only at H
  refine finR_c (enc := (fun l : List BookRow=>V.sl (l.map BookRow.v) false)) H ?_;conv=>whnf
  exact ⟨_,.v (.c (fzown (f := BookRow.v) (l := y15) rfl rfl (fun _=>rfl) (fun _=>rfl)))⟩
 conv=>whnf
 refine Tst.T ?_;conv=>whnf
 refine ask_c (p_ref24_Check_v _) H rfl rfl (fun v18 H=>?_);conv=>whnf
 iterate 2 (refine Tst.T ?_;conv=>whnf)
 refine tst_d H (fun b19 H=>?_) (fun b19 H=>?_)
 ·conv=>whnf
  obtain rfl := Option.some.inj H
  have H := HQ4
  try dsimp only at H
  refine finR_c (enc := (fun l : List BookRow=>V.sl (l.map BookRow.v) false)) H ?_;conv=>whnf
  exact ⟨_,.v (.c (fzown (f := BookRow.v) (l := y15) rfl rfl (fun _=>rfl) (fun _=>rfl)))⟩
 conv=>whnf
 refine ixs_c (f := BookRow.v) H (fun _=>rfl) (fun x20 H=>?_);conv=>whnf
 refine ask_c (p_ref26_Sees_v _ _) H rfl rfl (fun v21 H=>?_);conv=>whnf
 refine FootQ.mk ⟨rfl,?_⟩;conv=>whnf
 refine tst_d H (fun b22 H=>?_) (fun b22 H=>?_)
 ·conv=>whnf
  refine Ari.w ?_;conv=>whnf
  exact again_c [7,8,9,10,11,12,13,14,15,16,17,18,19,20,21,22,23,24,25,26,27,28,29,30,31,32,33] n5 3 [] (.inr (⟨_,_,H,rfl,rfl⟩)) (Nat.lt_succ_self _) (Nat.zero_le _) rfl (by kernel_rfl) (by kernel_rfl) rfl ⟨⟨rfl,rfl,rfl⟩,⟨⟨rfl,rfl,rfl⟩,wkB_live0 rfl (cellsM_idlt (f := BookRow.v) (fun _=>rfl) _) rfl trivial⟩⟩
 conv=>whnf
 refine ixs_c (f := BookRow.v) H (fun _=>rfl) (fun x23 H=>?_);conv=>whnf
 refine appO_c (f := BookRow.v) H (fun _=>rfl) rfl (Nat.le_refl _) (.v (srcOwn (f := BookRow.v) (l := [x23]) (fun _=>rfl) rfl rfl rfl)) (by decide) rfl (by simp) (fun l24 H=>?_);conv=>whnf
 refine Ari.w ?_;conv=>whnf
 exact again_c [7,8,9,10,11,12,13,14,15,16,17,18,19,20,21,22,23,24,25,26,27,28,29,30,31,32,33] n5 3 [0,1,4] (.inr (⟨_,_,H,rfl,rfl⟩)) (Nat.lt_succ_self _) (Nat.zero_le _) rfl (by kernel_rfl) (by kernel_rfl) rfl ⟨⟨rfl,rfl,rfl⟩,⟨⟨rfl,rfl,rfl⟩,wkB_live0 rfl (cellsM_idlt (f := BookRow.v) (fun _=>rfl) _) rfl trivial⟩⟩
def gc17 : BCode := (.seq (.reg 0 [⟨(some 4),.mv (.const (.bool false)),none,0⟩] none 0 []) (.seq (.seq (.reg 0 [⟨(some 6),.mv (.tmp 0),none,0⟩,⟨(some 7),.lens (.tmp 6),none,0⟩,⟨(some 8),.mv (.tmp 1),none,0⟩,⟨(some 9),.lens (.tmp 8),none,0⟩,⟨(some 10),.bin .neq (.tmp 7) (.tmp 9),none,0⟩] none 0 []) (.cond (.tmp 10) (.seq (.reg 0 [⟨(some 4),.mv (.const (.bool false)),none,0⟩] none 0 []) .ret) .skip)) (.seq (.seq (.reg 0 [⟨(some 5),.mv (.const (.int .i64 0)),none,0⟩] none 0 []) (.block 0 (.loop (.seq (.seq (.reg 0 [⟨(some 11),.mv (.tmp 5),none,0⟩,⟨(some 12),.mv (.tmp 0),none,0⟩,⟨(some 13),.lens (.tmp 12),none,0⟩,⟨(some 14),.bin .lss (.tmp 11) (.tmp 13),none,0⟩] none 0 []) (.cond (.tmp 14) .skip (.exit 0))) (.seq (.block 1 (.seq (.reg 0 [⟨(some 17),.mv (.tmp 0),none,0⟩,⟨(some 18),.mv (.tmp 5),none,0⟩,⟨(some 19),.ixs 6 (.tmp 17) (.tmp 18),none,0⟩,⟨(some 20),.ld 6 true (.tmp 19),none,0⟩,⟨(some 21),.mv (.tmp 1),none,0⟩,⟨(some 22),.mv (.tmp 5),none,0⟩,⟨(some 23),.ixs 6 (.tmp 21) (.tmp 22),none,0⟩,⟨(some 24),.ld 6 true (.tmp 23),none,0⟩,⟨(some 25),.eqa true [2,2,0,1,1,1] (.tmp 20) (.tmp 24),none,0⟩] (some [[],[],[1,0],[0,1,2],[],[],[5,4],[4,5,6],[6,5,4,7,2,1,0,3]]) 0 []) (.cond (.tmp 25) (.seq (.reg 0 [⟨(some 4),.mv (.const (.bool false)),none,0⟩] none 0 []) .ret) .skip))) (.reg 0 [⟨(some 15),.mv (.tmp 5),none,0⟩,⟨(some 16),.bin .add (.tmp 15) (.const (.int .i64 1)),none,0⟩,⟨(some 5),.mv (.tmp 16),none,0⟩] none 0 [])))))) (.seq (.reg 0 [⟨(some 4),.mv (.const (.bool true)),none,0⟩] none 0 []) .ret))))
theorem gc17_ok : compF Tryz.prog Tryz.f17 = some (gc17.er,26,[.tmp 4]) := by unfold gc17;kernel_rfl
set_option maxRecDepth 100000 in
set_option maxHeartbeats 4000000 in
theorem p_ref24_SameRows_v {u1 u2 : Bool} (a0 : List BookRow) (a1 : List BookRow) : CallsO Tryz.prog 17 [.sl (List.map BookRow.v a0) u1,.sl (List.map BookRow.v a1) u2] V.b (p_ref24_SameRows a0 a1) := by
 refine callsO_comp mix Tryz.func17 gc17_ok fun r H=>?_
 rw [p_ref24_SameRows] at H
 conv=>whnf
 iterate 2 (refine LenQ.M ?_;conv=>whnf)
 refine tst_c H (fun b1 H=>?_) (fun b1 H=>?_)
 ·conv=>whnf
  exact fin0_c (enc := V.b) H (.inr rfl) (.cons (.tmp rfl) (.nil)) rfl rfl
 conv=>whnf
 obtain ⟨o3,HL4,HQ5⟩ := bind_c H
 refine loop_c [4,5] [11,12,13,14,15,16,17,18,19,20,21,22,23,24,25] [11,12,13,14,15,16,17,18,19,20,21,22,23,24,25] (fun n vals st=>(∃ y7,p_ref24_SameRows_l1  a0 a1 n y7 = some o3 ∧ vals = [.b false,.i y7] ∧ st = [])) fuel 0 [] (⟨_,HL4,rfl,rfl⟩) (Nat.zero_le _) rfl (by kernel_rfl) (by kernel_rfl) rfl trivial ?_
 rintro (_ | n6) _ _ (⟨y7,H,rfl,rfl⟩)
 ·rw [p_ref24_SameRows_l1] at H;cases H
 rw [p_ref24_SameRows_l1] at H
 conv=>whnf
 refine LenQ.M ?_;conv=>whnf
 refine tst_d H (fun b8 H=>?_) (fun b8 H=>?_)
 ·conv=>whnf
  obtain rfl := Option.some.inj H
  have H := HQ5
  try dsimp only at H
  exact fin0_c (enc := V.b) H (.inr rfl) (.cons (.tmp rfl) (.nil)) rfl rfl
 conv=>whnf
 refine ixs_c (f := BookRow.v) H (fun _=>rfl) (fun x9 H=>?_);conv=>whnf
 refine ixs_c (f := BookRow.v) H (fun _=>rfl) (fun x10 H=>?_);conv=>whnf
 refine FootQ.mk ⟨rfl,?_⟩;conv=>whnf
 refine Tst.not ?_
 refine tst_d H (fun b11 H=>?_) (fun b11 H=>?_)
 ·conv=>whnf
  obtain rfl := Option.some.inj H
  have H := HQ5
  try dsimp only at H
  exact fin0_c (enc := V.b) H (.inr rfl) (.cons (.tmp rfl) (.nil)) rfl rfl
 conv=>whnf
 refine Ari.w ?_;conv=>whnf
 exact again_c [11,12,13,14,15,16,17,18,19,20,21,22,23,24,25] n6 0 [] (⟨_,H,rfl,rfl⟩) (Nat.lt_succ_self _) (Nat.zero_le _) rfl (by kernel_rfl) (by kernel_rfl) rfl trivial
def gc22 : BCode := (.seq (.reg 2 [⟨(some 2),.bx (.tmp 0),none,0⟩,⟨(some 3),.bx (.tmp 1),none,1⟩,⟨(some 4),.mv (.const (.int .i64 0)),none,2⟩] none 0 []) (.seq (.reg 0 [⟨(some 5),.ld 2 true (.tmp 2),none,0⟩,⟨(some 6),.ld 2 true (.tmp 3),none,0⟩,⟨(some 7),.cl 20 [(.tmp 5),(.tmp 6)],none,0⟩,⟨(some 8),.lens (.tmp 7),none,0⟩,⟨(some 4),.mv (.tmp 8),none,0⟩] none 0 []) .ret))
theorem gc22_ok : compF Tryz.prog Tryz.f22 = some (gc22.er,9,[.tmp 4]) := by unfold gc22;kernel_rfl
set_option maxRecDepth 100000 in
set_option maxHeartbeats 4000000 in
theorem p_ref26_Count_v {u1 u2 u3 : Bool} (a0 : SnapEyes) (a1 : BookState) : CallsO Tryz.prog 22 [.agg [.sl (List.map V.s a0.Users) u1,.sl (List.map V.s a0.Keys) u2],.agg [.i a1.Seq,.sl (List.map BookRow.v a1.Rows) u3]] V.i (p_ref26_Count a0 a1) := by
 refine callsO_comp mix Tryz.func22 gc22_ok fun r H=>?_
 rw [p_ref26_Count] at H
 conv=>whnf
 refine ask_c (p_ref26_View_v _ _) H rfl rfl (fun v1 H=>?_);conv=>whnf
 refine LenQ.M ?_;conv=>whnf
 exact fin0_c (enc := V.i) H (.inr rfl) (.cons (.tmp rfl) (.nil)) rfl rfl
end Go.Proofs.YthlhbgedidipkaaGreat
