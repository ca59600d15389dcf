/- A part of the proof: 3 texts joined. -/
import Derived.Test.YtpmoioopjbfhkaaGreatWaA15
import Derived.Test.YtpmoioopjbfhkaaGreatWaA11
import Derived.KernelRfl
import Derived.Test.YtpmoioopjbfhkaaGreatWaA12
import Derived.Test.YtpmoioopjbfhkaaGreatWaA13
set_option linter.all false
/- That the program's functions yield what the plain ones tell (written by a program of mine). -/
namespace Go.Proofs.YtpmoioopjbfhkaaGreat
open Go.RowKit
set_option maxRecDepth 1000000
set_option maxHeartbeats 4000000
def gc237:BCode:=(.seq (.reg 0 [⟨(some 2),.mv (.const (.bool false)),none,0⟩] none 0 []) (.seq (.seq (.reg 0 [⟨(some 3),.mv (.const (.int .i64 1)),none,0⟩] none 0 []) (.block 0 (.loop (.seq (.seq (.reg 0 [⟨(some 4),.mv (.tmp 3),none,0⟩,⟨(some 5),.mv (.tmp 0),none,0⟩,⟨(some 6),.lens (.tmp 5),none,0⟩,⟨(some 7),.bin .lss (.tmp 4) (.tmp 6),none,0⟩] none 0 []) (.cond (.tmp 7) .skip (.exit 0))) (.seq (.block 1 (.seq (.reg 0 [⟨(some 10),.mv (.tmp 0),none,0⟩,⟨(some 11),.mv (.tmp 3),none,0⟩,⟨(some 12),.bin .sub (.tmp 11) (.const (.int .i64 1)),none,0⟩,⟨(some 13),.ixs 5 (.tmp 10) (.tmp 12),none,0⟩,⟨(some 14),.fa 0 (.tmp 13),none,0⟩,⟨(some 15),.ld 1 false (.tmp 14),none,0⟩,⟨(some 16),.mv (.tmp 0),none,0⟩,⟨(some 17),.mv (.tmp 3),none,0⟩,⟨(some 18),.ixs 5 (.tmp 16) (.tmp 17),none,0⟩,⟨(some 19),.fa 0 (.tmp 18),none,0⟩,⟨(some 20),.ld 1 false (.tmp 19),none,0⟩,⟨(some 21),.bin .geq (.tmp 15) (.tmp 20),none,0⟩] (some [[],[],[1],[1,2,0],[0,2,1,3],[3,1,2,0,4],[],[],[7,6],[6,7,8],[8,7,6,9],[9,6,7,8,10,4,0,2,1,3,5]]) 0 []) (.cond (.tmp 21) (.seq (.reg 0 [⟨(some 2),.mv (.const (.bool false)),none,0⟩] none 0 []) .ret) .skip))) (.reg 0 [⟨(some 8),.mv (.tmp 3),none,0⟩,⟨(some 9),.bin .add (.tmp 8) (.const (.int .i64 1)),none,0⟩,⟨(some 3),.mv (.tmp 9),none,0⟩] none 0 [])))))) (.seq (.reg 0 [⟨(some 2),.mv (.const (.bool true)),none,0⟩] none 0 []) .ret)))
theorem gc237_ok:compF Tryz.prog Tryz.f237=some (gc237.er,22,[.tmp 2]):=by unfold gc237;kernel_rfl
theorem p_ref35_rising_v {u1:Bool} (a0:List MailEntry):CallsO Tryz.prog 237 [.sl (List.map MailEntry.v a0) u1] V.b (p_ref35_rising a0):=by
 refine callsO_comp mix Tryz.func237 gc237_ok fun r H=>?_
 rw [p_ref35_rising] at H
 conv=>whnf
 obtain ⟨o2,HL3,HQ4⟩:=bind_c H
 refine loop_c [2,3] [4,5,6,7,8,9,10,11,12,13,14,15,16,17,18,19,20,21] [4,5,6,7,8,9,10,11,12,13,14,15,16,17,18,19,20,21] (fun n vals st=>(∃ y6,p_ref35_rising_l1  a0 n y6=some o2∧vals=[.b false,.i y6]∧st=[])) fuel 0 [] (⟨_,HL3,rfl,rfl⟩) (Nat.zero_le _) rfl (by kernel_rfl) (by kernel_rfl) rfl trivial ?_
 rintro (_ | n5) _ _ (⟨y6,H,rfl,rfl⟩)
 ·rw [p_ref35_rising_l1] at H;cases H
 rw [p_ref35_rising_l1] at H
 conv=>whnf
 refine LenQ.M ?_;conv=>whnf
 refine tst_d H (fun b7 H=>?_) (fun b7 H=>?_)
 ·conv=>whnf
  obtain rfl:=Option.some.inj H
  have H:=HQ4
  try dsimp only at H
  exact fb_ H
 conv=>whnf
 refine Ari.w ?_;conv=>whnf
 refine ixs_c (f:=MailEntry.v) H (fun _=>rfl) (fun x8 H=>?_);conv=>whnf
 refine ⟨Nat.le_of_ble_eq_true rfl,?_⟩;conv=>whnf
 refine ixs_c (f:=MailEntry.v) H (fun _=>rfl) (fun x9 H=>?_);conv=>whnf
 refine ⟨Nat.le_of_ble_eq_true rfl,?_⟩;conv=>whnf
 refine FootQ.mk ⟨rfl,?_⟩;conv=>whnf
 refine Tst.not ?_
 refine tst_d H (fun b10 H=>?_) (fun b10 H=>?_)
 ·conv=>whnf
  obtain rfl:=Option.some.inj H
  have H:=HQ4
  try dsimp only at H
  exact fb_ H
 conv=>whnf
 refine Ari.w ?_;conv=>whnf
 exact again_c [4,5,6,7,8,9,10,11,12,13,14,15,16,17,18,19,20,21] n5 0 [] (⟨_,H,rfl,rfl⟩) (Nat.lt_succ_self _) (Nat.zero_le _) rfl (by kernel_rfl) (by kernel_rfl) rfl trivial
def gc196:BCode:=(.seq (.reg 1 [⟨(some 1),.bx (.tmp 0),none,0⟩,⟨(some 2),.mv (.const (.int .i64 0)),none,1⟩] none 0 []) (.seq (.seq (.reg 0 [⟨(some 6),.fa 0 (.tmp 1),none,0⟩,⟨(some 7),.ld 1 false (.tmp 6),none,0⟩,⟨(some 8),.lens (.tmp 7),none,0⟩,⟨(some 9),.bin .gtr (.tmp 8) (.const (.int .i64 64)),none,0⟩,⟨(some 10),.mv (.tmp 9),none,0⟩,⟨(some 11),.fa 1 (.tmp 1),(some (10,false)),0⟩,⟨(some 12),.ld 1 false (.tmp 11),(some (10,false)),0⟩,⟨(some 13),.lens (.tmp 12),(some (10,false)),0⟩,⟨(some 14),.bin .gtr (.tmp 13) (.const (.int .i64 64)),(some (10,false)),0⟩,⟨(some 15),.pick (.tmp 10) (.const (.bool true)) (.tmp 14),none,0⟩,⟨(some 16),.mv (.tmp 15),none,0⟩,⟨(some 17),.fa 3 (.tmp 1),(some (16,false)),0⟩,⟨(some 18),.ld 1 false (.tmp 17),(some (16,false)),0⟩,⟨(some 19),.lens (.tmp 18),(some (16,false)),0⟩,⟨(some 20),.bin .gtr (.tmp 19) (.const (.int .i64 64)),(some (16,false)),0⟩,⟨(some 21),.pick (.tmp 16) (.const (.bool true)) (.tmp 20),none,0⟩,⟨(some 22),.mv (.tmp 21),none,0⟩,⟨(some 23),.fa 4 (.tmp 1),(some (22,false)),0⟩,⟨(some 24),.ld 1 false (.tmp 23),(some (22,false)),0⟩,⟨(some 25),.lens (.tmp 24),(some (22,false)),0⟩,⟨(some 26),.bin .gtr (.tmp 25) (.const (.int .i64 64)),(some (22,false)),0⟩,⟨(some 27),.pick (.tmp 22) (.const (.bool true)) (.tmp 26),none,0⟩] none 0 []) (.cond (.tmp 27) (.seq (.reg 0 [⟨(some 2),.mv (.const (.int .i64 5)),none,0⟩] none 0 []) .ret) .skip)) (.seq (.reg 0 [⟨(some 28),.fa 0 (.tmp 1),none,0⟩,⟨(some 29),.ld 1 false (.tmp 28),none,0⟩,⟨(some 30),.cl 237 [(.tmp 29)],none,0⟩,⟨(some 31),.mv (.tmp 30),none,0⟩,⟨(some 32),.fa 1 (.tmp 1),(some (31,true)),0⟩,⟨(some 33),.ld 1 false (.tmp 32),(some (31,true)),0⟩,⟨(some 34),.cl 237 [(.tmp 33)],(some (31,true)),0⟩,⟨(some 35),.pick (.tmp 31) (.tmp 34) (.const (.bool false)),none,0⟩,⟨(some 3),.mv (.tmp 35),none,0⟩] none 0 []) (.seq (.seq (.reg 0 [⟨(some 4),.mv (.const (.int .i64 1)),none,0⟩] none 0 []) (.block 0 (.loop (.seq (.seq (.reg 0 [⟨(some 36),.mv (.tmp 4),none,0⟩,⟨(some 37),.fa 3 (.tmp 1),none,0⟩,⟨(some 38),.ld 1 false (.tmp 37),none,0⟩,⟨(some 39),.lens (.tmp 38),none,0⟩,⟨(some 40),.bin .lss (.tmp 36) (.tmp 39),none,0⟩] none 0 []) (.cond (.tmp 40) .skip (.exit 0))) (.seq (.block 1 (.reg 0 [⟨(some 43),.mv (.tmp 3),none,0⟩,⟨(some 44),.mv (.tmp 43),none,0⟩,⟨(some 45),.fa 3 (.tmp 1),(some (44,true)),0⟩,⟨(some 46),.ld 1 false (.tmp 45),(some (44,true)),0⟩,⟨(some 47),.mv (.tmp 4),(some (44,true)),0⟩,⟨(some 48),.bin .sub (.tmp 47) (.const (.int .i64 1)),(some (44,true)),0⟩,⟨(some 49),.ixs 1 (.tmp 46) (.tmp 48),(some (44,true)),0⟩,⟨(some 50),.ld 1 false (.tmp 49),(some (44,true)),0⟩,⟨(some 51),.fa 3 (.tmp 1),(some (44,true)),0⟩,⟨(some 52),.ld 1 false (.tmp 51),(some (44,true)),0⟩,⟨(some 53),.mv (.tmp 4),(some (44,true)),0⟩,⟨(some 54),.ixs 1 (.tmp 52) (.tmp 53),(some (44,true)),0⟩,⟨(some 55),.ld 1 false (.tmp 54),(some (44,true)),0⟩,⟨(some 56),.bin .lss (.tmp 50) (.tmp 55),(some (44,true)),0⟩,⟨(some 57),.pick (.tmp 44) (.tmp 56) (.const (.bool false)),none,0⟩,⟨(some 3),.mv (.tmp 57),none,0⟩] (some [[],[0],[0,1],[1,0,2],[0,1],[1,0,4],[4,5,2,0,1,3],[3,1,0,2,5,4,6],[0,1],[1,0,8],[0,1],[10,8,0,1,9],[9,1,0,8,10,11],[11,10,8,9,12,6,4,5,2,0,1,3,7],[7,3,2,5,4,6,12,9,8,10,11,13,0,1],[1,0,13,11,10,8,9,12,6,4,5,2,3,7,14]]) 0 [])) (.reg 0 [⟨(some 41),.mv (.tmp 4),none,0⟩,⟨(some 42),.bin .add (.tmp 41) (.const (.int .i64 1)),none,0⟩,⟨(some 4),.mv (.tmp 42),none,0⟩] none 0 [])))))) (.seq (.seq (.reg 0 [⟨(some 5),.mv (.const (.int .i64 1)),none,0⟩] none 0 []) (.block 2 (.loop (.seq (.seq (.reg 0 [⟨(some 58),.mv (.tmp 5),none,0⟩,⟨(some 59),.fa 4 (.tmp 1),none,0⟩,⟨(some 60),.ld 1 false (.tmp 59),none,0⟩,⟨(some 61),.lens (.tmp 60),none,0⟩,⟨(some 62),.bin .lss (.tmp 58) (.tmp 61),none,0⟩] none 0 []) (.cond (.tmp 62) .skip (.exit 2))) (.seq (.block 3 (.reg 0 [⟨(some 65),.mv (.tmp 3),none,0⟩,⟨(some 66),.mv (.tmp 65),none,0⟩,⟨(some 67),.fa 4 (.tmp 1),(some (66,true)),0⟩,⟨(some 68),.ld 1 false (.tmp 67),(some (66,true)),0⟩,⟨(some 69),.mv (.tmp 5),(some (66,true)),0⟩,⟨(some 70),.bin .sub (.tmp 69) (.const (.int .i64 1)),(some (66,true)),0⟩,⟨(some 71),.ixs 4 (.tmp 68) (.tmp 70),(some (66,true)),0⟩,⟨(some 72),.fa 0 (.tmp 71),(some (66,true)),0⟩,⟨(some 73),.ld 1 false (.tmp 72),(some (66,true)),0⟩,⟨(some 74),.fa 4 (.tmp 1),(some (66,true)),0⟩,⟨(some 75),.ld 1 false (.tmp 74),(some (66,true)),0⟩,⟨(some 76),.mv (.tmp 5),(some (66,true)),0⟩,⟨(some 77),.ixs 4 (.tmp 75) (.tmp 76),(some (66,true)),0⟩,⟨(some 78),.fa 0 (.tmp 77),(some (66,true)),0⟩,⟨(some 79),.ld 1 false (.tmp 78),(some (66,true)),0⟩,⟨(some 80),.bin .lss (.tmp 73) (.tmp 79),(some (66,true)),0⟩,⟨(some 81),.pick (.tmp 66) (.tmp 80) (.const (.bool false)),none,0⟩,⟨(some 3),.mv (.tmp 81),none,0⟩] (some [[],[0],[0,1],[1,0,2],[0,1],[1,0,4],[4,5,2,0,1,3],[3,1,0,2,5,4,6],[6,4,5,2,0,1,3,7],[0,1],[1,0,9],[0,1],[11,9,0,1,10],[10,1,0,9,11,12],[12,11,9,0,1,10,13],[13,10,9,11,12,14,7,3,1,0,2,5,4,6,8],[8,6,4,5,2,3,7,14,12,11,9,10,13,15,0,1],[1,0,15,13,10,9,11,12,14,7,3,2,5,4,6,8,16]]) 0 [])) (.reg 0 [⟨(some 63),.mv (.tmp 5),none,0⟩,⟨(some 64),.bin .add (.tmp 63) (.const (.int .i64 1)),none,0⟩,⟨(some 5),.mv (.tmp 64),none,0⟩] none 0 [])))))) (.seq (.block 4 (.seq (.reg 0 [⟨(some 83),.mv (.tmp 3),none,0⟩,⟨(some 84),.un .not (.tmp 83),none,0⟩,⟨(some 82),.mv (.tmp 84),none,0⟩] none 0 []) (.cond (.tmp 82) (.seq (.reg 0 [⟨(some 2),.mv (.const (.int .i64 10)),none,0⟩] none 0 []) .ret) (.seq (.reg 0 [⟨(some 86),.fa 2 (.tmp 1),none,0⟩,⟨(some 87),.ld 1 false (.tmp 86),none,0⟩,⟨(some 88),.un .not (.tmp 87),none,0⟩,⟨(some 89),.mv (.tmp 88),none,0⟩,⟨(some 90),.fa 3 (.tmp 1),(some (89,true)),0⟩,⟨(some 91),.ld 1 false (.tmp 90),(some (89,true)),0⟩,⟨(some 92),.lens (.tmp 91),(some (89,true)),0⟩,⟨(some 93),.bin .gtr (.tmp 92) (.const (.int .i64 0)),(some (89,true)),0⟩,⟨(some 94),.pick (.tmp 89) (.tmp 93) (.const (.bool false)),none,0⟩,⟨(some 95),.mv (.tmp 94),none,0⟩,⟨(some 96),.fa 5 (.tmp 1),(some (95,false)),0⟩,⟨(some 97),.ld 1 false (.tmp 96),(some (95,false)),0⟩,⟨(some 98),.bin .lss (.tmp 97) (.const (.int .i64 0)),(some (95,false)),0⟩,⟨(some 99),.pick (.tmp 95) (.const (.bool true)) (.tmp 98),none,0⟩,⟨(some 100),.mv (.tmp 99),none,0⟩,⟨(some 101),.fa 5 (.tmp 1),(some (100,false)),0⟩,⟨(some 102),.ld 1 false (.tmp 101),(some (100,false)),0⟩,⟨(some 103),.bin .gtr (.tmp 102) (.const (.int .i64 1099511627776)),(some (100,false)),0⟩,⟨(some 104),.pick (.tmp 100) (.const (.bool true)) (.tmp 103),none,0⟩,⟨(some 105),.mv (.tmp 104),none,0⟩,⟨(some 106),.fa 6 (.tmp 1),(some (105,false)),0⟩,⟨(some 107),.ld 1 false (.tmp 106),(some (105,false)),0⟩,⟨(some 108),.bin .lss (.tmp 107) (.const (.int .i64 0)),(some (105,false)),0⟩,⟨(some 109),.pick (.tmp 105) (.const (.bool true)) (.tmp 108),none,0⟩,⟨(some 110),.mv (.tmp 109),none,0⟩,⟨(some 111),.fa 6 (.tmp 1),(some (110,false)),0⟩,⟨(some 112),.ld 1 false (.tmp 111),(some (110,false)),0⟩,⟨(some 113),.bin .gtr (.tmp 112) (.const (.int .i64 1099511627776)),(some (110,false)),0⟩,⟨(some 114),.pick (.tmp 110) (.const (.bool true)) (.tmp 113),none,0⟩,⟨(some 85),.mv (.tmp 114),none,0⟩] none 0 []) (.cond (.tmp 85) (.seq (.reg 0 [⟨(some 2),.mv (.const (.int .i64 9)),none,0⟩] none 0 []) .ret) .skip))))) (.seq (.reg 0 [⟨(some 2),.mv (.const (.int .i64 0)),none,0⟩] none 0 []) .ret)))))))
theorem gc196_ok:compF Tryz.prog Tryz.f196=some (gc196.er,115,[.tmp 2]):=by unfold gc196;kernel_rfl
theorem p_ref35_Check_v {u1 u2 u3 u4:Bool} (a0:Ref35State):CallsO Tryz.prog 196 [.agg [.sl (List.map MailEntry.v a0.Rows) u1,.sl (List.map MailEntry.v a0.Last) u2,.b a0.Anew,.sl (List.map V.s a0.Seen) u3,.sl (List.map Ref35Contact.v a0.List) u4,.i a0.Odd,.i a0.Told]] V.i (p_ref35_Check a0):=by
 refine callsO_comp mix Tryz.func196 gc196_ok fun r H=>?_
 rw [p_ref35_Check] at H
 conv=>whnf
 refine LenQ.M ?_;conv=>whnf
 refine tst_c H (fun b1 H=>?_) (fun b1 H=>?_)
 ·conv=>whnf
  iterate 15 (refine Tst.T ?_;conv=>whnf)
  exact fi_ H
 conv=>whnf
 iterate 2 (refine Tst.F ?_;conv=>whnf)
 refine LenQ.M ?_;conv=>whnf
 iterate 2 (refine Tst.F ?_;conv=>whnf)
 refine tst_c H (fun b2 H=>?_) (fun b2 H=>?_)
 ·conv=>whnf
  iterate 10 (refine Tst.T ?_;conv=>whnf)
  exact fi_ H
 conv=>whnf
 iterate 2 (refine Tst.F ?_;conv=>whnf)
 refine LenQ.M ?_;conv=>whnf
 iterate 2 (refine Tst.F ?_;conv=>whnf)
 refine tst_c H (fun b3 H=>?_) (fun b3 H=>?_)
 ·conv=>whnf
  iterate 5 (refine Tst.T ?_;conv=>whnf)
  exact fi_ H
 conv=>whnf
 iterate 2 (refine Tst.F ?_;conv=>whnf)
 refine LenQ.M ?_;conv=>whnf
 iterate 2 (refine Tst.F ?_;conv=>whnf)
 refine tst_c H (fun b4 H=>?_) (fun b4 H=>?_)
 ·conv=>whnf
  exact fi_ H
 conv=>whnf
 refine ask_c (p_ref35_rising_v _) H rfl rfl (fun v5 H=>?_);conv=>whnf
 refine tst_d H (fun b6 H=>?_) (fun b6 H=>?_)
 ·conv=>whnf
  iterate 3 (refine Tst.F ?_;conv=>whnf)
  obtain ⟨o42,HL43,HQ44⟩:=bind_c H
  refine loop_c [3,4] [36,37,38,39,40,41,42,43,44,45,46,47,48,49,50,51,52,53,54,55,56,57,6,11,17,23,28] [36,37,38,39,40,41,42,43,44,45,46,47,48,49,50,51,52,53,54,55,56,57,6,11,17,23,28] (fun n vals st=>(∃ y46 y47,p_ref35_Check_l3  a0 n y46 y47=some o42∧vals=[.b y46,.i y47]∧st=[.live [.sl (List.map MailEntry.v a0.Rows) u1,.sl (List.map MailEntry.v a0.Last) u2,.b a0.Anew,.sl (List.map V.s a0.Seen) u3,.sl (List.map Ref35Contact.v a0.List) u4,.i a0.Odd,.i a0.Told] 0])) fuel 1 [] (⟨_,_,HL43,rfl,rfl⟩) (Nat.zero_le _) rfl (by kernel_rfl) (by kernel_rfl) rfl ⟨⟨rfl,rfl,rfl⟩,trivial⟩ ?_
  rintro (_ | n45) _ _ (⟨y46,y47,H,rfl,rfl⟩)
  ·rw [p_ref35_Check_l3] at H;cases H
  rw [p_ref35_Check_l3] at H
  conv=>whnf
  refine LenQ.M ?_;conv=>whnf
  refine tst_c H (fun b48 H=>?_) (fun b48 H=>?_)
  ·conv=>whnf
   refine tst_d H (fun b49 H=>?_) (fun b49 H=>?_)
   ·conv=>whnf
    iterate 12 (refine Tst.F ?_;conv=>whnf)
    refine FootQ.mk ⟨rfl,?_⟩;conv=>whnf
    refine Ari.w ?_;conv=>whnf
    exact again_c [36,37,38,39,40,41,42,43,44,45,46,47,48,49,50,51,52,53,54,55,56,57,6,11,17,23,28] n45 1 [] (⟨_,_,H,rfl,rfl⟩) (Nat.lt_succ_self _) (Nat.zero_le _) rfl (by kernel_rfl) (by kernel_rfl) rfl ⟨⟨rfl,rfl,rfl⟩,trivial⟩
   conv=>whnf
   iterate 3 (refine Tst.T ?_;conv=>whnf)
   refine Ari.w ?_;conv=>whnf
   refine Tst.T ?_;conv=>whnf
   refine ixs_c (f:=V.s) H (fun _=>rfl) (fun x50 H=>?_);conv=>whnf
   iterate 5 (refine Tst.T ?_;conv=>whnf)
   refine ixs_c (f:=V.s) H (fun _=>rfl) (fun x51 H=>?_);conv=>whnf
   iterate 3 (refine Tst.T ?_;conv=>whnf)
   refine FootQ.mk ⟨rfl,?_⟩;conv=>whnf
   refine Ari.w ?_;conv=>whnf
   exact again_c [36,37,38,39,40,41,42,43,44,45,46,47,48,49,50,51,52,53,54,55,56,57,6,11,17,23,28] n45 1 [] (⟨_,_,H,rfl,rfl⟩) (Nat.lt_succ_self _) (Nat.zero_le _) rfl (by kernel_rfl) (by kernel_rfl) rfl ⟨⟨rfl,rfl,rfl⟩,trivial⟩
  conv=>whnf
  obtain rfl:=Option.some.inj H
  have H:=HQ44
  try dsimp only at H
  obtain ⟨o53,HL54,HQ55⟩:=bind_c H
  refine loop_c [3,5] [58,59,60,61,62,63,64,65,66,67,68,69,70,71,72,73,74,75,76,77,78,79,80,81,37] [58,59,60,61,62,63,64,65,66,67,68,69,70,71,72,73,74,75,76,77,78,79,80,81,37] (fun n vals st=>(∃ y57 y58,p_ref35_Check_l2  a0 n y57 y58=some o53∧vals=[.b y57,.i y58]∧st=[.live [.sl (List.map MailEntry.v a0.Rows) u1,.sl (List.map MailEntry.v a0.Last) u2,.b a0.Anew,.sl (List.map V.s a0.Seen) u3,.sl (List.map Ref35Contact.v a0.List) u4,.i a0.Odd,.i a0.Told] 0])) fuel 1 [] (⟨_,_,HL54,rfl,rfl⟩) (Nat.zero_le _) rfl (by kernel_rfl) (by kernel_rfl) rfl ⟨⟨rfl,rfl,rfl⟩,trivial⟩ ?_
  rintro (_ | n56) _ _ (⟨y57,y58,H,rfl,rfl⟩)
  ·rw [p_ref35_Check_l2] at H;cases H
  rw [p_ref35_Check_l2] at H
  conv=>whnf
  refine LenQ.M ?_;conv=>whnf
  refine tst_c H (fun b59 H=>?_) (fun b59 H=>?_)
  ·conv=>whnf
   refine tst_d H (fun b60 H=>?_) (fun b60 H=>?_)
   ·conv=>whnf
    iterate 14 (refine Tst.F ?_;conv=>whnf)
    refine FootQ.mk ⟨rfl,?_⟩;conv=>whnf
    refine Ari.w ?_;conv=>whnf
    exact again_c [58,59,60,61,62,63,64,65,66,67,68,69,70,71,72,73,74,75,76,77,78,79,80,81,37] n56 1 [] (⟨_,_,H,rfl,rfl⟩) (Nat.lt_succ_self _) (Nat.zero_le _) rfl (by kernel_rfl) (by kernel_rfl) rfl ⟨⟨rfl,rfl,rfl⟩,trivial⟩
   conv=>whnf
   iterate 3 (refine Tst.T ?_;conv=>whnf)
   refine Ari.w ?_;conv=>whnf
   refine Tst.T ?_;conv=>whnf
   refine ixs_c (f:=Ref35Contact.v) H (fun _=>rfl) (fun x61 H=>?_);conv=>whnf
   refine Tst.T ?_;conv=>whnf
   refine ⟨Nat.le_of_ble_eq_true rfl,?_⟩;conv=>whnf
   iterate 5 (refine Tst.T ?_;conv=>whnf)
   refine ixs_c (f:=Ref35Contact.v) H (fun _=>rfl) (fun x62 H=>?_);conv=>whnf
   refine Tst.T ?_;conv=>whnf
   refine ⟨Nat.le_of_ble_eq_true rfl,?_⟩;conv=>whnf
   iterate 3 (refine Tst.T ?_;conv=>whnf)
   refine FootQ.mk ⟨rfl,?_⟩;conv=>whnf
   refine Ari.w ?_;conv=>whnf
   exact again_c [58,59,60,61,62,63,64,65,66,67,68,69,70,71,72,73,74,75,76,77,78,79,80,81,37] n56 1 [] (⟨_,_,H,rfl,rfl⟩) (Nat.lt_succ_self _) (Nat.zero_le _) rfl (by kernel_rfl) (by kernel_rfl) rfl ⟨⟨rfl,rfl,rfl⟩,trivial⟩
  conv=>whnf
  obtain rfl:=Option.some.inj H
  have H:=HQ55
  try dsimp only at H
  refine Tst.not ?_
  refine tst_d H (fun b63 H=>?_) (fun b63 H=>?_)
  ·conv=>whnf
   exact fi_ H
  conv=>whnf
  refine Tst.not ?_
  refine tst_c H (fun b64 H=>?_) (fun b64 H=>?_)
  ·conv=>whnf
   iterate 8 (refine Tst.F ?_;conv=>whnf)
   refine tst_c H (fun b65 H=>?_) (fun b65 H=>?_)
   ·conv=>whnf
    iterate 12 (refine Tst.T ?_;conv=>whnf)
    exact fi_ H
   conv=>whnf
   iterate 3 (refine Tst.F ?_;conv=>whnf)
   refine tst_c H (fun b66 H=>?_) (fun b66 H=>?_)
   ·conv=>whnf
    iterate 8 (refine Tst.T ?_;conv=>whnf)
    exact fi_ H
   conv=>whnf
   iterate 3 (refine Tst.F ?_;conv=>whnf)
   refine tst_c H (fun b67 H=>?_) (fun b67 H=>?_)
   ·conv=>whnf
    iterate 4 (refine Tst.T ?_;conv=>whnf)
    exact fi_ H
   conv=>whnf
   iterate 3 (refine Tst.F ?_;conv=>whnf)
   refine tst_c H (fun b68 H=>?_) (fun b68 H=>?_)
   ·conv=>whnf
    exact fi_ H
   conv=>whnf
   exact fi_ H
  conv=>whnf
  iterate 2 (refine Tst.T ?_;conv=>whnf)
  refine LenQ.M ?_;conv=>whnf
  iterate 2 (refine Tst.T ?_;conv=>whnf)
  refine tst_c H (fun b69 H=>?_) (fun b69 H=>?_)
  ·conv=>whnf
   iterate 16 (refine Tst.T ?_;conv=>whnf)
   exact fi_ H
  conv=>whnf
  iterate 3 (refine Tst.F ?_;conv=>whnf)
  refine tst_c H (fun b70 H=>?_) (fun b70 H=>?_)
  ·conv=>whnf
   iterate 12 (refine Tst.T ?_;conv=>whnf)
   exact fi_ H
  conv=>whnf
  iterate 3 (refine Tst.F ?_;conv=>whnf)
  refine tst_c H (fun b71 H=>?_) (fun b71 H=>?_)
  ·conv=>whnf
   iterate 8 (refine Tst.T ?_;conv=>whnf)
   exact fi_ H
  conv=>whnf
  iterate 3 (refine Tst.F ?_;conv=>whnf)
  refine tst_c H (fun b72 H=>?_) (fun b72 H=>?_)
  ·conv=>whnf
   iterate 4 (refine Tst.T ?_;conv=>whnf)
   exact fi_ H
  conv=>whnf
  iterate 3 (refine Tst.F ?_;conv=>whnf)
  refine tst_c H (fun b73 H=>?_) (fun b73 H=>?_)
  ·conv=>whnf
   exact fi_ H
  conv=>whnf
  exact fi_ H
 conv=>whnf
 iterate 2 (refine Tst.T ?_;conv=>whnf)
 refine ask_c (p_ref35_rising_v _) H rfl rfl (fun v7 H=>?_);conv=>whnf
 refine Tst.T ?_;conv=>whnf
 obtain ⟨o9,HL10,HQ11⟩:=bind_c H
 refine loop_c [3,4] [36,37,38,39,40,41,42,43,44,45,46,47,48,49,50,51,52,53,54,55,56,57,6,11,17,23,28,32] [36,37,38,39,40,41,42,43,44,45,46,47,48,49,50,51,52,53,54,55,56,57,6,11,17,23,28,32] (fun n vals st=>(∃ y13 y14,p_ref35_Check_l1  a0 n y13 y14=some o9∧vals=[.b y13,.i y14]∧st=[.live [.sl (List.map MailEntry.v a0.Rows) u1,.sl (List.map MailEntry.v a0.Last) u2,.b a0.Anew,.sl (List.map V.s a0.Seen) u3,.sl (List.map Ref35Contact.v a0.List) u4,.i a0.Odd,.i a0.Told] 0])) fuel 1 [] (⟨_,_,HL10,rfl,rfl⟩) (Nat.zero_le _) rfl (by kernel_rfl) (by kernel_rfl) rfl ⟨⟨rfl,rfl,rfl⟩,trivial⟩ ?_
 rintro (_ | n12) _ _ (⟨y13,y14,H,rfl,rfl⟩)
 ·rw [p_ref35_Check_l1] at H;cases H
 rw [p_ref35_Check_l1] at H
 conv=>whnf
 refine LenQ.M ?_;conv=>whnf
 refine tst_c H (fun b15 H=>?_) (fun b15 H=>?_)
 ·conv=>whnf
  refine tst_d H (fun b16 H=>?_) (fun b16 H=>?_)
  ·conv=>whnf
   iterate 12 (refine Tst.F ?_;conv=>whnf)
   refine FootQ.mk ⟨rfl,?_⟩;conv=>whnf
   refine Ari.w ?_;conv=>whnf
   exact again_c [36,37,38,39,40,41,42,43,44,45,46,47,48,49,50,51,52,53,54,55,56,57,6,11,17,23,28,32] n12 1 [] (⟨_,_,H,rfl,rfl⟩) (Nat.lt_succ_self _) (Nat.zero_le _) rfl (by kernel_rfl) (by kernel_rfl) rfl ⟨⟨rfl,rfl,rfl⟩,trivial⟩
  conv=>whnf
  iterate 3 (refine Tst.T ?_;conv=>whnf)
  refine Ari.w ?_;conv=>whnf
  refine Tst.T ?_;conv=>whnf
  refine ixs_c (f:=V.s) H (fun _=>rfl) (fun x17 H=>?_);conv=>whnf
  iterate 5 (refine Tst.T ?_;conv=>whnf)
  refine ixs_c (f:=V.s) H (fun _=>rfl) (fun x18 H=>?_);conv=>whnf
  iterate 3 (refine Tst.T ?_;conv=>whnf)
  refine FootQ.mk ⟨rfl,?_⟩;conv=>whnf
  refine Ari.w ?_;conv=>whnf
  exact again_c [36,37,38,39,40,41,42,43,44,45,46,47,48,49,50,51,52,53,54,55,56,57,6,11,17,23,28,32] n12 1 [] (⟨_,_,H,rfl,rfl⟩) (Nat.lt_succ_self _) (Nat.zero_le _) rfl (by kernel_rfl) (by kernel_rfl) rfl ⟨⟨rfl,rfl,rfl⟩,trivial⟩
 conv=>whnf
 obtain rfl:=Option.some.inj H
 have H:=HQ11
 try dsimp only at H
 obtain ⟨o20,HL21,HQ22⟩:=bind_c H
 refine loop_c [3,5] [58,59,60,61,62,63,64,65,66,67,68,69,70,71,72,73,74,75,76,77,78,79,80,81,37] [58,59,60,61,62,63,64,65,66,67,68,69,70,71,72,73,74,75,76,77,78,79,80,81,37] (fun n vals st=>(∃ y24 y25,p_ref35_Check_l2  a0 n y24 y25=some o20∧vals=[.b y24,.i y25]∧st=[.live [.sl (List.map MailEntry.v a0.Rows) u1,.sl (List.map MailEntry.v a0.Last) u2,.b a0.Anew,.sl (List.map V.s a0.Seen) u3,.sl (List.map Ref35Contact.v a0.List) u4,.i a0.Odd,.i a0.Told] 0])) fuel 1 [] (⟨_,_,HL21,rfl,rfl⟩) (Nat.zero_le _) rfl (by kernel_rfl) (by kernel_rfl) rfl ⟨⟨rfl,rfl,rfl⟩,trivial⟩ ?_
 rintro (_ | n23) _ _ (⟨y24,y25,H,rfl,rfl⟩)
 ·rw [p_ref35_Check_l2] at H;cases H
 rw [p_ref35_Check_l2] at H
 conv=>whnf
 refine LenQ.M ?_;conv=>whnf
 refine tst_c H (fun b26 H=>?_) (fun b26 H=>?_)
 ·conv=>whnf
  refine tst_d H (fun b27 H=>?_) (fun b27 H=>?_)
  ·conv=>whnf
   iterate 14 (refine Tst.F ?_;conv=>whnf)
   refine FootQ.mk ⟨rfl,?_⟩;conv=>whnf
   refine Ari.w ?_;conv=>whnf
   exact again_c [58,59,60,61,62,63,64,65,66,67,68,69,70,71,72,73,74,75,76,77,78,79,80,81,37] n23 1 [] (⟨_,_,H,rfl,rfl⟩) (Nat.lt_succ_self _) (Nat.zero_le _) rfl (by kernel_rfl) (by kernel_rfl) rfl ⟨⟨rfl,rfl,rfl⟩,trivial⟩
  conv=>whnf
  iterate 3 (refine Tst.T ?_;conv=>whnf)
  refine Ari.w ?_;conv=>whnf
  refine Tst.T ?_;conv=>whnf
  refine ixs_c (f:=Ref35Contact.v) H (fun _=>rfl) (fun x28 H=>?_);conv=>whnf
  refine Tst.T ?_;conv=>whnf
  refine ⟨Nat.le_of_ble_eq_true rfl,?_⟩;conv=>whnf
  iterate 5 (refine Tst.T ?_;conv=>whnf)
  refine ixs_c (f:=Ref35Contact.v) H (fun _=>rfl) (fun x29 H=>?_);conv=>whnf
  refine Tst.T ?_;conv=>whnf
  refine ⟨Nat.le_of_ble_eq_true rfl,?_⟩;conv=>whnf
  iterate 3 (refine Tst.T ?_;conv=>whnf)
  refine FootQ.mk ⟨rfl,?_⟩;conv=>whnf
  refine Ari.w ?_;conv=>whnf
  exact again_c [58,59,60,61,62,63,64,65,66,67,68,69,70,71,72,73,74,75,76,77,78,79,80,81,37] n23 1 [] (⟨_,_,H,rfl,rfl⟩) (Nat.lt_succ_self _) (Nat.zero_le _) rfl (by kernel_rfl) (by kernel_rfl) rfl ⟨⟨rfl,rfl,rfl⟩,trivial⟩
 conv=>whnf
 obtain rfl:=Option.some.inj H
 have H:=HQ22
 try dsimp only at H
 refine Tst.not ?_
 refine tst_d H (fun b30 H=>?_) (fun b30 H=>?_)
 ·conv=>whnf
  exact fi_ H
 conv=>whnf
 refine Tst.not ?_
 refine tst_c H (fun b31 H=>?_) (fun b31 H=>?_)
 ·conv=>whnf
  iterate 8 (refine Tst.F ?_;conv=>whnf)
  refine tst_c H (fun b32 H=>?_) (fun b32 H=>?_)
  ·conv=>whnf
   iterate 12 (refine Tst.T ?_;conv=>whnf)
   exact fi_ H
  conv=>whnf
  iterate 3 (refine Tst.F ?_;conv=>whnf)
  refine tst_c H (fun b33 H=>?_) (fun b33 H=>?_)
  ·conv=>whnf
   iterate 8 (refine Tst.T ?_;conv=>whnf)
   exact fi_ H
  conv=>whnf
  iterate 3 (refine Tst.F ?_;conv=>whnf)
  refine tst_c H (fun b34 H=>?_) (fun b34 H=>?_)
  ·conv=>whnf
   iterate 4 (refine Tst.T ?_;conv=>whnf)
   exact fi_ H
  conv=>whnf
  iterate 3 (refine Tst.F ?_;conv=>whnf)
  refine tst_c H (fun b35 H=>?_) (fun b35 H=>?_)
  ·conv=>whnf
   exact fi_ H
  conv=>whnf
  exact fi_ H
 conv=>whnf
 iterate 2 (refine Tst.T ?_;conv=>whnf)
 refine LenQ.M ?_;conv=>whnf
 iterate 2 (refine Tst.T ?_;conv=>whnf)
 refine tst_c H (fun b36 H=>?_) (fun b36 H=>?_)
 ·conv=>whnf
  iterate 16 (refine Tst.T ?_;conv=>whnf)
  exact fi_ H
 conv=>whnf
 iterate 3 (refine Tst.F ?_;conv=>whnf)
 refine tst_c H (fun b37 H=>?_) (fun b37 H=>?_)
 ·conv=>whnf
  iterate 12 (refine Tst.T ?_;conv=>whnf)
  exact fi_ H
 conv=>whnf
 iterate 3 (refine Tst.F ?_;conv=>whnf)
 refine tst_c H (fun b38 H=>?_) (fun b38 H=>?_)
 ·conv=>whnf
  iterate 8 (refine Tst.T ?_;conv=>whnf)
  exact fi_ H
 conv=>whnf
 iterate 3 (refine Tst.F ?_;conv=>whnf)
 refine tst_c H (fun b39 H=>?_) (fun b39 H=>?_)
 ·conv=>whnf
  iterate 4 (refine Tst.T ?_;conv=>whnf)
  exact fi_ H
 conv=>whnf
 iterate 3 (refine Tst.F ?_;conv=>whnf)
 refine tst_c H (fun b40 H=>?_) (fun b40 H=>?_)
 ·conv=>whnf
  exact fi_ H
 conv=>whnf
 exact fi_ H
end Go.Proofs.YtpmoioopjbfhkaaGreat

/- That the program's functions yield what the plain ones tell (written by a program of mine). -/
namespace Go.Proofs.YtpmoioopjbfhkaaGreat
open Go.RowKit
set_option maxRecDepth 100000
set_option maxHeartbeats 4000000
def gc238:BCode:=(.seq (.reg 1 [⟨(some 2),.bx (.tmp 0),none,0⟩,⟨(some 4),.mv (.const (.bool false)),none,1⟩] none 0 []) (.seq (.seq (.reg 0 [⟨(some 5),.mv (.const (.int .i64 0)),none,0⟩] none 0 []) (.block 0 (.loop (.seq (.seq (.reg 0 [⟨(some 6),.mv (.tmp 5),none,0⟩,⟨(some 7),.fa 3 (.tmp 2),none,0⟩,⟨(some 8),.ld 1 false (.tmp 7),none,0⟩,⟨(some 9),.lens (.tmp 8),none,0⟩,⟨(some 10),.bin .lss (.tmp 6) (.tmp 9),none,0⟩] none 0 []) (.cond (.tmp 10) .skip (.exit 0))) (.seq (.block 1 (.seq (.reg 0 [⟨(some 13),.fa 3 (.tmp 2),none,0⟩,⟨(some 14),.ld 1 false (.tmp 13),none,0⟩,⟨(some 15),.mv (.tmp 5),none,0⟩,⟨(some 16),.ixs 1 (.tmp 14) (.tmp 15),none,0⟩,⟨(some 17),.ld 1 false (.tmp 16),none,0⟩,⟨(some 18),.mv (.tmp 1),none,0⟩,⟨(some 19),.bin .eql (.tmp 17) (.tmp 18),none,0⟩] none 0 []) (.cond (.tmp 19) (.seq (.reg 0 [⟨(some 4),.mv (.const (.bool true)),none,0⟩] none 0 []) .ret) .skip))) (.reg 0 [⟨(some 11),.mv (.tmp 5),none,0⟩,⟨(some 12),.bin .add (.tmp 11) (.const (.int .i64 1)),none,0⟩,⟨(some 5),.mv (.tmp 12),none,0⟩] none 0 [])))))) (.seq (.reg 0 [⟨(some 4),.mv (.const (.bool false)),none,0⟩] none 0 []) .ret)))
theorem gc238_ok:compF Tryz.prog Tryz.f238=some (gc238.er,20,[.tmp 4]):=by unfold gc238;kernel_rfl
theorem p_ref35_seen_v {u1 u2 u3 u4:Bool} (a0:Ref35State) (a1:ByteArray):CallsO Tryz.prog 238 [.agg [.sl (List.map MailEntry.v a0.Rows) u1,.sl (List.map MailEntry.v a0.Last) u2,.b a0.Anew,.sl (List.map V.s a0.Seen) u3,.sl (List.map Ref35Contact.v a0.List) u4,.i a0.Odd,.i a0.Told],.s a1] V.b (p_ref35_seen a0 a1):=by
 refine callsO_comp mix Tryz.func238 gc238_ok fun r H=>?_
 rw [p_ref35_seen] at H
 conv=>whnf
 obtain ⟨o2,HL3,HQ4⟩:=bind_c H
 refine loop_c [4,5] [6,7,8,9,10,11,12,13,14,15,16,17,18,19] [6,7,8,9,10,11,12,13,14,15,16,17,18,19] (fun n vals st=>(∃ y6,p_ref35_seen_l1  a1 a0 n y6=some o2∧vals=[.b false,.i y6]∧st=[.live [.sl (List.map MailEntry.v a0.Rows) u1,.sl (List.map MailEntry.v a0.Last) u2,.b a0.Anew,.sl (List.map V.s a0.Seen) u3,.sl (List.map Ref35Contact.v a0.List) u4,.i a0.Odd,.i a0.Told] 0])) fuel 1 [] (⟨_,HL3,rfl,rfl⟩) (Nat.zero_le _) rfl (by kernel_rfl) (by kernel_rfl) rfl ⟨⟨rfl,rfl,rfl⟩,trivial⟩ ?_
 rintro (_ | n5) _ _ (⟨y6,H,rfl,rfl⟩)
 ·rw [p_ref35_seen_l1] at H;cases H
 rw [p_ref35_seen_l1] at H
 conv=>whnf
 refine LenQ.M ?_;conv=>whnf
 refine tst_d H (fun b7 H=>?_) (fun b7 H=>?_)
 ·conv=>whnf
  obtain rfl:=Option.some.inj H
  have H:=HQ4
  try dsimp only at H
  exact fb_ H
 conv=>whnf
 refine ixs_c (f:=V.s) H (fun _=>rfl) (fun x8 H=>?_);conv=>whnf
 refine tst_c H (fun b9 H=>?_) (fun b9 H=>?_)
 ·conv=>whnf
  obtain rfl:=Option.some.inj H
  have H:=HQ4
  try dsimp only at H
  exact fb_ H
 conv=>whnf
 refine Ari.w ?_;conv=>whnf
 exact again_c [6,7,8,9,10,11,12,13,14,15,16,17,18,19] n5 1 [] (⟨_,H,rfl,rfl⟩) (Nat.lt_succ_self _) (Nat.zero_le _) rfl (by kernel_rfl) (by kernel_rfl) rfl ⟨⟨rfl,rfl,rfl⟩,trivial⟩
def gc197:BCode:=(.seq (.reg 2 [⟨(some 1),.bx (.tmp 0),none,0⟩,⟨(some 2),.al (.agg [(.sl [] true),(.sl [] true),(.lit (.bool false)),(.sl [] true),(.sl [] true),(.lit (.int .i64 0)),(.lit (.int .i64 0))]),none,1⟩] none 0 []) (.seq (.seq (.reg 0 [⟨(some 5),.fa 2 (.tmp 1),none,0⟩,⟨(some 6),.ld 1 false (.tmp 5),none,0⟩,⟨(some 7),.un .not (.tmp 6),none,0⟩] none 0 []) (.cond (.tmp 7) (.seq (.reg 0 [⟨(some 8),.ld 7 true (.tmp 1),none,0⟩,⟨none,.st 7 (.tmp 2) (.tmp 8),none,0⟩] none 0 []) .ret) .skip)) (.seq (.reg 0 [⟨(some 3),.mv (.const (.slice none 0 0)),none,0⟩] none 0 []) (.seq (.seq (.reg 0 [⟨(some 4),.mv (.const (.int .i64 0)),none,0⟩] none 0 []) (.block 0 (.loop (.seq (.seq (.reg 0 [⟨(some 9),.mv (.tmp 4),none,0⟩,⟨(some 10),.fa 0 (.tmp 1),none,0⟩,⟨(some 11),.ld 1 false (.tmp 10),none,0⟩,⟨(some 12),.lens (.tmp 11),none,0⟩,⟨(some 13),.bin .lss (.tmp 9) (.tmp 12),none,0⟩] none 0 []) (.cond (.tmp 13) .skip (.exit 0))) (.seq (.block 1 (.seq (.reg 0 [⟨(some 16),.ld 7 true (.tmp 1),none,0⟩,⟨(some 17),.fa 0 (.tmp 1),none,0⟩,⟨(some 18),.ld 1 false (.tmp 17),none,0⟩,⟨(some 19),.mv (.tmp 4),none,0⟩,⟨(some 20),.ixs 5 (.tmp 18) (.tmp 19),none,0⟩,⟨(some 21),.fa 0 (.tmp 20),none,0⟩,⟨(some 22),.ld 1 false (.tmp 21),none,0⟩,⟨(some 23),.cl 238 [(.tmp 16),(.tmp 22)],none,0⟩] (some [[],[],[1],[],[3,1,2],[2,1,3,4],[4,3,1,2,5],[5,2,1,3,4,6,0]]) 0 []) (.cond (.tmp 23) (.reg 2 [⟨(some 24),.mv (.tmp 3),none,0⟩,⟨(some 25),.fa 0 (.tmp 1),none,0⟩,⟨(some 26),.ld 1 false (.tmp 25),none,0⟩,⟨(some 27),.mv (.tmp 4),none,0⟩,⟨(some 28),.ixs 5 (.tmp 26) (.tmp 27),none,0⟩,⟨(some 29),.ld 5 true (.tmp 28),none,0⟩,⟨(some 30),.bs 5 1 [(.lit (.string ⟨#[]⟩)),(.lit (.bool false)),(.lit (.int .i64 0)),(.lit (.int .i64 0)),(.lit (.int .i64 0))] [(0,(.tmp 29))],none,0⟩,⟨(some 31),.ap 5 48 (.tmp 24) (.tmp 30),none,1⟩,⟨(some 3),.mv (.tmp 31),none,2⟩] none 0 []) .skip))) (.reg 0 [⟨(some 14),.mv (.tmp 4),none,0⟩,⟨(some 15),.bin .add (.tmp 14) (.const (.int .i64 1)),none,0⟩,⟨(some 4),.mv (.tmp 15),none,0⟩] none 0 [])))))) (.seq (.reg 0 [⟨(some 32),.mv (.tmp 3),none,0⟩,⟨(some 33),.fa 0 (.tmp 1),none,0⟩,⟨none,.st 1 (.tmp 33) (.tmp 32),none,0⟩,⟨(some 34),.fa 2 (.tmp 1),none,0⟩,⟨none,.st 1 (.tmp 34) (.const (.bool false)),none,0⟩,⟨(some 35),.fa 3 (.tmp 1),none,0⟩,⟨none,.st 1 (.tmp 35) (.const (.slice none 0 0)),none,0⟩] none 0 []) (.seq (.reg 0 [⟨(some 36),.ld 7 true (.tmp 1),none,0⟩,⟨none,.st 7 (.tmp 2) (.tmp 36),none,0⟩] none 0 []) .ret))))))
theorem gc197_ok:compF Tryz.prog Tryz.f197=some (gc197.er,37,[.cell 2 7 true]):=by unfold gc197;kernel_rfl
theorem p_ref35_done_v {u1 u2 u3 u4:Bool} (a0:Ref35State):CallsO Tryz.prog 197 [.agg [.sl (List.map MailEntry.v a0.Rows) u1,.sl (List.map MailEntry.v a0.Last) u2,.b a0.Anew,.sl (List.map V.s a0.Seen) u3,.sl (List.map Ref35Contact.v a0.List) u4,.i a0.Odd,.i a0.Told]] Ref35State.v (p_ref35_done a0):=by
 refine callsO_comp mix Tryz.func197 gc197_ok fun r H=>?_
 rw [p_ref35_done] at H
 conv=>whnf
 refine Tst.not ?_
 refine tst_d H (fun b1 H=>?_) (fun b1 H=>?_)
 ·conv=>whnf
  refine ⟨Nat.le_of_ble_eq_true rfl,?_⟩;conv=>whnf
  refine finR_c (enc:=Ref35State.v) H ?_;conv=>whnf
  exact ⟨_,.v (fzagg (.cons (.slw) (.cons (.slw) (.cons (.id rfl) (.cons (.slw) (.cons (.slw) (.cons (.id rfl) (.cons (.id rfl) (.nil)))))))) rfl)⟩
 conv=>whnf
 obtain ⟨o3,HL4,HQ5⟩:=bind_c H
 refine loop_c [3,4] [9,10,11,12,13,14,15,16,17,18,19,20,21,22,23,24,25,26,27,28,29,30,31,5] [9,10,11,12,13,14,15,16,17,18,19,20,21,22,23,24,25,26,27,28,29,30,31,5] (fun n vals st=>(∃ y7,p_ref35_done_l1  a0 n [] y7=some o3∧vals=[.sl (List.map MailEntry.v []) true,.i y7]∧st=[.live [.sl (List.map MailEntry.v a0.Rows) u1,.sl (List.map MailEntry.v a0.Last) u2,.b a0.Anew,.sl (List.map V.s a0.Seen) u3,.sl (List.map Ref35Contact.v a0.List) u4,.i a0.Odd,.i a0.Told] 0,.live [.sl (List.map MailEntry.v []) true,.sl (List.map MailEntry.v []) true,.b false,.sl (List.map V.s []) true,.sl (List.map Ref35Contact.v []) true,.i (0:Int),.i (0:Int)] 0])∨(∃ y14 y15,p_ref35_done_l1  a0 n y14 y15=some o3∧vals=[.osl 2 0 (List.length y14) 5 false,.i y15]∧st=[.live [.sl (List.map MailEntry.v a0.Rows) u1,.sl (List.map MailEntry.v a0.Last) u2,.b a0.Anew,.sl (List.map V.s a0.Seen) u3,.sl (List.map Ref35Contact.v a0.List) u4,.i a0.Odd,.i a0.Told] 0,.live [.sl (List.map MailEntry.v []) true,.sl (List.map MailEntry.v []) true,.b false,.sl (List.map V.s []) true,.sl (List.map Ref35Contact.v []) true,.i (0:Int),.i (0:Int)] 0,.live (cellsM MailEntry.v y14) (cellsM MailEntry.v y14).length])) fuel 2 [] (.inl (⟨_,HL4,rfl,rfl⟩)) (Nat.zero_le _) rfl (by kernel_rfl) (by kernel_rfl) rfl ⟨⟨rfl,rfl,rfl⟩,⟨⟨rfl,rfl,rfl⟩,trivial⟩⟩ ?_
 rintro (_ | n6) _ _ (⟨y7,H,rfl,rfl⟩ | ⟨y14,y15,H,rfl,rfl⟩)
 ·rw [p_ref35_done_l1] at H;cases H
 ·rw [p_ref35_done_l1] at H;cases H
 ·rw [p_ref35_done_l1] at H
  conv=>whnf
  refine LenQ.M ?_;conv=>whnf
  refine tst_d H (fun b8 H=>?_) (fun b8 H=>?_)
  ·conv=>whnf
   obtain rfl:=Option.some.inj H
   have H:=HQ5
   try dsimp only at H
   refine ⟨Nat.le_of_ble_eq_true rfl,?_⟩;conv=>whnf
   refine ⟨Nat.le_of_ble_eq_true rfl,?_⟩;conv=>whnf
   refine ⟨Nat.le_of_ble_eq_true rfl,?_⟩;conv=>whnf
   refine ⟨Nat.le_of_ble_eq_true rfl,?_⟩;conv=>whnf
   refine finR_c (enc:=Ref35State.v) H ?_;conv=>whnf
   exact ⟨_,.v (fzagg (.cons (.slw) (.cons (.slw) (.cons (.id rfl) (.cons (.slw) (.cons (.slw) (.cons (.id rfl) (.cons (.id rfl) (.nil)))))))) rfl)⟩
  conv=>whnf
  refine ixs_c (f:=MailEntry.v) H (fun _=>rfl) (fun x9 H=>?_);conv=>whnf
  refine ⟨Nat.le_of_ble_eq_true rfl,?_⟩;conv=>whnf
  refine ask_c (p_ref35_seen_v _ _) H rfl rfl (fun v10 H=>?_);conv=>whnf
  refine FootQ.mk ⟨rfl,?_⟩;conv=>whnf
  refine tst_d H (fun b11 H=>?_) (fun b11 H=>?_)
  ·conv=>whnf
   refine Ari.w ?_;conv=>whnf
   exact again_c [9,10,11,12,13,14,15,16,17,18,19,20,21,22,23,24,25,26,27,28,29,30,31,5] n6 2 [] (.inl (⟨_,H,rfl,rfl⟩)) (Nat.lt_succ_self _) (Nat.zero_le _) rfl (by kernel_rfl) (by kernel_rfl) rfl ⟨⟨rfl,rfl,rfl⟩,⟨⟨rfl,rfl,rfl⟩,trivial⟩⟩
  conv=>whnf
  refine ixs_c (f:=MailEntry.v) H (fun _=>rfl) (fun x12 H=>?_);conv=>whnf
  refine appN_c (f:=MailEntry.v) H (fun _=>rfl) (srcM (f:=MailEntry.v) (fun _=>rfl) _ _) rfl (.v (srcOwn (f:=MailEntry.v) (l:=[x12]) (fun _=>rfl) rfl rfl rfl)) (by decide) rfl (by simp) (fun l13 H=>?_);conv=>whnf
  refine Ari.w ?_;conv=>whnf
  exact again_c [9,10,11,12,13,14,15,16,17,18,19,20,21,22,23,24,25,26,27,28,29,30,31,5] n6 3 [0,1,3] (.inr (⟨_,_,H,rfl,rfl⟩)) (Nat.lt_succ_self _) (Nat.zero_le _) rfl (by kernel_rfl) (by kernel_rfl) rfl ⟨⟨rfl,rfl,rfl⟩,⟨⟨rfl,rfl,rfl⟩,wkB_live0 rfl (cellsM_idlt (f:=MailEntry.v) (fun _=>rfl) _) rfl trivial⟩⟩
 rw [p_ref35_done_l1] at H
 conv=>whnf
 refine LenQ.M ?_;conv=>whnf
 refine tst_d H (fun b16 H=>?_) (fun b16 H=>?_)
 ·conv=>whnf
  obtain rfl:=Option.some.inj H
  have H:=HQ5
  try dsimp only at H
  refine ⟨Nat.le_of_ble_eq_true rfl,?_⟩;conv=>whnf
  refine ⟨Nat.le_of_ble_eq_true rfl,?_⟩;conv=>whnf
  refine ⟨Nat.le_of_ble_eq_true rfl,?_⟩;conv=>whnf
  refine ⟨Nat.le_of_ble_eq_true rfl,?_⟩;conv=>whnf
  refine finR_c (enc:=Ref35State.v) H ?_;conv=>whnf
  exact ⟨_,.v (fzagg (.cons (fzown (f:=MailEntry.v) (l:=y14) rfl rfl (fun _=>rfl) (fun _=>rfl)) (.cons (.slw) (.cons (.id rfl) (.cons (.slw) (.cons (.slw) (.cons (.id rfl) (.cons (.id rfl) (.nil)))))))) rfl)⟩
 conv=>whnf
 refine ixs_c (f:=MailEntry.v) H (fun _=>rfl) (fun x17 H=>?_);conv=>whnf
 refine ⟨Nat.le_of_ble_eq_true rfl,?_⟩;conv=>whnf
 refine ask_c (p_ref35_seen_v _ _) H rfl rfl (fun v18 H=>?_);conv=>whnf
 refine FootQ.mk ⟨rfl,?_⟩;conv=>whnf
 refine tst_d H (fun b19 H=>?_) (fun b19 H=>?_)
 ·conv=>whnf
  refine Ari.w ?_;conv=>whnf
  exact again_c [9,10,11,12,13,14,15,16,17,18,19,20,21,22,23,24,25,26,27,28,29,30,31,5] n6 3 [] (.inr (⟨_,_,H,rfl,rfl⟩)) (Nat.lt_succ_self _) (Nat.zero_le _) rfl (by kernel_rfl) (by kernel_rfl) rfl ⟨⟨rfl,rfl,rfl⟩,⟨⟨rfl,rfl,rfl⟩,wkB_live0 rfl (cellsM_idlt (f:=MailEntry.v) (fun _=>rfl) _) rfl trivial⟩⟩
 conv=>whnf
 refine ixs_c (f:=MailEntry.v) H (fun _=>rfl) (fun x20 H=>?_);conv=>whnf
 refine appO_c (f:=MailEntry.v) H (fun _=>rfl) rfl (Nat.le_refl _) (.v (srcOwn (f:=MailEntry.v) (l:=[x20]) (fun _=>rfl) rfl rfl rfl)) (by decide) rfl (by simp) (fun l21 H=>?_);conv=>whnf
 refine Ari.w ?_;conv=>whnf
 exact again_c [9,10,11,12,13,14,15,16,17,18,19,20,21,22,23,24,25,26,27,28,29,30,31,5] n6 3 [0,1,4] (.inr (⟨_,_,H,rfl,rfl⟩)) (Nat.lt_succ_self _) (Nat.zero_le _) rfl (by kernel_rfl) (by kernel_rfl) rfl ⟨⟨rfl,rfl,rfl⟩,⟨⟨rfl,rfl,rfl⟩,wkB_live0 rfl (cellsM_idlt (f:=MailEntry.v) (fun _=>rfl) _) rfl trivial⟩⟩
def gc277:BCode:=(.seq (.reg 1 [⟨(some 1),.bx (.tmp 0),none,0⟩,⟨(some 2),.mv (.const (.int .i64 0)),none,1⟩] none 0 []) (.seq (.seq (.reg 0 [⟨(some 3),.fa 1 (.tmp 1),none,0⟩,⟨(some 4),.ld 1 false (.tmp 3),none,0⟩,⟨(some 5),.bin .lss (.tmp 4) (.const (.int .i64 0)),none,0⟩,⟨(some 6),.mv (.tmp 5),none,0⟩,⟨(some 7),.fa 1 (.tmp 1),(some (6,false)),0⟩,⟨(some 8),.ld 1 false (.tmp 7),(some (6,false)),0⟩,⟨(some 9),.bin .gtr (.tmp 8) (.const (.int .i64 4)),(some (6,false)),0⟩,⟨(some 10),.pick (.tmp 6) (.const (.bool true)) (.tmp 9),none,0⟩,⟨(some 11),.mv (.tmp 10),none,0⟩,⟨(some 12),.fa 2 (.tmp 1),(some (11,false)),0⟩,⟨(some 13),.ld 1 false (.tmp 12),(some (11,false)),0⟩,⟨(some 14),.bin .lss (.tmp 13) (.const (.int .i64 (-128))),(some (11,false)),0⟩,⟨(some 15),.pick (.tmp 11) (.const (.bool true)) (.tmp 14),none,0⟩,⟨(some 16),.mv (.tmp 15),none,0⟩,⟨(some 17),.fa 2 (.tmp 1),(some (16,false)),0⟩,⟨(some 18),.ld 1 false (.tmp 17),(some (16,false)),0⟩,⟨(some 19),.bin .gtr (.tmp 18) (.const (.int .i64 127)),(some (16,false)),0⟩,⟨(some 20),.pick (.tmp 16) (.const (.bool true)) (.tmp 19),none,0⟩,⟨(some 21),.mv (.tmp 20),none,0⟩,⟨(some 22),.fa 3 (.tmp 1),(some (21,false)),0⟩,⟨(some 23),.ld 1 false (.tmp 22),(some (21,false)),0⟩,⟨(some 24),.bin .lss (.tmp 23) (.const (.int .i64 0)),(some (21,false)),0⟩,⟨(some 25),.pick (.tmp 21) (.const (.bool true)) (.tmp 24),none,0⟩,⟨(some 26),.mv (.tmp 25),none,0⟩,⟨(some 27),.fa 3 (.tmp 1),(some (26,false)),0⟩,⟨(some 28),.ld 1 false (.tmp 27),(some (26,false)),0⟩,⟨(some 29),.bin .gtr (.tmp 28) (.const (.int .i64 1099511627776)),(some (26,false)),0⟩,⟨(some 30),.pick (.tmp 26) (.const (.bool true)) (.tmp 29),none,0⟩] none 0 []) (.cond (.tmp 30) (.seq (.reg 0 [⟨(some 2),.mv (.const (.int .i64 8)),none,0⟩] none 0 []) .ret) .skip)) (.seq (.seq (.reg 0 [⟨(some 31),.fa 0 (.tmp 1),none,0⟩,⟨(some 32),.ld 1 false (.tmp 31),none,0⟩,⟨(some 33),.un .not (.tmp 32),none,0⟩,⟨(some 34),.mv (.tmp 33),none,0⟩,⟨(some 35),.fa 1 (.tmp 1),(some (34,true)),0⟩,⟨(some 36),.ld 1 false (.tmp 35),(some (34,true)),0⟩,⟨(some 37),.bin .neq (.tmp 36) (.const (.int .i64 0)),(some (34,true)),0⟩,⟨(some 38),.mv (.tmp 37),(some (34,true)),0⟩,⟨(some 39),.fa 2 (.tmp 1),(some (38,false)),0⟩,⟨(some 40),.ld 1 false (.tmp 39),(some (38,false)),0⟩,⟨(some 41),.bin .neq (.tmp 40) (.const (.int .i64 0)),(some (38,false)),0⟩,⟨(some 42),.pick (.tmp 38) (.const (.bool true)) (.tmp 41),(some (34,true)),0⟩,⟨(some 43),.pick (.tmp 34) (.tmp 42) (.const (.bool false)),none,0⟩] none 0 []) (.cond (.tmp 43) (.seq (.reg 0 [⟨(some 2),.mv (.const (.int .i64 4)),none,0⟩] none 0 []) .ret) .skip)) (.seq (.reg 0 [⟨(some 2),.mv (.const (.int .i64 0)),none,0⟩] none 0 []) .ret))))
theorem gc277_ok:compF Tryz.prog Tryz.f277=some (gc277.er,44,[.tmp 2]):=by unfold gc277;kernel_rfl
theorem p_ref23_Check_v (a0:PresPres):CallsO Tryz.prog 277 [.agg [.b a0.On,.i a0.Show,.i a0.Prio,.i a0.Seq]] V.i (p_ref23_Check a0):=by
 refine callsO_comp mix Tryz.func277 gc277_ok fun r H=>?_
 rw [p_ref23_Check] at H
 conv=>whnf
 refine tst_c H (fun b1 H=>?_) (fun b1 H=>?_)
 ·conv=>whnf
  iterate 20 (refine Tst.T ?_;conv=>whnf)
  exact fi_ H
 conv=>whnf
 iterate 3 (refine Tst.F ?_;conv=>whnf)
 refine tst_c H (fun b2 H=>?_) (fun b2 H=>?_)
 ·conv=>whnf
  iterate 16 (refine Tst.T ?_;conv=>whnf)
  exact fi_ H
 conv=>whnf
 iterate 3 (refine Tst.F ?_;conv=>whnf)
 refine tst_c H (fun b3 H=>?_) (fun b3 H=>?_)
 ·conv=>whnf
  iterate 12 (refine Tst.T ?_;conv=>whnf)
  exact fi_ H
 conv=>whnf
 iterate 3 (refine Tst.F ?_;conv=>whnf)
 refine tst_c H (fun b4 H=>?_) (fun b4 H=>?_)
 ·conv=>whnf
  iterate 8 (refine Tst.T ?_;conv=>whnf)
  exact fi_ H
 conv=>whnf
 iterate 3 (refine Tst.F ?_;conv=>whnf)
 refine tst_c H (fun b5 H=>?_) (fun b5 H=>?_)
 ·conv=>whnf
  iterate 4 (refine Tst.T ?_;conv=>whnf)
  exact fi_ H
 conv=>whnf
 iterate 3 (refine Tst.F ?_;conv=>whnf)
 refine tst_c H (fun b6 H=>?_) (fun b6 H=>?_)
 ·conv=>whnf
  exact fi_ H
 conv=>whnf
 refine Tst.not ?_
 refine tst_c H (fun b7 H=>?_) (fun b7 H=>?_)
 ·conv=>whnf
  iterate 6 (refine Tst.F ?_;conv=>whnf)
  exact fi_ H
 conv=>whnf
 iterate 3 (refine Tst.T ?_;conv=>whnf)
 refine tst_c H (fun b8 H=>?_) (fun b8 H=>?_)
 ·conv=>whnf
  iterate 6 (refine Tst.T ?_;conv=>whnf)
  exact fi_ H
 conv=>whnf
 iterate 2 (refine Tst.F ?_;conv=>whnf)
 refine Tst.T ?_;conv=>whnf
 refine Tst.F ?_;conv=>whnf
 refine Tst.T ?_;conv=>whnf
 refine tst_c H (fun b9 H=>?_) (fun b9 H=>?_)
 ·conv=>whnf
  exact fi_ H
 conv=>whnf
 exact fi_ H
def gc239:BCode:=(.seq (.reg 2 [⟨(some 1),.bx (.tmp 0),none,0⟩,⟨(some 2),.mv (.const (.string ⟨#[]⟩)),none,1⟩,⟨(some 3),.mv (.const (.string ⟨#[]⟩)),none,1⟩,⟨(some 4),.al (.agg [(.lit (.bool false)),(.lit (.int .i64 0)),(.lit (.int .i64 0)),(.lit (.int .i64 0))]),none,1⟩,⟨(some 5),.mv (.const (.int .i64 0)),none,2⟩] none 0 []) (.seq (.reg 1 [⟨(some 8),.fa 0 (.tmp 1),none,0⟩,⟨(some 9),.ld 1 false (.tmp 8),none,0⟩,⟨(some 10),.bin .eql (.tmp 9) (.const (.int .u8 34)),none,0⟩,⟨(some 11),.fa 4 (.tmp 1),none,0⟩,⟨(some 12),.ld 1 false (.tmp 11),none,0⟩,⟨(some 13),.fa 5 (.tmp 1),none,0⟩,⟨(some 14),.ld 1 false (.tmp 13),none,0⟩,⟨(some 15),.fa 7 (.tmp 1),none,0⟩,⟨(some 16),.ld 1 false (.tmp 15),none,0⟩,⟨(some 17),.bd [(.lit (.bool false)),(.lit (.int .i64 0)),(.lit (.int .i64 0)),(.lit (.int .i64 0))] [(0,1,(.tmp 10)),(1,1,(.tmp 12)),(2,1,(.tmp 14)),(3,1,(.tmp 16))],none,0⟩,⟨(some 6),.al (.agg [(.lit (.bool false)),(.lit (.int .i64 0)),(.lit (.int .i64 0)),(.lit (.int .i64 0))]),none,0⟩,⟨none,.st 4 (.tmp 6) (.tmp 17),none,1⟩] none 0 []) (.seq (.reg 0 [⟨(some 7),.mv (.const (.int .i64 0)),none,0⟩] none 0 []) (.seq (.block 0 (.seq (.reg 0 [⟨(some 21),.fa 0 (.tmp 1),none,0⟩,⟨(some 22),.ld 1 false (.tmp 21),none,0⟩,⟨(some 23),.bin .neq (.tmp 22) (.const (.int .u8 34)),none,0⟩,⟨(some 24),.mv (.tmp 23),none,0⟩,⟨(some 25),.fa 0 (.tmp 1),(some (24,true)),0⟩,⟨(some 26),.ld 1 false (.tmp 25),(some (24,true)),0⟩,⟨(some 27),.bin .neq (.tmp 26) (.const (.int .u8 35)),(some (24,true)),0⟩,⟨(some 28),.pick (.tmp 24) (.tmp 27) (.const (.bool false)),none,0⟩,⟨(some 20),.mv (.tmp 28),none,0⟩] none 0 []) (.cond (.tmp 20) (.reg 0 [⟨(some 7),.mv (.const (.int .i64 12)),none,0⟩] none 0 []) (.seq (.reg 0 [⟨(some 30),.ld 8 true (.tmp 1),none,0⟩,⟨(some 31),.cl 276 [(.tmp 30)],none,0⟩,⟨(some 32),.bin .neq (.tmp 31) (.const (.int .i64 0)),none,0⟩,⟨(some 29),.mv (.tmp 32),none,0⟩] none 0 []) (.cond (.tmp 29) (.reg 0 [⟨(some 33),.ld 8 true (.tmp 1),none,0⟩,⟨(some 34),.cl 276 [(.tmp 33)],none,0⟩,⟨(some 7),.mv (.tmp 34),none,0⟩] none 0 []) (.reg 0 [⟨(some 18),.ld 4 true (.tmp 6),none,0⟩,⟨(some 19),.cl 277 [(.tmp 18)],none,0⟩,⟨(some 7),.mv (.tmp 19),none,0⟩] none 0 [])))))) (.seq (.seq (.reg 0 [⟨(some 35),.mv (.tmp 7),none,0⟩,⟨(some 36),.bin .neq (.tmp 35) (.const (.int .i64 0)),none,0⟩] none 0 []) (.cond (.tmp 36) (.seq (.reg 0 [⟨(some 37),.bd [(.lit (.bool false)),(.lit (.int .i64 0)),(.lit (.int .i64 0)),(.lit (.int .i64 0))] [],none,0⟩,⟨(some 38),.mv (.tmp 7),none,0⟩,⟨(some 2),.mv (.const (.string ⟨#[]⟩)),none,0⟩,⟨(some 3),.mv (.const (.string ⟨#[]⟩)),none,0⟩,⟨none,.st 4 (.tmp 4) (.tmp 37),none,0⟩,⟨(some 5),.mv (.tmp 38),none,0⟩] none 0 []) .ret) .skip)) (.seq (.reg 0 [⟨(some 39),.fa 1 (.tmp 1),none,0⟩,⟨(some 40),.ld 1 false (.tmp 39),none,0⟩,⟨(some 41),.fa 2 (.tmp 1),none,0⟩,⟨(some 42),.ld 1 false (.tmp 41),none,0⟩,⟨(some 43),.ld 4 true (.tmp 6),none,0⟩,⟨(some 2),.mv (.tmp 40),none,0⟩,⟨(some 3),.mv (.tmp 42),none,0⟩,⟨none,.st 4 (.tmp 4) (.tmp 43),none,0⟩,⟨(some 5),.mv (.const (.int .i64 0)),none,0⟩] (some [[],[0],[],[2],[],[0,1],[1,0,5,2,3],[3,2,5,0,1,6,4],[4,6,1,0,5,2,3,7]]) 0 []) .ret))))))
theorem gc239_ok:compF Tryz.prog Tryz.f239=some (gc239.er,44,[.tmp 2,.tmp 3,.cell 4 4 true,.tmp 5]):=by unfold gc239;kernel_rfl
theorem p_ref23_Of_v (a0:StanzaStanza):CallsO Tryz.prog 239 [.agg [.y8 a0.Kind,.s a0.User,.s a0.Res,.s a0.Name,.i a0.Show,.i a0.Prio,.i a0.Code,.i a0.N]] (fun r:ByteArray × ByteArray × PresPres × Int=>.tup [V.s r.1,V.s r.2.1,PresPres.v r.2.2.1,V.i r.2.2.2]) (p_ref23_Of a0):=by
 refine callsO_comp mix Tryz.func239 gc239_ok fun r H=>?_
 rw [p_ref23_Of] at H
 conv=>whnf
 refine ⟨Nat.le_of_ble_eq_true rfl,?_⟩;conv=>whnf
 refine tst_d H (fun b1 H=>?_) (fun b1 H=>?_)
 ·conv=>whnf
  iterate 4 (refine Tst.F ?_;conv=>whnf)
  refine ask_c (p_ref10_Check_v _) H rfl rfl (fun v10 H=>?_);conv=>whnf
  refine tst_c H (fun b11 H=>?_) (fun b11 H=>?_)
  ·conv=>whnf
   refine ask_c (p_ref10_Check_v _) H rfl rfl (fun v12 H=>?_);conv=>whnf
   refine tst_c H (fun b13 H=>?_) (fun b13 H=>?_)
   ·conv=>whnf
    refine ⟨Nat.le_of_ble_eq_true rfl,?_⟩;conv=>whnf
    exact fin0_c (enc:=(fun r:ByteArray × ByteArray × PresPres × Int=>.tup [V.s r.1,V.s r.2.1,PresPres.v r.2.2.1,V.i r.2.2.2])) H (.inr rfl) (.cons (.tmp rfl) (.cons (.tmp rfl) (.cons (.cell rfl rfl (Nat.le_of_ble_eq_true rfl)) (.cons (.tmp rfl) (.nil))))) rfl rfl
   conv=>whnf
   refine ⟨Nat.le_of_ble_eq_true rfl,?_⟩;conv=>whnf
   refine FootQ.mk ⟨rfl,?_⟩;conv=>whnf
   exact fin0_c (enc:=(fun r:ByteArray × ByteArray × PresPres × Int=>.tup [V.s r.1,V.s r.2.1,PresPres.v r.2.2.1,V.i r.2.2.2])) H (.inr rfl) (.cons (.tmp rfl) (.cons (.tmp rfl) (.cons (.cell rfl rfl (Nat.le_of_ble_eq_true rfl)) (.cons (.tmp rfl) (.nil))))) rfl rfl
  conv=>whnf
  refine ask_c (p_ref23_Check_v _) H rfl rfl (fun v14 H=>?_);conv=>whnf
  refine tst_c H (fun b15 H=>?_) (fun b15 H=>?_)
  ·conv=>whnf
   refine ⟨Nat.le_of_ble_eq_true rfl,?_⟩;conv=>whnf
   exact fin0_c (enc:=(fun r:ByteArray × ByteArray × PresPres × Int=>.tup [V.s r.1,V.s r.2.1,PresPres.v r.2.2.1,V.i r.2.2.2])) H (.inr rfl) (.cons (.tmp rfl) (.cons (.tmp rfl) (.cons (.cell rfl rfl (Nat.le_of_ble_eq_true rfl)) (.cons (.tmp rfl) (.nil))))) rfl rfl
  conv=>whnf
  refine ⟨Nat.le_of_ble_eq_true rfl,?_⟩;conv=>whnf
  refine FootQ.mk ⟨rfl,?_⟩;conv=>whnf
  exact fin0_c (enc:=(fun r:ByteArray × ByteArray × PresPres × Int=>.tup [V.s r.1,V.s r.2.1,PresPres.v r.2.2.1,V.i r.2.2.2])) H (.inr rfl) (.cons (.tmp rfl) (.cons (.tmp rfl) (.cons (.cell rfl rfl (Nat.le_of_ble_eq_true rfl)) (.cons (.tmp rfl) (.nil))))) rfl rfl
 conv=>whnf
 iterate 3 (refine Tst.T ?_;conv=>whnf)
 refine tst_c H (fun b2 H=>?_) (fun b2 H=>?_)
 ·conv=>whnf
  refine tst_c H (fun b3 H=>?_) (fun b3 H=>?_)
  ·conv=>whnf
   refine ⟨Nat.le_of_ble_eq_true rfl,?_⟩;conv=>whnf
   exact fin0_c (enc:=(fun r:ByteArray × ByteArray × PresPres × Int=>.tup [V.s r.1,V.s r.2.1,PresPres.v r.2.2.1,V.i r.2.2.2])) H (.inr rfl) (.cons (.tmp rfl) (.cons (.tmp rfl) (.cons (.cell rfl rfl (Nat.le_of_ble_eq_true rfl)) (.cons (.tmp rfl) (.nil))))) rfl rfl
  conv=>whnf
  refine ⟨Nat.le_of_ble_eq_true rfl,?_⟩;conv=>whnf
  refine FootQ.mk ⟨rfl,?_⟩;conv=>whnf
  exact fin0_c (enc:=(fun r:ByteArray × ByteArray × PresPres × Int=>.tup [V.s r.1,V.s r.2.1,PresPres.v r.2.2.1,V.i r.2.2.2])) H (.inr rfl) (.cons (.tmp rfl) (.cons (.tmp rfl) (.cons (.cell rfl rfl (Nat.le_of_ble_eq_true rfl)) (.cons (.tmp rfl) (.nil))))) rfl rfl
 conv=>whnf
 refine ask_c (p_ref10_Check_v _) H rfl rfl (fun v4 H=>?_);conv=>whnf
 refine tst_c H (fun b5 H=>?_) (fun b5 H=>?_)
 ·conv=>whnf
  refine ask_c (p_ref10_Check_v _) H rfl rfl (fun v6 H=>?_);conv=>whnf
  refine tst_c H (fun b7 H=>?_) (fun b7 H=>?_)
  ·conv=>whnf
   refine ⟨Nat.le_of_ble_eq_true rfl,?_⟩;conv=>whnf
   exact fin0_c (enc:=(fun r:ByteArray × ByteArray × PresPres × Int=>.tup [V.s r.1,V.s r.2.1,PresPres.v r.2.2.1,V.i r.2.2.2])) H (.inr rfl) (.cons (.tmp rfl) (.cons (.tmp rfl) (.cons (.cell rfl rfl (Nat.le_of_ble_eq_true rfl)) (.cons (.tmp rfl) (.nil))))) rfl rfl
  conv=>whnf
  refine ⟨Nat.le_of_ble_eq_true rfl,?_⟩;conv=>whnf
  refine FootQ.mk ⟨rfl,?_⟩;conv=>whnf
  exact fin0_c (enc:=(fun r:ByteArray × ByteArray × PresPres × Int=>.tup [V.s r.1,V.s r.2.1,PresPres.v r.2.2.1,V.i r.2.2.2])) H (.inr rfl) (.cons (.tmp rfl) (.cons (.tmp rfl) (.cons (.cell rfl rfl (Nat.le_of_ble_eq_true rfl)) (.cons (.tmp rfl) (.nil))))) rfl rfl
 conv=>whnf
 refine ask_c (p_ref23_Check_v _) H rfl rfl (fun v8 H=>?_);conv=>whnf
 refine tst_c H (fun b9 H=>?_) (fun b9 H=>?_)
 ·conv=>whnf
  refine ⟨Nat.le_of_ble_eq_true rfl,?_⟩;conv=>whnf
  exact fin0_c (enc:=(fun r:ByteArray × ByteArray × PresPres × Int=>.tup [V.s r.1,V.s r.2.1,PresPres.v r.2.2.1,V.i r.2.2.2])) H (.inr rfl) (.cons (.tmp rfl) (.cons (.tmp rfl) (.cons (.cell rfl rfl (Nat.le_of_ble_eq_true rfl)) (.cons (.tmp rfl) (.nil))))) rfl rfl
 conv=>whnf
 refine ⟨Nat.le_of_ble_eq_true rfl,?_⟩;conv=>whnf
 refine FootQ.mk ⟨rfl,?_⟩;conv=>whnf
 exact fin0_c (enc:=(fun r:ByteArray × ByteArray × PresPres × Int=>.tup [V.s r.1,V.s r.2.1,PresPres.v r.2.2.1,V.i r.2.2.2])) H (.inr rfl) (.cons (.tmp rfl) (.cons (.tmp rfl) (.cons (.cell rfl rfl (Nat.le_of_ble_eq_true rfl)) (.cons (.tmp rfl) (.nil))))) rfl rfl
def gc278:BCode:=(.seq (.reg 0 [⟨(some 4),.mv (.const (.bool false)),none,0⟩] none 0 []) (.seq (.reg 0 [⟨(some 5),.mv (.tmp 0),none,0⟩,⟨(some 6),.cl 87 [(.tmp 5)],none,0⟩,⟨(some 7),.mv (.tmp 6),none,0⟩,⟨(some 8),.mv (.tmp 1),(some (7,true)),0⟩,⟨(some 9),.cl 303 [(.tmp 8)],(some (7,true)),0⟩,⟨(some 10),.bin .eql (.tmp 9) (.const (.int .i64 0)),(some (7,true)),0⟩,⟨(some 11),.pick (.tmp 7) (.tmp 10) (.const (.bool false)),none,0⟩,⟨(some 4),.mv (.tmp 11),none,0⟩] none 0 []) .ret))
theorem gc278_ok:compF Tryz.prog Tryz.f278=some (gc278.er,12,[.tmp 4]):=by unfold gc278;kernel_rfl
theorem p_ref23_named_v (a0:ByteArray) (a1:ByteArray):CallsO Tryz.prog 278 [.s a0,.s a1] V.b (p_ref23_named a0 a1):=by
 refine callsO_comp mix Tryz.func278 gc278_ok fun r H=>?_
 rw [p_ref23_named] at H
 conv=>whnf
 refine ask_c (p_ref09_IsBare_v _) H rfl rfl (fun v1 H=>?_);conv=>whnf
 refine tst_d H (fun b2 H=>?_) (fun b2 H=>?_)
 ·conv=>whnf
  iterate 3 (refine Tst.F ?_;conv=>whnf)
  exact fb_ H
 conv=>whnf
 refine Tst.T ?_;conv=>whnf
 refine ask_c (p_ref09_Resource_v _) H rfl rfl (fun v3 H=>?_);conv=>whnf
 iterate 2 (refine Tst.T ?_;conv=>whnf)
 exact fb_ H
end Go.Proofs.YtpmoioopjbfhkaaGreat

/- That the program's functions yield what the plain ones tell (written by a program of mine). -/
namespace Go.Proofs.YtpmoioopjbfhkaaGreat
open Go.RowKit
set_option maxRecDepth 100000
set_option maxHeartbeats 4000000
def gc240:BCode:=(.seq (.reg 0 [⟨(some 4),.mv (.const (.string ⟨#[]⟩)),none,0⟩] none 0 []) (.seq (.seq (.reg 0 [⟨(some 5),.mv (.tmp 0),none,0⟩,⟨(some 6),.mv (.tmp 1),none,0⟩,⟨(some 7),.cl 278 [(.tmp 5),(.tmp 6)],none,0⟩,⟨(some 8),.un .not (.tmp 7),none,0⟩] none 0 []) (.cond (.tmp 8) (.seq (.reg 0 [⟨(some 4),.mv (.const (.string ⟨#[]⟩)),none,0⟩] none 0 []) .ret) .skip)) (.seq (.reg 0 [⟨(some 9),.mv (.tmp 0),none,0⟩,⟨(some 10),.bin .add (.tmp 9) (.const (.string ⟨#[32]⟩)),none,0⟩,⟨(some 11),.mv (.tmp 1),none,0⟩,⟨(some 12),.bin .add (.tmp 10) (.tmp 11),none,0⟩,⟨(some 4),.mv (.tmp 12),none,0⟩] none 0 []) .ret)))
theorem gc240_ok:compF Tryz.prog Tryz.f240=some (gc240.er,13,[.tmp 4]):=by unfold gc240;kernel_rfl
theorem p_ref23_Key_v (a0:ByteArray) (a1:ByteArray):CallsO Tryz.prog 240 [.s a0,.s a1] V.s (p_ref23_Key a0 a1):=by
 refine callsO_comp mix Tryz.func240 gc240_ok fun r H=>?_
 rw [p_ref23_Key] at H
 conv=>whnf
 refine ask_c (p_ref23_named_v _ _) H rfl rfl (fun v1 H=>?_);conv=>whnf
 refine Tst.not ?_
 refine tst_d H (fun b2 H=>?_) (fun b2 H=>?_)
 ·conv=>whnf
  exact fin0_c (enc:=V.s) H (.inr rfl) (.cons (.tmp rfl) (.nil)) rfl rfl
 conv=>whnf
 refine cat_c H (fun s3 H=>?_);conv=>whnf
 refine cat_c H (fun s4 H=>?_);conv=>whnf
 exact fin0_c (enc:=V.s) H (.inr rfl) (.cons (.tmp rfl) (.nil)) rfl rfl
def gc241:BCode:=(.seq (.reg 1 [⟨(some 4),.al (.agg [(.lit (.bool false)),(.lit (.int .i64 0)),(.lit (.int .i64 0)),(.lit (.int .i64 0))]),none,0⟩,⟨(some 5),.mv (.const (.bool false)),none,1⟩] none 0 []) (.seq (.seq (.reg 0 [⟨(some 6),.mv (.const (.int .i64 0)),none,0⟩] none 0 []) (.block 0 (.loop (.seq (.seq (.reg 0 [⟨(some 7),.mv (.tmp 6),none,0⟩,⟨(some 8),.mv (.tmp 0),none,0⟩,⟨(some 9),.lens (.tmp 8),none,0⟩,⟨(some 10),.bin .lss (.tmp 7) (.tmp 9),none,0⟩] none 0 []) (.cond (.tmp 10) .skip (.exit 0))) (.seq (.block 1 (.seq (.reg 0 [⟨(some 13),.mv (.tmp 0),none,0⟩,⟨(some 14),.mv (.tmp 6),none,0⟩,⟨(some 15),.ixs 5 (.tmp 13) (.tmp 14),none,0⟩,⟨(some 16),.fa 0 (.tmp 15),none,0⟩,⟨(some 17),.ld 1 false (.tmp 16),none,0⟩,⟨(some 18),.mv (.tmp 1),none,0⟩,⟨(some 19),.bin .eql (.tmp 17) (.tmp 18),none,0⟩] none 0 []) (.cond (.tmp 19) (.seq (.reg 0 [⟨(some 20),.mv (.tmp 0),none,0⟩,⟨(some 21),.mv (.tmp 6),none,0⟩,⟨(some 22),.ixs 5 (.tmp 20) (.tmp 21),none,0⟩,⟨(some 23),.fa 1 (.tmp 22),none,0⟩,⟨(some 24),.ld 4 true (.tmp 23),none,0⟩,⟨none,.st 4 (.tmp 4) (.tmp 24),none,0⟩,⟨(some 5),.mv (.const (.bool true)),none,0⟩] none 0 []) .ret) .skip))) (.reg 0 [⟨(some 11),.mv (.tmp 6),none,0⟩,⟨(some 12),.bin .add (.tmp 11) (.const (.int .i64 1)),none,0⟩,⟨(some 6),.mv (.tmp 12),none,0⟩] none 0 [])))))) (.seq (.reg 0 [⟨(some 25),.bd [(.lit (.bool false)),(.lit (.int .i64 0)),(.lit (.int .i64 0)),(.lit (.int .i64 0))] [],none,0⟩,⟨none,.st 4 (.tmp 4) (.tmp 25),none,0⟩,⟨(some 5),.mv (.const (.bool false)),none,0⟩] none 0 []) .ret)))
theorem gc241_ok:compF Tryz.prog Tryz.f241=some (gc241.er,26,[.cell 4 4 true,.tmp 5]):=by unfold gc241;kernel_rfl
theorem p_ref35_find_v {u1:Bool} (a0:List MailEntry) (a1:ByteArray):CallsO Tryz.prog 241 [.sl (List.map MailEntry.v a0) u1,.s a1] (fun r:PresPres × Bool=>.tup [PresPres.v r.1,V.b r.2]) (p_ref35_find a0 a1):=by
 refine callsO_comp mix Tryz.func241 gc241_ok fun r H=>?_
 rw [p_ref35_find] at H
 conv=>whnf
 obtain ⟨o2,HL3,HQ4⟩:=bind_c H
 refine loop_c [5,6] [7,8,9,10,11,12,13,14,15,16,17,18,19,20,21,22,23,24] [7,8,9,10,11,12,13,14,15,16,17,18,19,20,21,22,23,24] (fun n vals st=>(∃ y6,p_ref35_find_l1  a0 a1 n y6=some o2∧vals=[.b false,.i y6]∧st=[.live [.b false,.i (0:Int),.i (0:Int),.i (0:Int)] 0])) fuel 1 [] (⟨_,HL3,rfl,rfl⟩) (Nat.zero_le _) rfl (by kernel_rfl) (by kernel_rfl) rfl ⟨⟨rfl,rfl,rfl⟩,trivial⟩ ?_
 rintro (_ | n5) _ _ (⟨y6,H,rfl,rfl⟩)
 ·rw [p_ref35_find_l1] at H;cases H
 rw [p_ref35_find_l1] at H
 conv=>whnf
 refine LenQ.M ?_;conv=>whnf
 refine tst_d H (fun b7 H=>?_) (fun b7 H=>?_)
 ·conv=>whnf
  obtain rfl:=Option.some.inj H
  have H:=HQ4
  try dsimp only at H
  refine ⟨Nat.le_of_ble_eq_true rfl,?_⟩;conv=>whnf
  exact fin0_c (enc:=(fun r:PresPres × Bool=>.tup [PresPres.v r.1,V.b r.2])) H (.inr rfl) (.cons (.cell rfl rfl (Nat.le_of_ble_eq_true rfl)) (.cons (.tmp rfl) (.nil))) rfl rfl
 conv=>whnf
 refine ixs_c (f:=MailEntry.v) H (fun _=>rfl) (fun x8 H=>?_);conv=>whnf
 refine ⟨Nat.le_of_ble_eq_true rfl,?_⟩;conv=>whnf
 refine tst_d H (fun b9 H=>?_) (fun b9 H=>?_)
 ·conv=>whnf
  refine Ari.w ?_;conv=>whnf
  exact again_c [7,8,9,10,11,12,13,14,15,16,17,18,19,20,21,22,23,24] n5 1 [] (⟨_,H,rfl,rfl⟩) (Nat.lt_succ_self _) (Nat.zero_le _) rfl (by kernel_rfl) (by kernel_rfl) rfl ⟨⟨rfl,rfl,rfl⟩,trivial⟩
 conv=>whnf
 refine ixs_c (f:=MailEntry.v) H (fun _=>rfl) (fun x10 H=>?_);conv=>whnf
 refine ⟨Nat.le_of_ble_eq_true rfl,?_⟩;conv=>whnf
 refine ⟨Nat.le_of_ble_eq_true rfl,?_⟩;conv=>whnf
 obtain rfl:=Option.some.inj H
 have H:=HQ4
 try dsimp only at H
 exact fin0_c (enc:=(fun r:PresPres × Bool=>.tup [PresPres.v r.1,V.b r.2])) H (.inr rfl) (.cons (.cell rfl rfl (Nat.le_of_ble_eq_true rfl)) (.cons (.tmp rfl) (.nil))) rfl rfl
def gc243:BCode:=(.seq (.reg 0 [⟨(some 4),.mv (.const (.slice none 0 0)),none,0⟩] none 0 []) (.seq (.reg 0 [⟨(some 5),.mv (.const (.slice none 0 0)),none,0⟩] none 0 []) (.seq (.seq (.reg 0 [⟨(some 6),.mv (.const (.int .i64 0)),none,0⟩] none 0 []) (.block 0 (.loop (.seq (.seq (.reg 0 [⟨(some 7),.mv (.tmp 6),none,0⟩,⟨(some 8),.mv (.tmp 0),none,0⟩,⟨(some 9),.lens (.tmp 8),none,0⟩,⟨(some 10),.bin .lss (.tmp 7) (.tmp 9),none,0⟩] none 0 []) (.cond (.tmp 10) .skip (.exit 0))) (.seq (.block 1 (.seq (.reg 0 [⟨(some 13),.mv (.tmp 0),none,0⟩,⟨(some 14),.mv (.tmp 6),none,0⟩,⟨(some 15),.ixs 5 (.tmp 13) (.tmp 14),none,0⟩,⟨(some 16),.fa 0 (.tmp 15),none,0⟩,⟨(some 17),.ld 1 false (.tmp 16),none,0⟩,⟨(some 18),.mv (.tmp 1),none,0⟩,⟨(some 19),.bin .neq (.tmp 17) (.tmp 18),none,0⟩] none 0 []) (.cond (.tmp 19) (.reg 2 [⟨(some 20),.mv (.tmp 5),none,0⟩,⟨(some 21),.mv (.tmp 0),none,0⟩,⟨(some 22),.mv (.tmp 6),none,0⟩,⟨(some 23),.ixs 5 (.tmp 21) (.tmp 22),none,0⟩,⟨(some 24),.ld 5 true (.tmp 23),none,0⟩,⟨(some 25),.bs 5 1 [(.lit (.string ⟨#[]⟩)),(.lit (.bool false)),(.lit (.int .i64 0)),(.lit (.int .i64 0)),(.lit (.int .i64 0))] [(0,(.tmp 24))],none,0⟩,⟨(some 26),.ap 5 48 (.tmp 20) (.tmp 25),none,1⟩,⟨(some 5),.mv (.tmp 26),none,2⟩] none 0 []) .skip))) (.reg 0 [⟨(some 11),.mv (.tmp 6),none,0⟩,⟨(some 12),.bin .add (.tmp 11) (.const (.int .i64 1)),none,0⟩,⟨(some 6),.mv (.tmp 12),none,0⟩] none 0 [])))))) (.seq (.reg 0 [⟨(some 27),.mv (.tmp 5),none,0⟩,⟨(some 4),.mv (.tmp 27),none,0⟩] none 0 []) .ret))))
theorem gc243_ok:compF Tryz.prog Tryz.f243=some (gc243.er,28,[.tmp 4]):=by unfold gc243;kernel_rfl
theorem p_ref35_without_v {u1:Bool} (a0:List MailEntry) (a1:ByteArray):CallsO Tryz.prog 243 [.sl (List.map MailEntry.v a0) u1,.s a1] (fun l:List MailEntry=>V.sl (l.map MailEntry.v) false) (p_ref35_without a0 a1):=by
 refine callsO_comp mix Tryz.func243 gc243_ok fun r H=>?_
 rw [p_ref35_without] at H
 conv=>whnf
 obtain ⟨o2,HL3,HQ4⟩:=bind_c H
 refine loop_c [5,6] [7,8,9,10,11,12,13,14,15,16,17,18,19,20,21,22,23,24,25,26] [7,8,9,10,11,12,13,14,15,16,17,18,19,20,21,22,23,24,25,26] (fun n vals st=>(∃ y6,p_ref35_without_l1  a0 a1 n [] y6=some o2∧vals=[.sl (List.map MailEntry.v []) true,.i y6]∧st=[])∨(∃ y12 y13,p_ref35_without_l1  a0 a1 n y12 y13=some o2∧vals=[.osl 0 0 (List.length y12) 5 false,.i y13]∧st=[.live (cellsM MailEntry.v y12) (cellsM MailEntry.v y12).length])) fuel 0 [] (.inl (⟨_,HL3,rfl,rfl⟩)) (Nat.zero_le _) rfl (by kernel_rfl) (by kernel_rfl) rfl trivial ?_
 rintro (_ | n5) _ _ (⟨y6,H,rfl,rfl⟩ | ⟨y12,y13,H,rfl,rfl⟩)
 ·rw [p_ref35_without_l1] at H;cases H
 ·rw [p_ref35_without_l1] at H;cases H
 ·rw [p_ref35_without_l1] at H
  conv=>whnf
  refine LenQ.M ?_;conv=>whnf
  refine tst_d H (fun b7 H=>?_) (fun b7 H=>?_)
  ·conv=>whnf
   obtain rfl:=Option.some.inj H
   have H:=HQ4
   try dsimp only at H
   refine finR_c (enc:=(fun l:List MailEntry=>V.sl (l.map MailEntry.v) false)) H ?_;conv=>whnf
   exact ⟨_,.v (.c (.slw))⟩
  conv=>whnf
  refine ixs_c (f:=MailEntry.v) H (fun _=>rfl) (fun x8 H=>?_);conv=>whnf
  refine ⟨Nat.le_of_ble_eq_true rfl,?_⟩;conv=>whnf
  refine Tst.not ?_
  refine tst_c H (fun b9 H=>?_) (fun b9 H=>?_)
  ·conv=>whnf
   refine Ari.w ?_;conv=>whnf
   exact again_c [7,8,9,10,11,12,13,14,15,16,17,18,19,20,21,22,23,24,25,26] n5 0 [] (.inl (⟨_,H,rfl,rfl⟩)) (Nat.lt_succ_self _) (Nat.zero_le _) rfl (by kernel_rfl) (by kernel_rfl) rfl trivial
  conv=>whnf
  refine ixs_c (f:=MailEntry.v) H (fun _=>rfl) (fun x10 H=>?_);conv=>whnf
  refine appN_c (f:=MailEntry.v) H (fun _=>rfl) (srcM (f:=MailEntry.v) (fun _=>rfl) _ _) rfl (.v (srcOwn (f:=MailEntry.v) (l:=[x10]) (fun _=>rfl) rfl rfl rfl)) (by decide) rfl (by simp) (fun l11 H=>?_);conv=>whnf
  refine Ari.w ?_;conv=>whnf
  exact again_c [7,8,9,10,11,12,13,14,15,16,17,18,19,20,21,22,23,24,25,26] n5 1 [1] (.inr (⟨_,_,H,rfl,rfl⟩)) (Nat.lt_succ_self _) (Nat.zero_le _) rfl (by kernel_rfl) (by kernel_rfl) rfl (wkB_live0 rfl (cellsM_idlt (f:=MailEntry.v) (fun _=>rfl) _) rfl trivial)
 rw [p_ref35_without_l1] at H
 conv=>whnf
 refine LenQ.M ?_;conv=>whnf
 refine tst_d H (fun b14 H=>?_) (fun b14 H=>?_)
 ·conv=>whnf
  obtain rfl:=Option.some.inj H
  have H:=HQ4
  try dsimp only at H
  refine finR_c (enc:=(fun l:List MailEntry=>V.sl (l.map MailEntry.v) false)) H ?_;conv=>whnf
  exact ⟨_,.v (.c (fzown (f:=MailEntry.v) (l:=y12) rfl rfl (fun _=>rfl) (fun _=>rfl)))⟩
 conv=>whnf
 refine ixs_c (f:=MailEntry.v) H (fun _=>rfl) (fun x15 H=>?_);conv=>whnf
 refine ⟨Nat.le_of_ble_eq_true rfl,?_⟩;conv=>whnf
 refine Tst.not ?_
 refine tst_c H (fun b16 H=>?_) (fun b16 H=>?_)
 ·conv=>whnf
  refine Ari.w ?_;conv=>whnf
  exact again_c [7,8,9,10,11,12,13,14,15,16,17,18,19,20,21,22,23,24,25,26] n5 1 [] (.inr (⟨_,_,H,rfl,rfl⟩)) (Nat.lt_succ_self _) (Nat.zero_le _) rfl (by kernel_rfl) (by kernel_rfl) rfl (wkB_live0 rfl (cellsM_idlt (f:=MailEntry.v) (fun _=>rfl) _) rfl trivial)
 conv=>whnf
 refine ixs_c (f:=MailEntry.v) H (fun _=>rfl) (fun x17 H=>?_);conv=>whnf
 refine appO_c (f:=MailEntry.v) H (fun _=>rfl) rfl (Nat.le_refl _) (.v (srcOwn (f:=MailEntry.v) (l:=[x17]) (fun _=>rfl) rfl rfl rfl)) (by decide) rfl (by simp) (fun l18 H=>?_);conv=>whnf
 refine Ari.w ?_;conv=>whnf
 exact again_c [7,8,9,10,11,12,13,14,15,16,17,18,19,20,21,22,23,24,25,26] n5 1 [2] (.inr (⟨_,_,H,rfl,rfl⟩)) (Nat.lt_succ_self _) (Nat.zero_le _) rfl (by kernel_rfl) (by kernel_rfl) rfl (wkB_live0 rfl (cellsM_idlt (f:=MailEntry.v) (fun _=>rfl) _) rfl trivial)
def gc242:BCode:=(.seq (.reg 1 [⟨(some 3),.bx (.tmp 1),none,0⟩,⟨(some 4),.mv (.const (.slice none 0 0)),none,1⟩] none 0 []) (.seq (.reg 1 [⟨(some 10),.mv (.tmp 0),none,0⟩,⟨(some 11),.fa 0 (.tmp 3),none,0⟩,⟨(some 12),.ld 1 false (.tmp 11),none,0⟩,⟨(some 13),.cl 241 [(.tmp 10),(.tmp 12)],none,0⟩,⟨(some 9),.mv (.tmp 13),none,0⟩,⟨(some 14),.ex (.tmp 9) 0,none,0⟩,⟨(some 15),.ex (.tmp 9) 1,none,0⟩,⟨(some 5),.al (.agg [(.lit (.bool false)),(.lit (.int .i64 0)),(.lit (.int .i64 0)),(.lit (.int .i64 0))]),none,0⟩,⟨none,.st 4 (.tmp 5) (.tmp 14),none,1⟩,⟨(some 6),.mv (.tmp 15),none,1⟩] none 0 []) (.seq (.seq (.reg 0 [⟨(some 16),.mv (.tmp 6),none,0⟩,⟨(some 17),.un .not (.tmp 16),none,0⟩,⟨(some 18),.mv (.tmp 17),none,0⟩,⟨(some 19),.mv (.tmp 0),(some (18,true)),0⟩,⟨(some 20),.lens (.tmp 19),(some (18,true)),0⟩,⟨(some 21),.bin .geq (.tmp 20) (.const (.int .i64 64)),(some (18,true)),0⟩,⟨(some 22),.pick (.tmp 18) (.tmp 21) (.const (.bool false)),none,0⟩] none 0 []) (.cond (.tmp 22) (.seq (.reg 0 [⟨(some 23),.mv (.tmp 0),none,0⟩,⟨(some 4),.mv (.tmp 23),none,0⟩] none 0 []) .ret) .skip)) (.seq (.reg 0 [⟨(some 24),.mv (.tmp 0),none,0⟩,⟨(some 25),.fa 0 (.tmp 3),none,0⟩,⟨(some 26),.ld 1 false (.tmp 25),none,0⟩,⟨(some 27),.cl 243 [(.tmp 24),(.tmp 26)],none,0⟩,⟨(some 0),.mv (.tmp 27),none,0⟩] none 0 []) (.seq (.reg 0 [⟨(some 7),.mv (.const (.int .i64 0)),none,0⟩] none 0 []) (.seq (.block 0 (.loop (.seq (.seq (.reg 0 [⟨(some 28),.mv (.tmp 7),none,0⟩,⟨(some 29),.mv (.tmp 0),none,0⟩,⟨(some 30),.lens (.tmp 29),none,0⟩,⟨(some 31),.bin .lss (.tmp 28) (.tmp 30),none,0⟩,⟨(some 32),.mv (.tmp 31),none,0⟩,⟨(some 33),.mv (.tmp 0),(some (32,true)),0⟩,⟨(some 34),.mv (.tmp 7),(some (32,true)),0⟩,⟨(some 35),.ixs 5 (.tmp 33) (.tmp 34),(some (32,true)),0⟩,⟨(some 36),.fa 0 (.tmp 35),(some (32,true)),0⟩,⟨(some 37),.ld 1 false (.tmp 36),(some (32,true)),0⟩,⟨(some 38),.fa 0 (.tmp 3),(some (32,true)),0⟩,⟨(some 39),.ld 1 false (.tmp 38),(some (32,true)),0⟩,⟨(some 40),.bin .lss (.tmp 37) (.tmp 39),(some (32,true)),0⟩,⟨(some 41),.pick (.tmp 32) (.tmp 40) (.const (.bool false)),none,0⟩] (some [[],[],[1],[1,2,0],[0,2,1,3],[3,1,2,0,4],[3,1,2,0,4],[6,4,0,2,1,3,5],[5,3,1,2,0,4,6,7],[7,6,4,0,2,1,3,5,8],[3,1,2,0,4],[4,0,2,1,3,10],[10,11,8,5,3,1,2,0,4,6,7,9],[9,7,6,5,8,11,10,12,3,1,2,0,4]]) 0 []) (.cond (.tmp 41) .skip (.exit 0))) (.block 1 (.reg 0 [⟨(some 42),.mv (.tmp 7),none,0⟩,⟨(some 43),.bin .add (.tmp 42) (.const (.int .i64 1)),none,0⟩,⟨(some 7),.mv (.tmp 43),none,0⟩] none 0 []))))) (.seq (.reg 0 [⟨(some 8),.mv (.const (.slice none 0 0)),none,0⟩] none 0 []) (.seq (.reg 4 [⟨(some 44),.mv (.tmp 8),none,0⟩,⟨(some 45),.mv (.tmp 0),none,0⟩,⟨(some 46),.mv (.tmp 7),none,0⟩,⟨(some 47),.sls 5 (.tmp 45) none (some (.tmp 46)) none,none,0⟩,⟨(some 48),.ap 5 48 (.tmp 44) (.tmp 47),none,0⟩,⟨(some 49),.ld 5 true (.tmp 3),none,1⟩,⟨(some 50),.bs 5 1 [(.lit (.string ⟨#[]⟩)),(.lit (.bool false)),(.lit (.int .i64 0)),(.lit (.int .i64 0)),(.lit (.int .i64 0))] [(0,(.tmp 49))],none,1⟩,⟨(some 51),.ap 5 48 (.tmp 48) (.tmp 50),none,2⟩,⟨(some 52),.mv (.tmp 0),none,3⟩,⟨(some 53),.mv (.tmp 7),none,3⟩,⟨(some 54),.sls 5 (.tmp 52) (some (.tmp 53)) none none,none,3⟩,⟨(some 55),.ap 5 48 (.tmp 51) (.tmp 54),none,3⟩,⟨(some 4),.mv (.tmp 55),none,4⟩] (some [[],[],[],[2,1],[1,2,3,0],[],[5],[5,6,0,3,2,1,4],[],[],[9,8],[8,9,10,4,1,2,3,0,6,5,7],[7,5,6,0,3,2,1,4,10,9,8,11]]) 0 []) .ret))))))))
theorem gc242_ok:compF Tryz.prog Tryz.f242=some (gc242.er,56,[.tmp 4]):=by unfold gc242;kernel_rfl
theorem p_ref35_with_v {u1:Bool} (a0:List MailEntry) (a1:MailEntry):CallsO Tryz.prog 242 [.sl (List.map MailEntry.v a0) u1,.agg [.s a1.Key,.b a1.P.On,.i a1.P.Show,.i a1.P.Prio,.i a1.P.Seq]] (fun l:List MailEntry=>V.sl (l.map MailEntry.v) false) (p_ref35_with a0 a1):=by
 refine callsO_comp mix Tryz.func242 gc242_ok fun r H=>?_
 rw [p_ref35_with] at H
 conv=>whnf
 refine ask_c (p_ref35_find_v _ _) H rfl rfl (fun v1 H=>?_);conv=>whnf
 refine ⟨Nat.le_of_ble_eq_true rfl,?_⟩;conv=>whnf
 refine Tst.not ?_
 refine tst_c H (fun b2 H=>?_) (fun b2 H=>?_)
 ·conv=>whnf
  iterate 4 (refine Tst.F ?_;conv=>whnf)
  refine ask_c (p_ref35_without_v _ _) H rfl rfl (fun v3 H=>?_);conv=>whnf
  obtain ⟨o5,HL6,HQ7⟩:=bind_c H
  refine loop_c [7] [28,29,30,31,32,33,34,35,36,37,38,39,40,41,42,43,5,11,25] [28,29,30,31,32,33,34,35,36,37,38,39,40,41,42,43,5,11,25] (fun n vals st=>(∃ y9,p_ref35_with_l1  v3 a1 n y9=some o5∧vals=[.i y9]∧st=[.live [.s a1.Key,.b a1.P.On,.i a1.P.Show,.i a1.P.Prio,.i a1.P.Seq] 0])) fuel 1 [] (⟨_,HL6,rfl,rfl⟩) (Nat.zero_le _) rfl (by kernel_rfl) (by kernel_rfl) rfl ⟨⟨rfl,rfl,rfl⟩,trivial⟩ ?_
  rintro (_ | n8) _ _ (⟨y9,H,rfl,rfl⟩)
  ·rw [p_ref35_with_l1] at H;cases H
  rw [p_ref35_with_l1] at H
  conv=>whnf
  refine LenQ.M ?_;conv=>whnf
  refine tst_d H (fun b10 H=>?_) (fun b10 H=>?_)
  ·conv=>whnf
   iterate 8 (refine Tst.F ?_;conv=>whnf)
   refine FootQ.mk ⟨rfl,?_⟩;conv=>whnf
   refine Tst.F ?_;conv=>whnf
   obtain rfl:=Option.some.inj H
   have H:=HQ7
   try dsimp only at H
   refine slsH_c (f:=MailEntry.v) H (fun _=>rfl) (fun x21 H=>?_);conv=>whnf
   refine appE_c (f:=MailEntry.v) H (fun _=>rfl) rfl (.v (srcM (f:=MailEntry.v) (fun _=>rfl) _ _)) (by decide) rfl (fun H=>?_) (fun l22 H=>?_)
   ·conv=>whnf
    refine appN_c (f:=MailEntry.v) H (fun _=>rfl) (srcM (f:=MailEntry.v) (fun _=>rfl) _ _) rfl (.v (srcOwn (f:=MailEntry.v) (l:=[a1]) (fun _=>rfl) rfl rfl rfl)) (by decide) rfl (by simp) (fun l26 H=>?_);conv=>whnf
    refine slsE_c (f:=MailEntry.v) H (fun _=>rfl) (fun x27 H=>?_);conv=>whnf
    refine appP_c (f:=MailEntry.v) H (fun _=>rfl) rfl rfl (.v (srcM (f:=MailEntry.v) (fun _=>rfl) _ _)) (by decide) rfl (fun l28 H=>?_) (fun l28 H=>?_)
    ·conv=>whnf
     refine FootQ.mk ⟨rfl,?_⟩;conv=>whnf
     refine finR_c (enc:=(fun l:List MailEntry=>V.sl (l.map MailEntry.v) false)) H ?_;conv=>whnf
     exact ⟨_,.v (.c (fzown (f:=MailEntry.v) (l:=l28) rfl rfl (fun _=>rfl) (fun _=>rfl)))⟩
    conv=>whnf
    refine FootQ.mk ⟨rfl,?_⟩;conv=>whnf
    refine finR_c (enc:=(fun l:List MailEntry=>V.sl (l.map MailEntry.v) false)) H ?_;conv=>whnf
    exact ⟨_,.v (.c (fzown (f:=MailEntry.v) (l:=l28) rfl rfl (fun _=>rfl) (fun _=>rfl)))⟩
   conv=>whnf
   refine appO_c (f:=MailEntry.v) H (fun _=>rfl) rfl (Nat.le_refl _) (.v (srcOwn (f:=MailEntry.v) (l:=[a1]) (fun _=>rfl) rfl rfl rfl)) (by decide) rfl (by simp) (fun l23 H=>?_);conv=>whnf
   refine slsE_c (f:=MailEntry.v) H (fun _=>rfl) (fun x24 H=>?_);conv=>whnf
   refine appP_c (f:=MailEntry.v) H (fun _=>rfl) rfl rfl (.v (srcM (f:=MailEntry.v) (fun _=>rfl) _ _)) (by decide) rfl (fun l25 H=>?_) (fun l25 H=>?_)
   ·conv=>whnf
    refine FootQ.mk ⟨rfl,?_⟩;conv=>whnf
    refine finR_c (enc:=(fun l:List MailEntry=>V.sl (l.map MailEntry.v) false)) H ?_;conv=>whnf
    exact ⟨_,.v (.c (fzown (f:=MailEntry.v) (l:=l25) rfl rfl (fun _=>rfl) (fun _=>rfl)))⟩
   conv=>whnf
   refine FootQ.mk ⟨rfl,?_⟩;conv=>whnf
   refine finR_c (enc:=(fun l:List MailEntry=>V.sl (l.map MailEntry.v) false)) H ?_;conv=>whnf
   exact ⟨_,.v (.c (fzown (f:=MailEntry.v) (l:=l25) rfl rfl (fun _=>rfl) (fun _=>rfl)))⟩
  conv=>whnf
  iterate 2 (refine Tst.T ?_;conv=>whnf)
  refine ixs_c (f:=MailEntry.v) H (fun _=>rfl) (fun x11 H=>?_);conv=>whnf
  refine Tst.T ?_;conv=>whnf
  refine ⟨Nat.le_of_ble_eq_true rfl,?_⟩;conv=>whnf
  iterate 5 (refine Tst.T ?_;conv=>whnf)
  refine FootQ.mk ⟨rfl,?_⟩;conv=>whnf
  refine tst_c H (fun b12 H=>?_) (fun b12 H=>?_)
  ·conv=>whnf
   refine Ari.w ?_;conv=>whnf
   exact again_c [28,29,30,31,32,33,34,35,36,37,38,39,40,41,42,43,5,11,25] n8 1 [] (⟨_,H,rfl,rfl⟩) (Nat.lt_succ_self _) (Nat.zero_le _) rfl (by kernel_rfl) (by kernel_rfl) rfl ⟨⟨rfl,rfl,rfl⟩,trivial⟩
  conv=>whnf
  obtain rfl:=Option.some.inj H
  have H:=HQ7
  try dsimp only at H
  refine slsH_c (f:=MailEntry.v) H (fun _=>rfl) (fun x13 H=>?_);conv=>whnf
  refine appE_c (f:=MailEntry.v) H (fun _=>rfl) rfl (.v (srcM (f:=MailEntry.v) (fun _=>rfl) _ _)) (by decide) rfl (fun H=>?_) (fun l14 H=>?_)
  ·conv=>whnf
   refine appN_c (f:=MailEntry.v) H (fun _=>rfl) (srcM (f:=MailEntry.v) (fun _=>rfl) _ _) rfl (.v (srcOwn (f:=MailEntry.v) (l:=[a1]) (fun _=>rfl) rfl rfl rfl)) (by decide) rfl (by simp) (fun l18 H=>?_);conv=>whnf
   refine slsE_c (f:=MailEntry.v) H (fun _=>rfl) (fun x19 H=>?_);conv=>whnf
   refine appP_c (f:=MailEntry.v) H (fun _=>rfl) rfl rfl (.v (srcM (f:=MailEntry.v) (fun _=>rfl) _ _)) (by decide) rfl (fun l20 H=>?_) (fun l20 H=>?_)
   ·conv=>whnf
    refine FootQ.mk ⟨rfl,?_⟩;conv=>whnf
    refine finR_c (enc:=(fun l:List MailEntry=>V.sl (l.map MailEntry.v) false)) H ?_;conv=>whnf
    exact ⟨_,.v (.c (fzown (f:=MailEntry.v) (l:=l20) rfl rfl (fun _=>rfl) (fun _=>rfl)))⟩
   conv=>whnf
   refine FootQ.mk ⟨rfl,?_⟩;conv=>whnf
   refine finR_c (enc:=(fun l:List MailEntry=>V.sl (l.map MailEntry.v) false)) H ?_;conv=>whnf
   exact ⟨_,.v (.c (fzown (f:=MailEntry.v) (l:=l20) rfl rfl (fun _=>rfl) (fun _=>rfl)))⟩
  conv=>whnf
  refine appO_c (f:=MailEntry.v) H (fun _=>rfl) rfl (Nat.le_refl _) (.v (srcOwn (f:=MailEntry.v) (l:=[a1]) (fun _=>rfl) rfl rfl rfl)) (by decide) rfl (by simp) (fun l15 H=>?_);conv=>whnf
  refine slsE_c (f:=MailEntry.v) H (fun _=>rfl) (fun x16 H=>?_);conv=>whnf
  refine appP_c (f:=MailEntry.v) H (fun _=>rfl) rfl rfl (.v (srcM (f:=MailEntry.v) (fun _=>rfl) _ _)) (by decide) rfl (fun l17 H=>?_) (fun l17 H=>?_)
  ·conv=>whnf
   refine FootQ.mk ⟨rfl,?_⟩;conv=>whnf
   refine finR_c (enc:=(fun l:List MailEntry=>V.sl (l.map MailEntry.v) false)) H ?_;conv=>whnf
   exact ⟨_,.v (.c (fzown (f:=MailEntry.v) (l:=l17) rfl rfl (fun _=>rfl) (fun _=>rfl)))⟩
  conv=>whnf
  refine FootQ.mk ⟨rfl,?_⟩;conv=>whnf
  refine finR_c (enc:=(fun l:List MailEntry=>V.sl (l.map MailEntry.v) false)) H ?_;conv=>whnf
  exact ⟨_,.v (.c (fzown (f:=MailEntry.v) (l:=l17) rfl rfl (fun _=>rfl) (fun _=>rfl)))⟩
 conv=>whnf
 refine Tst.T ?_;conv=>whnf
 refine LenQ.M ?_;conv=>whnf
 iterate 2 (refine Tst.T ?_;conv=>whnf)
 refine tst_c H (fun b29 H=>?_) (fun b29 H=>?_)
 ·conv=>whnf
  refine finR_c (enc:=(fun l:List MailEntry=>V.sl (l.map MailEntry.v) false)) H ?_;conv=>whnf
  exact ⟨_,.v (.c (.slw))⟩
 conv=>whnf
 refine ask_c (p_ref35_without_v _ _) H rfl rfl (fun v30 H=>?_);conv=>whnf
 obtain ⟨o32,HL33,HQ34⟩:=bind_c H
 refine loop_c [7] [28,29,30,31,32,33,34,35,36,37,38,39,40,41,42,43,5,11,25] [28,29,30,31,32,33,34,35,36,37,38,39,40,41,42,43,5,11,25] (fun n vals st=>(∃ y36,p_ref35_with_l1  v30 a1 n y36=some o32∧vals=[.i y36]∧st=[.live [.s a1.Key,.b a1.P.On,.i a1.P.Show,.i a1.P.Prio,.i a1.P.Seq] 0])) fuel 1 [] (⟨_,HL33,rfl,rfl⟩) (Nat.zero_le _) rfl (by kernel_rfl) (by kernel_rfl) rfl ⟨⟨rfl,rfl,rfl⟩,trivial⟩ ?_
 rintro (_ | n35) _ _ (⟨y36,H,rfl,rfl⟩)
 ·rw [p_ref35_with_l1] at H;cases H
 rw [p_ref35_with_l1] at H
 conv=>whnf
 refine LenQ.M ?_;conv=>whnf
 refine tst_d H (fun b37 H=>?_) (fun b37 H=>?_)
 ·conv=>whnf
  iterate 8 (refine Tst.F ?_;conv=>whnf)
  refine FootQ.mk ⟨rfl,?_⟩;conv=>whnf
  refine Tst.F ?_;conv=>whnf
  obtain rfl:=Option.some.inj H
  have H:=HQ34
  try dsimp only at H
  refine slsH_c (f:=MailEntry.v) H (fun _=>rfl) (fun x48 H=>?_);conv=>whnf
  refine appE_c (f:=MailEntry.v) H (fun _=>rfl) rfl (.v (srcM (f:=MailEntry.v) (fun _=>rfl) _ _)) (by decide) rfl (fun H=>?_) (fun l49 H=>?_)
  ·conv=>whnf
   refine appN_c (f:=MailEntry.v) H (fun _=>rfl) (srcM (f:=MailEntry.v) (fun _=>rfl) _ _) rfl (.v (srcOwn (f:=MailEntry.v) (l:=[a1]) (fun _=>rfl) rfl rfl rfl)) (by decide) rfl (by simp) (fun l53 H=>?_);conv=>whnf
   refine slsE_c (f:=MailEntry.v) H (fun _=>rfl) (fun x54 H=>?_);conv=>whnf
   refine appP_c (f:=MailEntry.v) H (fun _=>rfl) rfl rfl (.v (srcM (f:=MailEntry.v) (fun _=>rfl) _ _)) (by decide) rfl (fun l55 H=>?_) (fun l55 H=>?_)
   ·conv=>whnf
    refine FootQ.mk ⟨rfl,?_⟩;conv=>whnf
    refine finR_c (enc:=(fun l:List MailEntry=>V.sl (l.map MailEntry.v) false)) H ?_;conv=>whnf
    exact ⟨_,.v (.c (fzown (f:=MailEntry.v) (l:=l55) rfl rfl (fun _=>rfl) (fun _=>rfl)))⟩
   conv=>whnf
   refine FootQ.mk ⟨rfl,?_⟩;conv=>whnf
   refine finR_c (enc:=(fun l:List MailEntry=>V.sl (l.map MailEntry.v) false)) H ?_;conv=>whnf
   exact ⟨_,.v (.c (fzown (f:=MailEntry.v) (l:=l55) rfl rfl (fun _=>rfl) (fun _=>rfl)))⟩
  conv=>whnf
  refine appO_c (f:=MailEntry.v) H (fun _=>rfl) rfl (Nat.le_refl _) (.v (srcOwn (f:=MailEntry.v) (l:=[a1]) (fun _=>rfl) rfl rfl rfl)) (by decide) rfl (by simp) (fun l50 H=>?_);conv=>whnf
  refine slsE_c (f:=MailEntry.v) H (fun _=>rfl) (fun x51 H=>?_);conv=>whnf
  refine appP_c (f:=MailEntry.v) H (fun _=>rfl) rfl rfl (.v (srcM (f:=MailEntry.v) (fun _=>rfl) _ _)) (by decide) rfl (fun l52 H=>?_) (fun l52 H=>?_)
  ·conv=>whnf
   refine FootQ.mk ⟨rfl,?_⟩;conv=>whnf
   refine finR_c (enc:=(fun l:List MailEntry=>V.sl (l.map MailEntry.v) false)) H ?_;conv=>whnf
   exact ⟨_,.v (.c (fzown (f:=MailEntry.v) (l:=l52) rfl rfl (fun _=>rfl) (fun _=>rfl)))⟩
  conv=>whnf
  refine FootQ.mk ⟨rfl,?_⟩;conv=>whnf
  refine finR_c (enc:=(fun l:List MailEntry=>V.sl (l.map MailEntry.v) false)) H ?_;conv=>whnf
  exact ⟨_,.v (.c (fzown (f:=MailEntry.v) (l:=l52) rfl rfl (fun _=>rfl) (fun _=>rfl)))⟩
 conv=>whnf
 iterate 2 (refine Tst.T ?_;conv=>whnf)
 refine ixs_c (f:=MailEntry.v) H (fun _=>rfl) (fun x38 H=>?_);conv=>whnf
 refine Tst.T ?_;conv=>whnf
 refine ⟨Nat.le_of_ble_eq_true rfl,?_⟩;conv=>whnf
 iterate 5 (refine Tst.T ?_;conv=>whnf)
 refine FootQ.mk ⟨rfl,?_⟩;conv=>whnf
 refine tst_c H (fun b39 H=>?_) (fun b39 H=>?_)
 ·conv=>whnf
  refine Ari.w ?_;conv=>whnf
  exact again_c [28,29,30,31,32,33,34,35,36,37,38,39,40,41,42,43,5,11,25] n35 1 [] (⟨_,H,rfl,rfl⟩) (Nat.lt_succ_self _) (Nat.zero_le _) rfl (by kernel_rfl) (by kernel_rfl) rfl ⟨⟨rfl,rfl,rfl⟩,trivial⟩
 conv=>whnf
 obtain rfl:=Option.some.inj H
 have H:=HQ34
 try dsimp only at H
 refine slsH_c (f:=MailEntry.v) H (fun _=>rfl) (fun x40 H=>?_);conv=>whnf
 refine appE_c (f:=MailEntry.v) H (fun _=>rfl) rfl (.v (srcM (f:=MailEntry.v) (fun _=>rfl) _ _)) (by decide) rfl (fun H=>?_) (fun l41 H=>?_)
 ·conv=>whnf
  refine appN_c (f:=MailEntry.v) H (fun _=>rfl) (srcM (f:=MailEntry.v) (fun _=>rfl) _ _) rfl (.v (srcOwn (f:=MailEntry.v) (l:=[a1]) (fun _=>rfl) rfl rfl rfl)) (by decide) rfl (by simp) (fun l45 H=>?_);conv=>whnf
  refine slsE_c (f:=MailEntry.v) H (fun _=>rfl) (fun x46 H=>?_);conv=>whnf
  refine appP_c (f:=MailEntry.v) H (fun _=>rfl) rfl rfl (.v (srcM (f:=MailEntry.v) (fun _=>rfl) _ _)) (by decide) rfl (fun l47 H=>?_) (fun l47 H=>?_)
  ·conv=>whnf
   refine FootQ.mk ⟨rfl,?_⟩;conv=>whnf
   refine finR_c (enc:=(fun l:List MailEntry=>V.sl (l.map MailEntry.v) false)) H ?_;conv=>whnf
   exact ⟨_,.v (.c (fzown (f:=MailEntry.v) (l:=l47) rfl rfl (fun _=>rfl) (fun _=>rfl)))⟩
  conv=>whnf
  refine FootQ.mk ⟨rfl,?_⟩;conv=>whnf
  refine finR_c (enc:=(fun l:List MailEntry=>V.sl (l.map MailEntry.v) false)) H ?_;conv=>whnf
  exact ⟨_,.v (.c (fzown (f:=MailEntry.v) (l:=l47) rfl rfl (fun _=>rfl) (fun _=>rfl)))⟩
 conv=>whnf
 refine appO_c (f:=MailEntry.v) H (fun _=>rfl) rfl (Nat.le_refl _) (.v (srcOwn (f:=MailEntry.v) (l:=[a1]) (fun _=>rfl) rfl rfl rfl)) (by decide) rfl (by simp) (fun l42 H=>?_);conv=>whnf
 refine slsE_c (f:=MailEntry.v) H (fun _=>rfl) (fun x43 H=>?_);conv=>whnf
 refine appP_c (f:=MailEntry.v) H (fun _=>rfl) rfl rfl (.v (srcM (f:=MailEntry.v) (fun _=>rfl) _ _)) (by decide) rfl (fun l44 H=>?_) (fun l44 H=>?_)
 ·conv=>whnf
  refine FootQ.mk ⟨rfl,?_⟩;conv=>whnf
  refine finR_c (enc:=(fun l:List MailEntry=>V.sl (l.map MailEntry.v) false)) H ?_;conv=>whnf
  exact ⟨_,.v (.c (fzown (f:=MailEntry.v) (l:=l44) rfl rfl (fun _=>rfl) (fun _=>rfl)))⟩
 conv=>whnf
 refine FootQ.mk ⟨rfl,?_⟩;conv=>whnf
 refine finR_c (enc:=(fun l:List MailEntry=>V.sl (l.map MailEntry.v) false)) H ?_;conv=>whnf
 exact ⟨_,.v (.c (fzown (f:=MailEntry.v) (l:=l44) rfl rfl (fun _=>rfl) (fun _=>rfl)))⟩
end Go.Proofs.YtpmoioopjbfhkaaGreat

