/- A part of the proof: 3 texts joined. -/
import Derived.Test.YthlhbgedidipkaaGreatVbA15
import Derived.Test.YthlhbgedidipkaaGreatVbA18
import Derived.Test.YthlhbgedidipkaaGreatVbA20
import Derived.Test.YthlhbgedidipkaaGreatVbA12
import Derived.KernelRfl
import Derived.Test.YthlhbgedidipkaaGreatVbA13
set_option linter.all false
/- That the program's functions yield what the plain ones tell (written by a program of mine). -/
namespace Go.Proofs.YthlhbgedidipkaaGreat
open Go.RowKit
def gc125 : BCode := (.seq (.reg 2 [⟨(some 2),.bx (.tmp 0),none,0⟩,⟨(some 3),.bx (.tmp 1),none,1⟩,⟨(some 4),.mv (.const (.bool false)),none,2⟩] none 0 []) (.seq (.reg 0 [⟨(some 5),.fa 0 (.tmp 2),none,0⟩,⟨(some 6),.ld 1 false (.tmp 5),none,0⟩,⟨(some 7),.fa 0 (.tmp 3),none,0⟩,⟨(some 8),.ld 1 false (.tmp 7),none,0⟩,⟨(some 9),.cl 193 [(.tmp 6),(.tmp 8)],none,0⟩,⟨(some 10),.mv (.tmp 9),none,0⟩,⟨(some 11),.fa 1 (.tmp 2),(some (10,true)),0⟩,⟨(some 12),.ld 1 false (.tmp 11),(some (10,true)),0⟩,⟨(some 13),.fa 1 (.tmp 3),(some (10,true)),0⟩,⟨(some 14),.ld 1 false (.tmp 13),(some (10,true)),0⟩,⟨(some 15),.cl 193 [(.tmp 12),(.tmp 14)],(some (10,true)),0⟩,⟨(some 16),.pick (.tmp 10) (.tmp 15) (.const (.bool false)),none,0⟩,⟨(some 17),.mv (.tmp 16),none,0⟩,⟨(some 18),.fa 2 (.tmp 2),(some (17,true)),0⟩,⟨(some 19),.ld 1 false (.tmp 18),(some (17,true)),0⟩,⟨(some 20),.fa 2 (.tmp 3),(some (17,true)),0⟩,⟨(some 21),.ld 1 false (.tmp 20),(some (17,true)),0⟩,⟨(some 22),.binb false (.tmp 19) (.tmp 21),(some (17,true)),0⟩,⟨(some 23),.pick (.tmp 17) (.tmp 22) (.const (.bool false)),none,0⟩,⟨(some 24),.mv (.tmp 23),none,0⟩,⟨(some 25),.fa 3 (.tmp 2),(some (24,true)),0⟩,⟨(some 26),.ld 1 false (.tmp 25),(some (24,true)),0⟩,⟨(some 27),.fa 3 (.tmp 3),(some (24,true)),0⟩,⟨(some 28),.ld 1 false (.tmp 27),(some (24,true)),0⟩,⟨(some 29),.cl 194 [(.tmp 26),(.tmp 28)],(some (24,true)),0⟩,⟨(some 30),.pick (.tmp 24) (.tmp 29) (.const (.bool false)),none,0⟩,⟨(some 31),.mv (.tmp 30),none,0⟩,⟨(some 32),.fa 4 (.tmp 2),(some (31,true)),0⟩,⟨(some 33),.ld 1 false (.tmp 32),(some (31,true)),0⟩,⟨(some 34),.fa 4 (.tmp 3),(some (31,true)),0⟩,⟨(some 35),.ld 1 false (.tmp 34),(some (31,true)),0⟩,⟨(some 36),.cl 195 [(.tmp 33),(.tmp 35)],(some (31,true)),0⟩,⟨(some 37),.pick (.tmp 31) (.tmp 36) (.const (.bool false)),none,0⟩,⟨(some 38),.mv (.tmp 37),none,0⟩,⟨(some 39),.fa 5 (.tmp 2),(some (38,true)),0⟩,⟨(some 40),.ld 1 false (.tmp 39),(some (38,true)),0⟩,⟨(some 41),.fa 5 (.tmp 3),(some (38,true)),0⟩,⟨(some 42),.ld 1 false (.tmp 41),(some (38,true)),0⟩,⟨(some 43),.bin .eql (.tmp 40) (.tmp 42),(some (38,true)),0⟩,⟨(some 44),.pick (.tmp 38) (.tmp 43) (.const (.bool false)),none,0⟩,⟨(some 45),.mv (.tmp 44),none,0⟩,⟨(some 46),.fa 6 (.tmp 2),(some (45,true)),0⟩,⟨(some 47),.ld 1 false (.tmp 46),(some (45,true)),0⟩,⟨(some 48),.fa 6 (.tmp 3),(some (45,true)),0⟩,⟨(some 49),.ld 1 false (.tmp 48),(some (45,true)),0⟩,⟨(some 50),.bin .eql (.tmp 47) (.tmp 49),(some (45,true)),0⟩,⟨(some 51),.pick (.tmp 45) (.tmp 50) (.const (.bool false)),none,0⟩,⟨(some 4),.mv (.tmp 51),none,0⟩] none 0 []) .ret))
theorem gc125_ok : compF Tryz.prog Tryz.f125 = some (gc125.er,52,[.tmp 4]) := by unfold gc125;kernel_rfl
set_option maxRecDepth 100000 in
set_option maxHeartbeats 4000000 in
theorem p_view_Same_v {u1 u2 u3 u4 u5 u6 u7 u8 : Bool} (a0 : Ref35State) (a1 : Ref35State) : CallsO Tryz.prog 125 [.agg [.sl (List.map MailEntry.v a0.Rows) u1,.sl (List.map MailEntry.v a0.Last) u2,.b a0.Anew,.sl (List.map V.s a0.Seen) u3,.sl (List.map Ref35Contact.v a0.List) u4,.i a0.Odd,.i a0.Told],.agg [.sl (List.map MailEntry.v a1.Rows) u5,.sl (List.map MailEntry.v a1.Last) u6,.b a1.Anew,.sl (List.map V.s a1.Seen) u7,.sl (List.map Ref35Contact.v a1.List) u8,.i a1.Odd,.i a1.Told]] V.b (p_view_Same a0 a1) := by
 refine callsO_comp mix Tryz.func125 gc125_ok fun r H=>?_
 rw [p_view_Same] at H
 conv=>whnf
 refine ask_c (p_slices_Equal_view_Row_v _ _) H rfl rfl (fun v1 H=>?_);conv=>whnf
 refine tst_d H (fun b2 H=>?_) (fun b2 H=>?_)
 ·conv=>whnf
  iterate 35 (refine Tst.F ?_;conv=>whnf)
  exact fin0_c (enc := V.b) H (.inr rfl) (.cons (.tmp rfl) (.nil)) rfl rfl
 conv=>whnf
 iterate 4 (refine Tst.T ?_;conv=>whnf)
 refine ask_c (p_slices_Equal_view_Row_v _ _) H rfl rfl (fun v3 H=>?_);conv=>whnf
 refine Tst.T ?_;conv=>whnf
 refine tst_d H (fun b4 H=>?_) (fun b4 H=>?_)
 ·conv=>whnf
  iterate 29 (refine Tst.F ?_;conv=>whnf)
  exact fin0_c (enc := V.b) H (.inr rfl) (.cons (.tmp rfl) (.nil)) rfl rfl
 conv=>whnf
 iterate 5 (refine Tst.T ?_;conv=>whnf)
 refine tst_d H (fun b5 H=>?_) (fun b5 H=>?_)
 ·conv=>whnf
  iterate 23 (refine Tst.F ?_;conv=>whnf)
  exact fin0_c (enc := V.b) H (.inr rfl) (.cons (.tmp rfl) (.nil)) rfl rfl
 conv=>whnf
 iterate 4 (refine Tst.T ?_;conv=>whnf)
 refine ask_c (p_slices_Equal_string_v _ _) H rfl rfl (fun v6 H=>?_);conv=>whnf
 refine Tst.T ?_;conv=>whnf
 refine tst_d H (fun b7 H=>?_) (fun b7 H=>?_)
 ·conv=>whnf
  iterate 17 (refine Tst.F ?_;conv=>whnf)
  exact fin0_c (enc := V.b) H (.inr rfl) (.cons (.tmp rfl) (.nil)) rfl rfl
 conv=>whnf
 iterate 4 (refine Tst.T ?_;conv=>whnf)
 refine ask_c (p_slices_Equal_view_Contact_v _ _) H rfl rfl (fun v8 H=>?_);conv=>whnf
 refine Tst.T ?_;conv=>whnf
 refine tst_d H (fun b9 H=>?_) (fun b9 H=>?_)
 ·conv=>whnf
  iterate 11 (refine Tst.F ?_;conv=>whnf)
  exact fin0_c (enc := V.b) H (.inr rfl) (.cons (.tmp rfl) (.nil)) rfl rfl
 conv=>whnf
 iterate 5 (refine Tst.T ?_;conv=>whnf)
 refine tst_c H (fun b10 H=>?_) (fun b10 H=>?_)
 ·conv=>whnf
  iterate 5 (refine Tst.T ?_;conv=>whnf)
  exact fin0_c (enc := V.b) H (.inr rfl) (.cons (.tmp rfl) (.nil)) rfl rfl
 conv=>whnf
 iterate 5 (refine Tst.F ?_;conv=>whnf)
 exact fin0_c (enc := V.b) H (.inr rfl) (.cons (.tmp rfl) (.nil)) rfl rfl
def gc68 : BCode := (.seq (.reg 0 [⟨(some 0),.mv (.const (.bool false)),none,0⟩] none 0 []) (.seq (.reg 1 [⟨(some 9),.bd [(.lit (.int .u8 0)),(.lit (.string ⟨#[]⟩)),(.lit (.string ⟨#[]⟩)),(.lit (.string ⟨#[]⟩)),(.lit (.int .i64 0)),(.lit (.int .i64 0)),(.lit (.int .i64 0)),(.lit (.int .i64 0))] [(0,1,(.const (.int .u8 34))),(1,1,(.const (.string ⟨#[97,64,120]⟩))),(4,1,(.const (.int .i64 1))),(7,1,(.const (.int .i64 5)))],none,0⟩,⟨(some 1),.al (.agg [(.lit (.int .u8 0)),(.lit (.string ⟨#[]⟩)),(.lit (.string ⟨#[]⟩)),(.lit (.string ⟨#[]⟩)),(.lit (.int .i64 0)),(.lit (.int .i64 0)),(.lit (.int .i64 0)),(.lit (.int .i64 0))]),none,0⟩,⟨none,.st 8 (.tmp 1) (.tmp 9),none,1⟩] none 0 []) (.seq (.reg 2 [⟨(some 10),.bd [(.sl [] true),(.sl [] true),(.lit (.bool false)),(.sl [] true),(.sl [] true),(.lit (.int .i64 0)),(.lit (.int .i64 0))] [],none,0⟩,⟨(some 11),.bd [(.lit (.int .u8 0)),(.lit (.string ⟨#[]⟩)),(.lit (.string ⟨#[]⟩)),(.lit (.string ⟨#[]⟩)),(.lit (.int .i64 0)),(.lit (.int .i64 0)),(.lit (.int .i64 0)),(.lit (.int .i64 0))] [(0,1,(.const (.int .u8 36))),(7,1,(.const (.int .i64 1)))],none,0⟩,⟨(some 12),.ld 8 true (.tmp 1),none,0⟩,⟨(some 13),.bd [(.lit (.int .u8 0)),(.lit (.string ⟨#[]⟩)),(.lit (.string ⟨#[]⟩)),(.lit (.string ⟨#[]⟩)),(.lit (.int .i64 0)),(.lit (.int .i64 0)),(.lit (.int .i64 0)),(.lit (.int .i64 0))] [(0,1,(.const (.int .u8 37)))],none,0⟩,⟨(some 14),.ld 8 true (.tmp 1),none,0⟩,⟨(some 15),.bd [(.lit (.int .u8 0)),(.lit (.string ⟨#[]⟩)),(.lit (.string ⟨#[]⟩)),(.lit (.string ⟨#[]⟩)),(.lit (.int .i64 0)),(.lit (.int .i64 0)),(.lit (.int .i64 0)),(.lit (.int .i64 0))] [(0,1,(.const (.int .u8 38))),(1,1,(.const (.string ⟨#[97,64,120]⟩))),(3,1,(.const (.string ⟨#[65,110,110]⟩))),(4,1,(.const (.int .i64 1))),(7,1,(.const (.int .i64 2)))],none,0⟩,⟨(some 16),.bs 8 5 [(.lit (.int .u8 0)),(.lit (.string ⟨#[]⟩)),(.lit (.string ⟨#[]⟩)),(.lit (.string ⟨#[]⟩)),(.lit (.int .i64 0)),(.lit (.int .i64 0)),(.lit (.int .i64 0)),(.lit (.int .i64 0)),(.lit (.int .u8 0)),(.lit (.string ⟨#[]⟩)),(.lit (.string ⟨#[]⟩)),(.lit (.string ⟨#[]⟩)),(.lit (.int .i64 0)),(.lit (.int .i64 0)),(.lit (.int .i64 0)),(.lit (.int .i64 0)),(.lit (.int .u8 0)),(.lit (.string ⟨#[]⟩)),(.lit (.string ⟨#[]⟩)),(.lit (.string ⟨#[]⟩)),(.lit (.int .i64 0)),(.lit (.int .i64 0)),(.lit (.int .i64 0)),(.lit (.int .i64 0)),(.lit (.int .u8 0)),(.lit (.string ⟨#[]⟩)),(.lit (.string ⟨#[]⟩)),(.lit (.string ⟨#[]⟩)),(.lit (.int .i64 0)),(.lit (.int .i64 0)),(.lit (.int .i64 0)),(.lit (.int .i64 0)),(.lit (.int .u8 0)),(.lit (.string ⟨#[]⟩)),(.lit (.string ⟨#[]⟩)),(.lit (.string ⟨#[]⟩)),(.lit (.int .i64 0)),(.lit (.int .i64 0)),(.lit (.int .i64 0)),(.lit (.int .i64 0))] [(0,(.tmp 11)),(1,(.tmp 12)),(2,(.tmp 13)),(3,(.tmp 14)),(4,(.tmp 15))],none,0⟩,⟨(some 17),.cl 71 [(.tmp 10),(.tmp 16)],none,1⟩,⟨(some 2),.al (.agg [(.sl [] true),(.sl [] true),(.lit (.bool false)),(.sl [] true),(.sl [] true),(.lit (.int .i64 0)),(.lit (.int .i64 0))]),none,1⟩,⟨none,.st 7 (.tmp 2) (.tmp 17),none,2⟩] none 0 []) (.seq (.reg 1 [⟨(some 18),.ld 7 true (.tmp 2),none,0⟩,⟨(some 19),.bd [(.lit (.int .u8 0)),(.lit (.string ⟨#[]⟩)),(.lit (.string ⟨#[]⟩)),(.lit (.string ⟨#[]⟩)),(.lit (.int .i64 0)),(.lit (.int .i64 0)),(.lit (.int .i64 0)),(.lit (.int .i64 0))] [(0,1,(.const (.int .u8 35))),(1,1,(.const (.string ⟨#[97,64,120]⟩))),(7,1,(.const (.int .i64 6)))],none,0⟩,⟨(some 20),.cl 73 [(.tmp 18),(.tmp 19)],none,0⟩,⟨(some 3),.al (.agg [(.sl [] true),(.sl [] true),(.lit (.bool false)),(.sl [] true),(.sl [] true),(.lit (.int .i64 0)),(.lit (.int .i64 0))]),none,0⟩,⟨none,.st 7 (.tmp 3) (.tmp 20),none,1⟩] none 0 []) (.seq (.reg 2 [⟨(some 21),.ld 7 true (.tmp 2),none,0⟩,⟨(some 22),.bd [(.lit (.int .u8 0)),(.lit (.string ⟨#[]⟩)),(.lit (.string ⟨#[]⟩)),(.lit (.string ⟨#[]⟩)),(.lit (.int .i64 0)),(.lit (.int .i64 0)),(.lit (.int .i64 0)),(.lit (.int .i64 0))] [(0,1,(.const (.int .u8 36)))],none,0⟩,⟨(some 23),.bd [(.lit (.int .u8 0)),(.lit (.string ⟨#[]⟩)),(.lit (.string ⟨#[]⟩)),(.lit (.string ⟨#[]⟩)),(.lit (.int .i64 0)),(.lit (.int .i64 0)),(.lit (.int .i64 0)),(.lit (.int .i64 0))] [(0,1,(.const (.int .u8 37)))],none,0⟩,⟨(some 24),.bd [(.lit (.int .u8 0)),(.lit (.string ⟨#[]⟩)),(.lit (.string ⟨#[]⟩)),(.lit (.string ⟨#[]⟩)),(.lit (.int .i64 0)),(.lit (.int .i64 0)),(.lit (.int .i64 0)),(.lit (.int .i64 0))] [(0,1,(.const (.int .u8 39))),(1,1,(.const (.string ⟨#[97,64,120]⟩)))],none,0⟩,⟨(some 25),.bs 8 3 [(.lit (.int .u8 0)),(.lit (.string ⟨#[]⟩)),(.lit (.string ⟨#[]⟩)),(.lit (.string ⟨#[]⟩)),(.lit (.int .i64 0)),(.lit (.int .i64 0)),(.lit (.int .i64 0)),(.lit (.int .i64 0)),(.lit (.int .u8 0)),(.lit (.string ⟨#[]⟩)),(.lit (.string ⟨#[]⟩)),(.lit (.string ⟨#[]⟩)),(.lit (.int .i64 0)),(.lit (.int .i64 0)),(.lit (.int .i64 0)),(.lit (.int .i64 0)),(.lit (.int .u8 0)),(.lit (.string ⟨#[]⟩)),(.lit (.string ⟨#[]⟩)),(.lit (.string ⟨#[]⟩)),(.lit (.int .i64 0)),(.lit (.int .i64 0)),(.lit (.int .i64 0)),(.lit (.int .i64 0))] [(0,(.tmp 22)),(1,(.tmp 23)),(2,(.tmp 24))],none,0⟩,⟨(some 26),.cl 71 [(.tmp 21),(.tmp 25)],none,1⟩,⟨(some 4),.al (.agg [(.sl [] true),(.sl [] true),(.lit (.bool false)),(.sl [] true),(.sl [] true),(.lit (.int .i64 0)),(.lit (.int .i64 0))]),none,1⟩,⟨none,.st 7 (.tmp 4) (.tmp 26),none,2⟩] none 0 []) (.seq (.reg 1 [⟨(some 28),.ld 7 true (.tmp 2),none,0⟩,⟨(some 29),.cl 123 [(.tmp 28),(.const (.string ⟨#[97,64,120,32]⟩))],none,0⟩,⟨(some 27),.mv (.tmp 29),none,0⟩,⟨(some 30),.ex (.tmp 27) 0,none,0⟩,⟨(some 31),.ex (.tmp 27) 1,none,0⟩,⟨(some 5),.al (.agg [(.lit (.bool false)),(.lit (.int .i64 0)),(.lit (.int .i64 0)),(.lit (.int .i64 0))]),none,0⟩,⟨none,.st 4 (.tmp 5) (.tmp 30),none,1⟩,⟨(some 6),.mv (.tmp 31),none,1⟩] none 0 []) (.seq (.reg 1 [⟨(some 33),.ld 7 true (.tmp 3),none,0⟩,⟨(some 34),.cl 123 [(.tmp 33),(.const (.string ⟨#[97,64,120,32]⟩))],none,0⟩,⟨(some 32),.mv (.tmp 34),none,0⟩,⟨(some 35),.ex (.tmp 32) 0,none,0⟩,⟨(some 36),.ex (.tmp 32) 1,none,0⟩,⟨(some 7),.al (.agg [(.lit (.bool false)),(.lit (.int .i64 0)),(.lit (.int .i64 0)),(.lit (.int .i64 0))]),none,0⟩,⟨none,.st 4 (.tmp 7) (.tmp 35),none,1⟩,⟨(some 8),.mv (.tmp 36),none,1⟩] none 0 []) (.seq (.reg 4 [⟨(some 37),.ld 4 true (.tmp 5),none,0⟩,⟨(some 38),.bd [(.lit (.bool false)),(.lit (.int .i64 0)),(.lit (.int .i64 0)),(.lit (.int .i64 0))] [(0,1,(.const (.bool true))),(1,1,(.const (.int .i64 1))),(3,1,(.const (.int .i64 5)))],none,0⟩,⟨(some 39),.eqa false [0,1,1,1] (.tmp 37) (.tmp 38),none,0⟩,⟨(some 40),.mv (.tmp 39),none,0⟩,⟨(some 41),.mv (.tmp 6),(some (40,true)),0⟩,⟨(some 42),.pick (.tmp 40) (.tmp 41) (.const (.bool false)),none,0⟩,⟨(some 43),.mv (.tmp 42),none,0⟩,⟨(some 44),.mv (.tmp 8),(some (43,true)),0⟩,⟨(some 45),.un .not (.tmp 44),(some (43,true)),0⟩,⟨(some 46),.pick (.tmp 43) (.tmp 45) (.const (.bool false)),none,0⟩,⟨(some 47),.mv (.tmp 46),none,0⟩,⟨(some 48),.fa 5 (.tmp 2),(some (47,true)),0⟩,⟨(some 49),.ld 1 false (.tmp 48),(some (47,true)),0⟩,⟨(some 50),.bin .eql (.tmp 49) (.const (.int .i64 1)),(some (47,true)),0⟩,⟨(some 51),.pick (.tmp 47) (.tmp 50) (.const (.bool false)),none,0⟩,⟨(some 52),.mv (.tmp 51),none,0⟩,⟨(some 53),.fa 6 (.tmp 2),(some (52,true)),0⟩,⟨(some 54),.ld 1 false (.tmp 53),(some (52,true)),0⟩,⟨(some 55),.bin .eql (.tmp 54) (.const (.int .i64 5)),(some (52,true)),0⟩,⟨(some 56),.pick (.tmp 52) (.tmp 55) (.const (.bool false)),none,0⟩,⟨(some 57),.mv (.tmp 56),none,0⟩,⟨(some 58),.fa 0 (.tmp 3),(some (57,true)),0⟩,⟨(some 59),.ld 1 false (.tmp 58),(some (57,true)),0⟩,⟨(some 60),.lens (.tmp 59),(some (57,true)),0⟩,⟨(some 61),.bin .eql (.tmp 60) (.const (.int .i64 0)),(some (57,true)),0⟩,⟨(some 62),.pick (.tmp 57) (.tmp 61) (.const (.bool false)),none,0⟩,⟨(some 63),.mv (.tmp 62),none,0⟩,⟨(some 64),.fa 5 (.tmp 3),(some (63,true)),0⟩,⟨(some 65),.ld 1 false (.tmp 64),(some (63,true)),0⟩,⟨(some 66),.bin .eql (.tmp 65) (.const (.int .i64 1)),(some (63,true)),0⟩,⟨(some 67),.pick (.tmp 63) (.tmp 66) (.const (.bool false)),none,0⟩,⟨(some 68),.mv (.tmp 67),none,0⟩,⟨(some 69),.fa 0 (.tmp 4),(some (68,true)),0⟩,⟨(some 70),.ld 1 false (.tmp 69),(some (68,true)),0⟩,⟨(some 71),.lens (.tmp 70),(some (68,true)),0⟩,⟨(some 72),.bin .eql (.tmp 71) (.const (.int .i64 0)),(some (68,true)),0⟩,⟨(some 73),.pick (.tmp 68) (.tmp 72) (.const (.bool false)),none,0⟩,⟨(some 74),.mv (.tmp 73),none,0⟩,⟨(some 75),.fa 4 (.tmp 4),(some (74,true)),0⟩,⟨(some 76),.ld 1 false (.tmp 75),(some (74,true)),0⟩,⟨(some 77),.lens (.tmp 76),(some (74,true)),0⟩,⟨(some 78),.bin .eql (.tmp 77) (.const (.int .i64 0)),(some (74,true)),0⟩,⟨(some 79),.pick (.tmp 74) (.tmp 78) (.const (.bool false)),none,0⟩,⟨(some 80),.mv (.tmp 79),none,0⟩,⟨(some 81),.ld 7 true (.tmp 2),(some (80,true)),0⟩,⟨(some 82),.cl 124 [(.tmp 81)],(some (80,true)),0⟩,⟨(some 83),.bs 1 1 [(.lit (.string ⟨#[]⟩))] [(0,(.const (.string ⟨#[97,64,120]⟩)))],(some (80,true)),0⟩,⟨(some 84),.cl 35 [(.tmp 82),(.tmp 83)],(some (80,true)),1⟩,⟨(some 85),.pick (.tmp 80) (.tmp 84) (.const (.bool false)),none,1⟩,⟨(some 86),.mv (.tmp 85),none,1⟩,⟨(some 87),.ld 7 true (.tmp 2),(some (86,true)),1⟩,⟨(some 88),.ld 4 true (.tmp 5),(some (86,true)),1⟩,⟨(some 89),.bd [(.lit (.string ⟨#[]⟩)),(.lit (.string ⟨#[]⟩)),(.lit (.bool false)),(.lit (.int .i64 0)),(.lit (.int .i64 0)),(.lit (.int .i64 0))] [(0,1,(.const (.string ⟨#[97,64,120]⟩))),(2,4,(.tmp 88))],(some (86,true)),1⟩,⟨(some 90),.bs 6 1 [(.lit (.string ⟨#[]⟩)),(.lit (.string ⟨#[]⟩)),(.lit (.bool false)),(.lit (.int .i64 0)),(.lit (.int .i64 0)),(.lit (.int .i64 0))] [(0,(.tmp 89))],(some (86,true)),1⟩,⟨(some 91),.cl 78 [(.tmp 87),(.tmp 90)],(some (86,true)),2⟩,⟨(some 92),.pick (.tmp 86) (.tmp 91) (.const (.bool false)),none,2⟩,⟨(some 93),.mv (.tmp 92),none,2⟩,⟨(some 94),.ld 7 true (.tmp 3),(some (93,true)),2⟩,⟨(some 95),.ld 4 true (.tmp 5),(some (93,true)),2⟩,⟨(some 96),.bd [(.lit (.string ⟨#[]⟩)),(.lit (.string ⟨#[]⟩)),(.lit (.bool false)),(.lit (.int .i64 0)),(.lit (.int .i64 0)),(.lit (.int .i64 0))] [(0,1,(.const (.string ⟨#[97,64,120]⟩))),(2,4,(.tmp 95))],(some (93,true)),2⟩,⟨(some 97),.bs 6 1 [(.lit (.string ⟨#[]⟩)),(.lit (.string ⟨#[]⟩)),(.lit (.bool false)),(.lit (.int .i64 0)),(.lit (.int .i64 0)),(.lit (.int .i64 0))] [(0,(.tmp 96))],(some (93,true)),2⟩,⟨(some 98),.cl 78 [(.tmp 94),(.tmp 97)],(some (93,true)),3⟩,⟨(some 99),.un .not (.tmp 98),(some (93,true)),3⟩,⟨(some 100),.pick (.tmp 93) (.tmp 99) (.const (.bool false)),none,3⟩,⟨(some 101),.mv (.tmp 100),none,3⟩,⟨(some 102),.ld 7 true (.tmp 2),(some (101,true)),3⟩,⟨(some 103),.cl 74 [(.tmp 102)],(some (101,true)),3⟩,⟨(some 104),.bin .eql (.tmp 103) (.const (.int .i64 0)),(some (101,true)),3⟩,⟨(some 105),.pick (.tmp 101) (.tmp 104) (.const (.bool false)),none,3⟩,⟨(some 106),.mv (.tmp 105),none,3⟩,⟨(some 107),.bs 1 1 [(.lit (.string ⟨#[]⟩))] [(0,(.const (.string ⟨#[120]⟩)))],(some (106,true)),3⟩,⟨(some 108),.bd [(.sl [] true),(.sl [] true),(.lit (.bool false)),(.sl [] true),(.sl [] true),(.lit (.int .i64 0)),(.lit (.int .i64 0))] [(3,1,(.tmp 107))],(some (106,true)),4⟩,⟨(some 109),.cl 74 [(.tmp 108)],(some (106,true)),4⟩,⟨(some 110),.bin .eql (.tmp 109) (.const (.int .i64 9)),(some (106,true)),4⟩,⟨(some 111),.pick (.tmp 106) (.tmp 110) (.const (.bool false)),none,4⟩,⟨(some 112),.mv (.tmp 111),none,4⟩,⟨(some 113),.ld 7 true (.tmp 2),(some (112,true)),4⟩,⟨(some 114),.ld 7 true (.tmp 3),(some (112,true)),4⟩,⟨(some 115),.cl 125 [(.tmp 113),(.tmp 114)],(some (112,true)),4⟩,⟨(some 116),.un .not (.tmp 115),(some (112,true)),4⟩,⟨(some 117),.pick (.tmp 112) (.tmp 116) (.const (.bool false)),none,4⟩,⟨(some 118),.mv (.tmp 117),none,4⟩,⟨(some 119),.ld 7 true (.tmp 2),(some (118,true)),4⟩,⟨(some 120),.ld 7 true (.tmp 2),(some (118,true)),4⟩,⟨(some 121),.cl 125 [(.tmp 119),(.tmp 120)],(some (118,true)),4⟩,⟨(some 122),.pick (.tmp 118) (.tmp 121) (.const (.bool false)),none,4⟩,⟨(some 123),.mv (.tmp 122),none,4⟩,⟨(some 124),.pick (.tmp 123) (.const (.bool true)) (.const (.bool false)),none,4⟩,⟨(some 125),.mv (.tmp 124),none,4⟩,⟨(some 126),.pick (.tmp 125) (.const (.bool true)) (.const (.bool false)),none,4⟩,⟨(some 0),.mv (.tmp 126),none,4⟩] none 0 []) .ret))))))))
set_option maxRecDepth 1000000 in
theorem gc68_ok : compF Tryz.prog Tryz.f68 = some (gc68.er,127,[.tmp 0]) := by unfold gc68;kernel_rfl
set_option maxRecDepth 100000 in
set_option maxHeartbeats 4000000 in
theorem p_law35_awake_v : CallsO Tryz.prog 68 [] V.b (p_law35_awake) := by
 refine callsO_comp mix Tryz.func68 gc68_ok fun r H=>?_
 rw [p_law35_awake] at H
 conv=>whnf
 refine ⟨Nat.le_of_ble_eq_true rfl,?_⟩;conv=>whnf
 refine askF_c (p_view_Run_v _ _) H (.cons (fzagg (.cons (.slw) (.cons (.slw) (.cons (.id rfl) (.cons (.slw) (.cons (.slw) (.cons (.id rfl) (.cons (.id rfl) (.nil)))))))) rfl) (.cons (.c (fzown (f := StanzaStanza.v) (l := [(StanzaStanza.mk (36 : Int) (⟨#[]⟩ : ByteArray) (⟨#[]⟩ : ByteArray) (⟨#[]⟩ : ByteArray) (0 : Int) (0 : Int) (0 : Int) (1 : Int)),(StanzaStanza.mk (34 : Int) (⟨#[97,64,120]⟩ : ByteArray) (⟨#[]⟩ : ByteArray) (⟨#[]⟩ : ByteArray) (1 : Int) (0 : Int) (0 : Int) (5 : Int)),(StanzaStanza.mk (37 : Int) (⟨#[]⟩ : ByteArray) (⟨#[]⟩ : ByteArray) (⟨#[]⟩ : ByteArray) (0 : Int) (0 : Int) (0 : Int) (0 : Int)),(StanzaStanza.mk (34 : Int) (⟨#[97,64,120]⟩ : ByteArray) (⟨#[]⟩ : ByteArray) (⟨#[]⟩ : ByteArray) (1 : Int) (0 : Int) (0 : Int) (5 : Int)),(StanzaStanza.mk (38 : Int) (⟨#[97,64,120]⟩ : ByteArray) (⟨#[]⟩ : ByteArray) (⟨#[65,110,110]⟩ : ByteArray) (1 : Int) (0 : Int) (0 : Int) (2 : Int))]) rfl rfl (fun _=>rfl) (fun _=>rfl))) (.nil))) (fun v1 H=>?_);conv=>whnf
 refine ⟨Nat.le_of_ble_eq_true rfl,?_⟩;conv=>whnf
 refine ask_c (p_view_Tell_v _ _) H rfl rfl (fun v2 H=>?_);conv=>whnf
 refine ⟨Nat.le_of_ble_eq_true rfl,?_⟩;conv=>whnf
 refine askF_c (p_view_Run_v _ _) H (.cons (fzagg (.cons (.id rfl) (.cons (.id rfl) (.cons (.id rfl) (.cons (.id rfl) (.cons (.id rfl) (.cons (.id rfl) (.cons (.id rfl) (.nil)))))))) rfl) (.cons (.c (fzown (f := StanzaStanza.v) (l := [(StanzaStanza.mk (36 : Int) (⟨#[]⟩ : ByteArray) (⟨#[]⟩ : ByteArray) (⟨#[]⟩ : ByteArray) (0 : Int) (0 : Int) (0 : Int) (0 : Int)),(StanzaStanza.mk (37 : Int) (⟨#[]⟩ : ByteArray) (⟨#[]⟩ : ByteArray) (⟨#[]⟩ : ByteArray) (0 : Int) (0 : Int) (0 : Int) (0 : Int)),(StanzaStanza.mk (39 : Int) (⟨#[97,64,120]⟩ : ByteArray) (⟨#[]⟩ : ByteArray) (⟨#[]⟩ : ByteArray) (0 : Int) (0 : Int) (0 : Int) (0 : Int))]) rfl rfl (fun _=>rfl) (fun _=>rfl))) (.nil))) (fun v3 H=>?_);conv=>whnf
 refine ⟨Nat.le_of_ble_eq_true rfl,?_⟩;conv=>whnf
 refine ask_c (p_view_Get_v _ _) H rfl rfl (fun v4 H=>?_);conv=>whnf
 refine ⟨Nat.le_of_ble_eq_true rfl,?_⟩;conv=>whnf
 refine ask_c (p_view_Get_v _ _) H rfl rfl (fun v5 H=>?_);conv=>whnf
 refine ⟨Nat.le_of_ble_eq_true rfl,?_⟩;conv=>whnf
 refine tst_d H (fun b6 H=>?_) (fun b6 H=>?_)
 ·conv=>whnf
  iterate 69 (refine Tst.F ?_;conv=>whnf)
  exact fin0_c (enc := V.b) H (.inr rfl) (.cons (.tmp rfl) (.nil)) rfl rfl
 conv=>whnf
 refine Tst.T ?_;conv=>whnf
 refine tst_d H (fun b7 H=>?_) (fun b7 H=>?_)
 ·conv=>whnf
  iterate 67 (refine Tst.F ?_;conv=>whnf)
  exact fin0_c (enc := V.b) H (.inr rfl) (.cons (.tmp rfl) (.nil)) rfl rfl
 conv=>whnf
 iterate 2 (refine Tst.T ?_;conv=>whnf)
 refine Tst.not ?_
 refine tst_c H (fun b8 H=>?_) (fun b8 H=>?_)
 ·conv=>whnf
  iterate 64 (refine Tst.F ?_;conv=>whnf)
  exact fin0_c (enc := V.b) H (.inr rfl) (.cons (.tmp rfl) (.nil)) rfl rfl
 conv=>whnf
 iterate 3 (refine Tst.T ?_;conv=>whnf)
 refine tst_d H (fun b9 H=>?_) (fun b9 H=>?_)
 ·conv=>whnf
  iterate 60 (refine Tst.F ?_;conv=>whnf)
  exact fin0_c (enc := V.b) H (.inr rfl) (.cons (.tmp rfl) (.nil)) rfl rfl
 conv=>whnf
 iterate 3 (refine Tst.T ?_;conv=>whnf)
 refine tst_d H (fun b10 H=>?_) (fun b10 H=>?_)
 ·conv=>whnf
  iterate 56 (refine Tst.F ?_;conv=>whnf)
  exact fin0_c (enc := V.b) H (.inr rfl) (.cons (.tmp rfl) (.nil)) rfl rfl
 conv=>whnf
 iterate 2 (refine Tst.T ?_;conv=>whnf)
 refine LenQ.M ?_;conv=>whnf
 iterate 2 (refine Tst.T ?_;conv=>whnf)
 refine tst_d H (fun b11 H=>?_) (fun b11 H=>?_)
 ·conv=>whnf
  iterate 51 (refine Tst.F ?_;conv=>whnf)
  exact fin0_c (enc := V.b) H (.inr rfl) (.cons (.tmp rfl) (.nil)) rfl rfl
 conv=>whnf
 iterate 3 (refine Tst.T ?_;conv=>whnf)
 refine tst_d H (fun b12 H=>?_) (fun b12 H=>?_)
 ·conv=>whnf
  iterate 47 (refine Tst.F ?_;conv=>whnf)
  exact fin0_c (enc := V.b) H (.inr rfl) (.cons (.tmp rfl) (.nil)) rfl rfl
 conv=>whnf
 iterate 2 (refine Tst.T ?_;conv=>whnf)
 refine LenQ.M ?_;conv=>whnf
 iterate 2 (refine Tst.T ?_;conv=>whnf)
 refine tst_d H (fun b13 H=>?_) (fun b13 H=>?_)
 ·conv=>whnf
  iterate 42 (refine Tst.F ?_;conv=>whnf)
  exact fin0_c (enc := V.b) H (.inr rfl) (.cons (.tmp rfl) (.nil)) rfl rfl
 conv=>whnf
 iterate 2 (refine Tst.T ?_;conv=>whnf)
 refine LenQ.M ?_;conv=>whnf
 iterate 2 (refine Tst.T ?_;conv=>whnf)
 refine tst_d H (fun b14 H=>?_) (fun b14 H=>?_)
 ·conv=>whnf
  iterate 37 (refine Tst.F ?_;conv=>whnf)
  exact fin0_c (enc := V.b) H (.inr rfl) (.cons (.tmp rfl) (.nil)) rfl rfl
 conv=>whnf
 refine Tst.T ?_;conv=>whnf
 refine ask_c (p_view_Contacts_v _) H rfl rfl (fun v15 H=>?_);conv=>whnf
 iterate 2 (refine Tst.T ?_;conv=>whnf)
 refine askF_c (p_ref01_SameTexts_v _ _) H (.cons (.c (.id rfl)) (.cons (.c (fzown (f := V.s) (l := [(⟨#[97,64,120]⟩ : ByteArray)]) rfl rfl (fun _=>rfl) (fun _=>rfl))) (.nil))) (fun v16 H=>?_);conv=>whnf
 refine Tst.T ?_;conv=>whnf
 refine tst_d H (fun b17 H=>?_) (fun b17 H=>?_)
 ·conv=>whnf
  iterate 32 (refine Tst.F ?_;conv=>whnf)
  exact fin0_c (enc := V.b) H (.inr rfl) (.cons (.tmp rfl) (.nil)) rfl rfl
 conv=>whnf
 iterate 4 (refine Tst.T ?_;conv=>whnf)
 refine askF_c (p_view_Fits_v _ _) H (.cons (fzagg (.cons (.id rfl) (.cons (.id rfl) (.cons (.id rfl) (.cons (.id rfl) (.cons (.id rfl) (.cons (.id rfl) (.cons (.id rfl) (.nil)))))))) rfl) (.cons (.c (fzown (f := BookRow.v) (l := [(BookRow.mk (⟨#[97,64,120]⟩ : ByteArray) (⟨#[]⟩ : ByteArray) v4.1)]) rfl rfl (fun _=>rfl) (fun _=>rfl))) (.nil))) (fun v18 H=>?_);conv=>whnf
 refine Tst.T ?_;conv=>whnf
 refine tst_d H (fun b19 H=>?_) (fun b19 H=>?_)
 ·conv=>whnf
  iterate 26 (refine Tst.F ?_;conv=>whnf)
  exact fin0_c (enc := V.b) H (.inr rfl) (.cons (.tmp rfl) (.nil)) rfl rfl
 conv=>whnf
 iterate 4 (refine Tst.T ?_;conv=>whnf)
 refine askF_c (p_view_Fits_v _ _) H (.cons (fzagg (.cons (.id rfl) (.cons (.id rfl) (.cons (.id rfl) (.cons (.id rfl) (.cons (.id rfl) (.cons (.id rfl) (.cons (.id rfl) (.nil)))))))) rfl) (.cons (.c (fzown (f := BookRow.v) (l := [(BookRow.mk (⟨#[97,64,120]⟩ : ByteArray) (⟨#[]⟩ : ByteArray) v4.1)]) rfl rfl (fun _=>rfl) (fun _=>rfl))) (.nil))) (fun v20 H=>?_);conv=>whnf
 iterate 2 (refine Tst.T ?_;conv=>whnf)
 refine Tst.not ?_
 refine tst_c H (fun b21 H=>?_) (fun b21 H=>?_)
 ·conv=>whnf
  iterate 19 (refine Tst.F ?_;conv=>whnf)
  exact fin0_c (enc := V.b) H (.inr rfl) (.cons (.tmp rfl) (.nil)) rfl rfl
 conv=>whnf
 refine Tst.T ?_;conv=>whnf
 refine ask_c (p_view_Check_v _) H rfl rfl (fun v22 H=>?_);conv=>whnf
 iterate 2 (refine Tst.T ?_;conv=>whnf)
 refine tst_d H (fun b23 H=>?_) (fun b23 H=>?_)
 ·conv=>whnf
  iterate 15 (refine Tst.F ?_;conv=>whnf)
  exact fin0_c (enc := V.b) H (.inr rfl) (.cons (.tmp rfl) (.nil)) rfl rfl
 conv=>whnf
 iterate 2 (refine Tst.T ?_;conv=>whnf)
 refine askF_c (p_view_Check_v _) H (.cons (fzagg (.cons (.slw) (.cons (.slw) (.cons (.id rfl) (.cons (fzown (f := V.s) (l := [(⟨#[120]⟩ : ByteArray)]) rfl rfl (fun _=>rfl) (fun _=>rfl)) (.cons (.slw) (.cons (.id rfl) (.cons (.id rfl) (.nil)))))))) rfl) (.nil)) (fun v24 H=>?_);conv=>whnf
 iterate 2 (refine Tst.T ?_;conv=>whnf)
 refine tst_d H (fun b25 H=>?_) (fun b25 H=>?_)
 ·conv=>whnf
  iterate 10 (refine Tst.F ?_;conv=>whnf)
  exact fin0_c (enc := V.b) H (.inr rfl) (.cons (.tmp rfl) (.nil)) rfl rfl
 conv=>whnf
 iterate 2 (refine Tst.T ?_;conv=>whnf)
 refine ask_c (p_view_Same_v _ _) H rfl rfl (fun v26 H=>?_);conv=>whnf
 iterate 2 (refine Tst.T ?_;conv=>whnf)
 refine Tst.not ?_
 refine tst_c H (fun b27 H=>?_) (fun b27 H=>?_)
 ·conv=>whnf
  iterate 5 (refine Tst.F ?_;conv=>whnf)
  exact fin0_c (enc := V.b) H (.inr rfl) (.cons (.tmp rfl) (.nil)) rfl rfl
 conv=>whnf
 iterate 2 (refine Tst.T ?_;conv=>whnf)
 refine ask_c (p_view_Same_v _ _) H rfl rfl (fun v28 H=>?_);conv=>whnf
 refine Tst.T ?_;conv=>whnf
 refine tst_c H (fun b29 H=>?_) (fun b29 H=>?_)
 ·conv=>whnf
  refine Tst.T ?_;conv=>whnf
  exact fin0_c (enc := V.b) H (.inr rfl) (.cons (.tmp rfl) (.nil)) rfl rfl
 conv=>whnf
 refine Tst.F ?_;conv=>whnf
 exact fin0_c (enc := V.b) H (.inr rfl) (.cons (.tmp rfl) (.nil)) rfl rfl
end Go.Proofs.YthlhbgedidipkaaGreat

/- That the program's functions yield what the plain ones tell (written by a program of mine). -/
namespace Go.Proofs.YthlhbgedidipkaaGreat
open Go.RowKit
def gc12 : BCode := (.seq (.reg 1 [⟨(some 1),.bx (.tmp 0),none,0⟩,⟨(some 2),.mv (.const (.bool false)),none,1⟩] none 0 []) (.seq (.seq (.reg 0 [⟨(some 4),.fa 1 (.tmp 1),none,0⟩,⟨(some 5),.ld 1 false (.tmp 4),none,0⟩,⟨(some 6),.lens (.tmp 5),none,0⟩,⟨(some 7),.bin .gtr (.tmp 6) (.const (.int .i64 20)),none,0⟩] none 0 []) (.cond (.tmp 7) (.seq (.reg 0 [⟨(some 2),.mv (.const (.bool false)),none,0⟩] none 0 []) .ret) .skip)) (.seq (.seq (.reg 0 [⟨(some 3),.mv (.const (.int .i64 0)),none,0⟩] none 0 []) (.block 0 (.loop (.seq (.seq (.reg 0 [⟨(some 8),.mv (.tmp 3),none,0⟩,⟨(some 9),.fa 1 (.tmp 1),none,0⟩,⟨(some 10),.ld 1 false (.tmp 9),none,0⟩,⟨(some 11),.lens (.tmp 10),none,0⟩,⟨(some 12),.bin .lss (.tmp 8) (.tmp 11),none,0⟩] none 0 []) (.cond (.tmp 12) .skip (.exit 0))) (.seq (.block 1 (.seq (.reg 0 [⟨(some 15),.fa 1 (.tmp 1),none,0⟩,⟨(some 16),.ld 1 false (.tmp 15),none,0⟩,⟨(some 17),.mv (.tmp 3),none,0⟩,⟨(some 18),.ixs 6 (.tmp 16) (.tmp 17),none,0⟩,⟨(some 19),.fa 0 (.tmp 18),none,0⟩,⟨(some 20),.ld 1 false (.tmp 19),none,0⟩,⟨(some 21),.lent (.tmp 20),none,0⟩,⟨(some 22),.bin .gtr (.tmp 21) (.const (.int .i64 100)),none,0⟩,⟨(some 23),.mv (.tmp 22),none,0⟩,⟨(some 24),.fa 1 (.tmp 1),(some (23,false)),0⟩,⟨(some 25),.ld 1 false (.tmp 24),(some (23,false)),0⟩,⟨(some 26),.mv (.tmp 3),(some (23,false)),0⟩,⟨(some 27),.ixs 6 (.tmp 25) (.tmp 26),(some (23,false)),0⟩,⟨(some 28),.fa 1 (.tmp 27),(some (23,false)),0⟩,⟨(some 29),.ld 1 false (.tmp 28),(some (23,false)),0⟩,⟨(some 30),.lent (.tmp 29),(some (23,false)),0⟩,⟨(some 31),.bin .gtr (.tmp 30) (.const (.int .i64 100)),(some (23,false)),0⟩,⟨(some 32),.pick (.tmp 23) (.const (.bool true)) (.tmp 31),none,0⟩] none 0 []) (.cond (.tmp 32) (.seq (.reg 0 [⟨(some 2),.mv (.const (.bool false)),none,0⟩] none 0 []) .ret) .skip))) (.reg 0 [⟨(some 13),.mv (.tmp 3),none,0⟩,⟨(some 14),.bin .add (.tmp 13) (.const (.int .i64 1)),none,0⟩,⟨(some 3),.mv (.tmp 14),none,0⟩] none 0 [])))))) (.seq (.reg 0 [⟨(some 2),.mv (.const (.bool true)),none,0⟩] none 0 []) .ret))))
theorem gc12_ok : compF Tryz.prog Tryz.f12 = some (gc12.er,33,[.tmp 2]) := by unfold gc12;kernel_rfl
set_option maxRecDepth 100000 in
set_option maxHeartbeats 4000000 in
theorem p_ref24_Light_v {u1 : Bool} (a0 : BookState) : CallsO Tryz.prog 12 [.agg [.i a0.Seq,.sl (List.map BookRow.v a0.Rows) u1]] V.b (p_ref24_Light a0) := by
 refine callsO_comp mix Tryz.func12 gc12_ok fun r H=>?_
 rw [p_ref24_Light] at H
 conv=>whnf
 refine LenQ.M ?_;conv=>whnf
 refine tst_c H (fun b1 H=>?_) (fun b1 H=>?_)
 ·conv=>whnf
  exact fin0_c (enc := V.b) H (.inr rfl) (.cons (.tmp rfl) (.nil)) rfl rfl
 conv=>whnf
 obtain ⟨o3,HL4,HQ5⟩ := bind_c H
 refine loop_c [2,3] [8,9,10,11,12,13,14,15,16,17,18,19,20,21,22,23,24,25,26,27,28,29,30,31,32,4] [8,9,10,11,12,13,14,15,16,17,18,19,20,21,22,23,24,25,26,27,28,29,30,31,32,4] (fun n vals st=>(∃ y7,p_ref24_Light_l1  a0 n y7 = some o3 ∧ vals = [.b false,.i y7] ∧ st = [.live [.i a0.Seq,.sl (List.map BookRow.v a0.Rows) u1] 0])) fuel 1 [] (⟨_,HL4,rfl,rfl⟩) (Nat.zero_le _) rfl (by kernel_rfl) (by kernel_rfl) rfl ⟨⟨rfl,rfl,rfl⟩,trivial⟩ ?_
 rintro (_ | n6) _ _ (⟨y7,H,rfl,rfl⟩)
 ·rw [p_ref24_Light_l1] at H;cases H
 rw [p_ref24_Light_l1] at H
 conv=>whnf
 refine LenQ.M ?_;conv=>whnf
 refine tst_d H (fun b8 H=>?_) (fun b8 H=>?_)
 ·conv=>whnf
  obtain rfl := Option.some.inj H
  have H := HQ5
  try dsimp only at H
  exact fin0_c (enc := V.b) H (.inr rfl) (.cons (.tmp rfl) (.nil)) rfl rfl
 conv=>whnf
 refine ixs_c (f := BookRow.v) H (fun _=>rfl) (fun x9 H=>?_);conv=>whnf
 refine ⟨Nat.le_of_ble_eq_true rfl,?_⟩;conv=>whnf
 refine tst_c H (fun b10 H=>?_) (fun b10 H=>?_)
 ·conv=>whnf
  iterate 9 (refine Tst.T ?_;conv=>whnf)
  obtain rfl := Option.some.inj H
  have H := HQ5
  try dsimp only at H
  exact fin0_c (enc := V.b) H (.inr rfl) (.cons (.tmp rfl) (.nil)) rfl rfl
 conv=>whnf
 iterate 3 (refine Tst.F ?_;conv=>whnf)
 refine ixs_c (f := BookRow.v) H (fun _=>rfl) (fun x11 H=>?_);conv=>whnf
 refine Tst.F ?_;conv=>whnf
 refine ⟨Nat.le_of_ble_eq_true rfl,?_⟩;conv=>whnf
 iterate 4 (refine Tst.F ?_;conv=>whnf)
 refine tst_c H (fun b12 H=>?_) (fun b12 H=>?_)
 ·conv=>whnf
  obtain rfl := Option.some.inj H
  have H := HQ5
  try dsimp only at H
  exact fin0_c (enc := V.b) H (.inr rfl) (.cons (.tmp rfl) (.nil)) rfl rfl
 conv=>whnf
 refine Ari.w ?_;conv=>whnf
 exact again_c [8,9,10,11,12,13,14,15,16,17,18,19,20,21,22,23,24,25,26,27,28,29,30,31,32,4] n6 1 [] (⟨_,H,rfl,rfl⟩) (Nat.lt_succ_self _) (Nat.zero_le _) rfl (by kernel_rfl) (by kernel_rfl) rfl ⟨⟨rfl,rfl,rfl⟩,trivial⟩
def gc157 : BCode := (.seq (.reg 0 [⟨(some 4),.mv (.const (.bool false)),none,0⟩] none 0 []) (.seq (.reg 0 [⟨(some 5),.mv (.tmp 0),none,0⟩,⟨(some 6),.cl 107 [(.tmp 5)],none,0⟩,⟨(some 7),.mv (.tmp 6),none,0⟩,⟨(some 8),.mv (.tmp 1),(some (7,true)),0⟩,⟨(some 9),.cl 226 [(.tmp 8)],(some (7,true)),0⟩,⟨(some 10),.bin .eql (.tmp 9) (.const (.int .i64 0)),(some (7,true)),0⟩,⟨(some 11),.pick (.tmp 7) (.tmp 10) (.const (.bool false)),none,0⟩,⟨(some 4),.mv (.tmp 11),none,0⟩] none 0 []) .ret))
theorem gc157_ok : compF Tryz.prog Tryz.f157 = some (gc157.er,12,[.tmp 4]) := by unfold gc157;kernel_rfl
set_option maxRecDepth 100000 in
set_option maxHeartbeats 4000000 in
theorem p_ref23_named_v (a0 : ByteArray) (a1 : ByteArray) : CallsO Tryz.prog 157 [.s a0,.s a1] V.b (p_ref23_named a0 a1) := by
 refine callsO_comp mix Tryz.func157 gc157_ok fun r H=>?_
 rw [p_ref23_named] at H
 conv=>whnf
 refine ask_c (p_ref09_IsBare_v _) H rfl rfl (fun v1 H=>?_);conv=>whnf
 refine tst_d H (fun b2 H=>?_) (fun b2 H=>?_)
 ·conv=>whnf
  iterate 3 (refine Tst.F ?_;conv=>whnf)
  exact fin0_c (enc := V.b) H (.inr rfl) (.cons (.tmp rfl) (.nil)) rfl rfl
 conv=>whnf
 refine Tst.T ?_;conv=>whnf
 refine ask_c (p_ref09_Resource_v _) H rfl rfl (fun v3 H=>?_);conv=>whnf
 iterate 2 (refine Tst.T ?_;conv=>whnf)
 exact fin0_c (enc := V.b) H (.inr rfl) (.cons (.tmp rfl) (.nil)) rfl rfl
def gc87 : BCode := (.seq (.reg 0 [⟨(some 4),.mv (.const (.string ⟨#[]⟩)),none,0⟩] none 0 []) (.seq (.seq (.reg 0 [⟨(some 5),.mv (.tmp 0),none,0⟩,⟨(some 6),.mv (.tmp 1),none,0⟩,⟨(some 7),.cl 157 [(.tmp 5),(.tmp 6)],none,0⟩,⟨(some 8),.un .not (.tmp 7),none,0⟩] none 0 []) (.cond (.tmp 8) (.seq (.reg 0 [⟨(some 4),.mv (.const (.string ⟨#[]⟩)),none,0⟩] none 0 []) .ret) .skip)) (.seq (.reg 0 [⟨(some 9),.mv (.tmp 0),none,0⟩,⟨(some 10),.bin .add (.tmp 9) (.const (.string ⟨#[32]⟩)),none,0⟩,⟨(some 11),.mv (.tmp 1),none,0⟩,⟨(some 12),.bin .add (.tmp 10) (.tmp 11),none,0⟩,⟨(some 4),.mv (.tmp 12),none,0⟩] none 0 []) .ret)))
theorem gc87_ok : compF Tryz.prog Tryz.f87 = some (gc87.er,13,[.tmp 4]) := by unfold gc87;kernel_rfl
set_option maxRecDepth 100000 in
set_option maxHeartbeats 4000000 in
theorem p_ref23_Key_v (a0 : ByteArray) (a1 : ByteArray) : CallsO Tryz.prog 87 [.s a0,.s a1] V.s (p_ref23_Key a0 a1) := by
 refine callsO_comp mix Tryz.func87 gc87_ok fun r H=>?_
 rw [p_ref23_Key] at H
 conv=>whnf
 refine ask_c (p_ref23_named_v _ _) H rfl rfl (fun v1 H=>?_);conv=>whnf
 refine Tst.not ?_
 refine tst_d H (fun b2 H=>?_) (fun b2 H=>?_)
 ·conv=>whnf
  exact fin0_c (enc := V.s) H (.inr rfl) (.cons (.tmp rfl) (.nil)) rfl rfl
 conv=>whnf
 refine cat_c H (fun s3 H=>?_);conv=>whnf
 refine cat_c H (fun s4 H=>?_);conv=>whnf
 exact fin0_c (enc := V.s) H (.inr rfl) (.cons (.tmp rfl) (.nil)) rfl rfl
def gc144 : BCode := (.seq (.reg 1 [⟨(some 1),.bx (.tmp 0),none,0⟩,⟨(some 2),.mv (.const (.string ⟨#[]⟩)),none,1⟩] none 0 []) (.seq (.reg 0 [⟨(some 3),.fa 0 (.tmp 1),none,0⟩,⟨(some 4),.ld 1 false (.tmp 3),none,0⟩,⟨(some 5),.fa 1 (.tmp 1),none,0⟩,⟨(some 6),.ld 1 false (.tmp 5),none,0⟩,⟨(some 7),.cl 87 [(.tmp 4),(.tmp 6)],none,0⟩,⟨(some 2),.mv (.tmp 7),none,0⟩] none 0 []) .ret))
theorem gc144_ok : compF Tryz.prog Tryz.f144 = some (gc144.er,8,[.tmp 2]) := by unfold gc144;kernel_rfl
set_option maxRecDepth 100000 in
set_option maxHeartbeats 4000000 in
theorem p_ref24_key_v (a0 : BookRow) : CallsO Tryz.prog 144 [.agg [.s a0.User,.s a0.Res,.b a0.P.On,.i a0.P.Show,.i a0.P.Prio,.i a0.P.Seq]] V.s (p_ref24_key a0) := by
 refine callsO_comp mix Tryz.func144 gc144_ok fun r H=>?_
 rw [p_ref24_key] at H
 conv=>whnf
 refine ask_c (p_ref23_Key_v _ _) H rfl rfl (fun v1 H=>?_);conv=>whnf
 exact fin0_c (enc := V.s) H (.inr rfl) (.cons (.tmp rfl) (.nil)) rfl rfl
def gc145 : BCode := (.seq (.reg 1 [⟨(some 1),.bx (.tmp 0),none,0⟩,⟨(some 2),.mv (.const (.int .i64 0)),none,1⟩] none 0 []) (.seq (.seq (.reg 0 [⟨(some 3),.fa 1 (.tmp 1),none,0⟩,⟨(some 4),.ld 1 false (.tmp 3),none,0⟩,⟨(some 5),.bin .lss (.tmp 4) (.const (.int .i64 0)),none,0⟩,⟨(some 6),.mv (.tmp 5),none,0⟩,⟨(some 7),.fa 1 (.tmp 1),(some (6,false)),0⟩,⟨(some 8),.ld 1 false (.tmp 7),(some (6,false)),0⟩,⟨(some 9),.bin .gtr (.tmp 8) (.const (.int .i64 4)),(some (6,false)),0⟩,⟨(some 10),.pick (.tmp 6) (.const (.bool true)) (.tmp 9),none,0⟩,⟨(some 11),.mv (.tmp 10),none,0⟩,⟨(some 12),.fa 2 (.tmp 1),(some (11,false)),0⟩,⟨(some 13),.ld 1 false (.tmp 12),(some (11,false)),0⟩,⟨(some 14),.bin .lss (.tmp 13) (.const (.int .i64 (-128))),(some (11,false)),0⟩,⟨(some 15),.pick (.tmp 11) (.const (.bool true)) (.tmp 14),none,0⟩,⟨(some 16),.mv (.tmp 15),none,0⟩,⟨(some 17),.fa 2 (.tmp 1),(some (16,false)),0⟩,⟨(some 18),.ld 1 false (.tmp 17),(some (16,false)),0⟩,⟨(some 19),.bin .gtr (.tmp 18) (.const (.int .i64 127)),(some (16,false)),0⟩,⟨(some 20),.pick (.tmp 16) (.const (.bool true)) (.tmp 19),none,0⟩,⟨(some 21),.mv (.tmp 20),none,0⟩,⟨(some 22),.fa 3 (.tmp 1),(some (21,false)),0⟩,⟨(some 23),.ld 1 false (.tmp 22),(some (21,false)),0⟩,⟨(some 24),.bin .lss (.tmp 23) (.const (.int .i64 0)),(some (21,false)),0⟩,⟨(some 25),.pick (.tmp 21) (.const (.bool true)) (.tmp 24),none,0⟩,⟨(some 26),.mv (.tmp 25),none,0⟩,⟨(some 27),.fa 3 (.tmp 1),(some (26,false)),0⟩,⟨(some 28),.ld 1 false (.tmp 27),(some (26,false)),0⟩,⟨(some 29),.bin .gtr (.tmp 28) (.const (.int .i64 1099511627776)),(some (26,false)),0⟩,⟨(some 30),.pick (.tmp 26) (.const (.bool true)) (.tmp 29),none,0⟩] none 0 []) (.cond (.tmp 30) (.seq (.reg 0 [⟨(some 2),.mv (.const (.int .i64 8)),none,0⟩] none 0 []) .ret) .skip)) (.seq (.seq (.reg 0 [⟨(some 31),.fa 0 (.tmp 1),none,0⟩,⟨(some 32),.ld 1 false (.tmp 31),none,0⟩,⟨(some 33),.un .not (.tmp 32),none,0⟩,⟨(some 34),.mv (.tmp 33),none,0⟩,⟨(some 35),.fa 1 (.tmp 1),(some (34,true)),0⟩,⟨(some 36),.ld 1 false (.tmp 35),(some (34,true)),0⟩,⟨(some 37),.bin .neq (.tmp 36) (.const (.int .i64 0)),(some (34,true)),0⟩,⟨(some 38),.mv (.tmp 37),(some (34,true)),0⟩,⟨(some 39),.fa 2 (.tmp 1),(some (38,false)),0⟩,⟨(some 40),.ld 1 false (.tmp 39),(some (38,false)),0⟩,⟨(some 41),.bin .neq (.tmp 40) (.const (.int .i64 0)),(some (38,false)),0⟩,⟨(some 42),.pick (.tmp 38) (.const (.bool true)) (.tmp 41),(some (34,true)),0⟩,⟨(some 43),.pick (.tmp 34) (.tmp 42) (.const (.bool false)),none,0⟩] none 0 []) (.cond (.tmp 43) (.seq (.reg 0 [⟨(some 2),.mv (.const (.int .i64 4)),none,0⟩] none 0 []) .ret) .skip)) (.seq (.reg 0 [⟨(some 2),.mv (.const (.int .i64 0)),none,0⟩] none 0 []) .ret))))
theorem gc145_ok : compF Tryz.prog Tryz.f145 = some (gc145.er,44,[.tmp 2]) := by unfold gc145;kernel_rfl
set_option maxRecDepth 100000 in
set_option maxHeartbeats 4000000 in
theorem p_ref23_Check_v (a0 : PresPres) : CallsO Tryz.prog 145 [.agg [.b a0.On,.i a0.Show,.i a0.Prio,.i a0.Seq]] V.i (p_ref23_Check a0) := by
 refine callsO_comp mix Tryz.func145 gc145_ok fun r H=>?_
 rw [p_ref23_Check] at H
 conv=>whnf
 refine tst_c H (fun b1 H=>?_) (fun b1 H=>?_)
 ·conv=>whnf
  iterate 20 (refine Tst.T ?_;conv=>whnf)
  exact fin0_c (enc := V.i) H (.inr rfl) (.cons (.tmp rfl) (.nil)) rfl rfl
 conv=>whnf
 iterate 3 (refine Tst.F ?_;conv=>whnf)
 refine tst_c H (fun b2 H=>?_) (fun b2 H=>?_)
 ·conv=>whnf
  iterate 16 (refine Tst.T ?_;conv=>whnf)
  exact fin0_c (enc := V.i) H (.inr rfl) (.cons (.tmp rfl) (.nil)) rfl rfl
 conv=>whnf
 iterate 3 (refine Tst.F ?_;conv=>whnf)
 refine tst_c H (fun b3 H=>?_) (fun b3 H=>?_)
 ·conv=>whnf
  iterate 12 (refine Tst.T ?_;conv=>whnf)
  exact fin0_c (enc := V.i) H (.inr rfl) (.cons (.tmp rfl) (.nil)) rfl rfl
 conv=>whnf
 iterate 3 (refine Tst.F ?_;conv=>whnf)
 refine tst_c H (fun b4 H=>?_) (fun b4 H=>?_)
 ·conv=>whnf
  iterate 8 (refine Tst.T ?_;conv=>whnf)
  exact fin0_c (enc := V.i) H (.inr rfl) (.cons (.tmp rfl) (.nil)) rfl rfl
 conv=>whnf
 iterate 3 (refine Tst.F ?_;conv=>whnf)
 refine tst_c H (fun b5 H=>?_) (fun b5 H=>?_)
 ·conv=>whnf
  iterate 4 (refine Tst.T ?_;conv=>whnf)
  exact fin0_c (enc := V.i) H (.inr rfl) (.cons (.tmp rfl) (.nil)) rfl rfl
 conv=>whnf
 iterate 3 (refine Tst.F ?_;conv=>whnf)
 refine tst_c H (fun b6 H=>?_) (fun b6 H=>?_)
 ·conv=>whnf
  exact fin0_c (enc := V.i) H (.inr rfl) (.cons (.tmp rfl) (.nil)) rfl rfl
 conv=>whnf
 refine Tst.not ?_
 refine tst_c H (fun b7 H=>?_) (fun b7 H=>?_)
 ·conv=>whnf
  iterate 6 (refine Tst.F ?_;conv=>whnf)
  exact fin0_c (enc := V.i) H (.inr rfl) (.cons (.tmp rfl) (.nil)) rfl rfl
 conv=>whnf
 iterate 3 (refine Tst.T ?_;conv=>whnf)
 refine tst_c H (fun b8 H=>?_) (fun b8 H=>?_)
 ·conv=>whnf
  iterate 6 (refine Tst.T ?_;conv=>whnf)
  exact fin0_c (enc := V.i) H (.inr rfl) (.cons (.tmp rfl) (.nil)) rfl rfl
 conv=>whnf
 iterate 2 (refine Tst.F ?_;conv=>whnf)
 refine Tst.T ?_;conv=>whnf
 refine Tst.F ?_;conv=>whnf
 refine Tst.T ?_;conv=>whnf
 refine tst_c H (fun b9 H=>?_) (fun b9 H=>?_)
 ·conv=>whnf
  exact fin0_c (enc := V.i) H (.inr rfl) (.cons (.tmp rfl) (.nil)) rfl rfl
 conv=>whnf
 exact fin0_c (enc := V.i) H (.inr rfl) (.cons (.tmp rfl) (.nil)) rfl rfl
def gc146 : BCode := (.seq (.reg 1 [⟨(some 1),.bx (.tmp 0),none,0⟩,⟨(some 2),.mv (.const (.bool false)),none,1⟩] none 0 []) (.seq (.seq (.reg 0 [⟨(some 3),.mv (.const (.int .i64 0)),none,0⟩] none 0 []) (.block 0 (.loop (.seq (.seq (.reg 0 [⟨(some 6),.mv (.tmp 3),none,0⟩,⟨(some 7),.fa 1 (.tmp 1),none,0⟩,⟨(some 8),.ld 1 false (.tmp 7),none,0⟩,⟨(some 9),.lens (.tmp 8),none,0⟩,⟨(some 10),.bin .lss (.tmp 6) (.tmp 9),none,0⟩] none 0 []) (.cond (.tmp 10) .skip (.exit 0))) (.seq (.block 1 (.seq (.reg 1 [⟨(some 13),.fa 1 (.tmp 1),none,0⟩,⟨(some 14),.ld 1 false (.tmp 13),none,0⟩,⟨(some 15),.mv (.tmp 3),none,0⟩,⟨(some 16),.ixs 6 (.tmp 14) (.tmp 15),none,0⟩,⟨(some 17),.ld 6 true (.tmp 16),none,0⟩,⟨(some 4),.al (.agg [(.lit (.string ⟨#[]⟩)),(.lit (.string ⟨#[]⟩)),(.lit (.bool false)),(.lit (.int .i64 0)),(.lit (.int .i64 0)),(.lit (.int .i64 0))]),none,0⟩,⟨none,.st 6 (.tmp 4) (.tmp 17),none,1⟩] none 0 []) (.seq (.seq (.reg 0 [⟨(some 18),.fa 2 (.tmp 4),none,0⟩,⟨(some 19),.fa 3 (.tmp 18),none,0⟩,⟨(some 20),.ld 1 false (.tmp 19),none,0⟩,⟨(some 21),.bin .lss (.tmp 20) (.const (.int .i64 1)),none,0⟩,⟨(some 22),.mv (.tmp 21),none,0⟩,⟨(some 23),.fa 2 (.tmp 4),(some (22,false)),0⟩,⟨(some 24),.fa 3 (.tmp 23),(some (22,false)),0⟩,⟨(some 25),.ld 1 false (.tmp 24),(some (22,false)),0⟩,⟨(some 26),.fa 0 (.tmp 1),(some (22,false)),0⟩,⟨(some 27),.ld 1 false (.tmp 26),(some (22,false)),0⟩,⟨(some 28),.bin .gtr (.tmp 25) (.tmp 27),(some (22,false)),0⟩,⟨(some 29),.pick (.tmp 22) (.const (.bool true)) (.tmp 28),none,0⟩,⟨(some 30),.mv (.tmp 29),none,0⟩,⟨(some 31),.mv (.tmp 3),(some (30,false)),0⟩,⟨(some 32),.bin .gtr (.tmp 31) (.const (.int .i64 0)),(some (30,false)),0⟩,⟨(some 33),.mv (.tmp 32),(some (30,false)),0⟩,⟨(some 34),.fa 1 (.tmp 1),(some (33,true)),0⟩,⟨(some 35),.ld 1 false (.tmp 34),(some (33,true)),0⟩,⟨(some 36),.mv (.tmp 3),(some (33,true)),0⟩,⟨(some 37),.bin .sub (.tmp 36) (.const (.int .i64 1)),(some (33,true)),0⟩,⟨(some 38),.ixs 6 (.tmp 35) (.tmp 37),(some (33,true)),0⟩,⟨(some 39),.ld 6 true (.tmp 38),(some (33,true)),0⟩,⟨(some 40),.cl 144 [(.tmp 39)],(some (33,true)),0⟩,⟨(some 41),.ld 6 true (.tmp 4),(some (33,true)),0⟩,⟨(some 42),.cl 144 [(.tmp 41)],(some (33,true)),0⟩,⟨(some 43),.bin .geq (.tmp 40) (.tmp 42),(some (33,true)),0⟩,⟨(some 44),.pick (.tmp 33) (.tmp 43) (.const (.bool false)),(some (30,false)),0⟩,⟨(some 45),.pick (.tmp 30) (.const (.bool true)) (.tmp 44),none,0⟩] (some [[],[0],[0,1],[1,0,2],[2,0,1,3],[3,1,0,2,4],[4,2,0,1,3,5],[5,3,1,0,2,4,6],[3,1,0,2,4],[4,2,0,1,3,8],[8,9,6,4,2,0,1,3,5,7],[7,5,6,9,8,10,3,1,0,2,4],[4,2,0,1,3,10,8,9,6,5,7,11],[11,7,5,6,9,8,10,3,1,0,2,4,12],[12,4,2,0,1,3,10,8,9,6,5,7,11,13],[13,11,7,5,6,9,8,10,3,1,0,2,4,12,14],[14,12,4,2,0,1,3,10,8,9,6,5,7,11,13,15],[15,13,11,7,5,6,9,8,10,3,1,0,2,4,12,14,16],[14,12,4,2,0,1,3,10,8,9,6,5,7,11,13,15],[15,13,11,7,5,6,9,8,10,3,1,0,2,4,12,14,18],[18,19,16,14,12,4,2,0,1,3,10,8,9,6,5,7,11,13,15,17],[17,15,13,11,7,5,6,9,8,10,3,1,0,2,4,12,14,16,19,18,20],[20,18,19,16,14,12,4,2,0,1,3,10,8,9,6,5,7,11,13,15,17,21],[14,12,4,2,0,1,3,10,8,9,6,5,7,11,13,15],[21,17,16,19,18,20,22,15,13,11,7,5,6,9,8,10,3,1,0,2,4,12,14,23],[23,24,21,17,15,13,11,7,5,6,9,8,10,3,1,0,2,4,12,14,16,19,18,20,22],[22,20,18,19,16,17,21,24,23,25,14,12,4,2,0,1,3,10,8,9,6,5,7,11,13,15],[15,13,14,25,23,24,21,17,16,19,18,20,22,26,11,7,5,6,9,8,10,3,1,0,2,4,12]]) 0 []) (.cond (.tmp 45) (.seq (.reg 0 [⟨(some 2),.mv (.const (.bool false)),none,0⟩] none 0 []) .ret) .skip)) (.seq (.reg 0 [⟨(some 5),.mv (.const (.int .i64 0)),none,0⟩] none 0 []) (.block 2 (.loop (.seq (.seq (.reg 0 [⟨(some 46),.mv (.tmp 5),none,0⟩,⟨(some 47),.mv (.tmp 3),none,0⟩,⟨(some 48),.bin .lss (.tmp 46) (.tmp 47),none,0⟩] none 0 []) (.cond (.tmp 48) .skip (.exit 2))) (.seq (.block 3 (.seq (.reg 0 [⟨(some 51),.fa 1 (.tmp 1),none,0⟩,⟨(some 52),.ld 1 false (.tmp 51),none,0⟩,⟨(some 53),.mv (.tmp 5),none,0⟩,⟨(some 54),.ixs 6 (.tmp 52) (.tmp 53),none,0⟩,⟨(some 55),.fa 2 (.tmp 54),none,0⟩,⟨(some 56),.fa 3 (.tmp 55),none,0⟩,⟨(some 57),.ld 1 false (.tmp 56),none,0⟩,⟨(some 58),.fa 2 (.tmp 4),none,0⟩,⟨(some 59),.fa 3 (.tmp 58),none,0⟩,⟨(some 60),.ld 1 false (.tmp 59),none,0⟩,⟨(some 61),.bin .eql (.tmp 57) (.tmp 60),none,0⟩] (some [[],[0],[],[2,0,1],[1,0,2,3],[3,2,0,1,4],[4,1,0,2,3,5],[],[7],[7,8],[8,7,9,5,3,2,0,1,4,6]]) 0 []) (.cond (.tmp 61) (.seq (.reg 0 [⟨(some 2),.mv (.const (.bool false)),none,0⟩] none 0 []) .ret) .skip))) (.reg 0 [⟨(some 49),.mv (.tmp 5),none,0⟩,⟨(some 50),.bin .add (.tmp 49) (.const (.int .i64 1)),none,0⟩,⟨(some 5),.mv (.tmp 50),none,0⟩] none 0 []))))))))) (.reg 0 [⟨(some 11),.mv (.tmp 3),none,0⟩,⟨(some 12),.bin .add (.tmp 11) (.const (.int .i64 1)),none,0⟩,⟨(some 3),.mv (.tmp 12),none,0⟩] none 0 [])))))) (.seq (.reg 0 [⟨(some 2),.mv (.const (.bool true)),none,0⟩] none 0 []) .ret)))
theorem gc146_ok : compF Tryz.prog Tryz.f146 = some (gc146.er,62,[.tmp 2]) := by unfold gc146;kernel_rfl
set_option maxRecDepth 100000 in
set_option maxHeartbeats 4000000 in
theorem p_ref24_ordered_v {u1 : Bool} (a0 : BookState) : CallsO Tryz.prog 146 [.agg [.i a0.Seq,.sl (List.map BookRow.v a0.Rows) u1]] V.b (p_ref24_ordered a0) := by
 refine callsO_comp mix Tryz.func146 gc146_ok fun r H=>?_
 rw [p_ref24_ordered] at H
 conv=>whnf
 obtain ⟨o2,HL3,HQ4⟩ := bind_c H
 refine loop_c [2,3] [4,5,6,7,8,9,10,11,12,13,14,15,16,17,18,19,20,21,22,23,24,25,26,27,28,29,30,31,32,33,34,35,36,37,38,39,40,41,42,43,44,45,46,47,48,49,50,51,52,53,54,55,56,57,58,59,60,61] [4,5,6,7,8,9,10,11,12,13,14,15,16,17,18,19,20,21,22,23,24,25,26,27,28,29,30,31,32,33,34,35,36,37,38,39,40,41,42,43,44,45,46,47,48,49,50,51,52,53,54,55,56,57,58,59,60,61] (fun n vals st=>(∃ y6,p_ref24_ordered_l1  a0 n y6 = some o2 ∧ vals = [.b false,.i y6] ∧ st = [.live [.i a0.Seq,.sl (List.map BookRow.v a0.Rows) u1] 0])) fuel 1 [] (⟨_,HL3,rfl,rfl⟩) (Nat.zero_le _) rfl (by kernel_rfl) (by kernel_rfl) rfl ⟨⟨rfl,rfl,rfl⟩,trivial⟩ ?_
 rintro (_ | n5) _ _ (⟨y6,H,rfl,rfl⟩)
 ·rw [p_ref24_ordered_l1] at H;cases H
 rw [p_ref24_ordered_l1] at H
 conv=>whnf
 refine LenQ.M ?_;conv=>whnf
 refine tst_d H (fun b7 H=>?_) (fun b7 H=>?_)
 ·conv=>whnf
  obtain rfl := Option.some.inj H
  have H := HQ4
  try dsimp only at H
  exact fin0_c (enc := V.b) H (.inr rfl) (.cons (.tmp rfl) (.nil)) rfl rfl
 conv=>whnf
 refine ixs_c (f := BookRow.v) H (fun _=>rfl) (fun x8 H=>?_);conv=>whnf
 refine ⟨Nat.le_of_ble_eq_true rfl,?_⟩;conv=>whnf
 refine tst_c H (fun b9 H=>?_) (fun b9 H=>?_)
 ·conv=>whnf
  iterate 11 (refine Tst.T ?_;conv=>whnf)
  refine FootQ.mk ⟨rfl,?_⟩;conv=>whnf
  refine Tst.T ?_;conv=>whnf
  obtain rfl := Option.some.inj H
  have H := HQ4
  try dsimp only at H
  exact fin0_c (enc := V.b) H (.inr rfl) (.cons (.tmp rfl) (.nil)) rfl rfl
 conv=>whnf
 iterate 6 (refine Tst.F ?_;conv=>whnf)
 refine tst_c H (fun b10 H=>?_) (fun b10 H=>?_)
 ·conv=>whnf
  iterate 4 (refine Tst.T ?_;conv=>whnf)
  refine FootQ.mk ⟨rfl,?_⟩;conv=>whnf
  refine Tst.T ?_;conv=>whnf
  obtain rfl := Option.some.inj H
  have H := HQ4
  try dsimp only at H
  exact fin0_c (enc := V.b) H (.inr rfl) (.cons (.tmp rfl) (.nil)) rfl rfl
 conv=>whnf
 iterate 2 (refine Tst.F ?_;conv=>whnf)
 refine tst_d H (fun b11 H=>?_) (fun b11 H=>?_)
 ·conv=>whnf
  iterate 12 (refine Tst.F ?_;conv=>whnf)
  refine FootQ.mk ⟨rfl,?_⟩;conv=>whnf
  refine Tst.F ?_;conv=>whnf
  obtain ⟨o26,HL27,HQ28⟩ := bind_c H
  refine loop_c [2,5] [46,47,48,49,50,51,52,53,54,55,56,57,58,59,60,61,7,13,18,19,23,24,26] [46,47,48,49,50,51,52,53,54,55,56,57,58,59,60,61,7,13,18,19,23,24,26] (fun n vals st=>(∃ y30,p_ref24_ordered_l2  y6 a0 x8 n y30 = some o26 ∧ vals = [.b false,.i y30] ∧ st = [.live [.i a0.Seq,.sl (List.map BookRow.v a0.Rows) u1] 0,.live [.s x8.User,.s x8.Res,.b x8.P.On,.i x8.P.Show,.i x8.P.Prio,.i x8.P.Seq] 0])) fuel 2 [] (⟨_,HL27,rfl,rfl⟩) (Nat.zero_le _) rfl (by kernel_rfl) (by kernel_rfl) rfl ⟨⟨rfl,rfl,rfl⟩,⟨⟨rfl,rfl,rfl⟩,trivial⟩⟩ ?_
  rintro (_ | n29) _ _ (⟨y30,H,rfl,rfl⟩)
  ·rw [p_ref24_ordered_l2] at H;cases H
  rw [p_ref24_ordered_l2] at H
  conv=>whnf
  refine tst_d H (fun b31 H=>?_) (fun b31 H=>?_)
  ·conv=>whnf
   obtain rfl := Option.some.inj H
   have H := HQ28
   try dsimp only at H
   refine Ari.w ?_;conv=>whnf
   exact again_c [4,5,6,7,8,9,10,11,12,13,14,15,16,17,18,19,20,21,22,23,24,25,26,27,28,29,30,31,32,33,34,35,36,37,38,39,40,41,42,43,44,45,46,47,48,49,50,51,52,53,54,55,56,57,58,59,60,61] n5 1 [] (⟨_,H,rfl,rfl⟩) (Nat.lt_succ_self _) (Nat.zero_le _) rfl (by kernel_rfl) (by kernel_rfl) rfl ⟨⟨rfl,rfl,rfl⟩,trivial⟩
  conv=>whnf
  refine ixs_c (f := BookRow.v) H (fun _=>rfl) (fun x32 H=>?_);conv=>whnf
  refine ⟨Nat.le_of_ble_eq_true rfl,?_⟩;conv=>whnf
  refine ⟨Nat.le_of_ble_eq_true rfl,?_⟩;conv=>whnf
  refine FootQ.mk ⟨rfl,?_⟩;conv=>whnf
  refine tst_c H (fun b33 H=>?_) (fun b33 H=>?_)
  ·conv=>whnf
   obtain rfl := Option.some.inj H
   have H := HQ28
   try dsimp only at H
   obtain rfl := Option.some.inj H
   have H := HQ4
   try dsimp only at H
   exact fin0_c (enc := V.b) H (.inr rfl) (.cons (.tmp rfl) (.nil)) rfl rfl
  conv=>whnf
  refine Ari.w ?_;conv=>whnf
  exact again_c [46,47,48,49,50,51,52,53,54,55,56,57,58,59,60,61,7,13,18,19,23,24,26] n29 2 [] (⟨_,H,rfl,rfl⟩) (Nat.lt_succ_self _) (Nat.zero_le _) rfl (by kernel_rfl) (by kernel_rfl) rfl ⟨⟨rfl,rfl,rfl⟩,⟨⟨rfl,rfl,rfl⟩,trivial⟩⟩
 conv=>whnf
 iterate 3 (refine Tst.T ?_;conv=>whnf)
 refine Ari.w ?_;conv=>whnf
 refine Tst.T ?_;conv=>whnf
 refine ixs_c (f := BookRow.v) H (fun _=>rfl) (fun x12 H=>?_);conv=>whnf
 iterate 2 (refine Tst.T ?_;conv=>whnf)
 refine ask_c (p_ref24_key_v _) H rfl rfl (fun v13 H=>?_);conv=>whnf
 iterate 2 (refine Tst.T ?_;conv=>whnf)
 refine ask_c (p_ref24_key_v _) H rfl rfl (fun v14 H=>?_);conv=>whnf
 refine Tst.T ?_;conv=>whnf
 refine Tst.F ?_;conv=>whnf
 refine Tst.T ?_;conv=>whnf
 refine Tst.F ?_;conv=>whnf
 refine FootQ.mk ⟨rfl,?_⟩;conv=>whnf
 refine Tst.not ?_
 refine tst_d H (fun b15 H=>?_) (fun b15 H=>?_)
 ·conv=>whnf
  obtain rfl := Option.some.inj H
  have H := HQ4
  try dsimp only at H
  exact fin0_c (enc := V.b) H (.inr rfl) (.cons (.tmp rfl) (.nil)) rfl rfl
 conv=>whnf
 obtain ⟨o17,HL18,HQ19⟩ := bind_c H
 refine loop_c [2,5] [46,47,48,49,50,51,52,53,54,55,56,57,58,59,60,61,7,13,18,19,23,24,26,34] [46,47,48,49,50,51,52,53,54,55,56,57,58,59,60,61,7,13,18,19,23,24,26,34] (fun n vals st=>(∃ y21,p_ref24_ordered_l2  y6 a0 x8 n y21 = some o17 ∧ vals = [.b false,.i y21] ∧ st = [.live [.i a0.Seq,.sl (List.map BookRow.v a0.Rows) u1] 0,.live [.s x8.User,.s x8.Res,.b x8.P.On,.i x8.P.Show,.i x8.P.Prio,.i x8.P.Seq] 0])) fuel 2 [] (⟨_,HL18,rfl,rfl⟩) (Nat.zero_le _) rfl (by kernel_rfl) (by kernel_rfl) rfl ⟨⟨rfl,rfl,rfl⟩,⟨⟨rfl,rfl,rfl⟩,trivial⟩⟩ ?_
 rintro (_ | n20) _ _ (⟨y21,H,rfl,rfl⟩)
 ·rw [p_ref24_ordered_l2] at H;cases H
 rw [p_ref24_ordered_l2] at H
 conv=>whnf
 refine tst_d H (fun b22 H=>?_) (fun b22 H=>?_)
 ·conv=>whnf
  obtain rfl := Option.some.inj H
  have H := HQ19
  try dsimp only at H
  refine Ari.w ?_;conv=>whnf
  exact again_c [4,5,6,7,8,9,10,11,12,13,14,15,16,17,18,19,20,21,22,23,24,25,26,27,28,29,30,31,32,33,34,35,36,37,38,39,40,41,42,43,44,45,46,47,48,49,50,51,52,53,54,55,56,57,58,59,60,61] n5 1 [] (⟨_,H,rfl,rfl⟩) (Nat.lt_succ_self _) (Nat.zero_le _) rfl (by kernel_rfl) (by kernel_rfl) rfl ⟨⟨rfl,rfl,rfl⟩,trivial⟩
 conv=>whnf
 refine ixs_c (f := BookRow.v) H (fun _=>rfl) (fun x23 H=>?_);conv=>whnf
 refine ⟨Nat.le_of_ble_eq_true rfl,?_⟩;conv=>whnf
 refine ⟨Nat.le_of_ble_eq_true rfl,?_⟩;conv=>whnf
 refine FootQ.mk ⟨rfl,?_⟩;conv=>whnf
 refine tst_c H (fun b24 H=>?_) (fun b24 H=>?_)
 ·conv=>whnf
  obtain rfl := Option.some.inj H
  have H := HQ19
  try dsimp only at H
  obtain rfl := Option.some.inj H
  have H := HQ4
  try dsimp only at H
  exact fin0_c (enc := V.b) H (.inr rfl) (.cons (.tmp rfl) (.nil)) rfl rfl
 conv=>whnf
 refine Ari.w ?_;conv=>whnf
 exact again_c [46,47,48,49,50,51,52,53,54,55,56,57,58,59,60,61,7,13,18,19,23,24,26,34] n20 2 [] (⟨_,H,rfl,rfl⟩) (Nat.lt_succ_self _) (Nat.zero_le _) rfl (by kernel_rfl) (by kernel_rfl) rfl ⟨⟨rfl,rfl,rfl⟩,⟨⟨rfl,rfl,rfl⟩,trivial⟩⟩
end Go.Proofs.YthlhbgedidipkaaGreat

/- That the program's functions yield what the plain ones tell (written by a program of mine). -/
namespace Go.Proofs.YthlhbgedidipkaaGreat
open Go.RowKit
def gc147 : BCode := (.seq (.reg 1 [⟨(some 2),.bx (.tmp 0),none,0⟩,⟨(some 4),.mv (.const (.int .i64 0)),none,1⟩] none 0 []) (.seq (.reg 0 [⟨(some 5),.mv (.const (.int .i64 0)),none,0⟩] none 0 []) (.seq (.seq (.reg 0 [⟨(some 6),.mv (.const (.int .i64 0)),none,0⟩] none 0 []) (.block 0 (.loop (.seq (.seq (.reg 0 [⟨(some 7),.mv (.tmp 6),none,0⟩,⟨(some 8),.fa 1 (.tmp 2),none,0⟩,⟨(some 9),.ld 1 false (.tmp 8),none,0⟩,⟨(some 10),.lens (.tmp 9),none,0⟩,⟨(some 11),.bin .lss (.tmp 7) (.tmp 10),none,0⟩] none 0 []) (.cond (.tmp 11) .skip (.exit 0))) (.seq (.block 1 (.seq (.reg 0 [⟨(some 14),.fa 1 (.tmp 2),none,0⟩,⟨(some 15),.ld 1 false (.tmp 14),none,0⟩,⟨(some 16),.mv (.tmp 6),none,0⟩,⟨(some 17),.ixs 6 (.tmp 15) (.tmp 16),none,0⟩,⟨(some 18),.fa 0 (.tmp 17),none,0⟩,⟨(some 19),.ld 1 false (.tmp 18),none,0⟩,⟨(some 20),.mv (.tmp 1),none,0⟩,⟨(some 21),.bin .eql (.tmp 19) (.tmp 20),none,0⟩] none 0 []) (.cond (.tmp 21) (.reg 0 [⟨(some 22),.mv (.tmp 5),none,0⟩,⟨(some 23),.bin .add (.tmp 22) (.const (.int .i64 1)),none,0⟩,⟨(some 5),.mv (.tmp 23),none,0⟩] none 0 []) .skip))) (.reg 0 [⟨(some 12),.mv (.tmp 6),none,0⟩,⟨(some 13),.bin .add (.tmp 12) (.const (.int .i64 1)),none,0⟩,⟨(some 6),.mv (.tmp 13),none,0⟩] none 0 [])))))) (.seq (.reg 0 [⟨(some 24),.mv (.tmp 5),none,0⟩,⟨(some 4),.mv (.tmp 24),none,0⟩] none 0 []) .ret))))
theorem gc147_ok : compF Tryz.prog Tryz.f147 = some (gc147.er,25,[.tmp 4]) := by unfold gc147;kernel_rfl
set_option maxRecDepth 100000 in
set_option maxHeartbeats 4000000 in
theorem p_ref24_many_v {u1 : Bool} (a0 : BookState) (a1 : ByteArray) : CallsO Tryz.prog 147 [.agg [.i a0.Seq,.sl (List.map BookRow.v a0.Rows) u1],.s a1] V.i (p_ref24_many a0 a1) := by
 refine callsO_comp mix Tryz.func147 gc147_ok fun r H=>?_
 rw [p_ref24_many] at H
 conv=>whnf
 obtain ⟨o2,HL3,HQ4⟩ := bind_c H
 refine loop_c [5,6] [7,8,9,10,11,12,13,14,15,16,17,18,19,20,21,22,23] [7,8,9,10,11,12,13,14,15,16,17,18,19,20,21,22,23] (fun n vals st=>(∃ y6 y7,p_ref24_many_l1  a1 a0 n y6 y7 = some o2 ∧ vals = [.i y6,.i y7] ∧ st = [.live [.i a0.Seq,.sl (List.map BookRow.v a0.Rows) u1] 0])) fuel 1 [] (⟨_,_,HL3,rfl,rfl⟩) (Nat.zero_le _) rfl (by kernel_rfl) (by kernel_rfl) rfl ⟨⟨rfl,rfl,rfl⟩,trivial⟩ ?_
 rintro (_ | n5) _ _ (⟨y6,y7,H,rfl,rfl⟩)
 ·rw [p_ref24_many_l1] at H;cases H
 rw [p_ref24_many_l1] at H
 conv=>whnf
 refine LenQ.M ?_;conv=>whnf
 refine tst_d H (fun b8 H=>?_) (fun b8 H=>?_)
 ·conv=>whnf
  obtain rfl := Option.some.inj H
  have H := HQ4
  try dsimp only at H
  exact fin0_c (enc := V.i) H (.inr rfl) (.cons (.tmp rfl) (.nil)) rfl rfl
 conv=>whnf
 refine ixs_c (f := BookRow.v) H (fun _=>rfl) (fun x9 H=>?_);conv=>whnf
 refine ⟨Nat.le_of_ble_eq_true rfl,?_⟩;conv=>whnf
 refine tst_d H (fun b10 H=>?_) (fun b10 H=>?_)
 ·conv=>whnf
  refine Ari.w ?_;conv=>whnf
  exact again_c [7,8,9,10,11,12,13,14,15,16,17,18,19,20,21,22,23] n5 1 [] (⟨_,_,H,rfl,rfl⟩) (Nat.lt_succ_self _) (Nat.zero_le _) rfl (by kernel_rfl) (by kernel_rfl) rfl ⟨⟨rfl,rfl,rfl⟩,trivial⟩
 conv=>whnf
 iterate 2 (refine Ari.w ?_;conv=>whnf)
 exact again_c [7,8,9,10,11,12,13,14,15,16,17,18,19,20,21,22,23] n5 1 [] (⟨_,_,H,rfl,rfl⟩) (Nat.lt_succ_self _) (Nat.zero_le _) rfl (by kernel_rfl) (by kernel_rfl) rfl ⟨⟨rfl,rfl,rfl⟩,trivial⟩
def gc76 : BCode := (.seq (.reg 1 [⟨(some 1),.bx (.tmp 0),none,0⟩,⟨(some 2),.mv (.const (.int .i64 0)),none,1⟩] none 0 []) (.seq (.block 0 (.seq (.reg 0 [⟨(some 8),.fa 1 (.tmp 1),none,0⟩,⟨(some 9),.ld 1 false (.tmp 8),none,0⟩,⟨(some 10),.lens (.tmp 9),none,0⟩,⟨(some 11),.bin .gtr (.tmp 10) (.const (.int .i64 16)),none,0⟩,⟨(some 7),.mv (.tmp 11),none,0⟩] none 0 []) (.cond (.tmp 7) (.seq (.reg 0 [⟨(some 2),.mv (.const (.int .i64 5)),none,0⟩] none 0 []) .ret) (.seq (.reg 0 [⟨(some 13),.fa 0 (.tmp 1),none,0⟩,⟨(some 14),.ld 1 false (.tmp 13),none,0⟩,⟨(some 15),.bin .lss (.tmp 14) (.const (.int .i64 0)),none,0⟩,⟨(some 16),.mv (.tmp 15),none,0⟩,⟨(some 17),.fa 0 (.tmp 1),(some (16,false)),0⟩,⟨(some 18),.ld 1 false (.tmp 17),(some (16,false)),0⟩,⟨(some 19),.bin .gtr (.tmp 18) (.const (.int .i64 1099511627776)),(some (16,false)),0⟩,⟨(some 20),.pick (.tmp 16) (.const (.bool true)) (.tmp 19),none,0⟩,⟨(some 12),.mv (.tmp 20),none,0⟩] none 0 []) (.cond (.tmp 12) (.seq (.reg 0 [⟨(some 2),.mv (.const (.int .i64 8)),none,0⟩] none 0 []) .ret) .skip))))) (.seq (.seq (.reg 0 [⟨(some 3),.mv (.const (.int .i64 0)),none,0⟩] none 0 []) (.block 1 (.loop (.seq (.seq (.reg 0 [⟨(some 21),.mv (.tmp 3),none,0⟩,⟨(some 22),.fa 1 (.tmp 1),none,0⟩,⟨(some 23),.ld 1 false (.tmp 22),none,0⟩,⟨(some 24),.lens (.tmp 23),none,0⟩,⟨(some 25),.bin .lss (.tmp 21) (.tmp 24),none,0⟩] none 0 []) (.cond (.tmp 25) .skip (.exit 1))) (.seq (.block 2 (.seq (.reg 0 [⟨(some 28),.fa 1 (.tmp 1),none,0⟩,⟨(some 29),.ld 1 false (.tmp 28),none,0⟩,⟨(some 30),.mv (.tmp 3),none,0⟩,⟨(some 31),.ixs 6 (.tmp 29) (.tmp 30),none,0⟩,⟨(some 32),.ld 6 true (.tmp 31),none,0⟩,⟨(some 33),.cl 144 [(.tmp 32)],none,0⟩,⟨(some 34),.bin .eql (.tmp 33) (.const (.string ⟨#[]⟩)),none,0⟩] none 0 []) (.cond (.tmp 34) (.seq (.reg 0 [⟨(some 2),.mv (.const (.int .i64 11)),none,0⟩] none 0 []) .ret) .skip))) (.reg 0 [⟨(some 26),.mv (.tmp 3),none,0⟩,⟨(some 27),.bin .add (.tmp 26) (.const (.int .i64 1)),none,0⟩,⟨(some 3),.mv (.tmp 27),none,0⟩] none 0 [])))))) (.seq (.seq (.reg 0 [⟨(some 4),.mv (.const (.int .i64 0)),none,0⟩] none 0 []) (.block 3 (.loop (.seq (.seq (.reg 0 [⟨(some 35),.mv (.tmp 4),none,0⟩,⟨(some 36),.fa 1 (.tmp 1),none,0⟩,⟨(some 37),.ld 1 false (.tmp 36),none,0⟩,⟨(some 38),.lens (.tmp 37),none,0⟩,⟨(some 39),.bin .lss (.tmp 35) (.tmp 38),none,0⟩] none 0 []) (.cond (.tmp 39) .skip (.exit 3))) (.seq (.block 4 (.seq (.reg 0 [⟨(some 42),.fa 1 (.tmp 1),none,0⟩,⟨(some 43),.ld 1 false (.tmp 42),none,0⟩,⟨(some 44),.mv (.tmp 4),none,0⟩,⟨(some 45),.ixs 6 (.tmp 43) (.tmp 44),none,0⟩,⟨(some 46),.fa 2 (.tmp 45),none,0⟩,⟨(some 47),.ld 4 true (.tmp 46),none,0⟩,⟨(some 48),.cl 145 [(.tmp 47)],none,0⟩,⟨(some 5),.mv (.tmp 48),none,0⟩] none 0 []) (.seq (.seq (.reg 0 [⟨(some 49),.mv (.tmp 5),none,0⟩,⟨(some 50),.bin .neq (.tmp 49) (.const (.int .i64 0)),none,0⟩] none 0 []) (.cond (.tmp 50) (.seq (.reg 0 [⟨(some 51),.mv (.tmp 5),none,0⟩,⟨(some 2),.mv (.tmp 51),none,0⟩] none 0 []) .ret) .skip)) (.seq (.reg 0 [⟨(some 52),.fa 1 (.tmp 1),none,0⟩,⟨(some 53),.ld 1 false (.tmp 52),none,0⟩,⟨(some 54),.mv (.tmp 4),none,0⟩,⟨(some 55),.ixs 6 (.tmp 53) (.tmp 54),none,0⟩,⟨(some 56),.fa 2 (.tmp 55),none,0⟩,⟨(some 57),.fa 0 (.tmp 56),none,0⟩,⟨(some 58),.ld 1 false (.tmp 57),none,0⟩,⟨(some 59),.un .not (.tmp 58),none,0⟩] none 0 []) (.cond (.tmp 59) (.seq (.reg 0 [⟨(some 2),.mv (.const (.int .i64 4)),none,0⟩] none 0 []) .ret) .skip))))) (.reg 0 [⟨(some 40),.mv (.tmp 4),none,0⟩,⟨(some 41),.bin .add (.tmp 40) (.const (.int .i64 1)),none,0⟩,⟨(some 4),.mv (.tmp 41),none,0⟩] none 0 [])))))) (.seq (.seq (.reg 0 [⟨(some 60),.ld 2 true (.tmp 1),none,0⟩,⟨(some 61),.cl 146 [(.tmp 60)],none,0⟩,⟨(some 62),.un .not (.tmp 61),none,0⟩] none 0 []) (.cond (.tmp 62) (.seq (.reg 0 [⟨(some 2),.mv (.const (.int .i64 10)),none,0⟩] none 0 []) .ret) .skip)) (.seq (.seq (.reg 0 [⟨(some 6),.mv (.const (.int .i64 0)),none,0⟩] none 0 []) (.block 5 (.loop (.seq (.seq (.reg 0 [⟨(some 63),.mv (.tmp 6),none,0⟩,⟨(some 64),.fa 1 (.tmp 1),none,0⟩,⟨(some 65),.ld 1 false (.tmp 64),none,0⟩,⟨(some 66),.lens (.tmp 65),none,0⟩,⟨(some 67),.bin .lss (.tmp 63) (.tmp 66),none,0⟩] none 0 []) (.cond (.tmp 67) .skip (.exit 5))) (.seq (.block 6 (.seq (.reg 0 [⟨(some 70),.ld 2 true (.tmp 1),none,0⟩,⟨(some 71),.fa 1 (.tmp 1),none,0⟩,⟨(some 72),.ld 1 false (.tmp 71),none,0⟩,⟨(some 73),.mv (.tmp 6),none,0⟩,⟨(some 74),.ixs 6 (.tmp 72) (.tmp 73),none,0⟩,⟨(some 75),.fa 0 (.tmp 74),none,0⟩,⟨(some 76),.ld 1 false (.tmp 75),none,0⟩,⟨(some 77),.cl 147 [(.tmp 70),(.tmp 76)],none,0⟩,⟨(some 78),.bin .gtr (.tmp 77) (.const (.int .i64 3)),none,0⟩] (some [[],[],[1],[],[3,1,2],[2,1,3,4],[4,3,1,2,5],[5,2,1,3,4,6,0],[0,6,4,3,1,2,5,7]]) 0 []) (.cond (.tmp 78) (.seq (.reg 0 [⟨(some 2),.mv (.const (.int .i64 7)),none,0⟩] none 0 []) .ret) .skip))) (.reg 0 [⟨(some 68),.mv (.tmp 6),none,0⟩,⟨(some 69),.bin .add (.tmp 68) (.const (.int .i64 1)),none,0⟩,⟨(some 6),.mv (.tmp 69),none,0⟩] none 0 [])))))) (.seq (.reg 0 [⟨(some 2),.mv (.const (.int .i64 0)),none,0⟩] none 0 []) .ret)))))))
theorem gc76_ok : compF Tryz.prog Tryz.f76 = some (gc76.er,79,[.tmp 2]) := by unfold gc76;kernel_rfl
set_option maxRecDepth 100000 in
set_option maxHeartbeats 4000000 in
theorem p_ref24_Check_v {u1 : Bool} (a0 : BookState) : CallsO Tryz.prog 76 [.agg [.i a0.Seq,.sl (List.map BookRow.v a0.Rows) u1]] V.i (p_ref24_Check a0) := by
 refine callsO_comp mix Tryz.func76 gc76_ok fun r H=>?_
 rw [p_ref24_Check] at H
 conv=>whnf
 refine LenQ.M ?_;conv=>whnf
 refine tst_c H (fun b1 H=>?_) (fun b1 H=>?_)
 ·conv=>whnf
  exact fin0_c (enc := V.i) H (.inr rfl) (.cons (.tmp rfl) (.nil)) rfl rfl
 conv=>whnf
 refine tst_c H (fun b2 H=>?_) (fun b2 H=>?_)
 ·conv=>whnf
  iterate 4 (refine Tst.T ?_;conv=>whnf)
  exact fin0_c (enc := V.i) H (.inr rfl) (.cons (.tmp rfl) (.nil)) rfl rfl
 conv=>whnf
 iterate 3 (refine Tst.F ?_;conv=>whnf)
 refine tst_c H (fun b3 H=>?_) (fun b3 H=>?_)
 ·conv=>whnf
  exact fin0_c (enc := V.i) H (.inr rfl) (.cons (.tmp rfl) (.nil)) rfl rfl
 conv=>whnf
 obtain ⟨o5,HL6,HQ7⟩ := bind_c H
 refine loop_c [2,3] [21,22,23,24,25,26,27,28,29,30,31,32,33,34,8,13,17] [21,22,23,24,25,26,27,28,29,30,31,32,33,34,8,13,17] (fun n vals st=>(∃ y9,p_ref24_Check_l1  a0 n y9 = some o5 ∧ vals = [.i (0 : Int),.i y9] ∧ st = [.live [.i a0.Seq,.sl (List.map BookRow.v a0.Rows) u1] 0])) fuel 1 [] (⟨_,HL6,rfl,rfl⟩) (Nat.zero_le _) rfl (by kernel_rfl) (by kernel_rfl) rfl ⟨⟨rfl,rfl,rfl⟩,trivial⟩ ?_
 rintro (_ | n8) _ _ (⟨y9,H,rfl,rfl⟩)
 ·rw [p_ref24_Check_l1] at H;cases H
 rw [p_ref24_Check_l1] at H
 conv=>whnf
 refine LenQ.M ?_;conv=>whnf
 refine tst_c H (fun b10 H=>?_) (fun b10 H=>?_)
 ·conv=>whnf
  refine ixs_c (f := BookRow.v) H (fun _=>rfl) (fun x11 H=>?_);conv=>whnf
  refine ask_c (p_ref24_key_v _) H rfl rfl (fun v12 H=>?_);conv=>whnf
  refine tst_c H (fun b13 H=>?_) (fun b13 H=>?_)
  ·conv=>whnf
   obtain rfl := Option.some.inj H
   have H := HQ7
   try dsimp only at H
   exact fin0_c (enc := V.i) H (.inr rfl) (.cons (.tmp rfl) (.nil)) rfl rfl
  conv=>whnf
  refine Ari.w ?_;conv=>whnf
  exact again_c [21,22,23,24,25,26,27,28,29,30,31,32,33,34,8,13,17] n8 1 [] (⟨_,H,rfl,rfl⟩) (Nat.lt_succ_self _) (Nat.zero_le _) rfl (by kernel_rfl) (by kernel_rfl) rfl ⟨⟨rfl,rfl,rfl⟩,trivial⟩
 conv=>whnf
 obtain rfl := Option.some.inj H
 have H := HQ7
 try dsimp only at H
 obtain ⟨o15,HL16,HQ17⟩ := bind_c H
 refine loop_c [2,4] [5,35,36,37,38,39,40,41,42,43,44,45,46,47,48,49,50,51,52,53,54,55,56,57,58,59,22] [5,35,36,37,38,39,40,41,42,43,44,45,46,47,48,49,50,51,52,53,54,55,56,57,58,59,22] (fun n vals st=>(∃ y19,p_ref24_Check_l2  a0 n y19 = some o15 ∧ vals = [.i (0 : Int),.i y19] ∧ st = [.live [.i a0.Seq,.sl (List.map BookRow.v a0.Rows) u1] 0])) fuel 1 [] (⟨_,HL16,rfl,rfl⟩) (Nat.zero_le _) rfl (by kernel_rfl) (by kernel_rfl) rfl ⟨⟨rfl,rfl,rfl⟩,trivial⟩ ?_
 rintro (_ | n18) _ _ (⟨y19,H,rfl,rfl⟩)
 ·rw [p_ref24_Check_l2] at H;cases H
 rw [p_ref24_Check_l2] at H
 conv=>whnf
 refine LenQ.M ?_;conv=>whnf
 refine tst_c H (fun b20 H=>?_) (fun b20 H=>?_)
 ·conv=>whnf
  refine ixs_c (f := BookRow.v) H (fun _=>rfl) (fun x21 H=>?_);conv=>whnf
  refine ⟨Nat.le_of_ble_eq_true rfl,?_⟩;conv=>whnf
  refine ask_c (p_ref23_Check_v _) H rfl rfl (fun v22 H=>?_);conv=>whnf
  refine tst_c H (fun b23 H=>?_) (fun b23 H=>?_)
  ·conv=>whnf
   obtain rfl := Option.some.inj H
   have H := HQ17
   try dsimp only at H
   exact fin0_c (enc := V.i) H (.inr rfl) (.cons (.tmp rfl) (.nil)) rfl rfl
  conv=>whnf
  refine ixs_c (f := BookRow.v) H (fun _=>rfl) (fun x24 H=>?_);conv=>whnf
  refine ⟨Nat.le_of_ble_eq_true rfl,?_⟩;conv=>whnf
  refine ⟨Nat.le_of_ble_eq_true rfl,?_⟩;conv=>whnf
  refine Tst.not ?_
  refine tst_d H (fun b25 H=>?_) (fun b25 H=>?_)
  ·conv=>whnf
   obtain rfl := Option.some.inj H
   have H := HQ17
   try dsimp only at H
   exact fin0_c (enc := V.i) H (.inr rfl) (.cons (.tmp rfl) (.nil)) rfl rfl
  conv=>whnf
  refine Ari.w ?_;conv=>whnf
  exact again_c [5,35,36,37,38,39,40,41,42,43,44,45,46,47,48,49,50,51,52,53,54,55,56,57,58,59,22] n18 1 [] (⟨_,H,rfl,rfl⟩) (Nat.lt_succ_self _) (Nat.zero_le _) rfl (by kernel_rfl) (by kernel_rfl) rfl ⟨⟨rfl,rfl,rfl⟩,trivial⟩
 conv=>whnf
 obtain rfl := Option.some.inj H
 have H := HQ17
 try dsimp only at H
 refine ask_c (p_ref24_ordered_v _) H rfl rfl (fun v26 H=>?_);conv=>whnf
 refine Tst.not ?_
 refine tst_d H (fun b27 H=>?_) (fun b27 H=>?_)
 ·conv=>whnf
  exact fin0_c (enc := V.i) H (.inr rfl) (.cons (.tmp rfl) (.nil)) rfl rfl
 conv=>whnf
 obtain ⟨o29,HL30,HQ31⟩ := bind_c H
 refine loop_c [2,6] [63,64,65,66,67,68,69,70,71,72,73,74,75,76,77,78,36] [63,64,65,66,67,68,69,70,71,72,73,74,75,76,77,78,36] (fun n vals st=>(∃ y33,p_ref24_Check_l3  a0 n y33 = some o29 ∧ vals = [.i (0 : Int),.i y33] ∧ st = [.live [.i a0.Seq,.sl (List.map BookRow.v a0.Rows) u1] 0])) fuel 1 [] (⟨_,HL30,rfl,rfl⟩) (Nat.zero_le _) rfl (by kernel_rfl) (by kernel_rfl) rfl ⟨⟨rfl,rfl,rfl⟩,trivial⟩ ?_
 rintro (_ | n32) _ _ (⟨y33,H,rfl,rfl⟩)
 ·rw [p_ref24_Check_l3] at H;cases H
 rw [p_ref24_Check_l3] at H
 conv=>whnf
 refine LenQ.M ?_;conv=>whnf
 refine tst_d H (fun b34 H=>?_) (fun b34 H=>?_)
 ·conv=>whnf
  obtain rfl := Option.some.inj H
  have H := HQ31
  try dsimp only at H
  exact fin0_c (enc := V.i) H (.inr rfl) (.cons (.tmp rfl) (.nil)) rfl rfl
 conv=>whnf
 refine ixs_c (f := BookRow.v) H (fun _=>rfl) (fun x35 H=>?_);conv=>whnf
 refine ⟨Nat.le_of_ble_eq_true rfl,?_⟩;conv=>whnf
 refine ask_c (p_ref24_many_v _ _) H rfl rfl (fun v36 H=>?_);conv=>whnf
 refine FootQ.mk ⟨rfl,?_⟩;conv=>whnf
 refine tst_c H (fun b37 H=>?_) (fun b37 H=>?_)
 ·conv=>whnf
  obtain rfl := Option.some.inj H
  have H := HQ31
  try dsimp only at H
  exact fin0_c (enc := V.i) H (.inr rfl) (.cons (.tmp rfl) (.nil)) rfl rfl
 conv=>whnf
 refine Ari.w ?_;conv=>whnf
 exact again_c [63,64,65,66,67,68,69,70,71,72,73,74,75,76,77,78,36] n32 1 [] (⟨_,H,rfl,rfl⟩) (Nat.lt_succ_self _) (Nat.zero_le _) rfl (by kernel_rfl) (by kernel_rfl) rfl ⟨⟨rfl,rfl,rfl⟩,trivial⟩
def gc14 : BCode := (.seq (.reg 2 [⟨(some 1),.bx (.tmp 0),none,0⟩,⟨(some 2),.al (.agg [(.lit (.int .i64 0)),(.sl [] true)]),none,1⟩] none 0 []) (.seq (.reg 1 [⟨(some 5),.fa 0 (.tmp 1),none,0⟩,⟨(some 6),.ld 1 false (.tmp 5),none,0⟩,⟨(some 7),.bd [(.lit (.int .i64 0)),(.sl [] true)] [(0,1,(.tmp 6))],none,0⟩,⟨(some 3),.al (.agg [(.lit (.int .i64 0)),(.sl [] true)]),none,0⟩,⟨none,.st 2 (.tmp 3) (.tmp 7),none,1⟩] none 0 []) (.seq (.seq (.reg 0 [⟨(some 4),.mv (.const (.int .i64 0)),none,0⟩] none 0 []) (.block 0 (.loop (.seq (.seq (.reg 0 [⟨(some 8),.mv (.tmp 4),none,0⟩,⟨(some 9),.fa 1 (.tmp 1),none,0⟩,⟨(some 10),.ld 1 false (.tmp 9),none,0⟩,⟨(some 11),.lens (.tmp 10),none,0⟩,⟨(some 12),.bin .lss (.tmp 8) (.tmp 11),none,0⟩] none 0 []) (.cond (.tmp 12) .skip (.exit 0))) (.seq (.block 1 (.reg 2 [⟨(some 15),.fa 1 (.tmp 3),none,0⟩,⟨(some 16),.ld 1 false (.tmp 15),none,0⟩,⟨(some 17),.fa 1 (.tmp 1),none,0⟩,⟨(some 18),.ld 1 false (.tmp 17),none,0⟩,⟨(some 19),.mv (.tmp 4),none,0⟩,⟨(some 20),.ixs 6 (.tmp 18) (.tmp 19),none,0⟩,⟨(some 21),.fa 0 (.tmp 20),none,0⟩,⟨(some 22),.ld 1 false (.tmp 21),none,0⟩,⟨(some 23),.fa 1 (.tmp 1),none,0⟩,⟨(some 24),.ld 1 false (.tmp 23),none,0⟩,⟨(some 25),.mv (.tmp 4),none,0⟩,⟨(some 26),.ixs 6 (.tmp 24) (.tmp 25),none,0⟩,⟨(some 27),.fa 1 (.tmp 26),none,0⟩,⟨(some 28),.ld 1 false (.tmp 27),none,0⟩,⟨(some 29),.fa 1 (.tmp 1),none,0⟩,⟨(some 30),.ld 1 false (.tmp 29),none,0⟩,⟨(some 31),.mv (.tmp 4),none,0⟩,⟨(some 32),.ixs 6 (.tmp 30) (.tmp 31),none,0⟩,⟨(some 33),.fa 2 (.tmp 32),none,0⟩,⟨(some 34),.ld 4 true (.tmp 33),none,0⟩,⟨(some 35),.bd [(.lit (.string ⟨#[]⟩)),(.lit (.string ⟨#[]⟩)),(.lit (.bool false)),(.lit (.int .i64 0)),(.lit (.int .i64 0)),(.lit (.int .i64 0))] [(0,1,(.tmp 22)),(1,1,(.tmp 28)),(2,4,(.tmp 34))],none,0⟩,⟨(some 36),.bs 6 1 [(.lit (.string ⟨#[]⟩)),(.lit (.string ⟨#[]⟩)),(.lit (.bool false)),(.lit (.int .i64 0)),(.lit (.int .i64 0)),(.lit (.int .i64 0))] [(0,(.tmp 35))],none,0⟩,⟨(some 37),.ap 6 64 (.tmp 16) (.tmp 36),none,1⟩,⟨(some 38),.fa 1 (.tmp 3),none,2⟩,⟨none,.st 1 (.tmp 38) (.tmp 37),none,2⟩] (some [[],[0],[],[2],[],[4,2,3],[3,2,4,5],[5,4,2,3,6],[],[8],[],[10,8,9],[9,8,10,11],[11,10,8,9,12],[],[14],[],[16,14,15],[15,14,16,17],[17,16,14,15,18],[18,15,14,16,17,19,12,9,8,10,11,13,6,3,2,4,5,7],[7,5,4,2,3,6,13,11,10,8,9,12,19,17,16,14,15,18,20],[20,18,15,14,16,17,19,12,9,8,10,11,13,6,3,2,4,5,7,21,0,1],[22,21,20,19,18,17,16,15,14,13,12,11,10,9,8,7,6,5,4,3,2,1,0],[0,1,2,3,4,5,6,7,8,9,10,11,12,13,14,15,16,17,18,19,20,21,22,23]]) 0 [])) (.reg 0 [⟨(some 13),.mv (.tmp 4),none,0⟩,⟨(some 14),.bin .add (.tmp 13) (.const (.int .i64 1)),none,0⟩,⟨(some 4),.mv (.tmp 14),none,0⟩] none 0 [])))))) (.seq (.reg 0 [⟨(some 39),.ld 2 true (.tmp 3),none,0⟩,⟨none,.st 2 (.tmp 2) (.tmp 39),none,0⟩] none 0 []) .ret))))
theorem gc14_ok : compF Tryz.prog Tryz.f14 = some (gc14.er,40,[.cell 2 2 true]) := by unfold gc14;kernel_rfl
set_option maxRecDepth 100000 in
set_option maxHeartbeats 4000000 in
theorem p_law26_Book_v {u1 : Bool} (a0 : BookState) : CallsO Tryz.prog 14 [.agg [.i a0.Seq,.sl (List.map BookRow.v a0.Rows) u1]] BookState.v (p_law26_Book a0) := by
 refine callsO_comp mix Tryz.func14 gc14_ok fun r H=>?_
 rw [p_law26_Book] at H
 conv=>whnf
 refine ⟨Nat.le_of_ble_eq_true rfl,?_⟩;conv=>whnf
 obtain ⟨o2,HL3,HQ4⟩ := bind_c H
 refine loop_c [4] [8,9,10,11,12,13,14,15,16,17,18,19,20,21,22,23,24,25,26,27,28,29,30,31,32,33,34,35,36,37,38,5] [8,9,10,11,12,13,14,15,16,17,18,19,20,21,22,23,24,25,26,27,28,29,30,31,32,33,34,35,36,37,38,5] (fun n vals st=>(∃ y6 y7,p_law26_Book_l1  a0 n y6 y7 = some o2 ∧ vals = [.i y6] ∧ st = [.live [.i a0.Seq,.sl (List.map BookRow.v a0.Rows) u1] 0,.live [.i (0 : Int),.sl (List.map BookRow.v []) true] 0,.live [.i y7.Seq,.sl (List.map BookRow.v y7.Rows) true] 0]) ∨ (∃ y13 y14,p_law26_Book_l1  a0 n y13 y14 = some o2 ∧ vals = [.i y13] ∧ st = [.live [.i a0.Seq,.sl (List.map BookRow.v a0.Rows) u1] 0,.live [.i (0 : Int),.sl (List.map BookRow.v []) true] 0,.live [.i y14.Seq,.osl 3 0 (List.length y14.Rows) 6 false] 0,.live (cellsM BookRow.v y14.Rows) (cellsM BookRow.v y14.Rows).length])) fuel 3 [] (.inl (⟨_,_,HL3,rfl,rfl⟩)) (Nat.zero_le _) rfl (by kernel_rfl) (by kernel_rfl) rfl ⟨⟨rfl,rfl,rfl⟩,⟨⟨rfl,rfl,rfl⟩,⟨⟨rfl,rfl,rfl⟩,trivial⟩⟩⟩ ?_
 rintro (_ | n5) _ _ (⟨y6,y7,H,rfl,rfl⟩ | ⟨y13,y14,H,rfl,rfl⟩)
 ·rw [p_law26_Book_l1] at H;cases H
 ·rw [p_law26_Book_l1] at H;cases H
 ·rw [p_law26_Book_l1] at H
  conv=>whnf
  refine LenQ.M ?_;conv=>whnf
  refine tst_d H (fun b8 H=>?_) (fun b8 H=>?_)
  ·conv=>whnf
   obtain rfl := Option.some.inj H
   have H := HQ4
   try dsimp only at H
   refine ⟨Nat.le_of_ble_eq_true rfl,?_⟩;conv=>whnf
   refine finR_c (enc := BookState.v) H ?_;conv=>whnf
   exact ⟨_,.v (fzagg (.cons (.id rfl) (.cons (.slw) (.nil))) rfl)⟩
  conv=>whnf
  refine ixs_c (f := BookRow.v) H (fun _=>rfl) (fun x9 H=>?_);conv=>whnf
  refine ⟨Nat.le_of_ble_eq_true rfl,?_⟩;conv=>whnf
  refine ixs_c (f := BookRow.v) H (fun _=>rfl) (fun x10 H=>?_);conv=>whnf
  refine ⟨Nat.le_of_ble_eq_true rfl,?_⟩;conv=>whnf
  refine ixs_c (f := BookRow.v) H (fun _=>rfl) (fun x11 H=>?_);conv=>whnf
  refine ⟨Nat.le_of_ble_eq_true rfl,?_⟩;conv=>whnf
  refine appN_c (f := BookRow.v) H (fun _=>rfl) (srcM (f := BookRow.v) (fun _=>rfl) _ _) rfl (.v (srcOwn (f := BookRow.v) (l := [(BookRow.mk x9.User x10.Res x11.P)]) (fun _=>rfl) rfl rfl rfl)) (by decide) rfl (by simp) (fun l12 H=>?_);conv=>whnf
  refine ⟨Nat.le_of_ble_eq_true rfl,?_⟩;conv=>whnf
  refine FootQ.mk ⟨rfl,?_⟩;conv=>whnf
  refine Ari.w ?_;conv=>whnf
  exact again_c [8,9,10,11,12,13,14,15,16,17,18,19,20,21,22,23,24,25,26,27,28,29,30,31,32,33,34,35,36,37,38,5] n5 4 [0,1,2,4] (.inr (⟨_,_,H,rfl,rfl⟩)) (Nat.lt_succ_self _) (Nat.zero_le _) rfl (by kernel_rfl) (by kernel_rfl) rfl ⟨⟨rfl,rfl,rfl⟩,⟨⟨rfl,rfl,rfl⟩,⟨⟨rfl,rfl,rfl⟩,wkB_live0 rfl (cellsM_idlt (f := BookRow.v) (fun _=>rfl) _) rfl trivial⟩⟩⟩
 rw [p_law26_Book_l1] at H
 conv=>whnf
 refine LenQ.M ?_;conv=>whnf
 refine tst_d H (fun b15 H=>?_) (fun b15 H=>?_)
 ·conv=>whnf
  obtain rfl := Option.some.inj H
  have H := HQ4
  try dsimp only at H
  refine ⟨Nat.le_of_ble_eq_true rfl,?_⟩;conv=>whnf
  refine finR_c (enc := BookState.v) H ?_;conv=>whnf
  exact ⟨_,.v (fzagg (.cons (.id rfl) (.cons (fzown (f := BookRow.v) (l := y14.Rows) rfl rfl (fun _=>rfl) (fun _=>rfl)) (.nil))) rfl)⟩
 conv=>whnf
 refine ixs_c (f := BookRow.v) H (fun _=>rfl) (fun x16 H=>?_);conv=>whnf
 refine ⟨Nat.le_of_ble_eq_true rfl,?_⟩;conv=>whnf
 refine ixs_c (f := BookRow.v) H (fun _=>rfl) (fun x17 H=>?_);conv=>whnf
 refine ⟨Nat.le_of_ble_eq_true rfl,?_⟩;conv=>whnf
 refine ixs_c (f := BookRow.v) H (fun _=>rfl) (fun x18 H=>?_);conv=>whnf
 refine ⟨Nat.le_of_ble_eq_true rfl,?_⟩;conv=>whnf
 refine appO_c (f := BookRow.v) H (fun _=>rfl) rfl (Nat.le_refl _) (.v (srcOwn (f := BookRow.v) (l := [(BookRow.mk x16.User x17.Res x18.P)]) (fun _=>rfl) rfl rfl rfl)) (by decide) rfl (by simp) (fun l19 H=>?_);conv=>whnf
 refine ⟨Nat.le_of_ble_eq_true rfl,?_⟩;conv=>whnf
 refine FootQ.mk ⟨rfl,?_⟩;conv=>whnf
 refine Ari.w ?_;conv=>whnf
 exact again_c [8,9,10,11,12,13,14,15,16,17,18,19,20,21,22,23,24,25,26,27,28,29,30,31,32,33,34,35,36,37,38,5] n5 4 [0,1,2,5] (.inr (⟨_,_,H,rfl,rfl⟩)) (Nat.lt_succ_self _) (Nat.zero_le _) rfl (by kernel_rfl) (by kernel_rfl) rfl ⟨⟨rfl,rfl,rfl⟩,⟨⟨rfl,rfl,rfl⟩,⟨⟨rfl,rfl,rfl⟩,wkB_live0 rfl (cellsM_idlt (f := BookRow.v) (fun _=>rfl) _) rfl trivial⟩⟩⟩
def gc40 : BCode := (.seq (.reg 1 [⟨(some 1),.bx (.tmp 0),none,0⟩,⟨(some 2),.mv (.const (.bool false)),none,1⟩] none 0 []) (.seq (.reg 0 [⟨(some 3),.fa 1 (.tmp 1),none,0⟩,⟨(some 4),.ld 1 false (.tmp 3),none,0⟩,⟨(some 5),.lent (.tmp 4),none,0⟩,⟨(some 6),.bin .leq (.tmp 5) (.const (.int .i64 100)),none,0⟩,⟨(some 7),.mv (.tmp 6),none,0⟩,⟨(some 8),.fa 2 (.tmp 1),(some (7,true)),0⟩,⟨(some 9),.ld 1 false (.tmp 8),(some (7,true)),0⟩,⟨(some 10),.lent (.tmp 9),(some (7,true)),0⟩,⟨(some 11),.bin .leq (.tmp 10) (.const (.int .i64 100)),(some (7,true)),0⟩,⟨(some 12),.pick (.tmp 7) (.tmp 11) (.const (.bool false)),none,0⟩,⟨(some 13),.mv (.tmp 12),none,0⟩,⟨(some 14),.fa 3 (.tmp 1),(some (13,true)),0⟩,⟨(some 15),.ld 1 false (.tmp 14),(some (13,true)),0⟩,⟨(some 16),.lent (.tmp 15),(some (13,true)),0⟩,⟨(some 17),.bin .leq (.tmp 16) (.const (.int .i64 100)),(some (13,true)),0⟩,⟨(some 18),.pick (.tmp 13) (.tmp 17) (.const (.bool false)),none,0⟩,⟨(some 2),.mv (.tmp 18),none,0⟩] none 0 []) .ret))
theorem gc40_ok : compF Tryz.prog Tryz.f40 = some (gc40.er,19,[.tmp 2]) := by unfold gc40;kernel_rfl
set_option maxRecDepth 100000 in
set_option maxHeartbeats 4000000 in
theorem p_ref10_Light_v (a0 : StanzaStanza) : CallsO Tryz.prog 40 [.agg [.y8 a0.Kind,.s a0.User,.s a0.Res,.s a0.Name,.i a0.Show,.i a0.Prio,.i a0.Code,.i a0.N]] V.b (p_ref10_Light a0) := by
 refine callsO_comp mix Tryz.func40 gc40_ok fun r H=>?_
 rw [p_ref10_Light] at H
 conv=>whnf
 refine tst_d H (fun b1 H=>?_) (fun b1 H=>?_)
 ·conv=>whnf
  iterate 9 (refine Tst.F ?_;conv=>whnf)
  exact fin0_c (enc := V.b) H (.inr rfl) (.cons (.tmp rfl) (.nil)) rfl rfl
 conv=>whnf
 iterate 4 (refine Tst.T ?_;conv=>whnf)
 refine tst_c H (fun b2 H=>?_) (fun b2 H=>?_)
 ·conv=>whnf
  iterate 4 (refine Tst.T ?_;conv=>whnf)
  exact fin0_c (enc := V.b) H (.inr rfl) (.cons (.tmp rfl) (.nil)) rfl rfl
 conv=>whnf
 iterate 4 (refine Tst.F ?_;conv=>whnf)
 exact fin0_c (enc := V.b) H (.inr rfl) (.cons (.tmp rfl) (.nil)) rfl rfl
end Go.Proofs.YthlhbgedidipkaaGreat

