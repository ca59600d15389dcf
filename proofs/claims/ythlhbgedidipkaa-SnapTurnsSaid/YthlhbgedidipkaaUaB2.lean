/- A part of the proof: 1 texts joined. -/
import Derived.Test.YthlhbgedidipkaaUaB1
import Derived.Test.YthlhbgedidipkaaUaA14
import Derived.Test.YthlhbgedidipkaaUaA15
import Derived.Test.YthlhbgedidipkaaUaA17
import Derived.Test.YthlhbgedidipkaaUaA8
import Derived.KernelRfl
set_option linter.all false
/- That the program's functions yield what the plain ones tell (written by a program of mine). -/
namespace Go.Proofs.Ythlhbgedidipkaa
open Go.RowKit
def gc4 : BCode := (.seq (.reg 0 [⟨(some 4),.mv (.const (.bool false)),none,0⟩] none 0 []) (.seq (.seq (.reg 0 [⟨(some 20),.mv (.tmp 0),none,0⟩,⟨(some 21),.lens (.tmp 20),none,0⟩,⟨(some 22),.bin .gtr (.tmp 21) (.const (.int .i64 60)),none,0⟩] none 0 []) (.cond (.tmp 22) (.seq (.reg 0 [⟨(some 23),.cl 9 [],none,0⟩,⟨(some 4),.mv (.tmp 23),none,0⟩] none 0 []) .ret) .skip)) (.seq (.reg 1 [⟨(some 5),.al (.agg [(.sl [] true),(.sl [] true)]),none,0⟩] none 0 []) (.seq (.seq (.reg 0 [⟨(some 6),.mv (.const (.int .i64 0)),none,0⟩] none 0 []) (.block 0 (.loop (.seq (.seq (.reg 0 [⟨(some 24),.mv (.tmp 6),none,0⟩,⟨(some 25),.bin .lss (.tmp 24) (.const (.int .i64 8)),none,0⟩] none 0 []) (.cond (.tmp 25) .skip (.exit 0))) (.seq (.block 1 (.seq (.reg 0 [⟨(some 28),.mv (.tmp 1),none,0⟩,⟨(some 29),.mv (.tmp 6),none,0⟩,⟨(some 30),.bin .shr (.tmp 28) (.tmp 29),none,0⟩,⟨(some 31),.bin .and (.tmp 30) (.const (.int .u8 1)),none,0⟩,⟨(some 32),.bin .eql (.tmp 31) (.const (.int .u8 1)),none,0⟩] none 0 []) (.cond (.tmp 32) (.reg 2 [⟨(some 33),.fa 0 (.tmp 5),none,0⟩,⟨(some 34),.ld 1 false (.tmp 33),none,0⟩,⟨(some 35),.mv (.tmp 6),none,0⟩,⟨(some 36),.cvi .u8 (.tmp 35),none,0⟩,⟨(some 37),.cl 11 [(.tmp 36)],none,0⟩,⟨(some 38),.bs 1 1 [(.lit (.string ⟨#[]⟩))] [(0,(.tmp 37))],none,0⟩,⟨(some 39),.ap 1 16 (.tmp 34) (.tmp 38),none,1⟩,⟨(some 40),.fa 0 (.tmp 5),none,2⟩,⟨none,.st 1 (.tmp 40) (.tmp 39),none,2⟩] (some [[],[0],[],[2],[2,3],[3,2,4],[4,2,3,5,0,1],[6,5,4,3,2,1,0],[0,1,2,3,4,5,6,7]]) 0 []) .skip))) (.reg 0 [⟨(some 26),.mv (.tmp 6),none,0⟩,⟨(some 27),.bin .add (.tmp 26) (.const (.int .i64 1)),none,0⟩,⟨(some 6),.mv (.tmp 27),none,0⟩] none 0 [])))))) (.seq (.reg 1 [⟨(some 7),.al (.agg [(.lit (.int .i64 0)),(.sl [] true)]),none,0⟩] none 0 []) (.seq (.reg 1 [⟨(some 41),.cl 19 [],none,0⟩,⟨(some 8),.al (.agg [(.lit (.bool false)),(.lit (.bool false)),(.lit (.string ⟨#[]⟩)),(.lit (.int .i64 0))]),none,0⟩,⟨none,.st 4 (.tmp 8) (.tmp 41),none,1⟩] none 0 []) (.seq (.reg 0 [⟨(some 9),.mv (.const (.string ⟨#[]⟩)),none,0⟩] none 0 []) (.seq (.seq (.reg 0 [⟨(some 10),.mv (.const (.int .i64 0)),none,0⟩] none 0 []) (.block 2 (.loop (.seq (.seq (.reg 0 [⟨(some 42),.mv (.tmp 10),none,0⟩,⟨(some 43),.mv (.tmp 0),none,0⟩,⟨(some 44),.lens (.tmp 43),none,0⟩,⟨(some 45),.bin .lss (.tmp 42) (.tmp 44),none,0⟩] none 0 []) (.cond (.tmp 45) .skip (.exit 2))) (.seq (.block 3 (.join (.seq (.reg 0 [⟨(some 48),.mv (.tmp 0),none,0⟩,⟨(some 49),.mv (.tmp 10),none,0⟩,⟨(some 50),.ixs 4 (.tmp 48) (.tmp 49),none,0⟩,⟨(some 51),.fa 2 (.tmp 50),none,0⟩,⟨(some 52),.ld 1 false (.tmp 51),none,0⟩] none 0 []) (.cond (.tmp 52) (.reg 0 [⟨(some 54),.ld 2 true (.tmp 7),none,0⟩,⟨(some 55),.mv (.tmp 0),none,0⟩,⟨(some 56),.mv (.tmp 10),none,0⟩,⟨(some 57),.ixs 4 (.tmp 55) (.tmp 56),none,0⟩,⟨(some 58),.fa 0 (.tmp 57),none,0⟩,⟨(some 59),.ld 1 false (.tmp 58),none,0⟩,⟨(some 60),.cl 11 [(.tmp 59)],none,0⟩,⟨(some 61),.cl 12 [(.tmp 54),(.tmp 60),(.const (.string ⟨#[]⟩))],none,0⟩,⟨(some 53),.mv (.tmp 61),none,0⟩,⟨(some 62),.ex (.tmp 53) 0,none,0⟩,⟨(some 63),.ex (.tmp 53) 1,none,0⟩,⟨(some 64),.ex (.tmp 53) 2,none,0⟩,⟨none,.st 2 (.tmp 7) (.tmp 62),none,0⟩] (some [[],[],[],[2,1],[1,2,3],[3,2,1,4],[4,1,2,3,5],[5,3,2,1,4,6,0],[0,6,4,1,2,3,5,7],[7,5,3,2,1,4,6,0,8],[7,5,3,2,1,4,6,0,8],[7,5,3,2,1,4,6,0,8],[8,0,6,4,1,2,3,5,7,9]]) 0 []) (.reg 0 [⟨(some 66),.ld 2 true (.tmp 7),none,0⟩,⟨(some 67),.mv (.tmp 0),none,0⟩,⟨(some 68),.mv (.tmp 10),none,0⟩,⟨(some 69),.ixs 4 (.tmp 67) (.tmp 68),none,0⟩,⟨(some 70),.fa 0 (.tmp 69),none,0⟩,⟨(some 71),.ld 1 false (.tmp 70),none,0⟩,⟨(some 72),.cl 11 [(.tmp 71)],none,0⟩,⟨(some 73),.mv (.tmp 0),none,0⟩,⟨(some 74),.mv (.tmp 10),none,0⟩,⟨(some 75),.ixs 4 (.tmp 73) (.tmp 74),none,0⟩,⟨(some 76),.fa 1 (.tmp 75),none,0⟩,⟨(some 77),.ld 1 false (.tmp 76),none,0⟩,⟨(some 78),.bin .rem (.tmp 77) (.const (.int .u8 5)),none,0⟩,⟨(some 79),.cvi .i64 (.tmp 78),none,0⟩,⟨(some 80),.cl 13 [(.tmp 66),(.tmp 72),(.const (.string ⟨#[]⟩)),(.tmp 79),(.const (.int .i64 0))],none,0⟩,⟨(some 65),.mv (.tmp 80),none,0⟩,⟨(some 81),.ex (.tmp 65) 0,none,0⟩,⟨(some 82),.ex (.tmp 65) 1,none,0⟩,⟨(some 83),.ex (.tmp 65) 2,none,0⟩,⟨none,.st 2 (.tmp 7) (.tmp 81),none,0⟩] (some [[],[],[],[2,1],[1,2,3],[3,2,1,4],[4,1,2,3,5],[],[],[8,7],[7,8,9],[9,8,7,10],[10,7,8,9,11],[11,9,8,7,10,12],[12,10,7,8,9,11,13,5,3,2,1,4,6,0],[0,6,4,1,2,3,5,13,11,9,8,7,10,12,14],[14,12,10,7,8,9,11,13,5,3,2,1,4,6,0,15],[14,12,10,7,8,9,11,13,5,3,2,1,4,6,0,15],[14,12,10,7,8,9,11,13,5,3,2,1,4,6,0,15],[15,0,6,4,1,2,3,5,13,11,9,8,7,10,12,14,16]]) 0 []))) (.seq (.seq (.reg 0 [⟨(some 84),.mv (.tmp 0),none,0⟩,⟨(some 85),.mv (.tmp 10),none,0⟩,⟨(some 86),.ixs 4 (.tmp 84) (.tmp 85),none,0⟩,⟨(some 87),.fa 3 (.tmp 86),none,0⟩,⟨(some 88),.ld 1 false (.tmp 87),none,0⟩,⟨(some 89),.un .not (.tmp 88),none,0⟩] none 0 []) (.cond (.tmp 89) (.exit 3) .skip)) (.seq (.reg 2 [⟨(some 91),.ld 4 true (.tmp 8),none,0⟩,⟨(some 92),.ld 2 true (.tmp 5),none,0⟩,⟨(some 93),.ld 2 true (.tmp 7),none,0⟩,⟨(some 94),.cl 20 [(.tmp 91),(.tmp 92),(.tmp 93)],none,0⟩,⟨(some 90),.mv (.tmp 94),none,0⟩,⟨(some 95),.ex (.tmp 90) 0,none,0⟩,⟨(some 96),.ex (.tmp 90) 1,none,0⟩,⟨(some 97),.ex (.tmp 90) 2,none,0⟩,⟨(some 11),.al (.agg [(.lit (.bool false)),(.lit (.bool false)),(.lit (.string ⟨#[]⟩)),(.lit (.int .i64 0))]),none,0⟩,⟨(some 12),.al (.agg [(.lit (.int .u8 0)),(.lit (.string ⟨#[]⟩)),(.lit (.string ⟨#[]⟩)),(.lit (.string ⟨#[]⟩)),(.lit (.int .i64 0)),(.lit (.int .i64 0)),(.lit (.int .i64 0)),(.lit (.int .i64 0))]),none,1⟩,⟨none,.st 4 (.tmp 11) (.tmp 95),none,2⟩,⟨none,.st 8 (.tmp 12) (.tmp 96),none,2⟩,⟨(some 13),.mv (.tmp 97),none,2⟩] none 0 []) (.seq (.seq (.reg 0 [⟨(some 98),.mv (.tmp 13),none,0⟩,⟨(some 99),.fa 0 (.tmp 8),none,0⟩,⟨(some 100),.ld 1 false (.tmp 99),none,0⟩,⟨(some 101),.binb true (.tmp 98) (.tmp 100),none,0⟩,⟨(some 102),.mv (.tmp 101),none,0⟩,⟨(some 103),.ld 4 true (.tmp 11),(some (102,false)),0⟩,⟨(some 104),.cl 21 [(.tmp 103)],(some (102,false)),0⟩,⟨(some 105),.bin .neq (.tmp 104) (.const (.int .i64 0)),(some (102,false)),0⟩,⟨(some 106),.pick (.tmp 102) (.const (.bool true)) (.tmp 105),none,0⟩] none 0 []) (.cond (.tmp 106) (.seq (.reg 0 [⟨(some 4),.mv (.const (.bool false)),none,0⟩] none 0 []) .ret) .skip)) (.join (.seq (.reg 0 [⟨(some 107),.fa 0 (.tmp 12),none,0⟩,⟨(some 108),.ld 1 false (.tmp 107),none,0⟩,⟨(some 109),.bin .eql (.tmp 108) (.const (.int .u8 34)),none,0⟩] none 0 []) (.cond (.tmp 109) (.seq (.reg 1 [⟨(some 111),.ld 2 true (.tmp 7),none,0⟩,⟨(some 112),.fa 1 (.tmp 12),none,0⟩,⟨(some 113),.ld 1 false (.tmp 112),none,0⟩,⟨(some 114),.fa 2 (.tmp 12),none,0⟩,⟨(some 115),.ld 1 false (.tmp 114),none,0⟩,⟨(some 116),.cl 22 [(.tmp 111),(.tmp 113),(.tmp 115)],none,0⟩,⟨(some 110),.mv (.tmp 116),none,0⟩,⟨(some 117),.ex (.tmp 110) 0,none,0⟩,⟨(some 118),.ex (.tmp 110) 1,none,0⟩,⟨(some 14),.al (.agg [(.lit (.bool false)),(.lit (.int .i64 0)),(.lit (.int .i64 0)),(.lit (.int .i64 0))]),none,0⟩,⟨none,.st 4 (.tmp 14) (.tmp 117),none,1⟩,⟨(some 15),.mv (.tmp 118),none,1⟩] none 0 []) (.seq (.reg 0 [⟨(some 119),.fa 1 (.tmp 12),none,0⟩,⟨(some 120),.ld 1 false (.tmp 119),none,0⟩,⟨(some 121),.fa 2 (.tmp 12),none,0⟩,⟨(some 122),.ld 1 false (.tmp 121),none,0⟩,⟨(some 123),.cl 10 [(.tmp 120),(.tmp 122)],none,0⟩,⟨(some 16),.mv (.tmp 123),none,0⟩] none 0 []) (.seq (.seq (.reg 0 [⟨(some 124),.mv (.tmp 15),none,0⟩,⟨(some 125),.un .not (.tmp 124),none,0⟩,⟨(some 126),.mv (.tmp 125),none,0⟩,⟨(some 127),.fa 1 (.tmp 12),(some (126,false)),0⟩,⟨(some 128),.ld 1 false (.tmp 127),(some (126,false)),0⟩,⟨(some 129),.fa 2 (.tmp 12),(some (126,false)),0⟩,⟨(some 130),.ld 1 false (.tmp 129),(some (126,false)),0⟩,⟨(some 131),.ld 4 true (.tmp 14),(some (126,false)),0⟩,⟨(some 132),.cl 16 [(.tmp 128),(.tmp 130),(.tmp 131)],(some (126,false)),0⟩,⟨(some 133),.ld 8 true (.tmp 12),(some (126,false)),0⟩,⟨(some 134),.eqa true [1,2,2,2,1,1,1,1] (.tmp 132) (.tmp 133),(some (126,false)),0⟩,⟨(some 135),.pick (.tmp 126) (.const (.bool true)) (.tmp 134),none,0⟩,⟨(some 136),.mv (.tmp 135),none,0⟩,⟨(some 137),.mv (.tmp 16),(some (136,false)),0⟩,⟨(some 138),.mv (.tmp 9),(some (136,false)),0⟩,⟨(some 139),.bin .leq (.tmp 137) (.tmp 138),(some (136,false)),0⟩,⟨(some 140),.pick (.tmp 136) (.const (.bool true)) (.tmp 139),none,0⟩,⟨(some 141),.mv (.tmp 140),none,0⟩,⟨(some 142),.ld 4 true (.tmp 8),(some (141,false)),0⟩,⟨(some 143),.mv (.tmp 16),(some (141,false)),0⟩,⟨(some 144),.cl 23 [(.tmp 142),(.tmp 143)],(some (141,false)),0⟩,⟨(some 145),.un .not (.tmp 144),(some (141,false)),0⟩,⟨(some 146),.pick (.tmp 141) (.const (.bool true)) (.tmp 145),none,0⟩,⟨(some 147),.mv (.tmp 146),none,0⟩,⟨(some 148),.ld 4 true (.tmp 11),(some (147,false)),0⟩,⟨(some 149),.mv (.tmp 16),(some (147,false)),0⟩,⟨(some 150),.cl 23 [(.tmp 148),(.tmp 149)],(some (147,false)),0⟩,⟨(some 151),.pick (.tmp 147) (.const (.bool true)) (.tmp 150),none,0⟩,⟨(some 152),.mv (.tmp 151),none,0⟩,⟨(some 153),.fa 3 (.tmp 11),(some (152,false)),0⟩,⟨(some 154),.ld 1 false (.tmp 153),(some (152,false)),0⟩,⟨(some 155),.fa 3 (.tmp 8),(some (152,false)),0⟩,⟨(some 156),.ld 1 false (.tmp 155),(some (152,false)),0⟩,⟨(some 157),.bin .add (.tmp 156) (.const (.int .i64 1)),(some (152,false)),0⟩,⟨(some 158),.bin .neq (.tmp 154) (.tmp 157),(some (152,false)),0⟩,⟨(some 159),.pick (.tmp 152) (.const (.bool true)) (.tmp 158),none,0⟩] (some [[],[0],[0,1],[1,0,2],[2,0,1,3],[1,0,2],[2,0,1,5],[1,0,2],[7,5,6,3,1,0,2,4],[1,0,2],[9,4,2,0,1,3,6,5,7,8],[8,7,5,6,3,4,9,10,1,0,2],[2,0,1,10,9,4,3,6,5,7,8,11],[11,8,7,5,6,3,4,9,10,1,0,2,12],[11,8,7,5,6,3,4,9,10,1,0,2,12],[14,12,2,0,1,10,9,4,3,6,5,7,8,11,13],[13,14,15,11,8,7,5,6,3,4,9,10,1,0,2,12],[12,2,0,1,10,9,4,3,6,5,7,8,11,15,14,13,16],[16,13,14,15,11,8,7,5,6,3,4,9,10,1,0,2,12,17],[16,13,14,15,11,8,7,5,6,3,4,9,10,1,0,2,12,17],[19,17,12,2,0,1,10,9,4,3,6,5,7,8,11,15,14,13,16,18],[18,16,13,14,15,11,8,7,5,6,3,4,9,10,1,0,2,12,17,19,20],[20,19,18,21,16,13,14,15,11,8,7,5,6,3,4,9,10,1,0,2,12,17],[17,12,2,0,1,10,9,4,3,6,5,7,8,11,15,14,13,16,21,18,19,20,22],[22,20,19,18,21,16,13,14,15,11,8,7,5,6,3,4,9,10,1,0,2,12,17,23],[22,20,19,18,21,16,13,14,15,11,8,7,5,6,3,4,9,10,1,0,2,12,17,23],[25,23,17,12,2,0,1,10,9,4,3,6,5,7,8,11,15,14,13,16,21,18,19,20,22,24],[24,25,26,22,20,19,18,21,16,13,14,15,11,8,7,5,6,3,4,9,10,1,0,2,12,17,23],[23,17,12,2,0,1,10,9,4,3,6,5,7,8,11,15,14,13,16,21,18,19,20,22,26,25,24,27],[27,24,25,26,22,20,19,18,21,16,13,14,15,11,8,7,5,6,3,4,9,10,1,0,2,12,17,23,28],[28,23,17,12,2,0,1,10,9,4,3,6,5,7,8,11,15,14,13,16,21,18,19,20,22,26,25,24,27,29],[27,24,25,26,22,20,19,18,21,16,13,14,15,11,8,7,5,6,3,4,9,10,1,0,2,12,17,23,28],[28,23,17,12,2,0,1,10,9,4,3,6,5,7,8,11,15,14,13,16,21,18,19,20,22,26,25,24,27,31],[31,27,24,25,26,22,20,19,18,21,16,13,14,15,11,8,7,5,6,3,4,9,10,1,0,2,12,17,23,28,32],[32,31,33,29,27,24,25,26,22,20,19,18,21,16,13,14,15,11,8,7,5,6,3,4,9,10,1,0,2,12,17,23,28,30],[30,29,33,31,32,34,27,24,25,26,22,20,19,18,21,16,13,14,15,11,8,7,5,6,3,4,9,10,1,0,2,12,17,23,28]]) 0 []) (.cond (.tmp 159) (.seq (.reg 0 [⟨(some 4),.mv (.const (.bool false)),none,0⟩] none 0 []) .ret) .skip)) (.reg 0 [⟨(some 160),.mv (.tmp 16),none,0⟩,⟨(some 9),.mv (.tmp 160),none,0⟩] none 0 [])))) .skip)) (.seq (.seq (.reg 0 [⟨(some 161),.fa 0 (.tmp 12),none,0⟩,⟨(some 162),.ld 1 false (.tmp 161),none,0⟩,⟨(some 163),.bin .eql (.tmp 162) (.const (.int .u8 37)),none,0⟩] none 0 []) (.cond (.tmp 163) (.seq (.reg 0 [⟨(some 17),.mv (.const (.int .i64 0)),none,0⟩] none 0 []) (.block 4 (.loop (.seq (.seq (.reg 0 [⟨(some 164),.mv (.tmp 17),none,0⟩,⟨(some 165),.fa 1 (.tmp 7),none,0⟩,⟨(some 166),.ld 1 false (.tmp 165),none,0⟩,⟨(some 167),.lens (.tmp 166),none,0⟩,⟨(some 168),.bin .lss (.tmp 164) (.tmp 167),none,0⟩] none 0 []) (.cond (.tmp 168) .skip (.exit 4))) (.seq (.block 5 (.seq (.reg 1 [⟨(some 171),.fa 1 (.tmp 7),none,0⟩,⟨(some 172),.ld 1 false (.tmp 171),none,0⟩,⟨(some 173),.mv (.tmp 17),none,0⟩,⟨(some 174),.ixs 6 (.tmp 172) (.tmp 173),none,0⟩,⟨(some 175),.ld 6 true (.tmp 174),none,0⟩,⟨(some 18),.al (.agg [(.lit (.string ⟨#[]⟩)),(.lit (.string ⟨#[]⟩)),(.lit (.bool false)),(.lit (.int .i64 0)),(.lit (.int .i64 0)),(.lit (.int .i64 0))]),none,0⟩,⟨none,.st 6 (.tmp 18) (.tmp 175),none,1⟩] none 0 []) (.seq (.reg 0 [⟨(some 176),.ld 2 true (.tmp 5),none,0⟩,⟨(some 177),.ld 6 true (.tmp 18),none,0⟩,⟨(some 178),.cl 17 [(.tmp 176),(.tmp 177)],none,0⟩,⟨(some 179),.mv (.tmp 178),none,0⟩,⟨(some 180),.fa 0 (.tmp 18),(some (179,true)),0⟩,⟨(some 181),.ld 1 false (.tmp 180),(some (179,true)),0⟩,⟨(some 182),.fa 1 (.tmp 18),(some (179,true)),0⟩,⟨(some 183),.ld 1 false (.tmp 182),(some (179,true)),0⟩,⟨(some 184),.cl 10 [(.tmp 181),(.tmp 183)],(some (179,true)),0⟩,⟨(some 185),.mv (.tmp 9),(some (179,true)),0⟩,⟨(some 186),.bin .gtr (.tmp 184) (.tmp 185),(some (179,true)),0⟩,⟨(some 187),.pick (.tmp 179) (.tmp 186) (.const (.bool false)),none,0⟩] none 0 []) (.cond (.tmp 187) (.seq (.reg 0 [⟨(some 4),.mv (.const (.bool false)),none,0⟩] none 0 []) .ret) .skip)))) (.reg 0 [⟨(some 169),.mv (.tmp 17),none,0⟩,⟨(some 170),.bin .add (.tmp 169) (.const (.int .i64 1)),none,0⟩,⟨(some 17),.mv (.tmp 170),none,0⟩] none 0 [])))))) .skip)) (.reg 0 [⟨(some 188),.ld 4 true (.tmp 11),none,0⟩,⟨none,.st 4 (.tmp 8) (.tmp 188),none,0⟩] none 0 [])))))))) (.reg 0 [⟨(some 46),.mv (.tmp 10),none,0⟩,⟨(some 47),.bin .add (.tmp 46) (.const (.int .i64 1)),none,0⟩,⟨(some 10),.mv (.tmp 47),none,0⟩] none 0 [])))))) (.seq (.reg 0 [⟨(some 19),.mv (.const (.int .i64 0)),none,0⟩] none 0 []) (.seq (.block 6 (.loop (.seq (.seq (.reg 0 [⟨(some 189),.fa 0 (.tmp 8),none,0⟩,⟨(some 190),.ld 1 false (.tmp 189),none,0⟩,⟨(some 191),.mv (.tmp 190),none,0⟩,⟨(some 192),.mv (.tmp 19),(some (191,true)),0⟩,⟨(some 193),.bin .lss (.tmp 192) (.const (.int .i64 30)),(some (191,true)),0⟩,⟨(some 194),.pick (.tmp 191) (.tmp 193) (.const (.bool false)),none,0⟩] none 0 []) (.cond (.tmp 194) .skip (.exit 6))) (.block 7 (.seq (.reg 0 [⟨(some 196),.ld 4 true (.tmp 8),none,0⟩,⟨(some 197),.ld 2 true (.tmp 5),none,0⟩,⟨(some 198),.ld 2 true (.tmp 7),none,0⟩,⟨(some 199),.cl 20 [(.tmp 196),(.tmp 197),(.tmp 198)],none,0⟩,⟨(some 195),.mv (.tmp 199),none,0⟩,⟨(some 200),.ex (.tmp 195) 0,none,0⟩,⟨(some 201),.ex (.tmp 195) 1,none,0⟩,⟨(some 202),.ex (.tmp 195) 2,none,0⟩,⟨none,.st 4 (.tmp 8) (.tmp 200),none,0⟩] none 0 []) (.reg 0 [⟨(some 203),.mv (.tmp 19),none,0⟩,⟨(some 204),.bin .add (.tmp 203) (.const (.int .i64 1)),none,0⟩,⟨(some 19),.mv (.tmp 204),none,0⟩] none 0 [])))))) (.seq (.reg 0 [⟨(some 205),.mv (.tmp 19),none,0⟩,⟨(some 206),.ld 2 true (.tmp 5),none,0⟩,⟨(some 207),.ld 2 true (.tmp 7),none,0⟩,⟨(some 208),.cl 18 [(.tmp 206),(.tmp 207)],none,0⟩,⟨(some 209),.bin .add (.tmp 208) (.const (.int .i64 2)),none,0⟩,⟨(some 210),.bin .leq (.tmp 205) (.tmp 209),none,0⟩,⟨(some 211),.mv (.tmp 210),none,0⟩,⟨(some 212),.ld 4 true (.tmp 8),(some (211,true)),0⟩,⟨(some 213),.bd [(.lit (.bool false)),(.lit (.bool false)),(.lit (.string ⟨#[]⟩)),(.lit (.int .i64 0))] [],(some (211,true)),0⟩,⟨(some 214),.eqa false [0,0,2,1] (.tmp 212) (.tmp 213),(some (211,true)),0⟩,⟨(some 215),.pick (.tmp 211) (.tmp 214) (.const (.bool false)),none,0⟩,⟨(some 216),.mv (.tmp 215),none,0⟩,⟨(some 217),.cl 9 [],(some (216,true)),0⟩,⟨(some 218),.pick (.tmp 216) (.tmp 217) (.const (.bool false)),none,0⟩,⟨(some 4),.mv (.tmp 218),none,0⟩] none 0 []) .ret)))))))))))
set_option maxRecDepth 1000000 in
theorem gc4_ok : compF Try.prog Try.f4 = some (gc4.er,219,[.tmp 4]) := by unfold gc4;kernel_rfl
set_option maxRecDepth 100000 in
set_option maxHeartbeats 4000000 in
theorem p_law26_SnapTurns_v {u1 : Bool} (a0 : List Law26Deed) (a1 : Int) : CallsO Try.prog 4 [.sl (List.map Law26Deed.v a0) u1,.y8 a1] V.b (p_law26_SnapTurns a0 a1) := by
 refine callsO_comp mix Try.func4 gc4_ok fun r H=>?_
 rw [p_law26_SnapTurns] at H
 conv=>whnf
 refine LenQ.M ?_;conv=>whnf
 refine tst_c H (fun b1 H=>?_) (fun b1 H=>?_)
 ·conv=>whnf
  refine ask_c (p_law26_awake_v) H rfl rfl (fun v2 H=>?_);conv=>whnf
  exact fin0_c (enc := V.b) H (.inr rfl) (.cons (.tmp rfl) (.nil)) rfl rfl
 conv=>whnf
 obtain ⟨o4,HL5,HQ6⟩ := bind_c H
 refine loop_c [6] [24,25,26,27,28,29,30,31,32,33,34,35,36,37,38,39,40] [24,25,26,27,28,29,30,31,32,33,34,35,36,37,38,39,40] (fun n vals st=>(∃ y8 y9,p_law26_SnapTurns_l1  a1 n y8 y9 = some o4 ∧ vals = [.i y8] ∧ st = [.live [.sl (List.map V.s y9.Users) true,.sl (List.map V.s y9.Keys) true] 0]) ∨ (∃ y15 y16,p_law26_SnapTurns_l1  a1 n y15 y16 = some o4 ∧ vals = [.i y15] ∧ st = [.live [.osl 1 0 (List.length y16.Users) 1 false,.sl (List.map V.s y16.Keys) true] 0,.live (cellsM V.s y16.Users) (cellsM V.s y16.Users).length]) ∨ (∃ y17 y18,p_law26_SnapTurns_l1  a1 n y17 y18 = some o4 ∧ vals = [.i y17] ∧ st = [.live [.sl (List.map V.s y18.Users) true,.sl (List.map V.s y18.Keys) true] 0])) fuel 1 [] (.inl (⟨_,_,HL5,rfl,rfl⟩)) (Nat.zero_le _) rfl (by kernel_rfl) (by kernel_rfl) rfl ⟨⟨rfl,rfl,rfl⟩,trivial⟩ ?_
 rintro (_ | n7) _ _ (⟨y8,y9,H,rfl,rfl⟩ | ⟨y15,y16,H,rfl,rfl⟩ | ⟨y17,y18,H,rfl,rfl⟩)
 ·rw [p_law26_SnapTurns_l1] at H;cases H
 ·rw [p_law26_SnapTurns_l1] at H;cases H
 ·rw [p_law26_SnapTurns_l1] at H;cases H
 ·rw [p_law26_SnapTurns_l1] at H
  conv=>whnf
  refine tst_c H (fun b10 H=>?_) (fun b10 H=>?_)
  ·conv=>whnf
   refine Shr.ok (pos_c H).1 ((fun H=>?_) (pos_c H).2);conv=>whnf
   refine tst_d H (fun b12 H=>?_) (fun b12 H=>?_)
   ·conv=>whnf
    refine Ari.w ?_;conv=>whnf
    exact again_c [24,25,26,27,28,29,30,31,32,33,34,35,36,37,38,39,40] n7 1 [] (.inr (.inr (⟨_,_,H,rfl,rfl⟩))) (Nat.lt_succ_self _) (Nat.zero_le _) rfl (by kernel_rfl) (by kernel_rfl) rfl ⟨⟨rfl,rfl,rfl⟩,trivial⟩
   conv=>whnf
   refine Ari.w ?_;conv=>whnf
   refine ask_c (p_law26_who_v _) H rfl rfl (fun v13 H=>?_);conv=>whnf
   refine appN_c (f := V.s) H (fun _=>rfl) (srcM (f := V.s) (fun _=>rfl) _ _) rfl (.v (srcOwn (f := V.s) (l := [v13]) (fun _=>rfl) rfl rfl rfl)) (by decide) rfl (by simp) (fun l14 H=>?_);conv=>whnf
   refine ⟨Nat.le_of_ble_eq_true rfl,?_⟩;conv=>whnf
   refine FootQ.mk ⟨rfl,?_⟩;conv=>whnf
   refine Ari.w ?_;conv=>whnf
   exact again_c [24,25,26,27,28,29,30,31,32,33,34,35,36,37,38,39,40] n7 2 [0,2] (.inr (.inl (⟨_,_,H,rfl,rfl⟩))) (Nat.lt_succ_self _) (Nat.zero_le _) rfl (by kernel_rfl) (by kernel_rfl) rfl ⟨⟨rfl,rfl,rfl⟩,wkB_live0 rfl (cellsM_idlt (f := V.s) (fun _=>rfl) _) rfl trivial⟩
  conv=>whnf
  obtain rfl := Option.some.inj H
  have H := HQ6
  try dsimp only at H
  refine ask_c (p_snap_Begin_v) H rfl rfl (fun v19 H=>?_);conv=>whnf
  refine ⟨Nat.le_of_ble_eq_true rfl,?_⟩;conv=>whnf
  obtain ⟨o21,HL22,HQ23⟩ := bind_c H
  refine loop_c [4,9,10] [11,12,13,14,15,16,17,18,42,43,44,45,46,47,48,49,50,51,52,53,54,55,56,57,58,59,60,61,62,63,64,65,66,67,68,69,70,71,72,73,74,75,76,77,78,79,80,81,82,83,84,85,86,87,88,89,90,91,92,93,94,95,96,97,98,99,100,101,102,103,104,105,106,107,108,109,110,111,112,113,114,115,116,117,118,119,120,121,122,123,124,125,126,127,128,129,130,131,132,133,134,135,136,137,138,139,140,141,142,143,144,145,146,147,148,149,150,151,152,153,154,155,156,157,158,159,160,161,162,163,164,165,166,167,168,169,170,171,172,173,174,175,176,177,178,179,180,181,182,183,184,185,186,187,188] [11,12,13,14,15,16,17,18,42,43,44,45,46,47,48,49,50,51,52,53,54,55,56,57,58,59,60,61,62,63,64,65,66,67,68,69,70,71,72,73,74,75,76,77,78,79,80,81,82,83,84,85,86,87,88,89,90,91,92,93,94,95,96,97,98,99,100,101,102,103,104,105,106,107,108,109,110,111,112,113,114,115,116,117,118,119,120,121,122,123,124,125,126,127,128,129,130,131,132,133,134,135,136,137,138,139,140,141,142,143,144,145,146,147,148,149,150,151,152,153,154,155,156,157,158,159,160,161,162,163,164,165,166,167,168,169,170,171,172,173,174,175,176,177,178,179,180,181,182,183,184,185,186,187,188] (fun n vals st=>(∃ y25 y26 y27 y28,p_law26_SnapTurns_l2  a0 y9 n y25 y26 y27 y28 = some o21 ∧ vals = [.b false,.s y25,.i y26] ∧ st = [.live [.sl (List.map V.s y9.Users) true,.sl (List.map V.s y9.Keys) true] 0,.live [.i y27.Seq,.sl (List.map BookRow.v y27.Rows) true] 0,.live [.b y28.On,.b y28.Begun,.s y28.After,.i y28.Told] 0]) ∨ (∃ y84 y85 y86 y87,p_law26_SnapTurns_l2  a0 y9 n y84 y85 y86 y87 = some o21 ∧ vals = [.b false,.s y84,.i y85] ∧ st = [.live [.sl (List.map V.s y9.Users) true,.sl (List.map V.s y9.Keys) true] 0,.live [.i y86.Seq,.sl (List.map BookRow.v y86.Rows) false] 0,.live [.b y87.On,.b y87.Begun,.s y87.After,.i y87.Told] 0])) fuel 3 [] (.inl (⟨_,_,_,_,HL22,rfl,rfl⟩)) (Nat.zero_le _) rfl (by kernel_rfl) (by kernel_rfl) rfl ⟨⟨rfl,rfl,rfl⟩,⟨⟨rfl,rfl,rfl⟩,⟨⟨rfl,rfl,rfl⟩,trivial⟩⟩⟩ ?_
  rintro (_ | n24) _ _ (⟨y25,y26,y27,y28,H,rfl,rfl⟩ | ⟨y84,y85,y86,y87,H,rfl,rfl⟩)
  ·rw [p_law26_SnapTurns_l2] at H;cases H
  ·rw [p_law26_SnapTurns_l2] at H;cases H
  ·rw [p_law26_SnapTurns_l2] at H
   conv=>whnf
   refine LenQ.M ?_;conv=>whnf
   refine tst_d H (fun b29 H=>?_) (fun b29 H=>?_)
   ·conv=>whnf
    obtain rfl := Option.some.inj H
    have H := HQ23
    try dsimp only at H
    obtain ⟨o89,HL90,HQ91⟩ := bind_c H
    refine loop_c [19] [189,190,191,192,193,194,195,196,197,198,199,200,201,202,203,204] [189,190,191,192,193,194,195,196,197,198,199,200,201,202,203,204] (fun n vals st=>(∃ y93 y94,p_law26_SnapTurns_l4  y9 y27 n y93 y94 = some o89 ∧ vals = [.i y93] ∧ st = [.live [.sl (List.map V.s y9.Users) true,.sl (List.map V.s y9.Keys) true] 0,.live [.i y27.Seq,.sl (List.map BookRow.v y27.Rows) true] 0,.live [.b y94.On,.b y94.Begun,.s y94.After,.i y94.Told] 0])) fuel 3 [] (⟨_,_,HL90,rfl,rfl⟩) (Nat.zero_le _) rfl (by kernel_rfl) (by kernel_rfl) rfl ⟨⟨rfl,rfl,rfl⟩,⟨⟨rfl,rfl,rfl⟩,⟨⟨rfl,rfl,rfl⟩,trivial⟩⟩⟩ ?_
    rintro (_ | n92) _ _ (⟨y93,y94,H,rfl,rfl⟩)
    ·rw [p_law26_SnapTurns_l4] at H;cases H
    rw [p_law26_SnapTurns_l4] at H
    conv=>whnf
    refine tst_d H (fun b95 H=>?_) (fun b95 H=>?_)
    ·conv=>whnf
     iterate 3 (refine Tst.F ?_;conv=>whnf)
     obtain rfl := Option.some.inj H
     have H := HQ91
     try dsimp only at H
     refine ask_c (p_snap_Count_v _ _) H rfl rfl (fun v102 H=>?_);conv=>whnf
     refine Ari.w ?_;conv=>whnf
     refine tst_d H (fun b103 H=>?_) (fun b103 H=>?_)
     ·conv=>whnf
      iterate 5 (refine Tst.F ?_;conv=>whnf)
      exact fin0_c (enc := V.b) H (.inr rfl) (.cons (.tmp rfl) (.nil)) rfl rfl
     conv=>whnf
     iterate 3 (refine Tst.T ?_;conv=>whnf)
     refine tst_d H (fun b104 H=>?_) (fun b104 H=>?_)
     ·conv=>whnf
      refine Tst.F ?_;conv=>whnf
      exact fin0_c (enc := V.b) H (.inr rfl) (.cons (.tmp rfl) (.nil)) rfl rfl
     conv=>whnf
     refine ask_c (p_law26_awake_v) H rfl rfl (fun v105 H=>?_);conv=>whnf
     refine Tst.T ?_;conv=>whnf
     exact fin0_c (enc := V.b) H (.inr rfl) (.cons (.tmp rfl) (.nil)) rfl rfl
    conv=>whnf
    iterate 2 (refine Tst.T ?_;conv=>whnf)
    refine tst_c H (fun b96 H=>?_) (fun b96 H=>?_)
    ·conv=>whnf
     refine ask_c (p_snap_Next_v _ _ _) H rfl rfl (fun v97 H=>?_);conv=>whnf
     refine ⟨Nat.le_of_ble_eq_true rfl,?_⟩;conv=>whnf
     refine Ari.w ?_;conv=>whnf
     exact again_c [189,190,191,192,193,194,195,196,197,198,199,200,201,202,203,204] n92 3 [] (⟨_,_,H,rfl,rfl⟩) (Nat.lt_succ_self _) (Nat.zero_le _) rfl (by kernel_rfl) (by kernel_rfl) rfl ⟨⟨rfl,rfl,rfl⟩,⟨⟨rfl,rfl,rfl⟩,⟨⟨rfl,rfl,rfl⟩,trivial⟩⟩⟩
    conv=>whnf
    obtain rfl := Option.some.inj H
    have H := HQ91
    try dsimp only at H
    refine ask_c (p_snap_Count_v _ _) H rfl rfl (fun v98 H=>?_);conv=>whnf
    refine Ari.w ?_;conv=>whnf
    refine tst_d H (fun b99 H=>?_) (fun b99 H=>?_)
    ·conv=>whnf
     iterate 5 (refine Tst.F ?_;conv=>whnf)
     exact fin0_c (enc := V.b) H (.inr rfl) (.cons (.tmp rfl) (.nil)) rfl rfl
    conv=>whnf
    iterate 3 (refine Tst.T ?_;conv=>whnf)
    refine tst_d H (fun b100 H=>?_) (fun b100 H=>?_)
    ·conv=>whnf
     refine Tst.F ?_;conv=>whnf
     exact fin0_c (enc := V.b) H (.inr rfl) (.cons (.tmp rfl) (.nil)) rfl rfl
    conv=>whnf
    refine ask_c (p_law26_awake_v) H rfl rfl (fun v101 H=>?_);conv=>whnf
    refine Tst.T ?_;conv=>whnf
    exact fin0_c (enc := V.b) H (.inr rfl) (.cons (.tmp rfl) (.nil)) rfl rfl
   conv=>whnf
   obtain ⟨K30,hK31,o32,HL33,HQ34⟩ := join0_c H
   refine join_c [5,7,8] [48,49,50,51,52,53,54,55,56,57,58,59,60,61,62,63,64,65,66,67,68,69,70,71,72,73,74,75,76,77,78,79,80,81,82,83] (fun vals st=>(∃ y41,K30 y41 = some o21 ∧ vals = [.ptr 0 0,.ptr 1 0,.ptr 2 0] ∧ st = [.live [.sl (List.map V.s y9.Users) true,.sl (List.map V.s y9.Keys) true] 0,.live [.i y41.Seq,.sl (List.map BookRow.v y41.Rows) false] 0,.live [.b y28.On,.b y28.Begun,.s y28.After,.i y28.Told] 0])) ?_ ?_
   ·have H := HL33
    conv=>whnf
    refine ixs_c (f := Law26Deed.v) H (fun _=>rfl) (fun x36 H=>?_);conv=>whnf
    refine ⟨Nat.le_of_ble_eq_true rfl,?_⟩;conv=>whnf
    refine tst_c H (fun b37 H=>?_) (fun b37 H=>?_)
    ·conv=>whnf
     refine ixs_c (f := Law26Deed.v) H (fun _=>rfl) (fun x38 H=>?_);conv=>whnf
     refine ⟨Nat.le_of_ble_eq_true rfl,?_⟩;conv=>whnf
     refine ask_c (p_law26_who_v _) H rfl rfl (fun v39 H=>?_);conv=>whnf
     refine ask_c (p_book_Off_v _ _ _) H rfl rfl (fun v40 H=>?_);conv=>whnf
     refine ⟨Nat.le_of_ble_eq_true rfl,?_⟩;conv=>whnf
     refine FootQ.mk ⟨rfl,?_⟩;conv=>whnf
     obtain rfl := Option.some.inj H
     exact arrive_c [48,49,50,51,52,53,54,55,56,57,58,59,60,61,62,63,64,65,66,67,68,69,70,71,72,73,74,75,76,77,78,79,80,81,82,83] 3 [] (⟨_,HQ34,rfl,rfl⟩) (Nat.zero_le _) rfl (by kernel_rfl) (by kernel_rfl) rfl ⟨⟨rfl,rfl,rfl⟩,⟨⟨rfl,rfl,rfl⟩,⟨⟨rfl,rfl,rfl⟩,trivial⟩⟩⟩
    conv=>whnf
    refine ixs_c (f := Law26Deed.v) H (fun _=>rfl) (fun x42 H=>?_);conv=>whnf
    refine ⟨Nat.le_of_ble_eq_true rfl,?_⟩;conv=>whnf
    refine ask_c (p_law26_who_v _) H rfl rfl (fun v43 H=>?_);conv=>whnf
    refine ixs_c (f := Law26Deed.v) H (fun _=>rfl) (fun x44 H=>?_);conv=>whnf
    refine ⟨Nat.le_of_ble_eq_true rfl,?_⟩;conv=>whnf
    refine ⟨by decide,?_⟩;conv=>whnf
    refine Ari.w ?_;conv=>whnf
    refine ask_c (p_book_Set_v _ _ _ _ _) H rfl rfl (fun v45 H=>?_);conv=>whnf
    refine ⟨Nat.le_of_ble_eq_true rfl,?_⟩;conv=>whnf
    refine FootQ.mk ⟨rfl,?_⟩;conv=>whnf
    obtain rfl := Option.some.inj H
    exact arrive_c [48,49,50,51,52,53,54,55,56,57,58,59,60,61,62,63,64,65,66,67,68,69,70,71,72,73,74,75,76,77,78,79,80,81,82,83] 3 [] (⟨_,HQ34,rfl,rfl⟩) (Nat.zero_le _) rfl (by kernel_rfl) (by kernel_rfl) rfl ⟨⟨rfl,rfl,rfl⟩,⟨⟨rfl,rfl,rfl⟩,⟨⟨rfl,rfl,rfl⟩,trivial⟩⟩⟩
   rintro _ _ (⟨y41,H,rfl,rfl⟩)
   rw [hK31] at H
   try dsimp only at H
   conv=>whnf
   refine ixs_c (f := Law26Deed.v) H (fun _=>rfl) (fun x46 H=>?_);conv=>whnf
   refine ⟨Nat.le_of_ble_eq_true rfl,?_⟩;conv=>whnf
   refine Tst.not ?_
   refine tst_d H (fun b47 H=>?_) (fun b47 H=>?_)
   ·conv=>whnf
    refine Ari.w ?_;conv=>whnf
    exact again_c [11,12,13,14,15,16,17,18,42,43,44,45,46,47,48,49,50,51,52,53,54,55,56,57,58,59,60,61,62,63,64,65,66,67,68,69,70,71,72,73,74,75,76,77,78,79,80,81,82,83,84,85,86,87,88,89,90,91,92,93,94,95,96,97,98,99,100,101,102,103,104,105,106,107,108,109,110,111,112,113,114,115,116,117,118,119,120,121,122,123,124,125,126,127,128,129,130,131,132,133,134,135,136,137,138,139,140,141,142,143,144,145,146,147,148,149,150,151,152,153,154,155,156,157,158,159,160,161,162,163,164,165,166,167,168,169,170,171,172,173,174,175,176,177,178,179,180,181,182,183,184,185,186,187,188] n24 3 [] (.inr (⟨_,_,_,_,H,rfl,rfl⟩)) (Nat.lt_succ_self _) (Nat.zero_le _) rfl (by kernel_rfl) (by kernel_rfl) rfl ⟨⟨rfl,rfl,rfl⟩,⟨⟨rfl,rfl,rfl⟩,⟨⟨rfl,rfl,rfl⟩,trivial⟩⟩⟩
   conv=>whnf
   refine ask_c (p_snap_Next_v _ _ _) H rfl rfl (fun v48 H=>?_);conv=>whnf
   refine ⟨Nat.le_of_ble_eq_true rfl,?_⟩;conv=>whnf
   refine ⟨Nat.le_of_ble_eq_true rfl,?_⟩;conv=>whnf
   refine tst_c H (fun b49 H=>?_) (fun b49 H=>?_)
   ·conv=>whnf
    iterate 4 (refine Tst.T ?_;conv=>whnf)
    obtain rfl := Option.some.inj H
    have H := HQ23
    try dsimp only at H
    exact fin0_c (enc := V.b) H (.inr rfl) (.cons (.tmp rfl) (.nil)) rfl rfl
   conv=>whnf
   refine Tst.F ?_;conv=>whnf
   refine ask_c (p_snap_Check_v _) H rfl rfl (fun v50 H=>?_);conv=>whnf
   iterate 2 (refine Tst.F ?_;conv=>whnf)
   refine tst_c H (fun b51 H=>?_) (fun b51 H=>?_)
   ·conv=>whnf
    obtain rfl := Option.some.inj H
    have H := HQ23
    try dsimp only at H
    exact fin0_c (enc := V.b) H (.inr rfl) (.cons (.tmp rfl) (.nil)) rfl rfl
   conv=>whnf
   obtain ⟨K52,hK53,o54,HL55,HQ56⟩ := join0_c H
   refine join_c [4,9,5,7,8,11,12] [14,15,16,107,108,109,110,111,112,113,114,115,116,117,118,119,120,121,122,123,124,125,126,127,128,129,130,131,132,133,134,135,136,137,138,139,140,141,142,143,144,145,146,147,148,149,150,151,152,153,154,155,156,157,158,159,160,99] (fun vals st=>(∃ y70,K52 (.inr y70) = some o21 ∧ vals = [.b false,.s y70,.ptr 0 0,.ptr 1 0,.ptr 2 0,.ptr 3 0,.ptr 4 0] ∧ st = [.live [.sl (List.map V.s y9.Users) true,.sl (List.map V.s y9.Keys) true] 0,.live [.i y41.Seq,.sl (List.map BookRow.v y41.Rows) false] 0,.live [.b y28.On,.b y28.Begun,.s y28.After,.i y28.Told] 0,.live [.b v48.1.On,.b v48.1.Begun,.s v48.1.After,.i v48.1.Told] 0,.live [.y8 v48.2.1.Kind,.s v48.2.1.User,.s v48.2.1.Res,.s v48.2.1.Name,.i v48.2.1.Show,.i v48.2.1.Prio,.i v48.2.1.Code,.i v48.2.1.N] 0])) ?_ ?_
   ·have H := HL55
    conv=>whnf
    refine tst_d H (fun b58 H=>?_) (fun b58 H=>?_)
    ·conv=>whnf
     obtain rfl := Option.some.inj H
     exact arrive_c [14,15,16,107,108,109,110,111,112,113,114,115,116,117,118,119,120,121,122,123,124,125,126,127,128,129,130,131,132,133,134,135,136,137,138,139,140,141,142,143,144,145,146,147,148,149,150,151,152,153,154,155,156,157,158,159,160,99] 5 [] (⟨_,HQ56,rfl,rfl⟩) (Nat.zero_le _) rfl (by kernel_rfl) (by kernel_rfl) rfl ⟨⟨rfl,rfl,rfl⟩,⟨⟨rfl,rfl,rfl⟩,⟨⟨rfl,rfl,rfl⟩,⟨⟨rfl,rfl,rfl⟩,⟨⟨rfl,rfl,rfl⟩,trivial⟩⟩⟩⟩⟩
    conv=>whnf
    refine ask_c (p_book_Get_v _ _ _) H rfl rfl (fun v59 H=>?_);conv=>whnf
    refine ⟨Nat.le_of_ble_eq_true rfl,?_⟩;conv=>whnf
    refine ask_c (p_pres_Key_v _ _) H rfl rfl (fun v60 H=>?_);conv=>whnf
    refine Tst.not ?_
    refine tst_d H (fun b61 H=>?_) (fun b61 H=>?_)
    ·conv=>whnf
     iterate 28 (refine Tst.T ?_;conv=>whnf)
     refine FootQ.mk ⟨rfl,?_⟩;conv=>whnf
     refine Tst.T ?_;conv=>whnf
     obtain rfl := Option.some.inj H
     have H := HQ56
     rw [hK53] at H
     try dsimp only at H
     obtain rfl := Option.some.inj H
     have H := HQ23
     try dsimp only at H
     exact fin0_c (enc := V.b) H (.inr rfl) (.cons (.tmp rfl) (.nil)) rfl rfl
    conv=>whnf
    iterate 5 (refine Tst.F ?_;conv=>whnf)
    refine ask_c (p_pres_Say_v _ _ _) H rfl rfl (fun v62 H=>?_);conv=>whnf
    iterate 3 (refine Tst.F ?_;conv=>whnf)
    refine Tst.not ?_
    refine tst_d H (fun b63 H=>?_) (fun b63 H=>?_)
    ·conv=>whnf
     iterate 19 (refine Tst.T ?_;conv=>whnf)
     refine FootQ.mk ⟨rfl,?_⟩;conv=>whnf
     refine Tst.T ?_;conv=>whnf
     obtain rfl := Option.some.inj H
     have H := HQ56
     rw [hK53] at H
     try dsimp only at H
     obtain rfl := Option.some.inj H
     have H := HQ23
     try dsimp only at H
     exact fin0_c (enc := V.b) H (.inr rfl) (.cons (.tmp rfl) (.nil)) rfl rfl
    conv=>whnf
    iterate 3 (refine Tst.F ?_;conv=>whnf)
    refine tst_c H (fun b64 H=>?_) (fun b64 H=>?_)
    ·conv=>whnf
     iterate 15 (refine Tst.T ?_;conv=>whnf)
     refine FootQ.mk ⟨rfl,?_⟩;conv=>whnf
     refine Tst.T ?_;conv=>whnf
     obtain rfl := Option.some.inj H
     have H := HQ56
     rw [hK53] at H
     try dsimp only at H
     obtain rfl := Option.some.inj H
     have H := HQ23
     try dsimp only at H
     exact fin0_c (enc := V.b) H (.inr rfl) (.cons (.tmp rfl) (.nil)) rfl rfl
    conv=>whnf
    iterate 2 (refine Tst.F ?_;conv=>whnf)
    refine ask_c (p_snap_Covers_v _ _) H rfl rfl (fun v65 H=>?_);conv=>whnf
    iterate 2 (refine Tst.F ?_;conv=>whnf)
    refine Tst.not ?_
    refine tst_d H (fun b66 H=>?_) (fun b66 H=>?_)
    ·conv=>whnf
     iterate 10 (refine Tst.T ?_;conv=>whnf)
     refine FootQ.mk ⟨rfl,?_⟩;conv=>whnf
     refine Tst.T ?_;conv=>whnf
     obtain rfl := Option.some.inj H
     have H := HQ56
     rw [hK53] at H
     try dsimp only at H
     obtain rfl := Option.some.inj H
     have H := HQ23
     try dsimp only at H
     exact fin0_c (enc := V.b) H (.inr rfl) (.cons (.tmp rfl) (.nil)) rfl rfl
    conv=>whnf
    iterate 2 (refine Tst.F ?_;conv=>whnf)
    refine ask_c (p_snap_Covers_v _ _) H rfl rfl (fun v67 H=>?_);conv=>whnf
    refine Tst.F ?_;conv=>whnf
    refine tst_c H (fun b68 H=>?_) (fun b68 H=>?_)
    ·conv=>whnf
     iterate 6 (refine Tst.T ?_;conv=>whnf)
     refine FootQ.mk ⟨rfl,?_⟩;conv=>whnf
     refine Tst.T ?_;conv=>whnf
     obtain rfl := Option.some.inj H
     have H := HQ56
     rw [hK53] at H
     try dsimp only at H
     obtain rfl := Option.some.inj H
     have H := HQ23
     try dsimp only at H
     exact fin0_c (enc := V.b) H (.inr rfl) (.cons (.tmp rfl) (.nil)) rfl rfl
    conv=>whnf
    iterate 4 (refine Tst.F ?_;conv=>whnf)
    refine Ari.w ?_;conv=>whnf
    iterate 2 (refine Tst.F ?_;conv=>whnf)
    refine FootQ.mk ⟨rfl,?_⟩;conv=>whnf
    refine tst_c H (fun b69 H=>?_) (fun b69 H=>?_)
    ·conv=>whnf
     obtain rfl := Option.some.inj H
     have H := HQ56
     rw [hK53] at H
     try dsimp only at H
     obtain rfl := Option.some.inj H
     have H := HQ23
     try dsimp only at H
     exact fin0_c (enc := V.b) H (.inr rfl) (.cons (.tmp rfl) (.nil)) rfl rfl
    conv=>whnf
    obtain rfl := Option.some.inj H
    exact arrive_c [14,15,16,107,108,109,110,111,112,113,114,115,116,117,118,119,120,121,122,123,124,125,126,127,128,129,130,131,132,133,134,135,136,137,138,139,140,141,142,143,144,145,146,147,148,149,150,151,152,153,154,155,156,157,158,159,160,99] 5 [] (⟨_,HQ56,rfl,rfl⟩) (Nat.zero_le _) rfl (by kernel_rfl) (by kernel_rfl) rfl ⟨⟨rfl,rfl,rfl⟩,⟨⟨rfl,rfl,rfl⟩,⟨⟨rfl,rfl,rfl⟩,⟨⟨rfl,rfl,rfl⟩,⟨⟨rfl,rfl,rfl⟩,trivial⟩⟩⟩⟩⟩
   rintro _ _ (⟨y70,H,rfl,rfl⟩)
   rw [hK53] at H
   try dsimp only at H
   conv=>whnf
   refine tst_d H (fun b71 H=>?_) (fun b71 H=>?_)
   ·conv=>whnf
    refine ⟨Nat.le_of_ble_eq_true rfl,?_⟩;conv=>whnf
    refine Ari.w ?_;conv=>whnf
    exact again_c [11,12,13,14,15,16,17,18,42,43,44,45,46,47,48,49,50,51,52,53,54,55,56,57,58,59,60,61,62,63,64,65,66,67,68,69,70,71,72,73,74,75,76,77,78,79,80,81,82,83,84,85,86,87,88,89,90,91,92,93,94,95,96,97,98,99,100,101,102,103,104,105,106,107,108,109,110,111,112,113,114,115,116,117,118,119,120,121,122,123,124,125,126,127,128,129,130,131,132,133,134,135,136,137,138,139,140,141,142,143,144,145,146,147,148,149,150,151,152,153,154,155,156,157,158,159,160,161,162,163,164,165,166,167,168,169,170,171,172,173,174,175,176,177,178,179,180,181,182,183,184,185,186,187,188] n24 3 [] (.inr (⟨_,_,_,_,H,rfl,rfl⟩)) (Nat.lt_succ_self _) (Nat.zero_le _) rfl (by kernel_rfl) (by kernel_rfl) rfl ⟨⟨rfl,rfl,rfl⟩,⟨⟨rfl,rfl,rfl⟩,⟨⟨rfl,rfl,rfl⟩,trivial⟩⟩⟩
   conv=>whnf
   obtain ⟨o73,HL74,HQ75⟩ := bind_c H
   refine loop_c [4,17] [18,164,165,166,167,168,169,170,171,172,173,174,175,176,177,178,179,180,181,182,183,184,185,186,187,12,161] [18,164,165,166,167,168,169,170,171,172,173,174,175,176,177,178,179,180,181,182,183,184,185,186,187,12,161] (fun n vals st=>(∃ y77,p_law26_SnapTurns_l3  y70 y9 y41 n y77 = some o73 ∧ vals = [.b false,.i y77] ∧ st = [.live [.sl (List.map V.s y9.Users) true,.sl (List.map V.s y9.Keys) true] 0,.live [.i y41.Seq,.sl (List.map BookRow.v y41.Rows) false] 0,.live [.b y28.On,.b y28.Begun,.s y28.After,.i y28.Told] 0,.live [.b v48.1.On,.b v48.1.Begun,.s v48.1.After,.i v48.1.Told] 0])) fuel 4 [] (⟨_,HL74,rfl,rfl⟩) (Nat.zero_le _) rfl (by kernel_rfl) (by kernel_rfl) rfl ⟨⟨rfl,rfl,rfl⟩,⟨⟨rfl,rfl,rfl⟩,⟨⟨rfl,rfl,rfl⟩,⟨⟨rfl,rfl,rfl⟩,trivial⟩⟩⟩⟩ ?_
   rintro (_ | n76) _ _ (⟨y77,H,rfl,rfl⟩)
   ·rw [p_law26_SnapTurns_l3] at H;cases H
   rw [p_law26_SnapTurns_l3] at H
   conv=>whnf
   refine LenQ.M ?_;conv=>whnf
   refine tst_d H (fun b78 H=>?_) (fun b78 H=>?_)
   ·conv=>whnf
    obtain rfl := Option.some.inj H
    have H := HQ75
    try dsimp only at H
    refine ⟨Nat.le_of_ble_eq_true rfl,?_⟩;conv=>whnf
    refine Ari.w ?_;conv=>whnf
    exact again_c [11,12,13,14,15,16,17,18,42,43,44,45,46,47,48,49,50,51,52,53,54,55,56,57,58,59,60,61,62,63,64,65,66,67,68,69,70,71,72,73,74,75,76,77,78,79,80,81,82,83,84,85,86,87,88,89,90,91,92,93,94,95,96,97,98,99,100,101,102,103,104,105,106,107,108,109,110,111,112,113,114,115,116,117,118,119,120,121,122,123,124,125,126,127,128,129,130,131,132,133,134,135,136,137,138,139,140,141,142,143,144,145,146,147,148,149,150,151,152,153,154,155,156,157,158,159,160,161,162,163,164,165,166,167,168,169,170,171,172,173,174,175,176,177,178,179,180,181,182,183,184,185,186,187,188] n24 3 [] (.inr (⟨_,_,_,_,H,rfl,rfl⟩)) (Nat.lt_succ_self _) (Nat.zero_le _) rfl (by kernel_rfl) (by kernel_rfl) rfl ⟨⟨rfl,rfl,rfl⟩,⟨⟨rfl,rfl,rfl⟩,⟨⟨rfl,rfl,rfl⟩,trivial⟩⟩⟩
   conv=>whnf
   refine ixs_c (f := BookRow.v) H (fun _=>rfl) (fun x79 H=>?_);conv=>whnf
   refine ⟨Nat.le_of_ble_eq_true rfl,?_⟩;conv=>whnf
   refine ask_c (p_snap_Sees_v _ _) H rfl rfl (fun v80 H=>?_);conv=>whnf
   refine tst_d H (fun b81 H=>?_) (fun b81 H=>?_)
   ·conv=>whnf
    iterate 8 (refine Tst.F ?_;conv=>whnf)
    refine Ari.w ?_;conv=>whnf
    exact again_c [18,164,165,166,167,168,169,170,171,172,173,174,175,176,177,178,179,180,181,182,183,184,185,186,187,12,161] n76 4 [] (⟨_,H,rfl,rfl⟩) (Nat.lt_succ_self _) (Nat.zero_le _) rfl (by kernel_rfl) (by kernel_rfl) rfl ⟨⟨rfl,rfl,rfl⟩,⟨⟨rfl,rfl,rfl⟩,⟨⟨rfl,rfl,rfl⟩,⟨⟨rfl,rfl,rfl⟩,trivial⟩⟩⟩⟩
   conv=>whnf
   iterate 4 (refine Tst.T ?_;conv=>whnf)
   refine ask_c (p_pres_Key_v _ _) H rfl rfl (fun v82 H=>?_);conv=>whnf
   iterate 3 (refine Tst.T ?_;conv=>whnf)
   refine Tst.not ?_
   refine tst_d H (fun b83 H=>?_) (fun b83 H=>?_)
   ·conv=>whnf
    obtain rfl := Option.some.inj H
    have H := HQ75
    try dsimp only at H
    obtain rfl := Option.some.inj H
    have H := HQ23
    try dsimp only at H
    exact fin0_c (enc := V.b) H (.inr rfl) (.cons (.tmp rfl) (.nil)) rfl rfl
   conv=>whnf
   refine Ari.w ?_;conv=>whnf
   exact again_c [18,164,165,166,167,168,169,170,171,172,173,174,175,176,177,178,179,180,181,182,183,184,185,186,187,12,161] n76 4 [] (⟨_,H,rfl,rfl⟩) (Nat.lt_succ_self _) (Nat.zero_le _) rfl (by kernel_rfl) (by kernel_rfl) rfl ⟨⟨rfl,rfl,rfl⟩,⟨⟨rfl,rfl,rfl⟩,⟨⟨rfl,rfl,rfl⟩,⟨⟨rfl,rfl,rfl⟩,trivial⟩⟩⟩⟩
  rw [p_law26_SnapTurns_l2] at H
  conv=>whnf
  refine LenQ.M ?_;conv=>whnf
  refine tst_d H (fun b106 H=>?_) (fun b106 H=>?_)
  ·conv=>whnf
   obtain rfl := Option.some.inj H
   have H := HQ23
   try dsimp only at H
   obtain ⟨o162,HL163,HQ164⟩ := bind_c H
   refine loop_c [19] [189,190,191,192,193,194,195,196,197,198,199,200,201,202,203,204] [189,190,191,192,193,194,195,196,197,198,199,200,201,202,203,204] (fun n vals st=>(∃ y166 y167,p_law26_SnapTurns_l4  y9 y86 n y166 y167 = some o162 ∧ vals = [.i y166] ∧ st = [.live [.sl (List.map V.s y9.Users) true,.sl (List.map V.s y9.Keys) true] 0,.live [.i y86.Seq,.sl (List.map BookRow.v y86.Rows) false] 0,.live [.b y167.On,.b y167.Begun,.s y167.After,.i y167.Told] 0])) fuel 3 [] (⟨_,_,HL163,rfl,rfl⟩) (Nat.zero_le _) rfl (by kernel_rfl) (by kernel_rfl) rfl ⟨⟨rfl,rfl,rfl⟩,⟨⟨rfl,rfl,rfl⟩,⟨⟨rfl,rfl,rfl⟩,trivial⟩⟩⟩ ?_
   rintro (_ | n165) _ _ (⟨y166,y167,H,rfl,rfl⟩)
   ·rw [p_law26_SnapTurns_l4] at H;cases H
   rw [p_law26_SnapTurns_l4] at H
   conv=>whnf
   refine tst_d H (fun b168 H=>?_) (fun b168 H=>?_)
   ·conv=>whnf
    iterate 3 (refine Tst.F ?_;conv=>whnf)
    obtain rfl := Option.some.inj H
    have H := HQ164
    try dsimp only at H
    refine ask_c (p_snap_Count_v _ _) H rfl rfl (fun v175 H=>?_);conv=>whnf
    refine Ari.w ?_;conv=>whnf
    refine tst_d H (fun b176 H=>?_) (fun b176 H=>?_)
    ·conv=>whnf
     iterate 5 (refine Tst.F ?_;conv=>whnf)
     exact fin0_c (enc := V.b) H (.inr rfl) (.cons (.tmp rfl) (.nil)) rfl rfl
    conv=>whnf
    iterate 3 (refine Tst.T ?_;conv=>whnf)
    refine tst_d H (fun b177 H=>?_) (fun b177 H=>?_)
    ·conv=>whnf
     refine Tst.F ?_;conv=>whnf
     exact fin0_c (enc := V.b) H (.inr rfl) (.cons (.tmp rfl) (.nil)) rfl rfl
    conv=>whnf
    refine ask_c (p_law26_awake_v) H rfl rfl (fun v178 H=>?_);conv=>whnf
    refine Tst.T ?_;conv=>whnf
    exact fin0_c (enc := V.b) H (.inr rfl) (.cons (.tmp rfl) (.nil)) rfl rfl
   conv=>whnf
   iterate 2 (refine Tst.T ?_;conv=>whnf)
   refine tst_c H (fun b169 H=>?_) (fun b169 H=>?_)
   ·conv=>whnf
    refine ask_c (p_snap_Next_v _ _ _) H rfl rfl (fun v170 H=>?_);conv=>whnf
    refine ⟨Nat.le_of_ble_eq_true rfl,?_⟩;conv=>whnf
    refine Ari.w ?_;conv=>whnf
    exact again_c [189,190,191,192,193,194,195,196,197,198,199,200,201,202,203,204] n165 3 [] (⟨_,_,H,rfl,rfl⟩) (Nat.lt_succ_self _) (Nat.zero_le _) rfl (by kernel_rfl) (by kernel_rfl) rfl ⟨⟨rfl,rfl,rfl⟩,⟨⟨rfl,rfl,rfl⟩,⟨⟨rfl,rfl,rfl⟩,trivial⟩⟩⟩
   conv=>whnf
   obtain rfl := Option.some.inj H
   have H := HQ164
   try dsimp only at H
   refine ask_c (p_snap_Count_v _ _) H rfl rfl (fun v171 H=>?_);conv=>whnf
   refine Ari.w ?_;conv=>whnf
   refine tst_d H (fun b172 H=>?_) (fun b172 H=>?_)
   ·conv=>whnf
    iterate 5 (refine Tst.F ?_;conv=>whnf)
    exact fin0_c (enc := V.b) H (.inr rfl) (.cons (.tmp rfl) (.nil)) rfl rfl
   conv=>whnf
   iterate 3 (refine Tst.T ?_;conv=>whnf)
   refine tst_d H (fun b173 H=>?_) (fun b173 H=>?_)
   ·conv=>whnf
    refine Tst.F ?_;conv=>whnf
    exact fin0_c (enc := V.b) H (.inr rfl) (.cons (.tmp rfl) (.nil)) rfl rfl
   conv=>whnf
   refine ask_c (p_law26_awake_v) H rfl rfl (fun v174 H=>?_);conv=>whnf
   refine Tst.T ?_;conv=>whnf
   exact fin0_c (enc := V.b) H (.inr rfl) (.cons (.tmp rfl) (.nil)) rfl rfl
  conv=>whnf
  obtain ⟨K107,hK108,o109,HL110,HQ111⟩ := join0_c H
  refine join_c [5,7,8] [48,49,50,51,52,53,54,55,56,57,58,59,60,61,62,63,64,65,66,67,68,69,70,71,72,73,74,75,76,77,78,79,80,81,82,83] (fun vals st=>(∃ y118,K107 y118 = some o21 ∧ vals = [.ptr 0 0,.ptr 1 0,.ptr 2 0] ∧ st = [.live [.sl (List.map V.s y9.Users) true,.sl (List.map V.s y9.Keys) true] 0,.live [.i y118.Seq,.sl (List.map BookRow.v y118.Rows) false] 0,.live [.b y87.On,.b y87.Begun,.s y87.After,.i y87.Told] 0])) ?_ ?_
  ·have H := HL110
   conv=>whnf
   refine ixs_c (f := Law26Deed.v) H (fun _=>rfl) (fun x113 H=>?_);conv=>whnf
   refine ⟨Nat.le_of_ble_eq_true rfl,?_⟩;conv=>whnf
   refine tst_c H (fun b114 H=>?_) (fun b114 H=>?_)
   ·conv=>whnf
    refine ixs_c (f := Law26Deed.v) H (fun _=>rfl) (fun x115 H=>?_);conv=>whnf
    refine ⟨Nat.le_of_ble_eq_true rfl,?_⟩;conv=>whnf
    refine ask_c (p_law26_who_v _) H rfl rfl (fun v116 H=>?_);conv=>whnf
    refine ask_c (p_book_Off_v _ _ _) H rfl rfl (fun v117 H=>?_);conv=>whnf
    refine ⟨Nat.le_of_ble_eq_true rfl,?_⟩;conv=>whnf
    refine FootQ.mk ⟨rfl,?_⟩;conv=>whnf
    obtain rfl := Option.some.inj H
    exact arrive_c [48,49,50,51,52,53,54,55,56,57,58,59,60,61,62,63,64,65,66,67,68,69,70,71,72,73,74,75,76,77,78,79,80,81,82,83] 3 [] (⟨_,HQ111,rfl,rfl⟩) (Nat.zero_le _) rfl (by kernel_rfl) (by kernel_rfl) rfl ⟨⟨rfl,rfl,rfl⟩,⟨⟨rfl,rfl,rfl⟩,⟨⟨rfl,rfl,rfl⟩,trivial⟩⟩⟩
   conv=>whnf
   refine ixs_c (f := Law26Deed.v) H (fun _=>rfl) (fun x119 H=>?_);conv=>whnf
   refine ⟨Nat.le_of_ble_eq_true rfl,?_⟩;conv=>whnf
   refine ask_c (p_law26_who_v _) H rfl rfl (fun v120 H=>?_);conv=>whnf
   refine ixs_c (f := Law26Deed.v) H (fun _=>rfl) (fun x121 H=>?_);conv=>whnf
   refine ⟨Nat.le_of_ble_eq_true rfl,?_⟩;conv=>whnf
   refine ⟨by decide,?_⟩;conv=>whnf
   refine Ari.w ?_;conv=>whnf
   refine ask_c (p_book_Set_v _ _ _ _ _) H rfl rfl (fun v122 H=>?_);conv=>whnf
   refine ⟨Nat.le_of_ble_eq_true rfl,?_⟩;conv=>whnf
   refine FootQ.mk ⟨rfl,?_⟩;conv=>whnf
   obtain rfl := Option.some.inj H
   exact arrive_c [48,49,50,51,52,53,54,55,56,57,58,59,60,61,62,63,64,65,66,67,68,69,70,71,72,73,74,75,76,77,78,79,80,81,82,83] 3 [] (⟨_,HQ111,rfl,rfl⟩) (Nat.zero_le _) rfl (by kernel_rfl) (by kernel_rfl) rfl ⟨⟨rfl,rfl,rfl⟩,⟨⟨rfl,rfl,rfl⟩,⟨⟨rfl,rfl,rfl⟩,trivial⟩⟩⟩
  rintro _ _ (⟨y118,H,rfl,rfl⟩)
  rw [hK108] at H
  try dsimp only at H
  conv=>whnf
  refine ixs_c (f := Law26Deed.v) H (fun _=>rfl) (fun x123 H=>?_);conv=>whnf
  refine ⟨Nat.le_of_ble_eq_true rfl,?_⟩;conv=>whnf
  refine Tst.not ?_
  refine tst_d H (fun b124 H=>?_) (fun b124 H=>?_)
  ·conv=>whnf
   refine Ari.w ?_;conv=>whnf
   exact again_c [11,12,13,14,15,16,17,18,42,43,44,45,46,47,48,49,50,51,52,53,54,55,56,57,58,59,60,61,62,63,64,65,66,67,68,69,70,71,72,73,74,75,76,77,78,79,80,81,82,83,84,85,86,87,88,89,90,91,92,93,94,95,96,97,98,99,100,101,102,103,104,105,106,107,108,109,110,111,112,113,114,115,116,117,118,119,120,121,122,123,124,125,126,127,128,129,130,131,132,133,134,135,136,137,138,139,140,141,142,143,144,145,146,147,148,149,150,151,152,153,154,155,156,157,158,159,160,161,162,163,164,165,166,167,168,169,170,171,172,173,174,175,176,177,178,179,180,181,182,183,184,185,186,187,188] n24 3 [] (.inr (⟨_,_,_,_,H,rfl,rfl⟩)) (Nat.lt_succ_self _) (Nat.zero_le _) rfl (by kernel_rfl) (by kernel_rfl) rfl ⟨⟨rfl,rfl,rfl⟩,⟨⟨rfl,rfl,rfl⟩,⟨⟨rfl,rfl,rfl⟩,trivial⟩⟩⟩
  conv=>whnf
  refine ask_c (p_snap_Next_v _ _ _) H rfl rfl (fun v125 H=>?_);conv=>whnf
  refine ⟨Nat.le_of_ble_eq_true rfl,?_⟩;conv=>whnf
  refine ⟨Nat.le_of_ble_eq_true rfl,?_⟩;conv=>whnf
  refine tst_c H (fun b126 H=>?_) (fun b126 H=>?_)
  ·conv=>whnf
   iterate 4 (refine Tst.T ?_;conv=>whnf)
   obtain rfl := Option.some.inj H
   have H := HQ23
   try dsimp only at H
   exact fin0_c (enc := V.b) H (.inr rfl) (.cons (.tmp rfl) (.nil)) rfl rfl
  conv=>whnf
  refine Tst.F ?_;conv=>whnf
  refine ask_c (p_snap_Check_v _) H rfl rfl (fun v127 H=>?_);conv=>whnf
  iterate 2 (refine Tst.F ?_;conv=>whnf)
  refine tst_c H (fun b128 H=>?_) (fun b128 H=>?_)
  ·conv=>whnf
   obtain rfl := Option.some.inj H
   have H := HQ23
   try dsimp only at H
   exact fin0_c (enc := V.b) H (.inr rfl) (.cons (.tmp rfl) (.nil)) rfl rfl
  conv=>whnf
  obtain ⟨K129,hK130,o131,HL132,HQ133⟩ := join0_c H
  refine join_c [4,9,5,7,8,11,12] [14,15,16,107,108,109,110,111,112,113,114,115,116,117,118,119,120,121,122,123,124,125,126,127,128,129,130,131,132,133,134,135,136,137,138,139,140,141,142,143,144,145,146,147,148,149,150,151,152,153,154,155,156,157,158,159,160,99] (fun vals st=>(∃ y147,K129 (.inr y147) = some o21 ∧ vals = [.b false,.s y147,.ptr 0 0,.ptr 1 0,.ptr 2 0,.ptr 3 0,.ptr 4 0] ∧ st = [.live [.sl (List.map V.s y9.Users) true,.sl (List.map V.s y9.Keys) true] 0,.live [.i y118.Seq,.sl (List.map BookRow.v y118.Rows) false] 0,.live [.b y87.On,.b y87.Begun,.s y87.After,.i y87.Told] 0,.live [.b v125.1.On,.b v125.1.Begun,.s v125.1.After,.i v125.1.Told] 0,.live [.y8 v125.2.1.Kind,.s v125.2.1.User,.s v125.2.1.Res,.s v125.2.1.Name,.i v125.2.1.Show,.i v125.2.1.Prio,.i v125.2.1.Code,.i v125.2.1.N] 0])) ?_ ?_
  ·have H := HL132
   conv=>whnf
   refine tst_d H (fun b135 H=>?_) (fun b135 H=>?_)
   ·conv=>whnf
    obtain rfl := Option.some.inj H
    exact arrive_c [14,15,16,107,108,109,110,111,112,113,114,115,116,117,118,119,120,121,122,123,124,125,126,127,128,129,130,131,132,133,134,135,136,137,138,139,140,141,142,143,144,145,146,147,148,149,150,151,152,153,154,155,156,157,158,159,160,99] 5 [] (⟨_,HQ133,rfl,rfl⟩) (Nat.zero_le _) rfl (by kernel_rfl) (by kernel_rfl) rfl ⟨⟨rfl,rfl,rfl⟩,⟨⟨rfl,rfl,rfl⟩,⟨⟨rfl,rfl,rfl⟩,⟨⟨rfl,rfl,rfl⟩,⟨⟨rfl,rfl,rfl⟩,trivial⟩⟩⟩⟩⟩
   conv=>whnf
   refine ask_c (p_book_Get_v _ _ _) H rfl rfl (fun v136 H=>?_);conv=>whnf
   refine ⟨Nat.le_of_ble_eq_true rfl,?_⟩;conv=>whnf
   refine ask_c (p_pres_Key_v _ _) H rfl rfl (fun v137 H=>?_);conv=>whnf
   refine Tst.not ?_
   refine tst_d H (fun b138 H=>?_) (fun b138 H=>?_)
   ·conv=>whnf
    iterate 28 (refine Tst.T ?_;conv=>whnf)
    refine FootQ.mk ⟨rfl,?_⟩;conv=>whnf
    refine Tst.T ?_;conv=>whnf
    obtain rfl := Option.some.inj H
    have H := HQ133
    rw [hK130] at H
    try dsimp only at H
    obtain rfl := Option.some.inj H
    have H := HQ23
    try dsimp only at H
    exact fin0_c (enc := V.b) H (.inr rfl) (.cons (.tmp rfl) (.nil)) rfl rfl
   conv=>whnf
   iterate 5 (refine Tst.F ?_;conv=>whnf)
   refine ask_c (p_pres_Say_v _ _ _) H rfl rfl (fun v139 H=>?_);conv=>whnf
   iterate 3 (refine Tst.F ?_;conv=>whnf)
   refine Tst.not ?_
   refine tst_d H (fun b140 H=>?_) (fun b140 H=>?_)
   ·conv=>whnf
    iterate 19 (refine Tst.T ?_;conv=>whnf)
    refine FootQ.mk ⟨rfl,?_⟩;conv=>whnf
    refine Tst.T ?_;conv=>whnf
    obtain rfl := Option.some.inj H
    have H := HQ133
    rw [hK130] at H
    try dsimp only at H
    obtain rfl := Option.some.inj H
    have H := HQ23
    try dsimp only at H
    exact fin0_c (enc := V.b) H (.inr rfl) (.cons (.tmp rfl) (.nil)) rfl rfl
   conv=>whnf
   iterate 3 (refine Tst.F ?_;conv=>whnf)
   refine tst_c H (fun b141 H=>?_) (fun b141 H=>?_)
   ·conv=>whnf
    iterate 15 (refine Tst.T ?_;conv=>whnf)
    refine FootQ.mk ⟨rfl,?_⟩;conv=>whnf
    refine Tst.T ?_;conv=>whnf
    obtain rfl := Option.some.inj H
    have H := HQ133
    rw [hK130] at H
    try dsimp only at H
    obtain rfl := Option.some.inj H
    have H := HQ23
    try dsimp only at H
    exact fin0_c (enc := V.b) H (.inr rfl) (.cons (.tmp rfl) (.nil)) rfl rfl
   conv=>whnf
   iterate 2 (refine Tst.F ?_;conv=>whnf)
   refine ask_c (p_snap_Covers_v _ _) H rfl rfl (fun v142 H=>?_);conv=>whnf
   iterate 2 (refine Tst.F ?_;conv=>whnf)
   refine Tst.not ?_
   refine tst_d H (fun b143 H=>?_) (fun b143 H=>?_)
   ·conv=>whnf
    iterate 10 (refine Tst.T ?_;conv=>whnf)
    refine FootQ.mk ⟨rfl,?_⟩;conv=>whnf
    refine Tst.T ?_;conv=>whnf
    obtain rfl := Option.some.inj H
    have H := HQ133
    rw [hK130] at H
    try dsimp only at H
    obtain rfl := Option.some.inj H
    have H := HQ23
    try dsimp only at H
    exact fin0_c (enc := V.b) H (.inr rfl) (.cons (.tmp rfl) (.nil)) rfl rfl
   conv=>whnf
   iterate 2 (refine Tst.F ?_;conv=>whnf)
   refine ask_c (p_snap_Covers_v _ _) H rfl rfl (fun v144 H=>?_);conv=>whnf
   refine Tst.F ?_;conv=>whnf
   refine tst_c H (fun b145 H=>?_) (fun b145 H=>?_)
   ·conv=>whnf
    iterate 6 (refine Tst.T ?_;conv=>whnf)
    refine FootQ.mk ⟨rfl,?_⟩;conv=>whnf
    refine Tst.T ?_;conv=>whnf
    obtain rfl := Option.some.inj H
    have H := HQ133
    rw [hK130] at H
    try dsimp only at H
    obtain rfl := Option.some.inj H
    have H := HQ23
    try dsimp only at H
    exact fin0_c (enc := V.b) H (.inr rfl) (.cons (.tmp rfl) (.nil)) rfl rfl
   conv=>whnf
   iterate 4 (refine Tst.F ?_;conv=>whnf)
   refine Ari.w ?_;conv=>whnf
   iterate 2 (refine Tst.F ?_;conv=>whnf)
   refine FootQ.mk ⟨rfl,?_⟩;conv=>whnf
   refine tst_c H (fun b146 H=>?_) (fun b146 H=>?_)
   ·conv=>whnf
    obtain rfl := Option.some.inj H
    have H := HQ133
    rw [hK130] at H
    try dsimp only at H
    obtain rfl := Option.some.inj H
    have H := HQ23
    try dsimp only at H
    exact fin0_c (enc := V.b) H (.inr rfl) (.cons (.tmp rfl) (.nil)) rfl rfl
   conv=>whnf
   obtain rfl := Option.some.inj H
   exact arrive_c [14,15,16,107,108,109,110,111,112,113,114,115,116,117,118,119,120,121,122,123,124,125,126,127,128,129,130,131,132,133,134,135,136,137,138,139,140,141,142,143,144,145,146,147,148,149,150,151,152,153,154,155,156,157,158,159,160,99] 5 [] (⟨_,HQ133,rfl,rfl⟩) (Nat.zero_le _) rfl (by kernel_rfl) (by kernel_rfl) rfl ⟨⟨rfl,rfl,rfl⟩,⟨⟨rfl,rfl,rfl⟩,⟨⟨rfl,rfl,rfl⟩,⟨⟨rfl,rfl,rfl⟩,⟨⟨rfl,rfl,rfl⟩,trivial⟩⟩⟩⟩⟩
  rintro _ _ (⟨y147,H,rfl,rfl⟩)
  rw [hK130] at H
  try dsimp only at H
  conv=>whnf
  refine tst_d H (fun b148 H=>?_) (fun b148 H=>?_)
  ·conv=>whnf
   refine ⟨Nat.le_of_ble_eq_true rfl,?_⟩;conv=>whnf
   refine Ari.w ?_;conv=>whnf
   exact again_c [11,12,13,14,15,16,17,18,42,43,44,45,46,47,48,49,50,51,52,53,54,55,56,57,58,59,60,61,62,63,64,65,66,67,68,69,70,71,72,73,74,75,76,77,78,79,80,81,82,83,84,85,86,87,88,89,90,91,92,93,94,95,96,97,98,99,100,101,102,103,104,105,106,107,108,109,110,111,112,113,114,115,116,117,118,119,120,121,122,123,124,125,126,127,128,129,130,131,132,133,134,135,136,137,138,139,140,141,142,143,144,145,146,147,148,149,150,151,152,153,154,155,156,157,158,159,160,161,162,163,164,165,166,167,168,169,170,171,172,173,174,175,176,177,178,179,180,181,182,183,184,185,186,187,188] n24 3 [] (.inr (⟨_,_,_,_,H,rfl,rfl⟩)) (Nat.lt_succ_self _) (Nat.zero_le _) rfl (by kernel_rfl) (by kernel_rfl) rfl ⟨⟨rfl,rfl,rfl⟩,⟨⟨rfl,rfl,rfl⟩,⟨⟨rfl,rfl,rfl⟩,trivial⟩⟩⟩
  conv=>whnf
  obtain ⟨o150,HL151,HQ152⟩ := bind_c H
  refine loop_c [4,17] [18,164,165,166,167,168,169,170,171,172,173,174,175,176,177,178,179,180,181,182,183,184,185,186,187,12,161] [18,164,165,166,167,168,169,170,171,172,173,174,175,176,177,178,179,180,181,182,183,184,185,186,187,12,161] (fun n vals st=>(∃ y154,p_law26_SnapTurns_l3  y147 y9 y118 n y154 = some o150 ∧ vals = [.b false,.i y154] ∧ st = [.live [.sl (List.map V.s y9.Users) true,.sl (List.map V.s y9.Keys) true] 0,.live [.i y118.Seq,.sl (List.map BookRow.v y118.Rows) false] 0,.live [.b y87.On,.b y87.Begun,.s y87.After,.i y87.Told] 0,.live [.b v125.1.On,.b v125.1.Begun,.s v125.1.After,.i v125.1.Told] 0])) fuel 4 [] (⟨_,HL151,rfl,rfl⟩) (Nat.zero_le _) rfl (by kernel_rfl) (by kernel_rfl) rfl ⟨⟨rfl,rfl,rfl⟩,⟨⟨rfl,rfl,rfl⟩,⟨⟨rfl,rfl,rfl⟩,⟨⟨rfl,rfl,rfl⟩,trivial⟩⟩⟩⟩ ?_
  rintro (_ | n153) _ _ (⟨y154,H,rfl,rfl⟩)
  ·rw [p_law26_SnapTurns_l3] at H;cases H
  rw [p_law26_SnapTurns_l3] at H
  conv=>whnf
  refine LenQ.M ?_;conv=>whnf
  refine tst_d H (fun b155 H=>?_) (fun b155 H=>?_)
  ·conv=>whnf
   obtain rfl := Option.some.inj H
   have H := HQ152
   try dsimp only at H
   refine ⟨Nat.le_of_ble_eq_true rfl,?_⟩;conv=>whnf
   refine Ari.w ?_;conv=>whnf
   exact again_c [11,12,13,14,15,16,17,18,42,43,44,45,46,47,48,49,50,51,52,53,54,55,56,57,58,59,60,61,62,63,64,65,66,67,68,69,70,71,72,73,74,75,76,77,78,79,80,81,82,83,84,85,86,87,88,89,90,91,92,93,94,95,96,97,98,99,100,101,102,103,104,105,106,107,108,109,110,111,112,113,114,115,116,117,118,119,120,121,122,123,124,125,126,127,128,129,130,131,132,133,134,135,136,137,138,139,140,141,142,143,144,145,146,147,148,149,150,151,152,153,154,155,156,157,158,159,160,161,162,163,164,165,166,167,168,169,170,171,172,173,174,175,176,177,178,179,180,181,182,183,184,185,186,187,188] n24 3 [] (.inr (⟨_,_,_,_,H,rfl,rfl⟩)) (Nat.lt_succ_self _) (Nat.zero_le _) rfl (by kernel_rfl) (by kernel_rfl) rfl ⟨⟨rfl,rfl,rfl⟩,⟨⟨rfl,rfl,rfl⟩,⟨⟨rfl,rfl,rfl⟩,trivial⟩⟩⟩
  conv=>whnf
  refine ixs_c (f := BookRow.v) H (fun _=>rfl) (fun x156 H=>?_);conv=>whnf
  refine ⟨Nat.le_of_ble_eq_true rfl,?_⟩;conv=>whnf
  refine ask_c (p_snap_Sees_v _ _) H rfl rfl (fun v157 H=>?_);conv=>whnf
  refine tst_d H (fun b158 H=>?_) (fun b158 H=>?_)
  ·conv=>whnf
   iterate 8 (refine Tst.F ?_;conv=>whnf)
   refine Ari.w ?_;conv=>whnf
   exact again_c [18,164,165,166,167,168,169,170,171,172,173,174,175,176,177,178,179,180,181,182,183,184,185,186,187,12,161] n153 4 [] (⟨_,H,rfl,rfl⟩) (Nat.lt_succ_self _) (Nat.zero_le _) rfl (by kernel_rfl) (by kernel_rfl) rfl ⟨⟨rfl,rfl,rfl⟩,⟨⟨rfl,rfl,rfl⟩,⟨⟨rfl,rfl,rfl⟩,⟨⟨rfl,rfl,rfl⟩,trivial⟩⟩⟩⟩
  conv=>whnf
  iterate 4 (refine Tst.T ?_;conv=>whnf)
  refine ask_c (p_pres_Key_v _ _) H rfl rfl (fun v159 H=>?_);conv=>whnf
  iterate 3 (refine Tst.T ?_;conv=>whnf)
  refine Tst.not ?_
  refine tst_d H (fun b160 H=>?_) (fun b160 H=>?_)
  ·conv=>whnf
   obtain rfl := Option.some.inj H
   have H := HQ152
   try dsimp only at H
   obtain rfl := Option.some.inj H
   have H := HQ23
   try dsimp only at H
   exact fin0_c (enc := V.b) H (.inr rfl) (.cons (.tmp rfl) (.nil)) rfl rfl
  conv=>whnf
  refine Ari.w ?_;conv=>whnf
  exact again_c [18,164,165,166,167,168,169,170,171,172,173,174,175,176,177,178,179,180,181,182,183,184,185,186,187,12,161] n153 4 [] (⟨_,H,rfl,rfl⟩) (Nat.lt_succ_self _) (Nat.zero_le _) rfl (by kernel_rfl) (by kernel_rfl) rfl ⟨⟨rfl,rfl,rfl⟩,⟨⟨rfl,rfl,rfl⟩,⟨⟨rfl,rfl,rfl⟩,⟨⟨rfl,rfl,rfl⟩,trivial⟩⟩⟩⟩
 ·rw [p_law26_SnapTurns_l1] at H
  conv=>whnf
  refine tst_c H (fun b179 H=>?_) (fun b179 H=>?_)
  ·conv=>whnf
   refine Shr.ok (pos_c H).1 ((fun H=>?_) (pos_c H).2);conv=>whnf
   refine tst_d H (fun b181 H=>?_) (fun b181 H=>?_)
   ·conv=>whnf
    refine Ari.w ?_;conv=>whnf
    exact again_c [24,25,26,27,28,29,30,31,32,33,34,35,36,37,38,39,40] n7 2 [] (.inr (.inl (⟨_,_,H,rfl,rfl⟩))) (Nat.lt_succ_self _) (Nat.zero_le _) rfl (by kernel_rfl) (by kernel_rfl) rfl ⟨⟨rfl,rfl,rfl⟩,wkB_live0 rfl (cellsM_idlt (f := V.s) (fun _=>rfl) _) rfl trivial⟩
   conv=>whnf
   refine Ari.w ?_;conv=>whnf
   refine ask_c (p_law26_who_v _) H rfl rfl (fun v182 H=>?_);conv=>whnf
   refine appO_c (f := V.s) H (fun _=>rfl) rfl (Nat.le_refl _) (.v (srcOwn (f := V.s) (l := [v182]) (fun _=>rfl) rfl rfl rfl)) (by decide) rfl (by simp) (fun l183 H=>?_);conv=>whnf
   refine ⟨Nat.le_of_ble_eq_true rfl,?_⟩;conv=>whnf
   refine FootQ.mk ⟨rfl,?_⟩;conv=>whnf
   refine Ari.w ?_;conv=>whnf
   exact again_c [24,25,26,27,28,29,30,31,32,33,34,35,36,37,38,39,40] n7 2 [0,3] (.inr (.inl (⟨_,_,H,rfl,rfl⟩))) (Nat.lt_succ_self _) (Nat.zero_le _) rfl (by kernel_rfl) (by kernel_rfl) rfl ⟨⟨rfl,rfl,rfl⟩,wkB_live0 rfl (cellsM_idlt (f := V.s) (fun _=>rfl) _) rfl trivial⟩
  conv=>whnf
  obtain rfl := Option.some.inj H
  have H := HQ6
  try dsimp only at H
  refine ask_c (p_snap_Begin_v) H rfl rfl (fun v184 H=>?_);conv=>whnf
  refine ⟨Nat.le_of_ble_eq_true rfl,?_⟩;conv=>whnf
  obtain ⟨o186,HL187,HQ188⟩ := bind_c H
  refine loop_c [4,9,10] [11,12,13,14,15,16,17,18,42,43,44,45,46,47,48,49,50,51,52,53,54,55,56,57,58,59,60,61,62,63,64,65,66,67,68,69,70,71,72,73,74,75,76,77,78,79,80,81,82,83,84,85,86,87,88,89,90,91,92,93,94,95,96,97,98,99,100,101,102,103,104,105,106,107,108,109,110,111,112,113,114,115,116,117,118,119,120,121,122,123,124,125,126,127,128,129,130,131,132,133,134,135,136,137,138,139,140,141,142,143,144,145,146,147,148,149,150,151,152,153,154,155,156,157,158,159,160,161,162,163,164,165,166,167,168,169,170,171,172,173,174,175,176,177,178,179,180,181,182,183,184,185,186,187,188] [11,12,13,14,15,16,17,18,42,43,44,45,46,47,48,49,50,51,52,53,54,55,56,57,58,59,60,61,62,63,64,65,66,67,68,69,70,71,72,73,74,75,76,77,78,79,80,81,82,83,84,85,86,87,88,89,90,91,92,93,94,95,96,97,98,99,100,101,102,103,104,105,106,107,108,109,110,111,112,113,114,115,116,117,118,119,120,121,122,123,124,125,126,127,128,129,130,131,132,133,134,135,136,137,138,139,140,141,142,143,144,145,146,147,148,149,150,151,152,153,154,155,156,157,158,159,160,161,162,163,164,165,166,167,168,169,170,171,172,173,174,175,176,177,178,179,180,181,182,183,184,185,186,187,188] (fun n vals st=>(∃ y190 y191 y192 y193,p_law26_SnapTurns_l2  a0 y16 n y190 y191 y192 y193 = some o186 ∧ vals = [.b false,.s y190,.i y191] ∧ st = [.live [.osl 1 0 (List.length y16.Users) 1 false,.sl (List.map V.s y16.Keys) true] 0,.live (cellsM V.s y16.Users) (cellsM V.s y16.Users).length,.live [.i y192.Seq,.sl (List.map BookRow.v y192.Rows) true] 0,.live [.b y193.On,.b y193.Begun,.s y193.After,.i y193.Told] 0]) ∨ (∃ y249 y250 y251 y252,p_law26_SnapTurns_l2  a0 y16 n y249 y250 y251 y252 = some o186 ∧ vals = [.b false,.s y249,.i y250] ∧ st = [.live [.osl 1 0 (List.length y16.Users) 1 false,.sl (List.map V.s y16.Keys) true] 0,.live (cellsM V.s y16.Users) (cellsM V.s y16.Users).length,.live [.i y251.Seq,.sl (List.map BookRow.v y251.Rows) false] 0,.live [.b y252.On,.b y252.Begun,.s y252.After,.i y252.Told] 0])) fuel 4 [] (.inl (⟨_,_,_,_,HL187,rfl,rfl⟩)) (Nat.zero_le _) rfl (by kernel_rfl) (by kernel_rfl) rfl ⟨⟨rfl,rfl,rfl⟩,wkB_live0 rfl (cellsM_idlt (f := V.s) (fun _=>rfl) _) rfl ⟨⟨rfl,rfl,rfl⟩,⟨⟨rfl,rfl,rfl⟩,trivial⟩⟩⟩ ?_
  rintro (_ | n189) _ _ (⟨y190,y191,y192,y193,H,rfl,rfl⟩ | ⟨y249,y250,y251,y252,H,rfl,rfl⟩)
  ·rw [p_law26_SnapTurns_l2] at H;cases H
  ·rw [p_law26_SnapTurns_l2] at H;cases H
  ·rw [p_law26_SnapTurns_l2] at H
   conv=>whnf
   refine LenQ.M ?_;conv=>whnf
   refine tst_d H (fun b194 H=>?_) (fun b194 H=>?_)
   ·conv=>whnf
    obtain rfl := Option.some.inj H
    have H := HQ188
    try dsimp only at H
    obtain ⟨o254,HL255,HQ256⟩ := bind_c H
    refine loop_c [19] [189,190,191,192,193,194,195,196,197,198,199,200,201,202,203,204] [189,190,191,192,193,194,195,196,197,198,199,200,201,202,203,204] (fun n vals st=>(∃ y258 y259,p_law26_SnapTurns_l4  y16 y192 n y258 y259 = some o254 ∧ vals = [.i y258] ∧ st = [.live [.osl 1 0 (List.length y16.Users) 1 false,.sl (List.map V.s y16.Keys) true] 0,.live (cellsM V.s y16.Users) (cellsM V.s y16.Users).length,.live [.i y192.Seq,.sl (List.map BookRow.v y192.Rows) true] 0,.live [.b y259.On,.b y259.Begun,.s y259.After,.i y259.Told] 0])) fuel 4 [] (⟨_,_,HL255,rfl,rfl⟩) (Nat.zero_le _) rfl (by kernel_rfl) (by kernel_rfl) rfl ⟨⟨rfl,rfl,rfl⟩,wkB_live0 rfl (cellsM_idlt (f := V.s) (fun _=>rfl) _) rfl ⟨⟨rfl,rfl,rfl⟩,⟨⟨rfl,rfl,rfl⟩,trivial⟩⟩⟩ ?_
    rintro (_ | n257) _ _ (⟨y258,y259,H,rfl,rfl⟩)
    ·rw [p_law26_SnapTurns_l4] at H;cases H
    rw [p_law26_SnapTurns_l4] at H
    conv=>whnf
    refine tst_d H (fun b260 H=>?_) (fun b260 H=>?_)
    ·conv=>whnf
     iterate 3 (refine Tst.F ?_;conv=>whnf)
     obtain rfl := Option.some.inj H
     have H := HQ256
     try dsimp only at H
     refine askF_c (p_snap_Count_v _ _) H (.cons (fzagg (.cons (fzown (f := V.s) (l := y16.Users) rfl rfl (fun _=>rfl) (fun _=>rfl)) (.cons (.slw) (.nil))) rfl) (.cons (fzagg (.cons (.id rfl) (.cons (.slw) (.nil))) rfl) (.nil))) (fun v267 H=>?_);conv=>whnf
     refine Ari.w ?_;conv=>whnf
     refine tst_d H (fun b268 H=>?_) (fun b268 H=>?_)
     ·conv=>whnf
      iterate 5 (refine Tst.F ?_;conv=>whnf)
      exact fin0_c (enc := V.b) H (.inr rfl) (.cons (.tmp rfl) (.nil)) rfl rfl
     conv=>whnf
     iterate 3 (refine Tst.T ?_;conv=>whnf)
     refine tst_d H (fun b269 H=>?_) (fun b269 H=>?_)
     ·conv=>whnf
      refine Tst.F ?_;conv=>whnf
      exact fin0_c (enc := V.b) H (.inr rfl) (.cons (.tmp rfl) (.nil)) rfl rfl
     conv=>whnf
     refine ask_c (p_law26_awake_v) H rfl rfl (fun v270 H=>?_);conv=>whnf
     refine Tst.T ?_;conv=>whnf
     exact fin0_c (enc := V.b) H (.inr rfl) (.cons (.tmp rfl) (.nil)) rfl rfl
    conv=>whnf
    iterate 2 (refine Tst.T ?_;conv=>whnf)
    refine tst_c H (fun b261 H=>?_) (fun b261 H=>?_)
    ·conv=>whnf
     refine askF_c (p_snap_Next_v _ _ _) H (.cons (fzagg (.cons (.id rfl) (.cons (.id rfl) (.cons (.id rfl) (.cons (.id rfl) (.nil))))) rfl) (.cons (fzagg (.cons (fzown (f := V.s) (l := y16.Users) rfl rfl (fun _=>rfl) (fun _=>rfl)) (.cons (.slw) (.nil))) rfl) (.cons (fzagg (.cons (.id rfl) (.cons (.slw) (.nil))) rfl) (.nil)))) (fun v262 H=>?_);conv=>whnf
     refine ⟨Nat.le_of_ble_eq_true rfl,?_⟩;conv=>whnf
     refine Ari.w ?_;conv=>whnf
     exact again_c [189,190,191,192,193,194,195,196,197,198,199,200,201,202,203,204] n257 4 [] (⟨_,_,H,rfl,rfl⟩) (Nat.lt_succ_self _) (Nat.zero_le _) rfl (by kernel_rfl) (by kernel_rfl) rfl ⟨⟨rfl,rfl,rfl⟩,wkB_live0 rfl (cellsM_idlt (f := V.s) (fun _=>rfl) _) rfl ⟨⟨rfl,rfl,rfl⟩,⟨⟨rfl,rfl,rfl⟩,trivial⟩⟩⟩
    conv=>whnf
    obtain rfl := Option.some.inj H
    have H := HQ256
    try dsimp only at H
    refine askF_c (p_snap_Count_v _ _) H (.cons (fzagg (.cons (fzown (f := V.s) (l := y16.Users) rfl rfl (fun _=>rfl) (fun _=>rfl)) (.cons (.slw) (.nil))) rfl) (.cons (fzagg (.cons (.id rfl) (.cons (.slw) (.nil))) rfl) (.nil))) (fun v263 H=>?_);conv=>whnf
    refine Ari.w ?_;conv=>whnf
    refine tst_d H (fun b264 H=>?_) (fun b264 H=>?_)
    ·conv=>whnf
     iterate 5 (refine Tst.F ?_;conv=>whnf)
     exact fin0_c (enc := V.b) H (.inr rfl) (.cons (.tmp rfl) (.nil)) rfl rfl
    conv=>whnf
    iterate 3 (refine Tst.T ?_;conv=>whnf)
    refine tst_d H (fun b265 H=>?_) (fun b265 H=>?_)
    ·conv=>whnf
     refine Tst.F ?_;conv=>whnf
     exact fin0_c (enc := V.b) H (.inr rfl) (.cons (.tmp rfl) (.nil)) rfl rfl
    conv=>whnf
    refine ask_c (p_law26_awake_v) H rfl rfl (fun v266 H=>?_);conv=>whnf
    refine Tst.T ?_;conv=>whnf
    exact fin0_c (enc := V.b) H (.inr rfl) (.cons (.tmp rfl) (.nil)) rfl rfl
   conv=>whnf
   obtain ⟨K195,hK196,o197,HL198,HQ199⟩ := join0_c H
   refine join_c [5,7,8] [48,49,50,51,52,53,54,55,56,57,58,59,60,61,62,63,64,65,66,67,68,69,70,71,72,73,74,75,76,77,78,79,80,81,82,83] (fun vals st=>(∃ y206,K195 y206 = some o186 ∧ vals = [.ptr 0 0,.ptr 2 0,.ptr 3 0] ∧ st = [.live [.osl 1 0 (List.length y16.Users) 1 false,.sl (List.map V.s y16.Keys) true] 0,.live (cellsM V.s y16.Users) (cellsM V.s y16.Users).length,.live [.i y206.Seq,.sl (List.map BookRow.v y206.Rows) false] 0,.live [.b y193.On,.b y193.Begun,.s y193.After,.i y193.Told] 0])) ?_ ?_
   ·have H := HL198
    conv=>whnf
    refine ixs_c (f := Law26Deed.v) H (fun _=>rfl) (fun x201 H=>?_);conv=>whnf
    refine ⟨Nat.le_of_ble_eq_true rfl,?_⟩;conv=>whnf
    refine tst_c H (fun b202 H=>?_) (fun b202 H=>?_)
    ·conv=>whnf
     refine ixs_c (f := Law26Deed.v) H (fun _=>rfl) (fun x203 H=>?_);conv=>whnf
     refine ⟨Nat.le_of_ble_eq_true rfl,?_⟩;conv=>whnf
     refine ask_c (p_law26_who_v _) H rfl rfl (fun v204 H=>?_);conv=>whnf
     refine ask_c (p_book_Off_v _ _ _) H rfl rfl (fun v205 H=>?_);conv=>whnf
     refine ⟨Nat.le_of_ble_eq_true rfl,?_⟩;conv=>whnf
     refine FootQ.mk ⟨rfl,?_⟩;conv=>whnf
     obtain rfl := Option.some.inj H
     exact arrive_c [48,49,50,51,52,53,54,55,56,57,58,59,60,61,62,63,64,65,66,67,68,69,70,71,72,73,74,75,76,77,78,79,80,81,82,83] 4 [] (⟨_,HQ199,rfl,rfl⟩) (Nat.zero_le _) rfl (by kernel_rfl) (by kernel_rfl) rfl ⟨⟨rfl,rfl,rfl⟩,wkB_live0 rfl (cellsM_idlt (f := V.s) (fun _=>rfl) _) rfl ⟨⟨rfl,rfl,rfl⟩,⟨⟨rfl,rfl,rfl⟩,trivial⟩⟩⟩
    conv=>whnf
    refine ixs_c (f := Law26Deed.v) H (fun _=>rfl) (fun x207 H=>?_);conv=>whnf
    refine ⟨Nat.le_of_ble_eq_true rfl,?_⟩;conv=>whnf
    refine ask_c (p_law26_who_v _) H rfl rfl (fun v208 H=>?_);conv=>whnf
    refine ixs_c (f := Law26Deed.v) H (fun _=>rfl) (fun x209 H=>?_);conv=>whnf
    refine ⟨Nat.le_of_ble_eq_true rfl,?_⟩;conv=>whnf
    refine ⟨by decide,?_⟩;conv=>whnf
    refine Ari.w ?_;conv=>whnf
    refine ask_c (p_book_Set_v _ _ _ _ _) H rfl rfl (fun v210 H=>?_);conv=>whnf
    refine ⟨Nat.le_of_ble_eq_true rfl,?_⟩;conv=>whnf
    refine FootQ.mk ⟨rfl,?_⟩;conv=>whnf
    obtain rfl := Option.some.inj H
    exact arrive_c [48,49,50,51,52,53,54,55,56,57,58,59,60,61,62,63,64,65,66,67,68,69,70,71,72,73,74,75,76,77,78,79,80,81,82,83] 4 [] (⟨_,HQ199,rfl,rfl⟩) (Nat.zero_le _) rfl (by kernel_rfl) (by kernel_rfl) rfl ⟨⟨rfl,rfl,rfl⟩,wkB_live0 rfl (cellsM_idlt (f := V.s) (fun _=>rfl) _) rfl ⟨⟨rfl,rfl,rfl⟩,⟨⟨rfl,rfl,rfl⟩,trivial⟩⟩⟩
   rintro _ _ (⟨y206,H,rfl,rfl⟩)
   rw [hK196] at H
   try dsimp only at H
   conv=>whnf
   refine ixs_c (f := Law26Deed.v) H (fun _=>rfl) (fun x211 H=>?_);conv=>whnf
   refine ⟨Nat.le_of_ble_eq_true rfl,?_⟩;conv=>whnf
   refine Tst.not ?_
   refine tst_d H (fun b212 H=>?_) (fun b212 H=>?_)
   ·conv=>whnf
    refine Ari.w ?_;conv=>whnf
    exact again_c [11,12,13,14,15,16,17,18,42,43,44,45,46,47,48,49,50,51,52,53,54,55,56,57,58,59,60,61,62,63,64,65,66,67,68,69,70,71,72,73,74,75,76,77,78,79,80,81,82,83,84,85,86,87,88,89,90,91,92,93,94,95,96,97,98,99,100,101,102,103,104,105,106,107,108,109,110,111,112,113,114,115,116,117,118,119,120,121,122,123,124,125,126,127,128,129,130,131,132,133,134,135,136,137,138,139,140,141,142,143,144,145,146,147,148,149,150,151,152,153,154,155,156,157,158,159,160,161,162,163,164,165,166,167,168,169,170,171,172,173,174,175,176,177,178,179,180,181,182,183,184,185,186,187,188] n189 4 [] (.inr (⟨_,_,_,_,H,rfl,rfl⟩)) (Nat.lt_succ_self _) (Nat.zero_le _) rfl (by kernel_rfl) (by kernel_rfl) rfl ⟨⟨rfl,rfl,rfl⟩,wkB_live0 rfl (cellsM_idlt (f := V.s) (fun _=>rfl) _) rfl ⟨⟨rfl,rfl,rfl⟩,⟨⟨rfl,rfl,rfl⟩,trivial⟩⟩⟩
   conv=>whnf
   refine askF_c (p_snap_Next_v _ _ _) H (.cons (fzagg (.cons (.id rfl) (.cons (.id rfl) (.cons (.id rfl) (.cons (.id rfl) (.nil))))) rfl) (.cons (fzagg (.cons (fzown (f := V.s) (l := y16.Users) rfl rfl (fun _=>rfl) (fun _=>rfl)) (.cons (.slw) (.nil))) rfl) (.cons (fzagg (.cons (.id rfl) (.cons (.id rfl) (.nil))) rfl) (.nil)))) (fun v213 H=>?_);conv=>whnf
   refine ⟨Nat.le_of_ble_eq_true rfl,?_⟩;conv=>whnf
   refine ⟨Nat.le_of_ble_eq_true rfl,?_⟩;conv=>whnf
   refine tst_c H (fun b214 H=>?_) (fun b214 H=>?_)
   ·conv=>whnf
    iterate 4 (refine Tst.T ?_;conv=>whnf)
    obtain rfl := Option.some.inj H
    have H := HQ188
    try dsimp only at H
    exact fin0_c (enc := V.b) H (.inr rfl) (.cons (.tmp rfl) (.nil)) rfl rfl
   conv=>whnf
   refine Tst.F ?_;conv=>whnf
   refine ask_c (p_snap_Check_v _) H rfl rfl (fun v215 H=>?_);conv=>whnf
   iterate 2 (refine Tst.F ?_;conv=>whnf)
   refine tst_c H (fun b216 H=>?_) (fun b216 H=>?_)
   ·conv=>whnf
    obtain rfl := Option.some.inj H
    have H := HQ188
    try dsimp only at H
    exact fin0_c (enc := V.b) H (.inr rfl) (.cons (.tmp rfl) (.nil)) rfl rfl
   conv=>whnf
   obtain ⟨K217,hK218,o219,HL220,HQ221⟩ := join0_c H
   refine join_c [4,9,5,7,8,11,12] [14,15,16,107,108,109,110,111,112,113,114,115,116,117,118,119,120,121,122,123,124,125,126,127,128,129,130,131,132,133,134,135,136,137,138,139,140,141,142,143,144,145,146,147,148,149,150,151,152,153,154,155,156,157,158,159,160,92,99] (fun vals st=>(∃ y235,K217 (.inr y235) = some o186 ∧ vals = [.b false,.s y235,.ptr 0 0,.ptr 2 0,.ptr 3 0,.ptr 4 0,.ptr 5 0] ∧ st = [.live [.osl 1 0 (List.length y16.Users) 1 false,.sl (List.map V.s y16.Keys) true] 0,.live (cellsM V.s y16.Users) (cellsM V.s y16.Users).length,.live [.i y206.Seq,.sl (List.map BookRow.v y206.Rows) false] 0,.live [.b y193.On,.b y193.Begun,.s y193.After,.i y193.Told] 0,.live [.b v213.1.On,.b v213.1.Begun,.s v213.1.After,.i v213.1.Told] 0,.live [.y8 v213.2.1.Kind,.s v213.2.1.User,.s v213.2.1.Res,.s v213.2.1.Name,.i v213.2.1.Show,.i v213.2.1.Prio,.i v213.2.1.Code,.i v213.2.1.N] 0])) ?_ ?_
   ·have H := HL220
    conv=>whnf
    refine tst_d H (fun b223 H=>?_) (fun b223 H=>?_)
    ·conv=>whnf
     obtain rfl := Option.some.inj H
     exact arrive_c [14,15,16,107,108,109,110,111,112,113,114,115,116,117,118,119,120,121,122,123,124,125,126,127,128,129,130,131,132,133,134,135,136,137,138,139,140,141,142,143,144,145,146,147,148,149,150,151,152,153,154,155,156,157,158,159,160,92,99] 6 [] (⟨_,HQ221,rfl,rfl⟩) (Nat.zero_le _) rfl (by kernel_rfl) (by kernel_rfl) rfl ⟨⟨rfl,rfl,rfl⟩,wkB_live0 rfl (cellsM_idlt (f := V.s) (fun _=>rfl) _) rfl ⟨⟨rfl,rfl,rfl⟩,⟨⟨rfl,rfl,rfl⟩,⟨⟨rfl,rfl,rfl⟩,⟨⟨rfl,rfl,rfl⟩,trivial⟩⟩⟩⟩⟩
    conv=>whnf
    refine ask_c (p_book_Get_v _ _ _) H rfl rfl (fun v224 H=>?_);conv=>whnf
    refine ⟨Nat.le_of_ble_eq_true rfl,?_⟩;conv=>whnf
    refine ask_c (p_pres_Key_v _ _) H rfl rfl (fun v225 H=>?_);conv=>whnf
    refine Tst.not ?_
    refine tst_d H (fun b226 H=>?_) (fun b226 H=>?_)
    ·conv=>whnf
     iterate 28 (refine Tst.T ?_;conv=>whnf)
     refine FootQ.mk ⟨rfl,?_⟩;conv=>whnf
     refine Tst.T ?_;conv=>whnf
     obtain rfl := Option.some.inj H
     have H := HQ221
     rw [hK218] at H
     try dsimp only at H
     obtain rfl := Option.some.inj H
     have H := HQ188
     try dsimp only at H
     exact fin0_c (enc := V.b) H (.inr rfl) (.cons (.tmp rfl) (.nil)) rfl rfl
    conv=>whnf
    iterate 5 (refine Tst.F ?_;conv=>whnf)
    refine ask_c (p_pres_Say_v _ _ _) H rfl rfl (fun v227 H=>?_);conv=>whnf
    iterate 3 (refine Tst.F ?_;conv=>whnf)
    refine Tst.not ?_
    refine tst_d H (fun b228 H=>?_) (fun b228 H=>?_)
    ·conv=>whnf
     iterate 19 (refine Tst.T ?_;conv=>whnf)
     refine FootQ.mk ⟨rfl,?_⟩;conv=>whnf
     refine Tst.T ?_;conv=>whnf
     obtain rfl := Option.some.inj H
     have H := HQ221
     rw [hK218] at H
     try dsimp only at H
     obtain rfl := Option.some.inj H
     have H := HQ188
     try dsimp only at H
     exact fin0_c (enc := V.b) H (.inr rfl) (.cons (.tmp rfl) (.nil)) rfl rfl
    conv=>whnf
    iterate 3 (refine Tst.F ?_;conv=>whnf)
    refine tst_c H (fun b229 H=>?_) (fun b229 H=>?_)
    ·conv=>whnf
     iterate 15 (refine Tst.T ?_;conv=>whnf)
     refine FootQ.mk ⟨rfl,?_⟩;conv=>whnf
     refine Tst.T ?_;conv=>whnf
     obtain rfl := Option.some.inj H
     have H := HQ221
     rw [hK218] at H
     try dsimp only at H
     obtain rfl := Option.some.inj H
     have H := HQ188
     try dsimp only at H
     exact fin0_c (enc := V.b) H (.inr rfl) (.cons (.tmp rfl) (.nil)) rfl rfl
    conv=>whnf
    iterate 2 (refine Tst.F ?_;conv=>whnf)
    refine ask_c (p_snap_Covers_v _ _) H rfl rfl (fun v230 H=>?_);conv=>whnf
    iterate 2 (refine Tst.F ?_;conv=>whnf)
    refine Tst.not ?_
    refine tst_d H (fun b231 H=>?_) (fun b231 H=>?_)
    ·conv=>whnf
     iterate 10 (refine Tst.T ?_;conv=>whnf)
     refine FootQ.mk ⟨rfl,?_⟩;conv=>whnf
     refine Tst.T ?_;conv=>whnf
     obtain rfl := Option.some.inj H
     have H := HQ221
     rw [hK218] at H
     try dsimp only at H
     obtain rfl := Option.some.inj H
     have H := HQ188
     try dsimp only at H
     exact fin0_c (enc := V.b) H (.inr rfl) (.cons (.tmp rfl) (.nil)) rfl rfl
    conv=>whnf
    iterate 2 (refine Tst.F ?_;conv=>whnf)
    refine ask_c (p_snap_Covers_v _ _) H rfl rfl (fun v232 H=>?_);conv=>whnf
    refine Tst.F ?_;conv=>whnf
    refine tst_c H (fun b233 H=>?_) (fun b233 H=>?_)
    ·conv=>whnf
     iterate 6 (refine Tst.T ?_;conv=>whnf)
     refine FootQ.mk ⟨rfl,?_⟩;conv=>whnf
     refine Tst.T ?_;conv=>whnf
     obtain rfl := Option.some.inj H
     have H := HQ221
     rw [hK218] at H
     try dsimp only at H
     obtain rfl := Option.some.inj H
     have H := HQ188
     try dsimp only at H
     exact fin0_c (enc := V.b) H (.inr rfl) (.cons (.tmp rfl) (.nil)) rfl rfl
    conv=>whnf
    iterate 4 (refine Tst.F ?_;conv=>whnf)
    refine Ari.w ?_;conv=>whnf
    iterate 2 (refine Tst.F ?_;conv=>whnf)
    refine FootQ.mk ⟨rfl,?_⟩;conv=>whnf
    refine tst_c H (fun b234 H=>?_) (fun b234 H=>?_)
    ·conv=>whnf
     obtain rfl := Option.some.inj H
     have H := HQ221
     rw [hK218] at H
     try dsimp only at H
     obtain rfl := Option.some.inj H
     have H := HQ188
     try dsimp only at H
     exact fin0_c (enc := V.b) H (.inr rfl) (.cons (.tmp rfl) (.nil)) rfl rfl
    conv=>whnf
    obtain rfl := Option.some.inj H
    exact arrive_c [14,15,16,107,108,109,110,111,112,113,114,115,116,117,118,119,120,121,122,123,124,125,126,127,128,129,130,131,132,133,134,135,136,137,138,139,140,141,142,143,144,145,146,147,148,149,150,151,152,153,154,155,156,157,158,159,160,92,99] 6 [] (⟨_,HQ221,rfl,rfl⟩) (Nat.zero_le _) rfl (by kernel_rfl) (by kernel_rfl) rfl ⟨⟨rfl,rfl,rfl⟩,wkB_live0 rfl (cellsM_idlt (f := V.s) (fun _=>rfl) _) rfl ⟨⟨rfl,rfl,rfl⟩,⟨⟨rfl,rfl,rfl⟩,⟨⟨rfl,rfl,rfl⟩,⟨⟨rfl,rfl,rfl⟩,trivial⟩⟩⟩⟩⟩
   rintro _ _ (⟨y235,H,rfl,rfl⟩)
   rw [hK218] at H
   try dsimp only at H
   conv=>whnf
   refine tst_d H (fun b236 H=>?_) (fun b236 H=>?_)
   ·conv=>whnf
    refine ⟨Nat.le_of_ble_eq_true rfl,?_⟩;conv=>whnf
    refine Ari.w ?_;conv=>whnf
    exact again_c [11,12,13,14,15,16,17,18,42,43,44,45,46,47,48,49,50,51,52,53,54,55,56,57,58,59,60,61,62,63,64,65,66,67,68,69,70,71,72,73,74,75,76,77,78,79,80,81,82,83,84,85,86,87,88,89,90,91,92,93,94,95,96,97,98,99,100,101,102,103,104,105,106,107,108,109,110,111,112,113,114,115,116,117,118,119,120,121,122,123,124,125,126,127,128,129,130,131,132,133,134,135,136,137,138,139,140,141,142,143,144,145,146,147,148,149,150,151,152,153,154,155,156,157,158,159,160,161,162,163,164,165,166,167,168,169,170,171,172,173,174,175,176,177,178,179,180,181,182,183,184,185,186,187,188] n189 4 [] (.inr (⟨_,_,_,_,H,rfl,rfl⟩)) (Nat.lt_succ_self _) (Nat.zero_le _) rfl (by kernel_rfl) (by kernel_rfl) rfl ⟨⟨rfl,rfl,rfl⟩,wkB_live0 rfl (cellsM_idlt (f := V.s) (fun _=>rfl) _) rfl ⟨⟨rfl,rfl,rfl⟩,⟨⟨rfl,rfl,rfl⟩,trivial⟩⟩⟩
   conv=>whnf
   obtain ⟨o238,HL239,HQ240⟩ := bind_c H
   refine loop_c [4,17] [18,164,165,166,167,168,169,170,171,172,173,174,175,176,177,178,179,180,181,182,183,184,185,186,187,12,161] [18,164,165,166,167,168,169,170,171,172,173,174,175,176,177,178,179,180,181,182,183,184,185,186,187,12,161] (fun n vals st=>(∃ y242,p_law26_SnapTurns_l3  y235 y16 y206 n y242 = some o238 ∧ vals = [.b false,.i y242] ∧ st = [.live [.osl 1 0 (List.length y16.Users) 1 false,.sl (List.map V.s y16.Keys) true] 0,.live (cellsM V.s y16.Users) (cellsM V.s y16.Users).length,.live [.i y206.Seq,.sl (List.map BookRow.v y206.Rows) false] 0,.live [.b y193.On,.b y193.Begun,.s y193.After,.i y193.Told] 0,.live [.b v213.1.On,.b v213.1.Begun,.s v213.1.After,.i v213.1.Told] 0])) fuel 5 [] (⟨_,HL239,rfl,rfl⟩) (Nat.zero_le _) rfl (by kernel_rfl) (by kernel_rfl) rfl ⟨⟨rfl,rfl,rfl⟩,wkB_live0 rfl (cellsM_idlt (f := V.s) (fun _=>rfl) _) rfl ⟨⟨rfl,rfl,rfl⟩,⟨⟨rfl,rfl,rfl⟩,⟨⟨rfl,rfl,rfl⟩,trivial⟩⟩⟩⟩ ?_
   rintro (_ | n241) _ _ (⟨y242,H,rfl,rfl⟩)
   ·rw [p_law26_SnapTurns_l3] at H;cases H
   rw [p_law26_SnapTurns_l3] at H
   conv=>whnf
   refine LenQ.M ?_;conv=>whnf
   refine tst_d H (fun b243 H=>?_) (fun b243 H=>?_)
   ·conv=>whnf
    obtain rfl := Option.some.inj H
    have H := HQ240
    try dsimp only at H
    refine ⟨Nat.le_of_ble_eq_true rfl,?_⟩;conv=>whnf
    refine Ari.w ?_;conv=>whnf
    exact again_c [11,12,13,14,15,16,17,18,42,43,44,45,46,47,48,49,50,51,52,53,54,55,56,57,58,59,60,61,62,63,64,65,66,67,68,69,70,71,72,73,74,75,76,77,78,79,80,81,82,83,84,85,86,87,88,89,90,91,92,93,94,95,96,97,98,99,100,101,102,103,104,105,106,107,108,109,110,111,112,113,114,115,116,117,118,119,120,121,122,123,124,125,126,127,128,129,130,131,132,133,134,135,136,137,138,139,140,141,142,143,144,145,146,147,148,149,150,151,152,153,154,155,156,157,158,159,160,161,162,163,164,165,166,167,168,169,170,171,172,173,174,175,176,177,178,179,180,181,182,183,184,185,186,187,188] n189 4 [] (.inr (⟨_,_,_,_,H,rfl,rfl⟩)) (Nat.lt_succ_self _) (Nat.zero_le _) rfl (by kernel_rfl) (by kernel_rfl) rfl ⟨⟨rfl,rfl,rfl⟩,wkB_live0 rfl (cellsM_idlt (f := V.s) (fun _=>rfl) _) rfl ⟨⟨rfl,rfl,rfl⟩,⟨⟨rfl,rfl,rfl⟩,trivial⟩⟩⟩
   conv=>whnf
   refine ixs_c (f := BookRow.v) H (fun _=>rfl) (fun x244 H=>?_);conv=>whnf
   refine ⟨Nat.le_of_ble_eq_true rfl,?_⟩;conv=>whnf
   refine askF_c (p_snap_Sees_v _ _) H (.cons (fzagg (.cons (fzown (f := V.s) (l := y16.Users) rfl rfl (fun _=>rfl) (fun _=>rfl)) (.cons (.slw) (.nil))) rfl) (.cons (fzagg (.cons (.id rfl) (.cons (.id rfl) (.cons (.id rfl) (.cons (.id rfl) (.cons (.id rfl) (.cons (.id rfl) (.nil))))))) rfl) (.nil))) (fun v245 H=>?_);conv=>whnf
   refine tst_d H (fun b246 H=>?_) (fun b246 H=>?_)
   ·conv=>whnf
    iterate 8 (refine Tst.F ?_;conv=>whnf)
    refine Ari.w ?_;conv=>whnf
    exact again_c [18,164,165,166,167,168,169,170,171,172,173,174,175,176,177,178,179,180,181,182,183,184,185,186,187,12,161] n241 5 [] (⟨_,H,rfl,rfl⟩) (Nat.lt_succ_self _) (Nat.zero_le _) rfl (by kernel_rfl) (by kernel_rfl) rfl ⟨⟨rfl,rfl,rfl⟩,wkB_live0 rfl (cellsM_idlt (f := V.s) (fun _=>rfl) _) rfl ⟨⟨rfl,rfl,rfl⟩,⟨⟨rfl,rfl,rfl⟩,⟨⟨rfl,rfl,rfl⟩,trivial⟩⟩⟩⟩
   conv=>whnf
   iterate 4 (refine Tst.T ?_;conv=>whnf)
   refine ask_c (p_pres_Key_v _ _) H rfl rfl (fun v247 H=>?_);conv=>whnf
   iterate 3 (refine Tst.T ?_;conv=>whnf)
   refine Tst.not ?_
   refine tst_d H (fun b248 H=>?_) (fun b248 H=>?_)
   ·conv=>whnf
    obtain rfl := Option.some.inj H
    have H := HQ240
    try dsimp only at H
    obtain rfl := Option.some.inj H
    have H := HQ188
    try dsimp only at H
    exact fin0_c (enc := V.b) H (.inr rfl) (.cons (.tmp rfl) (.nil)) rfl rfl
   conv=>whnf
   refine Ari.w ?_;conv=>whnf
   exact again_c [18,164,165,166,167,168,169,170,171,172,173,174,175,176,177,178,179,180,181,182,183,184,185,186,187,12,161] n241 5 [] (⟨_,H,rfl,rfl⟩) (Nat.lt_succ_self _) (Nat.zero_le _) rfl (by kernel_rfl) (by kernel_rfl) rfl ⟨⟨rfl,rfl,rfl⟩,wkB_live0 rfl (cellsM_idlt (f := V.s) (fun _=>rfl) _) rfl ⟨⟨rfl,rfl,rfl⟩,⟨⟨rfl,rfl,rfl⟩,⟨⟨rfl,rfl,rfl⟩,trivial⟩⟩⟩⟩
  rw [p_law26_SnapTurns_l2] at H
  conv=>whnf
  refine LenQ.M ?_;conv=>whnf
  refine tst_d H (fun b271 H=>?_) (fun b271 H=>?_)
  ·conv=>whnf
   obtain rfl := Option.some.inj H
   have H := HQ188
   try dsimp only at H
   obtain ⟨o327,HL328,HQ329⟩ := bind_c H
   refine loop_c [19] [189,190,191,192,193,194,195,196,197,198,199,200,201,202,203,204] [189,190,191,192,193,194,195,196,197,198,199,200,201,202,203,204] (fun n vals st=>(∃ y331 y332,p_law26_SnapTurns_l4  y16 y251 n y331 y332 = some o327 ∧ vals = [.i y331] ∧ st = [.live [.osl 1 0 (List.length y16.Users) 1 false,.sl (List.map V.s y16.Keys) true] 0,.live (cellsM V.s y16.Users) (cellsM V.s y16.Users).length,.live [.i y251.Seq,.sl (List.map BookRow.v y251.Rows) false] 0,.live [.b y332.On,.b y332.Begun,.s y332.After,.i y332.Told] 0])) fuel 4 [] (⟨_,_,HL328,rfl,rfl⟩) (Nat.zero_le _) rfl (by kernel_rfl) (by kernel_rfl) rfl ⟨⟨rfl,rfl,rfl⟩,wkB_live0 rfl (cellsM_idlt (f := V.s) (fun _=>rfl) _) rfl ⟨⟨rfl,rfl,rfl⟩,⟨⟨rfl,rfl,rfl⟩,trivial⟩⟩⟩ ?_
   rintro (_ | n330) _ _ (⟨y331,y332,H,rfl,rfl⟩)
   ·rw [p_law26_SnapTurns_l4] at H;cases H
   rw [p_law26_SnapTurns_l4] at H
   conv=>whnf
   refine tst_d H (fun b333 H=>?_) (fun b333 H=>?_)
   ·conv=>whnf
    iterate 3 (refine Tst.F ?_;conv=>whnf)
    obtain rfl := Option.some.inj H
    have H := HQ329
    try dsimp only at H
    refine askF_c (p_snap_Count_v _ _) H (.cons (fzagg (.cons (fzown (f := V.s) (l := y16.Users) rfl rfl (fun _=>rfl) (fun _=>rfl)) (.cons (.slw) (.nil))) rfl) (.cons (fzagg (.cons (.id rfl) (.cons (.id rfl) (.nil))) rfl) (.nil))) (fun v340 H=>?_);conv=>whnf
    refine Ari.w ?_;conv=>whnf
    refine tst_d H (fun b341 H=>?_) (fun b341 H=>?_)
    ·conv=>whnf
     iterate 5 (refine Tst.F ?_;conv=>whnf)
     exact fin0_c (enc := V.b) H (.inr rfl) (.cons (.tmp rfl) (.nil)) rfl rfl
    conv=>whnf
    iterate 3 (refine Tst.T ?_;conv=>whnf)
    refine tst_d H (fun b342 H=>?_) (fun b342 H=>?_)
    ·conv=>whnf
     refine Tst.F ?_;conv=>whnf
     exact fin0_c (enc := V.b) H (.inr rfl) (.cons (.tmp rfl) (.nil)) rfl rfl
    conv=>whnf
    refine ask_c (p_law26_awake_v) H rfl rfl (fun v343 H=>?_);conv=>whnf
    refine Tst.T ?_;conv=>whnf
    exact fin0_c (enc := V.b) H (.inr rfl) (.cons (.tmp rfl) (.nil)) rfl rfl
   conv=>whnf
   iterate 2 (refine Tst.T ?_;conv=>whnf)
   refine tst_c H (fun b334 H=>?_) (fun b334 H=>?_)
   ·conv=>whnf
    refine askF_c (p_snap_Next_v _ _ _) H (.cons (fzagg (.cons (.id rfl) (.cons (.id rfl) (.cons (.id rfl) (.cons (.id rfl) (.nil))))) rfl) (.cons (fzagg (.cons (fzown (f := V.s) (l := y16.Users) rfl rfl (fun _=>rfl) (fun _=>rfl)) (.cons (.slw) (.nil))) rfl) (.cons (fzagg (.cons (.id rfl) (.cons (.id rfl) (.nil))) rfl) (.nil)))) (fun v335 H=>?_);conv=>whnf
    refine ⟨Nat.le_of_ble_eq_true rfl,?_⟩;conv=>whnf
    refine Ari.w ?_;conv=>whnf
    exact again_c [189,190,191,192,193,194,195,196,197,198,199,200,201,202,203,204] n330 4 [] (⟨_,_,H,rfl,rfl⟩) (Nat.lt_succ_self _) (Nat.zero_le _) rfl (by kernel_rfl) (by kernel_rfl) rfl ⟨⟨rfl,rfl,rfl⟩,wkB_live0 rfl (cellsM_idlt (f := V.s) (fun _=>rfl) _) rfl ⟨⟨rfl,rfl,rfl⟩,⟨⟨rfl,rfl,rfl⟩,trivial⟩⟩⟩
   conv=>whnf
   obtain rfl := Option.some.inj H
   have H := HQ329
   try dsimp only at H
   refine askF_c (p_snap_Count_v _ _) H (.cons (fzagg (.cons (fzown (f := V.s) (l := y16.Users) rfl rfl (fun _=>rfl) (fun _=>rfl)) (.cons (.slw) (.nil))) rfl) (.cons (fzagg (.cons (.id rfl) (.cons (.id rfl) (.nil))) rfl) (.nil))) (fun v336 H=>?_);conv=>whnf
   refine Ari.w ?_;conv=>whnf
   refine tst_d H (fun b337 H=>?_) (fun b337 H=>?_)
   ·conv=>whnf
    iterate 5 (refine Tst.F ?_;conv=>whnf)
    exact fin0_c (enc := V.b) H (.inr rfl) (.cons (.tmp rfl) (.nil)) rfl rfl
   conv=>whnf
   iterate 3 (refine Tst.T ?_;conv=>whnf)
   refine tst_d H (fun b338 H=>?_) (fun b338 H=>?_)
   ·conv=>whnf
    refine Tst.F ?_;conv=>whnf
    exact fin0_c (enc := V.b) H (.inr rfl) (.cons (.tmp rfl) (.nil)) rfl rfl
   conv=>whnf
   refine ask_c (p_law26_awake_v) H rfl rfl (fun v339 H=>?_);conv=>whnf
   refine Tst.T ?_;conv=>whnf
   exact fin0_c (enc := V.b) H (.inr rfl) (.cons (.tmp rfl) (.nil)) rfl rfl
  conv=>whnf
  obtain ⟨K272,hK273,o274,HL275,HQ276⟩ := join0_c H
  refine join_c [5,7,8] [48,49,50,51,52,53,54,55,56,57,58,59,60,61,62,63,64,65,66,67,68,69,70,71,72,73,74,75,76,77,78,79,80,81,82,83] (fun vals st=>(∃ y283,K272 y283 = some o186 ∧ vals = [.ptr 0 0,.ptr 2 0,.ptr 3 0] ∧ st = [.live [.osl 1 0 (List.length y16.Users) 1 false,.sl (List.map V.s y16.Keys) true] 0,.live (cellsM V.s y16.Users) (cellsM V.s y16.Users).length,.live [.i y283.Seq,.sl (List.map BookRow.v y283.Rows) false] 0,.live [.b y252.On,.b y252.Begun,.s y252.After,.i y252.Told] 0])) ?_ ?_
  ·have H := HL275
   conv=>whnf
   refine ixs_c (f := Law26Deed.v) H (fun _=>rfl) (fun x278 H=>?_);conv=>whnf
   refine ⟨Nat.le_of_ble_eq_true rfl,?_⟩;conv=>whnf
   refine tst_c H (fun b279 H=>?_) (fun b279 H=>?_)
   ·conv=>whnf
    refine ixs_c (f := Law26Deed.v) H (fun _=>rfl) (fun x280 H=>?_);conv=>whnf
    refine ⟨Nat.le_of_ble_eq_true rfl,?_⟩;conv=>whnf
    refine ask_c (p_law26_who_v _) H rfl rfl (fun v281 H=>?_);conv=>whnf
    refine ask_c (p_book_Off_v _ _ _) H rfl rfl (fun v282 H=>?_);conv=>whnf
    refine ⟨Nat.le_of_ble_eq_true rfl,?_⟩;conv=>whnf
    refine FootQ.mk ⟨rfl,?_⟩;conv=>whnf
    obtain rfl := Option.some.inj H
    exact arrive_c [48,49,50,51,52,53,54,55,56,57,58,59,60,61,62,63,64,65,66,67,68,69,70,71,72,73,74,75,76,77,78,79,80,81,82,83] 4 [] (⟨_,HQ276,rfl,rfl⟩) (Nat.zero_le _) rfl (by kernel_rfl) (by kernel_rfl) rfl ⟨⟨rfl,rfl,rfl⟩,wkB_live0 rfl (cellsM_idlt (f := V.s) (fun _=>rfl) _) rfl ⟨⟨rfl,rfl,rfl⟩,⟨⟨rfl,rfl,rfl⟩,trivial⟩⟩⟩
   conv=>whnf
   refine ixs_c (f := Law26Deed.v) H (fun _=>rfl) (fun x284 H=>?_);conv=>whnf
   refine ⟨Nat.le_of_ble_eq_true rfl,?_⟩;conv=>whnf
   refine ask_c (p_law26_who_v _) H rfl rfl (fun v285 H=>?_);conv=>whnf
   refine ixs_c (f := Law26Deed.v) H (fun _=>rfl) (fun x286 H=>?_);conv=>whnf
   refine ⟨Nat.le_of_ble_eq_true rfl,?_⟩;conv=>whnf
   refine ⟨by decide,?_⟩;conv=>whnf
   refine Ari.w ?_;conv=>whnf
   refine ask_c (p_book_Set_v _ _ _ _ _) H rfl rfl (fun v287 H=>?_);conv=>whnf
   refine ⟨Nat.le_of_ble_eq_true rfl,?_⟩;conv=>whnf
   refine FootQ.mk ⟨rfl,?_⟩;conv=>whnf
   obtain rfl := Option.some.inj H
   exact arrive_c [48,49,50,51,52,53,54,55,56,57,58,59,60,61,62,63,64,65,66,67,68,69,70,71,72,73,74,75,76,77,78,79,80,81,82,83] 4 [] (⟨_,HQ276,rfl,rfl⟩) (Nat.zero_le _) rfl (by kernel_rfl) (by kernel_rfl) rfl ⟨⟨rfl,rfl,rfl⟩,wkB_live0 rfl (cellsM_idlt (f := V.s) (fun _=>rfl) _) rfl ⟨⟨rfl,rfl,rfl⟩,⟨⟨rfl,rfl,rfl⟩,trivial⟩⟩⟩
  rintro _ _ (⟨y283,H,rfl,rfl⟩)
  rw [hK273] at H
  try dsimp only at H
  conv=>whnf
  refine ixs_c (f := Law26Deed.v) H (fun _=>rfl) (fun x288 H=>?_);conv=>whnf
  refine ⟨Nat.le_of_ble_eq_true rfl,?_⟩;conv=>whnf
  refine Tst.not ?_
  refine tst_d H (fun b289 H=>?_) (fun b289 H=>?_)
  ·conv=>whnf
   refine Ari.w ?_;conv=>whnf
   exact again_c [11,12,13,14,15,16,17,18,42,43,44,45,46,47,48,49,50,51,52,53,54,55,56,57,58,59,60,61,62,63,64,65,66,67,68,69,70,71,72,73,74,75,76,77,78,79,80,81,82,83,84,85,86,87,88,89,90,91,92,93,94,95,96,97,98,99,100,101,102,103,104,105,106,107,108,109,110,111,112,113,114,115,116,117,118,119,120,121,122,123,124,125,126,127,128,129,130,131,132,133,134,135,136,137,138,139,140,141,142,143,144,145,146,147,148,149,150,151,152,153,154,155,156,157,158,159,160,161,162,163,164,165,166,167,168,169,170,171,172,173,174,175,176,177,178,179,180,181,182,183,184,185,186,187,188] n189 4 [] (.inr (⟨_,_,_,_,H,rfl,rfl⟩)) (Nat.lt_succ_self _) (Nat.zero_le _) rfl (by kernel_rfl) (by kernel_rfl) rfl ⟨⟨rfl,rfl,rfl⟩,wkB_live0 rfl (cellsM_idlt (f := V.s) (fun _=>rfl) _) rfl ⟨⟨rfl,rfl,rfl⟩,⟨⟨rfl,rfl,rfl⟩,trivial⟩⟩⟩
  conv=>whnf
  refine askF_c (p_snap_Next_v _ _ _) H (.cons (fzagg (.cons (.id rfl) (.cons (.id rfl) (.cons (.id rfl) (.cons (.id rfl) (.nil))))) rfl) (.cons (fzagg (.cons (fzown (f := V.s) (l := y16.Users) rfl rfl (fun _=>rfl) (fun _=>rfl)) (.cons (.slw) (.nil))) rfl) (.cons (fzagg (.cons (.id rfl) (.cons (.id rfl) (.nil))) rfl) (.nil)))) (fun v290 H=>?_);conv=>whnf
  refine ⟨Nat.le_of_ble_eq_true rfl,?_⟩;conv=>whnf
  refine ⟨Nat.le_of_ble_eq_true rfl,?_⟩;conv=>whnf
  refine tst_c H (fun b291 H=>?_) (fun b291 H=>?_)
  ·conv=>whnf
   iterate 4 (refine Tst.T ?_;conv=>whnf)
   obtain rfl := Option.some.inj H
   have H := HQ188
   try dsimp only at H
   exact fin0_c (enc := V.b) H (.inr rfl) (.cons (.tmp rfl) (.nil)) rfl rfl
  conv=>whnf
  refine Tst.F ?_;conv=>whnf
  refine ask_c (p_snap_Check_v _) H rfl rfl (fun v292 H=>?_);conv=>whnf
  iterate 2 (refine Tst.F ?_;conv=>whnf)
  refine tst_c H (fun b293 H=>?_) (fun b293 H=>?_)
  ·conv=>whnf
   obtain rfl := Option.some.inj H
   have H := HQ188
   try dsimp only at H
   exact fin0_c (enc := V.b) H (.inr rfl) (.cons (.tmp rfl) (.nil)) rfl rfl
  conv=>whnf
  obtain ⟨K294,hK295,o296,HL297,HQ298⟩ := join0_c H
  refine join_c [4,9,5,7,8,11,12] [14,15,16,107,108,109,110,111,112,113,114,115,116,117,118,119,120,121,122,123,124,125,126,127,128,129,130,131,132,133,134,135,136,137,138,139,140,141,142,143,144,145,146,147,148,149,150,151,152,153,154,155,156,157,158,159,160,92,99] (fun vals st=>(∃ y312,K294 (.inr y312) = some o186 ∧ vals = [.b false,.s y312,.ptr 0 0,.ptr 2 0,.ptr 3 0,.ptr 4 0,.ptr 5 0] ∧ st = [.live [.osl 1 0 (List.length y16.Users) 1 false,.sl (List.map V.s y16.Keys) true] 0,.live (cellsM V.s y16.Users) (cellsM V.s y16.Users).length,.live [.i y283.Seq,.sl (List.map BookRow.v y283.Rows) false] 0,.live [.b y252.On,.b y252.Begun,.s y252.After,.i y252.Told] 0,.live [.b v290.1.On,.b v290.1.Begun,.s v290.1.After,.i v290.1.Told] 0,.live [.y8 v290.2.1.Kind,.s v290.2.1.User,.s v290.2.1.Res,.s v290.2.1.Name,.i v290.2.1.Show,.i v290.2.1.Prio,.i v290.2.1.Code,.i v290.2.1.N] 0])) ?_ ?_
  ·have H := HL297
   conv=>whnf
   refine tst_d H (fun b300 H=>?_) (fun b300 H=>?_)
   ·conv=>whnf
    obtain rfl := Option.some.inj H
    exact arrive_c [14,15,16,107,108,109,110,111,112,113,114,115,116,117,118,119,120,121,122,123,124,125,126,127,128,129,130,131,132,133,134,135,136,137,138,139,140,141,142,143,144,145,146,147,148,149,150,151,152,153,154,155,156,157,158,159,160,92,99] 6 [] (⟨_,HQ298,rfl,rfl⟩) (Nat.zero_le _) rfl (by kernel_rfl) (by kernel_rfl) rfl ⟨⟨rfl,rfl,rfl⟩,wkB_live0 rfl (cellsM_idlt (f := V.s) (fun _=>rfl) _) rfl ⟨⟨rfl,rfl,rfl⟩,⟨⟨rfl,rfl,rfl⟩,⟨⟨rfl,rfl,rfl⟩,⟨⟨rfl,rfl,rfl⟩,trivial⟩⟩⟩⟩⟩
   conv=>whnf
   refine ask_c (p_book_Get_v _ _ _) H rfl rfl (fun v301 H=>?_);conv=>whnf
   refine ⟨Nat.le_of_ble_eq_true rfl,?_⟩;conv=>whnf
   refine ask_c (p_pres_Key_v _ _) H rfl rfl (fun v302 H=>?_);conv=>whnf
   refine Tst.not ?_
   refine tst_d H (fun b303 H=>?_) (fun b303 H=>?_)
   ·conv=>whnf
    iterate 28 (refine Tst.T ?_;conv=>whnf)
    refine FootQ.mk ⟨rfl,?_⟩;conv=>whnf
    refine Tst.T ?_;conv=>whnf
    obtain rfl := Option.some.inj H
    have H := HQ298
    rw [hK295] at H
    try dsimp only at H
    obtain rfl := Option.some.inj H
    have H := HQ188
    try dsimp only at H
    exact fin0_c (enc := V.b) H (.inr rfl) (.cons (.tmp rfl) (.nil)) rfl rfl
   conv=>whnf
   iterate 5 (refine Tst.F ?_;conv=>whnf)
   refine ask_c (p_pres_Say_v _ _ _) H rfl rfl (fun v304 H=>?_);conv=>whnf
   iterate 3 (refine Tst.F ?_;conv=>whnf)
   refine Tst.not ?_
   refine tst_d H (fun b305 H=>?_) (fun b305 H=>?_)
   ·conv=>whnf
    iterate 19 (refine Tst.T ?_;conv=>whnf)
    refine FootQ.mk ⟨rfl,?_⟩;conv=>whnf
    refine Tst.T ?_;conv=>whnf
    obtain rfl := Option.some.inj H
    have H := HQ298
    rw [hK295] at H
    try dsimp only at H
    obtain rfl := Option.some.inj H
    have H := HQ188
    try dsimp only at H
    exact fin0_c (enc := V.b) H (.inr rfl) (.cons (.tmp rfl) (.nil)) rfl rfl
   conv=>whnf
   iterate 3 (refine Tst.F ?_;conv=>whnf)
   refine tst_c H (fun b306 H=>?_) (fun b306 H=>?_)
   ·conv=>whnf
    iterate 15 (refine Tst.T ?_;conv=>whnf)
    refine FootQ.mk ⟨rfl,?_⟩;conv=>whnf
    refine Tst.T ?_;conv=>whnf
    obtain rfl := Option.some.inj H
    have H := HQ298
    rw [hK295] at H
    try dsimp only at H
    obtain rfl := Option.some.inj H
    have H := HQ188
    try dsimp only at H
    exact fin0_c (enc := V.b) H (.inr rfl) (.cons (.tmp rfl) (.nil)) rfl rfl
   conv=>whnf
   iterate 2 (refine Tst.F ?_;conv=>whnf)
   refine ask_c (p_snap_Covers_v _ _) H rfl rfl (fun v307 H=>?_);conv=>whnf
   iterate 2 (refine Tst.F ?_;conv=>whnf)
   refine Tst.not ?_
   refine tst_d H (fun b308 H=>?_) (fun b308 H=>?_)
   ·conv=>whnf
    iterate 10 (refine Tst.T ?_;conv=>whnf)
    refine FootQ.mk ⟨rfl,?_⟩;conv=>whnf
    refine Tst.T ?_;conv=>whnf
    obtain rfl := Option.some.inj H
    have H := HQ298
    rw [hK295] at H
    try dsimp only at H
    obtain rfl := Option.some.inj H
    have H := HQ188
    try dsimp only at H
    exact fin0_c (enc := V.b) H (.inr rfl) (.cons (.tmp rfl) (.nil)) rfl rfl
   conv=>whnf
   iterate 2 (refine Tst.F ?_;conv=>whnf)
   refine ask_c (p_snap_Covers_v _ _) H rfl rfl (fun v309 H=>?_);conv=>whnf
   refine Tst.F ?_;conv=>whnf
   refine tst_c H (fun b310 H=>?_) (fun b310 H=>?_)
   ·conv=>whnf
    iterate 6 (refine Tst.T ?_;conv=>whnf)
    refine FootQ.mk ⟨rfl,?_⟩;conv=>whnf
    refine Tst.T ?_;conv=>whnf
    obtain rfl := Option.some.inj H
    have H := HQ298
    rw [hK295] at H
    try dsimp only at H
    obtain rfl := Option.some.inj H
    have H := HQ188
    try dsimp only at H
    exact fin0_c (enc := V.b) H (.inr rfl) (.cons (.tmp rfl) (.nil)) rfl rfl
   conv=>whnf
   iterate 4 (refine Tst.F ?_;conv=>whnf)
   refine Ari.w ?_;conv=>whnf
   iterate 2 (refine Tst.F ?_;conv=>whnf)
   refine FootQ.mk ⟨rfl,?_⟩;conv=>whnf
   refine tst_c H (fun b311 H=>?_) (fun b311 H=>?_)
   ·conv=>whnf
    obtain rfl := Option.some.inj H
    have H := HQ298
    rw [hK295] at H
    try dsimp only at H
    obtain rfl := Option.some.inj H
    have H := HQ188
    try dsimp only at H
    exact fin0_c (enc := V.b) H (.inr rfl) (.cons (.tmp rfl) (.nil)) rfl rfl
   conv=>whnf
   obtain rfl := Option.some.inj H
   exact arrive_c [14,15,16,107,108,109,110,111,112,113,114,115,116,117,118,119,120,121,122,123,124,125,126,127,128,129,130,131,132,133,134,135,136,137,138,139,140,141,142,143,144,145,146,147,148,149,150,151,152,153,154,155,156,157,158,159,160,92,99] 6 [] (⟨_,HQ298,rfl,rfl⟩) (Nat.zero_le _) rfl (by kernel_rfl) (by kernel_rfl) rfl ⟨⟨rfl,rfl,rfl⟩,wkB_live0 rfl (cellsM_idlt (f := V.s) (fun _=>rfl) _) rfl ⟨⟨rfl,rfl,rfl⟩,⟨⟨rfl,rfl,rfl⟩,⟨⟨rfl,rfl,rfl⟩,⟨⟨rfl,rfl,rfl⟩,trivial⟩⟩⟩⟩⟩
  rintro _ _ (⟨y312,H,rfl,rfl⟩)
  rw [hK295] at H
  try dsimp only at H
  conv=>whnf
  refine tst_d H (fun b313 H=>?_) (fun b313 H=>?_)
  ·conv=>whnf
   refine ⟨Nat.le_of_ble_eq_true rfl,?_⟩;conv=>whnf
   refine Ari.w ?_;conv=>whnf
   exact again_c [11,12,13,14,15,16,17,18,42,43,44,45,46,47,48,49,50,51,52,53,54,55,56,57,58,59,60,61,62,63,64,65,66,67,68,69,70,71,72,73,74,75,76,77,78,79,80,81,82,83,84,85,86,87,88,89,90,91,92,93,94,95,96,97,98,99,100,101,102,103,104,105,106,107,108,109,110,111,112,113,114,115,116,117,118,119,120,121,122,123,124,125,126,127,128,129,130,131,132,133,134,135,136,137,138,139,140,141,142,143,144,145,146,147,148,149,150,151,152,153,154,155,156,157,158,159,160,161,162,163,164,165,166,167,168,169,170,171,172,173,174,175,176,177,178,179,180,181,182,183,184,185,186,187,188] n189 4 [] (.inr (⟨_,_,_,_,H,rfl,rfl⟩)) (Nat.lt_succ_self _) (Nat.zero_le _) rfl (by kernel_rfl) (by kernel_rfl) rfl ⟨⟨rfl,rfl,rfl⟩,wkB_live0 rfl (cellsM_idlt (f := V.s) (fun _=>rfl) _) rfl ⟨⟨rfl,rfl,rfl⟩,⟨⟨rfl,rfl,rfl⟩,trivial⟩⟩⟩
  conv=>whnf
  obtain ⟨o315,HL316,HQ317⟩ := bind_c H
  refine loop_c [4,17] [18,164,165,166,167,168,169,170,171,172,173,174,175,176,177,178,179,180,181,182,183,184,185,186,187,12,161] [18,164,165,166,167,168,169,170,171,172,173,174,175,176,177,178,179,180,181,182,183,184,185,186,187,12,161] (fun n vals st=>(∃ y319,p_law26_SnapTurns_l3  y312 y16 y283 n y319 = some o315 ∧ vals = [.b false,.i y319] ∧ st = [.live [.osl 1 0 (List.length y16.Users) 1 false,.sl (List.map V.s y16.Keys) true] 0,.live (cellsM V.s y16.Users) (cellsM V.s y16.Users).length,.live [.i y283.Seq,.sl (List.map BookRow.v y283.Rows) false] 0,.live [.b y252.On,.b y252.Begun,.s y252.After,.i y252.Told] 0,.live [.b v290.1.On,.b v290.1.Begun,.s v290.1.After,.i v290.1.Told] 0])) fuel 5 [] (⟨_,HL316,rfl,rfl⟩) (Nat.zero_le _) rfl (by kernel_rfl) (by kernel_rfl) rfl ⟨⟨rfl,rfl,rfl⟩,wkB_live0 rfl (cellsM_idlt (f := V.s) (fun _=>rfl) _) rfl ⟨⟨rfl,rfl,rfl⟩,⟨⟨rfl,rfl,rfl⟩,⟨⟨rfl,rfl,rfl⟩,trivial⟩⟩⟩⟩ ?_
  rintro (_ | n318) _ _ (⟨y319,H,rfl,rfl⟩)
  ·rw [p_law26_SnapTurns_l3] at H;cases H
  rw [p_law26_SnapTurns_l3] at H
  conv=>whnf
  refine LenQ.M ?_;conv=>whnf
  refine tst_d H (fun b320 H=>?_) (fun b320 H=>?_)
  ·conv=>whnf
   obtain rfl := Option.some.inj H
   have H := HQ317
   try dsimp only at H
   refine ⟨Nat.le_of_ble_eq_true rfl,?_⟩;conv=>whnf
   refine Ari.w ?_;conv=>whnf
   exact again_c [11,12,13,14,15,16,17,18,42,43,44,45,46,47,48,49,50,51,52,53,54,55,56,57,58,59,60,61,62,63,64,65,66,67,68,69,70,71,72,73,74,75,76,77,78,79,80,81,82,83,84,85,86,87,88,89,90,91,92,93,94,95,96,97,98,99,100,101,102,103,104,105,106,107,108,109,110,111,112,113,114,115,116,117,118,119,120,121,122,123,124,125,126,127,128,129,130,131,132,133,134,135,136,137,138,139,140,141,142,143,144,145,146,147,148,149,150,151,152,153,154,155,156,157,158,159,160,161,162,163,164,165,166,167,168,169,170,171,172,173,174,175,176,177,178,179,180,181,182,183,184,185,186,187,188] n189 4 [] (.inr (⟨_,_,_,_,H,rfl,rfl⟩)) (Nat.lt_succ_self _) (Nat.zero_le _) rfl (by kernel_rfl) (by kernel_rfl) rfl ⟨⟨rfl,rfl,rfl⟩,wkB_live0 rfl (cellsM_idlt (f := V.s) (fun _=>rfl) _) rfl ⟨⟨rfl,rfl,rfl⟩,⟨⟨rfl,rfl,rfl⟩,trivial⟩⟩⟩
  conv=>whnf
  refine ixs_c (f := BookRow.v) H (fun _=>rfl) (fun x321 H=>?_);conv=>whnf
  refine ⟨Nat.le_of_ble_eq_true rfl,?_⟩;conv=>whnf
  refine askF_c (p_snap_Sees_v _ _) H (.cons (fzagg (.cons (fzown (f := V.s) (l := y16.Users) rfl rfl (fun _=>rfl) (fun _=>rfl)) (.cons (.slw) (.nil))) rfl) (.cons (fzagg (.cons (.id rfl) (.cons (.id rfl) (.cons (.id rfl) (.cons (.id rfl) (.cons (.id rfl) (.cons (.id rfl) (.nil))))))) rfl) (.nil))) (fun v322 H=>?_);conv=>whnf
  refine tst_d H (fun b323 H=>?_) (fun b323 H=>?_)
  ·conv=>whnf
   iterate 8 (refine Tst.F ?_;conv=>whnf)
   refine Ari.w ?_;conv=>whnf
   exact again_c [18,164,165,166,167,168,169,170,171,172,173,174,175,176,177,178,179,180,181,182,183,184,185,186,187,12,161] n318 5 [] (⟨_,H,rfl,rfl⟩) (Nat.lt_succ_self _) (Nat.zero_le _) rfl (by kernel_rfl) (by kernel_rfl) rfl ⟨⟨rfl,rfl,rfl⟩,wkB_live0 rfl (cellsM_idlt (f := V.s) (fun _=>rfl) _) rfl ⟨⟨rfl,rfl,rfl⟩,⟨⟨rfl,rfl,rfl⟩,⟨⟨rfl,rfl,rfl⟩,trivial⟩⟩⟩⟩
  conv=>whnf
  iterate 4 (refine Tst.T ?_;conv=>whnf)
  refine ask_c (p_pres_Key_v _ _) H rfl rfl (fun v324 H=>?_);conv=>whnf
  iterate 3 (refine Tst.T ?_;conv=>whnf)
  refine Tst.not ?_
  refine tst_d H (fun b325 H=>?_) (fun b325 H=>?_)
  ·conv=>whnf
   obtain rfl := Option.some.inj H
   have H := HQ317
   try dsimp only at H
   obtain rfl := Option.some.inj H
   have H := HQ188
   try dsimp only at H
   exact fin0_c (enc := V.b) H (.inr rfl) (.cons (.tmp rfl) (.nil)) rfl rfl
  conv=>whnf
  refine Ari.w ?_;conv=>whnf
  exact again_c [18,164,165,166,167,168,169,170,171,172,173,174,175,176,177,178,179,180,181,182,183,184,185,186,187,12,161] n318 5 [] (⟨_,H,rfl,rfl⟩) (Nat.lt_succ_self _) (Nat.zero_le _) rfl (by kernel_rfl) (by kernel_rfl) rfl ⟨⟨rfl,rfl,rfl⟩,wkB_live0 rfl (cellsM_idlt (f := V.s) (fun _=>rfl) _) rfl ⟨⟨rfl,rfl,rfl⟩,⟨⟨rfl,rfl,rfl⟩,⟨⟨rfl,rfl,rfl⟩,trivial⟩⟩⟩⟩
 rw [p_law26_SnapTurns_l1] at H
 conv=>whnf
 refine tst_c H (fun b344 H=>?_) (fun b344 H=>?_)
 ·conv=>whnf
  refine Shr.ok (pos_c H).1 ((fun H=>?_) (pos_c H).2);conv=>whnf
  refine tst_d H (fun b346 H=>?_) (fun b346 H=>?_)
  ·conv=>whnf
   refine Ari.w ?_;conv=>whnf
   exact again_c [24,25,26,27,28,29,30,31,32,33,34,35,36,37,38,39,40] n7 1 [] (.inr (.inr (⟨_,_,H,rfl,rfl⟩))) (Nat.lt_succ_self _) (Nat.zero_le _) rfl (by kernel_rfl) (by kernel_rfl) rfl ⟨⟨rfl,rfl,rfl⟩,trivial⟩
  conv=>whnf
  refine Ari.w ?_;conv=>whnf
  refine ask_c (p_law26_who_v _) H rfl rfl (fun v347 H=>?_);conv=>whnf
  refine appN_c (f := V.s) H (fun _=>rfl) (srcM (f := V.s) (fun _=>rfl) _ _) rfl (.v (srcOwn (f := V.s) (l := [v347]) (fun _=>rfl) rfl rfl rfl)) (by decide) rfl (by simp) (fun l348 H=>?_);conv=>whnf
  refine ⟨Nat.le_of_ble_eq_true rfl,?_⟩;conv=>whnf
  refine FootQ.mk ⟨rfl,?_⟩;conv=>whnf
  refine Ari.w ?_;conv=>whnf
  exact again_c [24,25,26,27,28,29,30,31,32,33,34,35,36,37,38,39,40] n7 2 [0,2] (.inr (.inl (⟨_,_,H,rfl,rfl⟩))) (Nat.lt_succ_self _) (Nat.zero_le _) rfl (by kernel_rfl) (by kernel_rfl) rfl ⟨⟨rfl,rfl,rfl⟩,wkB_live0 rfl (cellsM_idlt (f := V.s) (fun _=>rfl) _) rfl trivial⟩
 conv=>whnf
 obtain rfl := Option.some.inj H
 have H := HQ6
 try dsimp only at H
 refine ask_c (p_snap_Begin_v) H rfl rfl (fun v349 H=>?_);conv=>whnf
 refine ⟨Nat.le_of_ble_eq_true rfl,?_⟩;conv=>whnf
 obtain ⟨o351,HL352,HQ353⟩ := bind_c H
 refine loop_c [4,9,10] [11,12,13,14,15,16,17,18,42,43,44,45,46,47,48,49,50,51,52,53,54,55,56,57,58,59,60,61,62,63,64,65,66,67,68,69,70,71,72,73,74,75,76,77,78,79,80,81,82,83,84,85,86,87,88,89,90,91,92,93,94,95,96,97,98,99,100,101,102,103,104,105,106,107,108,109,110,111,112,113,114,115,116,117,118,119,120,121,122,123,124,125,126,127,128,129,130,131,132,133,134,135,136,137,138,139,140,141,142,143,144,145,146,147,148,149,150,151,152,153,154,155,156,157,158,159,160,161,162,163,164,165,166,167,168,169,170,171,172,173,174,175,176,177,178,179,180,181,182,183,184,185,186,187,188] [11,12,13,14,15,16,17,18,42,43,44,45,46,47,48,49,50,51,52,53,54,55,56,57,58,59,60,61,62,63,64,65,66,67,68,69,70,71,72,73,74,75,76,77,78,79,80,81,82,83,84,85,86,87,88,89,90,91,92,93,94,95,96,97,98,99,100,101,102,103,104,105,106,107,108,109,110,111,112,113,114,115,116,117,118,119,120,121,122,123,124,125,126,127,128,129,130,131,132,133,134,135,136,137,138,139,140,141,142,143,144,145,146,147,148,149,150,151,152,153,154,155,156,157,158,159,160,161,162,163,164,165,166,167,168,169,170,171,172,173,174,175,176,177,178,179,180,181,182,183,184,185,186,187,188] (fun n vals st=>(∃ y355 y356 y357 y358,p_law26_SnapTurns_l2  a0 y18 n y355 y356 y357 y358 = some o351 ∧ vals = [.b false,.s y355,.i y356] ∧ st = [.live [.sl (List.map V.s y18.Users) true,.sl (List.map V.s y18.Keys) true] 0,.live [.i y357.Seq,.sl (List.map BookRow.v y357.Rows) true] 0,.live [.b y358.On,.b y358.Begun,.s y358.After,.i y358.Told] 0]) ∨ (∃ y414 y415 y416 y417,p_law26_SnapTurns_l2  a0 y18 n y414 y415 y416 y417 = some o351 ∧ vals = [.b false,.s y414,.i y415] ∧ st = [.live [.sl (List.map V.s y18.Users) true,.sl (List.map V.s y18.Keys) true] 0,.live [.i y416.Seq,.sl (List.map BookRow.v y416.Rows) false] 0,.live [.b y417.On,.b y417.Begun,.s y417.After,.i y417.Told] 0])) fuel 3 [] (.inl (⟨_,_,_,_,HL352,rfl,rfl⟩)) (Nat.zero_le _) rfl (by kernel_rfl) (by kernel_rfl) rfl ⟨⟨rfl,rfl,rfl⟩,⟨⟨rfl,rfl,rfl⟩,⟨⟨rfl,rfl,rfl⟩,trivial⟩⟩⟩ ?_
 rintro (_ | n354) _ _ (⟨y355,y356,y357,y358,H,rfl,rfl⟩ | ⟨y414,y415,y416,y417,H,rfl,rfl⟩)
 ·rw [p_law26_SnapTurns_l2] at H;cases H
 ·rw [p_law26_SnapTurns_l2] at H;cases H
 ·rw [p_law26_SnapTurns_l2] at H
  conv=>whnf
  refine LenQ.M ?_;conv=>whnf
  refine tst_d H (fun b359 H=>?_) (fun b359 H=>?_)
  ·conv=>whnf
   obtain rfl := Option.some.inj H
   have H := HQ353
   try dsimp only at H
   obtain ⟨o419,HL420,HQ421⟩ := bind_c H
   refine loop_c [19] [189,190,191,192,193,194,195,196,197,198,199,200,201,202,203,204] [189,190,191,192,193,194,195,196,197,198,199,200,201,202,203,204] (fun n vals st=>(∃ y423 y424,p_law26_SnapTurns_l4  y18 y357 n y423 y424 = some o419 ∧ vals = [.i y423] ∧ st = [.live [.sl (List.map V.s y18.Users) true,.sl (List.map V.s y18.Keys) true] 0,.live [.i y357.Seq,.sl (List.map BookRow.v y357.Rows) true] 0,.live [.b y424.On,.b y424.Begun,.s y424.After,.i y424.Told] 0])) fuel 3 [] (⟨_,_,HL420,rfl,rfl⟩) (Nat.zero_le _) rfl (by kernel_rfl) (by kernel_rfl) rfl ⟨⟨rfl,rfl,rfl⟩,⟨⟨rfl,rfl,rfl⟩,⟨⟨rfl,rfl,rfl⟩,trivial⟩⟩⟩ ?_
   rintro (_ | n422) _ _ (⟨y423,y424,H,rfl,rfl⟩)
   ·rw [p_law26_SnapTurns_l4] at H;cases H
   rw [p_law26_SnapTurns_l4] at H
   conv=>whnf
   refine tst_d H (fun b425 H=>?_) (fun b425 H=>?_)
   ·conv=>whnf
    iterate 3 (refine Tst.F ?_;conv=>whnf)
    obtain rfl := Option.some.inj H
    have H := HQ421
    try dsimp only at H
    refine ask_c (p_snap_Count_v _ _) H rfl rfl (fun v432 H=>?_);conv=>whnf
    refine Ari.w ?_;conv=>whnf
    refine tst_d H (fun b433 H=>?_) (fun b433 H=>?_)
    ·conv=>whnf
     iterate 5 (refine Tst.F ?_;conv=>whnf)
     exact fin0_c (enc := V.b) H (.inr rfl) (.cons (.tmp rfl) (.nil)) rfl rfl
    conv=>whnf
    iterate 3 (refine Tst.T ?_;conv=>whnf)
    refine tst_d H (fun b434 H=>?_) (fun b434 H=>?_)
    ·conv=>whnf
     refine Tst.F ?_;conv=>whnf
     exact fin0_c (enc := V.b) H (.inr rfl) (.cons (.tmp rfl) (.nil)) rfl rfl
    conv=>whnf
    refine ask_c (p_law26_awake_v) H rfl rfl (fun v435 H=>?_);conv=>whnf
    refine Tst.T ?_;conv=>whnf
    exact fin0_c (enc := V.b) H (.inr rfl) (.cons (.tmp rfl) (.nil)) rfl rfl
   conv=>whnf
   iterate 2 (refine Tst.T ?_;conv=>whnf)
   refine tst_c H (fun b426 H=>?_) (fun b426 H=>?_)
   ·conv=>whnf
    refine ask_c (p_snap_Next_v _ _ _) H rfl rfl (fun v427 H=>?_);conv=>whnf
    refine ⟨Nat.le_of_ble_eq_true rfl,?_⟩;conv=>whnf
    refine Ari.w ?_;conv=>whnf
    exact again_c [189,190,191,192,193,194,195,196,197,198,199,200,201,202,203,204] n422 3 [] (⟨_,_,H,rfl,rfl⟩) (Nat.lt_succ_self _) (Nat.zero_le _) rfl (by kernel_rfl) (by kernel_rfl) rfl ⟨⟨rfl,rfl,rfl⟩,⟨⟨rfl,rfl,rfl⟩,⟨⟨rfl,rfl,rfl⟩,trivial⟩⟩⟩
   conv=>whnf
   obtain rfl := Option.some.inj H
   have H := HQ421
   try dsimp only at H
   refine ask_c (p_snap_Count_v _ _) H rfl rfl (fun v428 H=>?_);conv=>whnf
   refine Ari.w ?_;conv=>whnf
   refine tst_d H (fun b429 H=>?_) (fun b429 H=>?_)
   ·conv=>whnf
    iterate 5 (refine Tst.F ?_;conv=>whnf)
    exact fin0_c (enc := V.b) H (.inr rfl) (.cons (.tmp rfl) (.nil)) rfl rfl
   conv=>whnf
   iterate 3 (refine Tst.T ?_;conv=>whnf)
   refine tst_d H (fun b430 H=>?_) (fun b430 H=>?_)
   ·conv=>whnf
    refine Tst.F ?_;conv=>whnf
    exact fin0_c (enc := V.b) H (.inr rfl) (.cons (.tmp rfl) (.nil)) rfl rfl
   conv=>whnf
   refine ask_c (p_law26_awake_v) H rfl rfl (fun v431 H=>?_);conv=>whnf
   refine Tst.T ?_;conv=>whnf
   exact fin0_c (enc := V.b) H (.inr rfl) (.cons (.tmp rfl) (.nil)) rfl rfl
  conv=>whnf
  obtain ⟨K360,hK361,o362,HL363,HQ364⟩ := join0_c H
  refine join_c [5,7,8] [48,49,50,51,52,53,54,55,56,57,58,59,60,61,62,63,64,65,66,67,68,69,70,71,72,73,74,75,76,77,78,79,80,81,82,83] (fun vals st=>(∃ y371,K360 y371 = some o351 ∧ vals = [.ptr 0 0,.ptr 1 0,.ptr 2 0] ∧ st = [.live [.sl (List.map V.s y18.Users) true,.sl (List.map V.s y18.Keys) true] 0,.live [.i y371.Seq,.sl (List.map BookRow.v y371.Rows) false] 0,.live [.b y358.On,.b y358.Begun,.s y358.After,.i y358.Told] 0])) ?_ ?_
  ·have H := HL363
   conv=>whnf
   refine ixs_c (f := Law26Deed.v) H (fun _=>rfl) (fun x366 H=>?_);conv=>whnf
   refine ⟨Nat.le_of_ble_eq_true rfl,?_⟩;conv=>whnf
   refine tst_c H (fun b367 H=>?_) (fun b367 H=>?_)
   ·conv=>whnf
    refine ixs_c (f := Law26Deed.v) H (fun _=>rfl) (fun x368 H=>?_);conv=>whnf
    refine ⟨Nat.le_of_ble_eq_true rfl,?_⟩;conv=>whnf
    refine ask_c (p_law26_who_v _) H rfl rfl (fun v369 H=>?_);conv=>whnf
    refine ask_c (p_book_Off_v _ _ _) H rfl rfl (fun v370 H=>?_);conv=>whnf
    refine ⟨Nat.le_of_ble_eq_true rfl,?_⟩;conv=>whnf
    refine FootQ.mk ⟨rfl,?_⟩;conv=>whnf
    obtain rfl := Option.some.inj H
    exact arrive_c [48,49,50,51,52,53,54,55,56,57,58,59,60,61,62,63,64,65,66,67,68,69,70,71,72,73,74,75,76,77,78,79,80,81,82,83] 3 [] (⟨_,HQ364,rfl,rfl⟩) (Nat.zero_le _) rfl (by kernel_rfl) (by kernel_rfl) rfl ⟨⟨rfl,rfl,rfl⟩,⟨⟨rfl,rfl,rfl⟩,⟨⟨rfl,rfl,rfl⟩,trivial⟩⟩⟩
   conv=>whnf
   refine ixs_c (f := Law26Deed.v) H (fun _=>rfl) (fun x372 H=>?_);conv=>whnf
   refine ⟨Nat.le_of_ble_eq_true rfl,?_⟩;conv=>whnf
   refine ask_c (p_law26_who_v _) H rfl rfl (fun v373 H=>?_);conv=>whnf
   refine ixs_c (f := Law26Deed.v) H (fun _=>rfl) (fun x374 H=>?_);conv=>whnf
   refine ⟨Nat.le_of_ble_eq_true rfl,?_⟩;conv=>whnf
   refine ⟨by decide,?_⟩;conv=>whnf
   refine Ari.w ?_;conv=>whnf
   refine ask_c (p_book_Set_v _ _ _ _ _) H rfl rfl (fun v375 H=>?_);conv=>whnf
   refine ⟨Nat.le_of_ble_eq_true rfl,?_⟩;conv=>whnf
   refine FootQ.mk ⟨rfl,?_⟩;conv=>whnf
   obtain rfl := Option.some.inj H
   exact arrive_c [48,49,50,51,52,53,54,55,56,57,58,59,60,61,62,63,64,65,66,67,68,69,70,71,72,73,74,75,76,77,78,79,80,81,82,83] 3 [] (⟨_,HQ364,rfl,rfl⟩) (Nat.zero_le _) rfl (by kernel_rfl) (by kernel_rfl) rfl ⟨⟨rfl,rfl,rfl⟩,⟨⟨rfl,rfl,rfl⟩,⟨⟨rfl,rfl,rfl⟩,trivial⟩⟩⟩
  rintro _ _ (⟨y371,H,rfl,rfl⟩)
  rw [hK361] at H
  try dsimp only at H
  conv=>whnf
  refine ixs_c (f := Law26Deed.v) H (fun _=>rfl) (fun x376 H=>?_);conv=>whnf
  refine ⟨Nat.le_of_ble_eq_true rfl,?_⟩;conv=>whnf
  refine Tst.not ?_
  refine tst_d H (fun b377 H=>?_) (fun b377 H=>?_)
  ·conv=>whnf
   refine Ari.w ?_;conv=>whnf
   exact again_c [11,12,13,14,15,16,17,18,42,43,44,45,46,47,48,49,50,51,52,53,54,55,56,57,58,59,60,61,62,63,64,65,66,67,68,69,70,71,72,73,74,75,76,77,78,79,80,81,82,83,84,85,86,87,88,89,90,91,92,93,94,95,96,97,98,99,100,101,102,103,104,105,106,107,108,109,110,111,112,113,114,115,116,117,118,119,120,121,122,123,124,125,126,127,128,129,130,131,132,133,134,135,136,137,138,139,140,141,142,143,144,145,146,147,148,149,150,151,152,153,154,155,156,157,158,159,160,161,162,163,164,165,166,167,168,169,170,171,172,173,174,175,176,177,178,179,180,181,182,183,184,185,186,187,188] n354 3 [] (.inr (⟨_,_,_,_,H,rfl,rfl⟩)) (Nat.lt_succ_self _) (Nat.zero_le _) rfl (by kernel_rfl) (by kernel_rfl) rfl ⟨⟨rfl,rfl,rfl⟩,⟨⟨rfl,rfl,rfl⟩,⟨⟨rfl,rfl,rfl⟩,trivial⟩⟩⟩
  conv=>whnf
  refine ask_c (p_snap_Next_v _ _ _) H rfl rfl (fun v378 H=>?_);conv=>whnf
  refine ⟨Nat.le_of_ble_eq_true rfl,?_⟩;conv=>whnf
  refine ⟨Nat.le_of_ble_eq_true rfl,?_⟩;conv=>whnf
  refine tst_c H (fun b379 H=>?_) (fun b379 H=>?_)
  ·conv=>whnf
   iterate 4 (refine Tst.T ?_;conv=>whnf)
   obtain rfl := Option.some.inj H
   have H := HQ353
   try dsimp only at H
   exact fin0_c (enc := V.b) H (.inr rfl) (.cons (.tmp rfl) (.nil)) rfl rfl
  conv=>whnf
  refine Tst.F ?_;conv=>whnf
  refine ask_c (p_snap_Check_v _) H rfl rfl (fun v380 H=>?_);conv=>whnf
  iterate 2 (refine Tst.F ?_;conv=>whnf)
  refine tst_c H (fun b381 H=>?_) (fun b381 H=>?_)
  ·conv=>whnf
   obtain rfl := Option.some.inj H
   have H := HQ353
   try dsimp only at H
   exact fin0_c (enc := V.b) H (.inr rfl) (.cons (.tmp rfl) (.nil)) rfl rfl
  conv=>whnf
  obtain ⟨K382,hK383,o384,HL385,HQ386⟩ := join0_c H
  refine join_c [4,9,5,7,8,11,12] [14,15,16,107,108,109,110,111,112,113,114,115,116,117,118,119,120,121,122,123,124,125,126,127,128,129,130,131,132,133,134,135,136,137,138,139,140,141,142,143,144,145,146,147,148,149,150,151,152,153,154,155,156,157,158,159,160,99] (fun vals st=>(∃ y400,K382 (.inr y400) = some o351 ∧ vals = [.b false,.s y400,.ptr 0 0,.ptr 1 0,.ptr 2 0,.ptr 3 0,.ptr 4 0] ∧ st = [.live [.sl (List.map V.s y18.Users) true,.sl (List.map V.s y18.Keys) true] 0,.live [.i y371.Seq,.sl (List.map BookRow.v y371.Rows) false] 0,.live [.b y358.On,.b y358.Begun,.s y358.After,.i y358.Told] 0,.live [.b v378.1.On,.b v378.1.Begun,.s v378.1.After,.i v378.1.Told] 0,.live [.y8 v378.2.1.Kind,.s v378.2.1.User,.s v378.2.1.Res,.s v378.2.1.Name,.i v378.2.1.Show,.i v378.2.1.Prio,.i v378.2.1.Code,.i v378.2.1.N] 0])) ?_ ?_
  ·have H := HL385
   conv=>whnf
   refine tst_d H (fun b388 H=>?_) (fun b388 H=>?_)
   ·conv=>whnf
    obtain rfl := Option.some.inj H
    exact arrive_c [14,15,16,107,108,109,110,111,112,113,114,115,116,117,118,119,120,121,122,123,124,125,126,127,128,129,130,131,132,133,134,135,136,137,138,139,140,141,142,143,144,145,146,147,148,149,150,151,152,153,154,155,156,157,158,159,160,99] 5 [] (⟨_,HQ386,rfl,rfl⟩) (Nat.zero_le _) rfl (by kernel_rfl) (by kernel_rfl) rfl ⟨⟨rfl,rfl,rfl⟩,⟨⟨rfl,rfl,rfl⟩,⟨⟨rfl,rfl,rfl⟩,⟨⟨rfl,rfl,rfl⟩,⟨⟨rfl,rfl,rfl⟩,trivial⟩⟩⟩⟩⟩
   conv=>whnf
   refine ask_c (p_book_Get_v _ _ _) H rfl rfl (fun v389 H=>?_);conv=>whnf
   refine ⟨Nat.le_of_ble_eq_true rfl,?_⟩;conv=>whnf
   refine ask_c (p_pres_Key_v _ _) H rfl rfl (fun v390 H=>?_);conv=>whnf
   refine Tst.not ?_
   refine tst_d H (fun b391 H=>?_) (fun b391 H=>?_)
   ·conv=>whnf
    iterate 28 (refine Tst.T ?_;conv=>whnf)
    refine FootQ.mk ⟨rfl,?_⟩;conv=>whnf
    refine Tst.T ?_;conv=>whnf
    obtain rfl := Option.some.inj H
    have H := HQ386
    rw [hK383] at H
    try dsimp only at H
    obtain rfl := Option.some.inj H
    have H := HQ353
    try dsimp only at H
    exact fin0_c (enc := V.b) H (.inr rfl) (.cons (.tmp rfl) (.nil)) rfl rfl
   conv=>whnf
   iterate 5 (refine Tst.F ?_;conv=>whnf)
   refine ask_c (p_pres_Say_v _ _ _) H rfl rfl (fun v392 H=>?_);conv=>whnf
   iterate 3 (refine Tst.F ?_;conv=>whnf)
   refine Tst.not ?_
   refine tst_d H (fun b393 H=>?_) (fun b393 H=>?_)
   ·conv=>whnf
    iterate 19 (refine Tst.T ?_;conv=>whnf)
    refine FootQ.mk ⟨rfl,?_⟩;conv=>whnf
    refine Tst.T ?_;conv=>whnf
    obtain rfl := Option.some.inj H
    have H := HQ386
    rw [hK383] at H
    try dsimp only at H
    obtain rfl := Option.some.inj H
    have H := HQ353
    try dsimp only at H
    exact fin0_c (enc := V.b) H (.inr rfl) (.cons (.tmp rfl) (.nil)) rfl rfl
   conv=>whnf
   iterate 3 (refine Tst.F ?_;conv=>whnf)
   refine tst_c H (fun b394 H=>?_) (fun b394 H=>?_)
   ·conv=>whnf
    iterate 15 (refine Tst.T ?_;conv=>whnf)
    refine FootQ.mk ⟨rfl,?_⟩;conv=>whnf
    refine Tst.T ?_;conv=>whnf
    obtain rfl := Option.some.inj H
    have H := HQ386
    rw [hK383] at H
    try dsimp only at H
    obtain rfl := Option.some.inj H
    have H := HQ353
    try dsimp only at H
    exact fin0_c (enc := V.b) H (.inr rfl) (.cons (.tmp rfl) (.nil)) rfl rfl
   conv=>whnf
   iterate 2 (refine Tst.F ?_;conv=>whnf)
   refine ask_c (p_snap_Covers_v _ _) H rfl rfl (fun v395 H=>?_);conv=>whnf
   iterate 2 (refine Tst.F ?_;conv=>whnf)
   refine Tst.not ?_
   refine tst_d H (fun b396 H=>?_) (fun b396 H=>?_)
   ·conv=>whnf
    iterate 10 (refine Tst.T ?_;conv=>whnf)
    refine FootQ.mk ⟨rfl,?_⟩;conv=>whnf
    refine Tst.T ?_;conv=>whnf
    obtain rfl := Option.some.inj H
    have H := HQ386
    rw [hK383] at H
    try dsimp only at H
    obtain rfl := Option.some.inj H
    have H := HQ353
    try dsimp only at H
    exact fin0_c (enc := V.b) H (.inr rfl) (.cons (.tmp rfl) (.nil)) rfl rfl
   conv=>whnf
   iterate 2 (refine Tst.F ?_;conv=>whnf)
   refine ask_c (p_snap_Covers_v _ _) H rfl rfl (fun v397 H=>?_);conv=>whnf
   refine Tst.F ?_;conv=>whnf
   refine tst_c H (fun b398 H=>?_) (fun b398 H=>?_)
   ·conv=>whnf
    iterate 6 (refine Tst.T ?_;conv=>whnf)
    refine FootQ.mk ⟨rfl,?_⟩;conv=>whnf
    refine Tst.T ?_;conv=>whnf
    obtain rfl := Option.some.inj H
    have H := HQ386
    rw [hK383] at H
    try dsimp only at H
    obtain rfl := Option.some.inj H
    have H := HQ353
    try dsimp only at H
    exact fin0_c (enc := V.b) H (.inr rfl) (.cons (.tmp rfl) (.nil)) rfl rfl
   conv=>whnf
   iterate 4 (refine Tst.F ?_;conv=>whnf)
   refine Ari.w ?_;conv=>whnf
   iterate 2 (refine Tst.F ?_;conv=>whnf)
   refine FootQ.mk ⟨rfl,?_⟩;conv=>whnf
   refine tst_c H (fun b399 H=>?_) (fun b399 H=>?_)
   ·conv=>whnf
    obtain rfl := Option.some.inj H
    have H := HQ386
    rw [hK383] at H
    try dsimp only at H
    obtain rfl := Option.some.inj H
    have H := HQ353
    try dsimp only at H
    exact fin0_c (enc := V.b) H (.inr rfl) (.cons (.tmp rfl) (.nil)) rfl rfl
   conv=>whnf
   obtain rfl := Option.some.inj H
   exact arrive_c [14,15,16,107,108,109,110,111,112,113,114,115,116,117,118,119,120,121,122,123,124,125,126,127,128,129,130,131,132,133,134,135,136,137,138,139,140,141,142,143,144,145,146,147,148,149,150,151,152,153,154,155,156,157,158,159,160,99] 5 [] (⟨_,HQ386,rfl,rfl⟩) (Nat.zero_le _) rfl (by kernel_rfl) (by kernel_rfl) rfl ⟨⟨rfl,rfl,rfl⟩,⟨⟨rfl,rfl,rfl⟩,⟨⟨rfl,rfl,rfl⟩,⟨⟨rfl,rfl,rfl⟩,⟨⟨rfl,rfl,rfl⟩,trivial⟩⟩⟩⟩⟩
  rintro _ _ (⟨y400,H,rfl,rfl⟩)
  rw [hK383] at H
  try dsimp only at H
  conv=>whnf
  refine tst_d H (fun b401 H=>?_) (fun b401 H=>?_)
  ·conv=>whnf
   refine ⟨Nat.le_of_ble_eq_true rfl,?_⟩;conv=>whnf
   refine Ari.w ?_;conv=>whnf
   exact again_c [11,12,13,14,15,16,17,18,42,43,44,45,46,47,48,49,50,51,52,53,54,55,56,57,58,59,60,61,62,63,64,65,66,67,68,69,70,71,72,73,74,75,76,77,78,79,80,81,82,83,84,85,86,87,88,89,90,91,92,93,94,95,96,97,98,99,100,101,102,103,104,105,106,107,108,109,110,111,112,113,114,115,116,117,118,119,120,121,122,123,124,125,126,127,128,129,130,131,132,133,134,135,136,137,138,139,140,141,142,143,144,145,146,147,148,149,150,151,152,153,154,155,156,157,158,159,160,161,162,163,164,165,166,167,168,169,170,171,172,173,174,175,176,177,178,179,180,181,182,183,184,185,186,187,188] n354 3 [] (.inr (⟨_,_,_,_,H,rfl,rfl⟩)) (Nat.lt_succ_self _) (Nat.zero_le _) rfl (by kernel_rfl) (by kernel_rfl) rfl ⟨⟨rfl,rfl,rfl⟩,⟨⟨rfl,rfl,rfl⟩,⟨⟨rfl,rfl,rfl⟩,trivial⟩⟩⟩
  conv=>whnf
  obtain ⟨o403,HL404,HQ405⟩ := bind_c H
  refine loop_c [4,17] [18,164,165,166,167,168,169,170,171,172,173,174,175,176,177,178,179,180,181,182,183,184,185,186,187,12,161] [18,164,165,166,167,168,169,170,171,172,173,174,175,176,177,178,179,180,181,182,183,184,185,186,187,12,161] (fun n vals st=>(∃ y407,p_law26_SnapTurns_l3  y400 y18 y371 n y407 = some o403 ∧ vals = [.b false,.i y407] ∧ st = [.live [.sl (List.map V.s y18.Users) true,.sl (List.map V.s y18.Keys) true] 0,.live [.i y371.Seq,.sl (List.map BookRow.v y371.Rows) false] 0,.live [.b y358.On,.b y358.Begun,.s y358.After,.i y358.Told] 0,.live [.b v378.1.On,.b v378.1.Begun,.s v378.1.After,.i v378.1.Told] 0])) fuel 4 [] (⟨_,HL404,rfl,rfl⟩) (Nat.zero_le _) rfl (by kernel_rfl) (by kernel_rfl) rfl ⟨⟨rfl,rfl,rfl⟩,⟨⟨rfl,rfl,rfl⟩,⟨⟨rfl,rfl,rfl⟩,⟨⟨rfl,rfl,rfl⟩,trivial⟩⟩⟩⟩ ?_
  rintro (_ | n406) _ _ (⟨y407,H,rfl,rfl⟩)
  ·rw [p_law26_SnapTurns_l3] at H;cases H
  rw [p_law26_SnapTurns_l3] at H
  conv=>whnf
  refine LenQ.M ?_;conv=>whnf
  refine tst_d H (fun b408 H=>?_) (fun b408 H=>?_)
  ·conv=>whnf
   obtain rfl := Option.some.inj H
   have H := HQ405
   try dsimp only at H
   refine ⟨Nat.le_of_ble_eq_true rfl,?_⟩;conv=>whnf
   refine Ari.w ?_;conv=>whnf
   exact again_c [11,12,13,14,15,16,17,18,42,43,44,45,46,47,48,49,50,51,52,53,54,55,56,57,58,59,60,61,62,63,64,65,66,67,68,69,70,71,72,73,74,75,76,77,78,79,80,81,82,83,84,85,86,87,88,89,90,91,92,93,94,95,96,97,98,99,100,101,102,103,104,105,106,107,108,109,110,111,112,113,114,115,116,117,118,119,120,121,122,123,124,125,126,127,128,129,130,131,132,133,134,135,136,137,138,139,140,141,142,143,144,145,146,147,148,149,150,151,152,153,154,155,156,157,158,159,160,161,162,163,164,165,166,167,168,169,170,171,172,173,174,175,176,177,178,179,180,181,182,183,184,185,186,187,188] n354 3 [] (.inr (⟨_,_,_,_,H,rfl,rfl⟩)) (Nat.lt_succ_self _) (Nat.zero_le _) rfl (by kernel_rfl) (by kernel_rfl) rfl ⟨⟨rfl,rfl,rfl⟩,⟨⟨rfl,rfl,rfl⟩,⟨⟨rfl,rfl,rfl⟩,trivial⟩⟩⟩
  conv=>whnf
  refine ixs_c (f := BookRow.v) H (fun _=>rfl) (fun x409 H=>?_);conv=>whnf
  refine ⟨Nat.le_of_ble_eq_true rfl,?_⟩;conv=>whnf
  refine ask_c (p_snap_Sees_v _ _) H rfl rfl (fun v410 H=>?_);conv=>whnf
  refine tst_d H (fun b411 H=>?_) (fun b411 H=>?_)
  ·conv=>whnf
   iterate 8 (refine Tst.F ?_;conv=>whnf)
   refine Ari.w ?_;conv=>whnf
   exact again_c [18,164,165,166,167,168,169,170,171,172,173,174,175,176,177,178,179,180,181,182,183,184,185,186,187,12,161] n406 4 [] (⟨_,H,rfl,rfl⟩) (Nat.lt_succ_self _) (Nat.zero_le _) rfl (by kernel_rfl) (by kernel_rfl) rfl ⟨⟨rfl,rfl,rfl⟩,⟨⟨rfl,rfl,rfl⟩,⟨⟨rfl,rfl,rfl⟩,⟨⟨rfl,rfl,rfl⟩,trivial⟩⟩⟩⟩
  conv=>whnf
  iterate 4 (refine Tst.T ?_;conv=>whnf)
  refine ask_c (p_pres_Key_v _ _) H rfl rfl (fun v412 H=>?_);conv=>whnf
  iterate 3 (refine Tst.T ?_;conv=>whnf)
  refine Tst.not ?_
  refine tst_d H (fun b413 H=>?_) (fun b413 H=>?_)
  ·conv=>whnf
   obtain rfl := Option.some.inj H
   have H := HQ405
   try dsimp only at H
   obtain rfl := Option.some.inj H
   have H := HQ353
   try dsimp only at H
   exact fin0_c (enc := V.b) H (.inr rfl) (.cons (.tmp rfl) (.nil)) rfl rfl
  conv=>whnf
  refine Ari.w ?_;conv=>whnf
  exact again_c [18,164,165,166,167,168,169,170,171,172,173,174,175,176,177,178,179,180,181,182,183,184,185,186,187,12,161] n406 4 [] (⟨_,H,rfl,rfl⟩) (Nat.lt_succ_self _) (Nat.zero_le _) rfl (by kernel_rfl) (by kernel_rfl) rfl ⟨⟨rfl,rfl,rfl⟩,⟨⟨rfl,rfl,rfl⟩,⟨⟨rfl,rfl,rfl⟩,⟨⟨rfl,rfl,rfl⟩,trivial⟩⟩⟩⟩
 rw [p_law26_SnapTurns_l2] at H
 conv=>whnf
 refine LenQ.M ?_;conv=>whnf
 refine tst_d H (fun b436 H=>?_) (fun b436 H=>?_)
 ·conv=>whnf
  obtain rfl := Option.some.inj H
  have H := HQ353
  try dsimp only at H
  obtain ⟨o492,HL493,HQ494⟩ := bind_c H
  refine loop_c [19] [189,190,191,192,193,194,195,196,197,198,199,200,201,202,203,204] [189,190,191,192,193,194,195,196,197,198,199,200,201,202,203,204] (fun n vals st=>(∃ y496 y497,p_law26_SnapTurns_l4  y18 y416 n y496 y497 = some o492 ∧ vals = [.i y496] ∧ st = [.live [.sl (List.map V.s y18.Users) true,.sl (List.map V.s y18.Keys) true] 0,.live [.i y416.Seq,.sl (List.map BookRow.v y416.Rows) false] 0,.live [.b y497.On,.b y497.Begun,.s y497.After,.i y497.Told] 0])) fuel 3 [] (⟨_,_,HL493,rfl,rfl⟩) (Nat.zero_le _) rfl (by kernel_rfl) (by kernel_rfl) rfl ⟨⟨rfl,rfl,rfl⟩,⟨⟨rfl,rfl,rfl⟩,⟨⟨rfl,rfl,rfl⟩,trivial⟩⟩⟩ ?_
  rintro (_ | n495) _ _ (⟨y496,y497,H,rfl,rfl⟩)
  ·rw [p_law26_SnapTurns_l4] at H;cases H
  rw [p_law26_SnapTurns_l4] at H
  conv=>whnf
  refine tst_d H (fun b498 H=>?_) (fun b498 H=>?_)
  ·conv=>whnf
   iterate 3 (refine Tst.F ?_;conv=>whnf)
   obtain rfl := Option.some.inj H
   have H := HQ494
   try dsimp only at H
   refine ask_c (p_snap_Count_v _ _) H rfl rfl (fun v505 H=>?_);conv=>whnf
   refine Ari.w ?_;conv=>whnf
   refine tst_d H (fun b506 H=>?_) (fun b506 H=>?_)
   ·conv=>whnf
    iterate 5 (refine Tst.F ?_;conv=>whnf)
    exact fin0_c (enc := V.b) H (.inr rfl) (.cons (.tmp rfl) (.nil)) rfl rfl
   conv=>whnf
   iterate 3 (refine Tst.T ?_;conv=>whnf)
   refine tst_d H (fun b507 H=>?_) (fun b507 H=>?_)
   ·conv=>whnf
    refine Tst.F ?_;conv=>whnf
    exact fin0_c (enc := V.b) H (.inr rfl) (.cons (.tmp rfl) (.nil)) rfl rfl
   conv=>whnf
   refine ask_c (p_law26_awake_v) H rfl rfl (fun v508 H=>?_);conv=>whnf
   refine Tst.T ?_;conv=>whnf
   exact fin0_c (enc := V.b) H (.inr rfl) (.cons (.tmp rfl) (.nil)) rfl rfl
  conv=>whnf
  iterate 2 (refine Tst.T ?_;conv=>whnf)
  refine tst_c H (fun b499 H=>?_) (fun b499 H=>?_)
  ·conv=>whnf
   refine ask_c (p_snap_Next_v _ _ _) H rfl rfl (fun v500 H=>?_);conv=>whnf
   refine ⟨Nat.le_of_ble_eq_true rfl,?_⟩;conv=>whnf
   refine Ari.w ?_;conv=>whnf
   exact again_c [189,190,191,192,193,194,195,196,197,198,199,200,201,202,203,204] n495 3 [] (⟨_,_,H,rfl,rfl⟩) (Nat.lt_succ_self _) (Nat.zero_le _) rfl (by kernel_rfl) (by kernel_rfl) rfl ⟨⟨rfl,rfl,rfl⟩,⟨⟨rfl,rfl,rfl⟩,⟨⟨rfl,rfl,rfl⟩,trivial⟩⟩⟩
  conv=>whnf
  obtain rfl := Option.some.inj H
  have H := HQ494
  try dsimp only at H
  refine ask_c (p_snap_Count_v _ _) H rfl rfl (fun v501 H=>?_);conv=>whnf
  refine Ari.w ?_;conv=>whnf
  refine tst_d H (fun b502 H=>?_) (fun b502 H=>?_)
  ·conv=>whnf
   iterate 5 (refine Tst.F ?_;conv=>whnf)
   exact fin0_c (enc := V.b) H (.inr rfl) (.cons (.tmp rfl) (.nil)) rfl rfl
  conv=>whnf
  iterate 3 (refine Tst.T ?_;conv=>whnf)
  refine tst_d H (fun b503 H=>?_) (fun b503 H=>?_)
  ·conv=>whnf
   refine Tst.F ?_;conv=>whnf
   exact fin0_c (enc := V.b) H (.inr rfl) (.cons (.tmp rfl) (.nil)) rfl rfl
  conv=>whnf
  refine ask_c (p_law26_awake_v) H rfl rfl (fun v504 H=>?_);conv=>whnf
  refine Tst.T ?_;conv=>whnf
  exact fin0_c (enc := V.b) H (.inr rfl) (.cons (.tmp rfl) (.nil)) rfl rfl
 conv=>whnf
 obtain ⟨K437,hK438,o439,HL440,HQ441⟩ := join0_c H
 refine join_c [5,7,8] [48,49,50,51,52,53,54,55,56,57,58,59,60,61,62,63,64,65,66,67,68,69,70,71,72,73,74,75,76,77,78,79,80,81,82,83] (fun vals st=>(∃ y448,K437 y448 = some o351 ∧ vals = [.ptr 0 0,.ptr 1 0,.ptr 2 0] ∧ st = [.live [.sl (List.map V.s y18.Users) true,.sl (List.map V.s y18.Keys) true] 0,.live [.i y448.Seq,.sl (List.map BookRow.v y448.Rows) false] 0,.live [.b y417.On,.b y417.Begun,.s y417.After,.i y417.Told] 0])) ?_ ?_
 ·have H := HL440
  conv=>whnf
  refine ixs_c (f := Law26Deed.v) H (fun _=>rfl) (fun x443 H=>?_);conv=>whnf
  refine ⟨Nat.le_of_ble_eq_true rfl,?_⟩;conv=>whnf
  refine tst_c H (fun b444 H=>?_) (fun b444 H=>?_)
  ·conv=>whnf
   refine ixs_c (f := Law26Deed.v) H (fun _=>rfl) (fun x445 H=>?_);conv=>whnf
   refine ⟨Nat.le_of_ble_eq_true rfl,?_⟩;conv=>whnf
   refine ask_c (p_law26_who_v _) H rfl rfl (fun v446 H=>?_);conv=>whnf
   refine ask_c (p_book_Off_v _ _ _) H rfl rfl (fun v447 H=>?_);conv=>whnf
   refine ⟨Nat.le_of_ble_eq_true rfl,?_⟩;conv=>whnf
   refine FootQ.mk ⟨rfl,?_⟩;conv=>whnf
   obtain rfl := Option.some.inj H
   exact arrive_c [48,49,50,51,52,53,54,55,56,57,58,59,60,61,62,63,64,65,66,67,68,69,70,71,72,73,74,75,76,77,78,79,80,81,82,83] 3 [] (⟨_,HQ441,rfl,rfl⟩) (Nat.zero_le _) rfl (by kernel_rfl) (by kernel_rfl) rfl ⟨⟨rfl,rfl,rfl⟩,⟨⟨rfl,rfl,rfl⟩,⟨⟨rfl,rfl,rfl⟩,trivial⟩⟩⟩
  conv=>whnf
  refine ixs_c (f := Law26Deed.v) H (fun _=>rfl) (fun x449 H=>?_);conv=>whnf
  refine ⟨Nat.le_of_ble_eq_true rfl,?_⟩;conv=>whnf
  refine ask_c (p_law26_who_v _) H rfl rfl (fun v450 H=>?_);conv=>whnf
  refine ixs_c (f := Law26Deed.v) H (fun _=>rfl) (fun x451 H=>?_);conv=>whnf
  refine ⟨Nat.le_of_ble_eq_true rfl,?_⟩;conv=>whnf
  refine ⟨by decide,?_⟩;conv=>whnf
  refine Ari.w ?_;conv=>whnf
  refine ask_c (p_book_Set_v _ _ _ _ _) H rfl rfl (fun v452 H=>?_);conv=>whnf
  refine ⟨Nat.le_of_ble_eq_true rfl,?_⟩;conv=>whnf
  refine FootQ.mk ⟨rfl,?_⟩;conv=>whnf
  obtain rfl := Option.some.inj H
  exact arrive_c [48,49,50,51,52,53,54,55,56,57,58,59,60,61,62,63,64,65,66,67,68,69,70,71,72,73,74,75,76,77,78,79,80,81,82,83] 3 [] (⟨_,HQ441,rfl,rfl⟩) (Nat.zero_le _) rfl (by kernel_rfl) (by kernel_rfl) rfl ⟨⟨rfl,rfl,rfl⟩,⟨⟨rfl,rfl,rfl⟩,⟨⟨rfl,rfl,rfl⟩,trivial⟩⟩⟩
 rintro _ _ (⟨y448,H,rfl,rfl⟩)
 rw [hK438] at H
 try dsimp only at H
 conv=>whnf
 refine ixs_c (f := Law26Deed.v) H (fun _=>rfl) (fun x453 H=>?_);conv=>whnf
 refine ⟨Nat.le_of_ble_eq_true rfl,?_⟩;conv=>whnf
 refine Tst.not ?_
 refine tst_d H (fun b454 H=>?_) (fun b454 H=>?_)
 ·conv=>whnf
  refine Ari.w ?_;conv=>whnf
  exact again_c [11,12,13,14,15,16,17,18,42,43,44,45,46,47,48,49,50,51,52,53,54,55,56,57,58,59,60,61,62,63,64,65,66,67,68,69,70,71,72,73,74,75,76,77,78,79,80,81,82,83,84,85,86,87,88,89,90,91,92,93,94,95,96,97,98,99,100,101,102,103,104,105,106,107,108,109,110,111,112,113,114,115,116,117,118,119,120,121,122,123,124,125,126,127,128,129,130,131,132,133,134,135,136,137,138,139,140,141,142,143,144,145,146,147,148,149,150,151,152,153,154,155,156,157,158,159,160,161,162,163,164,165,166,167,168,169,170,171,172,173,174,175,176,177,178,179,180,181,182,183,184,185,186,187,188] n354 3 [] (.inr (⟨_,_,_,_,H,rfl,rfl⟩)) (Nat.lt_succ_self _) (Nat.zero_le _) rfl (by kernel_rfl) (by kernel_rfl) rfl ⟨⟨rfl,rfl,rfl⟩,⟨⟨rfl,rfl,rfl⟩,⟨⟨rfl,rfl,rfl⟩,trivial⟩⟩⟩
 conv=>whnf
 refine ask_c (p_snap_Next_v _ _ _) H rfl rfl (fun v455 H=>?_);conv=>whnf
 refine ⟨Nat.le_of_ble_eq_true rfl,?_⟩;conv=>whnf
 refine ⟨Nat.le_of_ble_eq_true rfl,?_⟩;conv=>whnf
 refine tst_c H (fun b456 H=>?_) (fun b456 H=>?_)
 ·conv=>whnf
  iterate 4 (refine Tst.T ?_;conv=>whnf)
  obtain rfl := Option.some.inj H
  have H := HQ353
  try dsimp only at H
  exact fin0_c (enc := V.b) H (.inr rfl) (.cons (.tmp rfl) (.nil)) rfl rfl
 conv=>whnf
 refine Tst.F ?_;conv=>whnf
 refine ask_c (p_snap_Check_v _) H rfl rfl (fun v457 H=>?_);conv=>whnf
 iterate 2 (refine Tst.F ?_;conv=>whnf)
 refine tst_c H (fun b458 H=>?_) (fun b458 H=>?_)
 ·conv=>whnf
  obtain rfl := Option.some.inj H
  have H := HQ353
  try dsimp only at H
  exact fin0_c (enc := V.b) H (.inr rfl) (.cons (.tmp rfl) (.nil)) rfl rfl
 conv=>whnf
 obtain ⟨K459,hK460,o461,HL462,HQ463⟩ := join0_c H
 refine join_c [4,9,5,7,8,11,12] [14,15,16,107,108,109,110,111,112,113,114,115,116,117,118,119,120,121,122,123,124,125,126,127,128,129,130,131,132,133,134,135,136,137,138,139,140,141,142,143,144,145,146,147,148,149,150,151,152,153,154,155,156,157,158,159,160,99] (fun vals st=>(∃ y477,K459 (.inr y477) = some o351 ∧ vals = [.b false,.s y477,.ptr 0 0,.ptr 1 0,.ptr 2 0,.ptr 3 0,.ptr 4 0] ∧ st = [.live [.sl (List.map V.s y18.Users) true,.sl (List.map V.s y18.Keys) true] 0,.live [.i y448.Seq,.sl (List.map BookRow.v y448.Rows) false] 0,.live [.b y417.On,.b y417.Begun,.s y417.After,.i y417.Told] 0,.live [.b v455.1.On,.b v455.1.Begun,.s v455.1.After,.i v455.1.Told] 0,.live [.y8 v455.2.1.Kind,.s v455.2.1.User,.s v455.2.1.Res,.s v455.2.1.Name,.i v455.2.1.Show,.i v455.2.1.Prio,.i v455.2.1.Code,.i v455.2.1.N] 0])) ?_ ?_
 ·have H := HL462
  conv=>whnf
  refine tst_d H (fun b465 H=>?_) (fun b465 H=>?_)
  ·conv=>whnf
   obtain rfl := Option.some.inj H
   exact arrive_c [14,15,16,107,108,109,110,111,112,113,114,115,116,117,118,119,120,121,122,123,124,125,126,127,128,129,130,131,132,133,134,135,136,137,138,139,140,141,142,143,144,145,146,147,148,149,150,151,152,153,154,155,156,157,158,159,160,99] 5 [] (⟨_,HQ463,rfl,rfl⟩) (Nat.zero_le _) rfl (by kernel_rfl) (by kernel_rfl) rfl ⟨⟨rfl,rfl,rfl⟩,⟨⟨rfl,rfl,rfl⟩,⟨⟨rfl,rfl,rfl⟩,⟨⟨rfl,rfl,rfl⟩,⟨⟨rfl,rfl,rfl⟩,trivial⟩⟩⟩⟩⟩
  conv=>whnf
  refine ask_c (p_book_Get_v _ _ _) H rfl rfl (fun v466 H=>?_);conv=>whnf
  refine ⟨Nat.le_of_ble_eq_true rfl,?_⟩;conv=>whnf
  refine ask_c (p_pres_Key_v _ _) H rfl rfl (fun v467 H=>?_);conv=>whnf
  refine Tst.not ?_
  refine tst_d H (fun b468 H=>?_) (fun b468 H=>?_)
  ·conv=>whnf
   iterate 28 (refine Tst.T ?_;conv=>whnf)
   refine FootQ.mk ⟨rfl,?_⟩;conv=>whnf
   refine Tst.T ?_;conv=>whnf
   obtain rfl := Option.some.inj H
   have H := HQ463
   rw [hK460] at H
   try dsimp only at H
   obtain rfl := Option.some.inj H
   have H := HQ353
   try dsimp only at H
   exact fin0_c (enc := V.b) H (.inr rfl) (.cons (.tmp rfl) (.nil)) rfl rfl
  conv=>whnf
  iterate 5 (refine Tst.F ?_;conv=>whnf)
  refine ask_c (p_pres_Say_v _ _ _) H rfl rfl (fun v469 H=>?_);conv=>whnf
  iterate 3 (refine Tst.F ?_;conv=>whnf)
  refine Tst.not ?_
  refine tst_d H (fun b470 H=>?_) (fun b470 H=>?_)
  ·conv=>whnf
   iterate 19 (refine Tst.T ?_;conv=>whnf)
   refine FootQ.mk ⟨rfl,?_⟩;conv=>whnf
   refine Tst.T ?_;conv=>whnf
   obtain rfl := Option.some.inj H
   have H := HQ463
   rw [hK460] at H
   try dsimp only at H
   obtain rfl := Option.some.inj H
   have H := HQ353
   try dsimp only at H
   exact fin0_c (enc := V.b) H (.inr rfl) (.cons (.tmp rfl) (.nil)) rfl rfl
  conv=>whnf
  iterate 3 (refine Tst.F ?_;conv=>whnf)
  refine tst_c H (fun b471 H=>?_) (fun b471 H=>?_)
  ·conv=>whnf
   iterate 15 (refine Tst.T ?_;conv=>whnf)
   refine FootQ.mk ⟨rfl,?_⟩;conv=>whnf
   refine Tst.T ?_;conv=>whnf
   obtain rfl := Option.some.inj H
   have H := HQ463
   rw [hK460] at H
   try dsimp only at H
   obtain rfl := Option.some.inj H
   have H := HQ353
   try dsimp only at H
   exact fin0_c (enc := V.b) H (.inr rfl) (.cons (.tmp rfl) (.nil)) rfl rfl
  conv=>whnf
  iterate 2 (refine Tst.F ?_;conv=>whnf)
  refine ask_c (p_snap_Covers_v _ _) H rfl rfl (fun v472 H=>?_);conv=>whnf
  iterate 2 (refine Tst.F ?_;conv=>whnf)
  refine Tst.not ?_
  refine tst_d H (fun b473 H=>?_) (fun b473 H=>?_)
  ·conv=>whnf
   iterate 10 (refine Tst.T ?_;conv=>whnf)
   refine FootQ.mk ⟨rfl,?_⟩;conv=>whnf
   refine Tst.T ?_;conv=>whnf
   obtain rfl := Option.some.inj H
   have H := HQ463
   rw [hK460] at H
   try dsimp only at H
   obtain rfl := Option.some.inj H
   have H := HQ353
   try dsimp only at H
   exact fin0_c (enc := V.b) H (.inr rfl) (.cons (.tmp rfl) (.nil)) rfl rfl
  conv=>whnf
  iterate 2 (refine Tst.F ?_;conv=>whnf)
  refine ask_c (p_snap_Covers_v _ _) H rfl rfl (fun v474 H=>?_);conv=>whnf
  refine Tst.F ?_;conv=>whnf
  refine tst_c H (fun b475 H=>?_) (fun b475 H=>?_)
  ·conv=>whnf
   iterate 6 (refine Tst.T ?_;conv=>whnf)
   refine FootQ.mk ⟨rfl,?_⟩;conv=>whnf
   refine Tst.T ?_;conv=>whnf
   obtain rfl := Option.some.inj H
   have H := HQ463
   rw [hK460] at H
   try dsimp only at H
   obtain rfl := Option.some.inj H
   have H := HQ353
   try dsimp only at H
   exact fin0_c (enc := V.b) H (.inr rfl) (.cons (.tmp rfl) (.nil)) rfl rfl
  conv=>whnf
  iterate 4 (refine Tst.F ?_;conv=>whnf)
  refine Ari.w ?_;conv=>whnf
  iterate 2 (refine Tst.F ?_;conv=>whnf)
  refine FootQ.mk ⟨rfl,?_⟩;conv=>whnf
  refine tst_c H (fun b476 H=>?_) (fun b476 H=>?_)
  ·conv=>whnf
   obtain rfl := Option.some.inj H
   have H := HQ463
   rw [hK460] at H
   try dsimp only at H
   obtain rfl := Option.some.inj H
   have H := HQ353
   try dsimp only at H
   exact fin0_c (enc := V.b) H (.inr rfl) (.cons (.tmp rfl) (.nil)) rfl rfl
  conv=>whnf
  obtain rfl := Option.some.inj H
  exact arrive_c [14,15,16,107,108,109,110,111,112,113,114,115,116,117,118,119,120,121,122,123,124,125,126,127,128,129,130,131,132,133,134,135,136,137,138,139,140,141,142,143,144,145,146,147,148,149,150,151,152,153,154,155,156,157,158,159,160,99] 5 [] (⟨_,HQ463,rfl,rfl⟩) (Nat.zero_le _) rfl (by kernel_rfl) (by kernel_rfl) rfl ⟨⟨rfl,rfl,rfl⟩,⟨⟨rfl,rfl,rfl⟩,⟨⟨rfl,rfl,rfl⟩,⟨⟨rfl,rfl,rfl⟩,⟨⟨rfl,rfl,rfl⟩,trivial⟩⟩⟩⟩⟩
 rintro _ _ (⟨y477,H,rfl,rfl⟩)
 rw [hK460] at H
 try dsimp only at H
 conv=>whnf
 refine tst_d H (fun b478 H=>?_) (fun b478 H=>?_)
 ·conv=>whnf
  refine ⟨Nat.le_of_ble_eq_true rfl,?_⟩;conv=>whnf
  refine Ari.w ?_;conv=>whnf
  exact again_c [11,12,13,14,15,16,17,18,42,43,44,45,46,47,48,49,50,51,52,53,54,55,56,57,58,59,60,61,62,63,64,65,66,67,68,69,70,71,72,73,74,75,76,77,78,79,80,81,82,83,84,85,86,87,88,89,90,91,92,93,94,95,96,97,98,99,100,101,102,103,104,105,106,107,108,109,110,111,112,113,114,115,116,117,118,119,120,121,122,123,124,125,126,127,128,129,130,131,132,133,134,135,136,137,138,139,140,141,142,143,144,145,146,147,148,149,150,151,152,153,154,155,156,157,158,159,160,161,162,163,164,165,166,167,168,169,170,171,172,173,174,175,176,177,178,179,180,181,182,183,184,185,186,187,188] n354 3 [] (.inr (⟨_,_,_,_,H,rfl,rfl⟩)) (Nat.lt_succ_self _) (Nat.zero_le _) rfl (by kernel_rfl) (by kernel_rfl) rfl ⟨⟨rfl,rfl,rfl⟩,⟨⟨rfl,rfl,rfl⟩,⟨⟨rfl,rfl,rfl⟩,trivial⟩⟩⟩
 conv=>whnf
 obtain ⟨o480,HL481,HQ482⟩ := bind_c H
 refine loop_c [4,17] [18,164,165,166,167,168,169,170,171,172,173,174,175,176,177,178,179,180,181,182,183,184,185,186,187,12,161] [18,164,165,166,167,168,169,170,171,172,173,174,175,176,177,178,179,180,181,182,183,184,185,186,187,12,161] (fun n vals st=>(∃ y484,p_law26_SnapTurns_l3  y477 y18 y448 n y484 = some o480 ∧ vals = [.b false,.i y484] ∧ st = [.live [.sl (List.map V.s y18.Users) true,.sl (List.map V.s y18.Keys) true] 0,.live [.i y448.Seq,.sl (List.map BookRow.v y448.Rows) false] 0,.live [.b y417.On,.b y417.Begun,.s y417.After,.i y417.Told] 0,.live [.b v455.1.On,.b v455.1.Begun,.s v455.1.After,.i v455.1.Told] 0])) fuel 4 [] (⟨_,HL481,rfl,rfl⟩) (Nat.zero_le _) rfl (by kernel_rfl) (by kernel_rfl) rfl ⟨⟨rfl,rfl,rfl⟩,⟨⟨rfl,rfl,rfl⟩,⟨⟨rfl,rfl,rfl⟩,⟨⟨rfl,rfl,rfl⟩,trivial⟩⟩⟩⟩ ?_
 rintro (_ | n483) _ _ (⟨y484,H,rfl,rfl⟩)
 ·rw [p_law26_SnapTurns_l3] at H;cases H
 rw [p_law26_SnapTurns_l3] at H
 conv=>whnf
 refine LenQ.M ?_;conv=>whnf
 refine tst_d H (fun b485 H=>?_) (fun b485 H=>?_)
 ·conv=>whnf
  obtain rfl := Option.some.inj H
  have H := HQ482
  try dsimp only at H
  refine ⟨Nat.le_of_ble_eq_true rfl,?_⟩;conv=>whnf
  refine Ari.w ?_;conv=>whnf
  exact again_c [11,12,13,14,15,16,17,18,42,43,44,45,46,47,48,49,50,51,52,53,54,55,56,57,58,59,60,61,62,63,64,65,66,67,68,69,70,71,72,73,74,75,76,77,78,79,80,81,82,83,84,85,86,87,88,89,90,91,92,93,94,95,96,97,98,99,100,101,102,103,104,105,106,107,108,109,110,111,112,113,114,115,116,117,118,119,120,121,122,123,124,125,126,127,128,129,130,131,132,133,134,135,136,137,138,139,140,141,142,143,144,145,146,147,148,149,150,151,152,153,154,155,156,157,158,159,160,161,162,163,164,165,166,167,168,169,170,171,172,173,174,175,176,177,178,179,180,181,182,183,184,185,186,187,188] n354 3 [] (.inr (⟨_,_,_,_,H,rfl,rfl⟩)) (Nat.lt_succ_self _) (Nat.zero_le _) rfl (by kernel_rfl) (by kernel_rfl) rfl ⟨⟨rfl,rfl,rfl⟩,⟨⟨rfl,rfl,rfl⟩,⟨⟨rfl,rfl,rfl⟩,trivial⟩⟩⟩
 conv=>whnf
 refine ixs_c (f := BookRow.v) H (fun _=>rfl) (fun x486 H=>?_);conv=>whnf
 refine ⟨Nat.le_of_ble_eq_true rfl,?_⟩;conv=>whnf
 refine ask_c (p_snap_Sees_v _ _) H rfl rfl (fun v487 H=>?_);conv=>whnf
 refine tst_d H (fun b488 H=>?_) (fun b488 H=>?_)
 ·conv=>whnf
  iterate 8 (refine Tst.F ?_;conv=>whnf)
  refine Ari.w ?_;conv=>whnf
  exact again_c [18,164,165,166,167,168,169,170,171,172,173,174,175,176,177,178,179,180,181,182,183,184,185,186,187,12,161] n483 4 [] (⟨_,H,rfl,rfl⟩) (Nat.lt_succ_self _) (Nat.zero_le _) rfl (by kernel_rfl) (by kernel_rfl) rfl ⟨⟨rfl,rfl,rfl⟩,⟨⟨rfl,rfl,rfl⟩,⟨⟨rfl,rfl,rfl⟩,⟨⟨rfl,rfl,rfl⟩,trivial⟩⟩⟩⟩
 conv=>whnf
 iterate 4 (refine Tst.T ?_;conv=>whnf)
 refine ask_c (p_pres_Key_v _ _) H rfl rfl (fun v489 H=>?_);conv=>whnf
 iterate 3 (refine Tst.T ?_;conv=>whnf)
 refine Tst.not ?_
 refine tst_d H (fun b490 H=>?_) (fun b490 H=>?_)
 ·conv=>whnf
  obtain rfl := Option.some.inj H
  have H := HQ482
  try dsimp only at H
  obtain rfl := Option.some.inj H
  have H := HQ353
  try dsimp only at H
  exact fin0_c (enc := V.b) H (.inr rfl) (.cons (.tmp rfl) (.nil)) rfl rfl
 conv=>whnf
 refine Ari.w ?_;conv=>whnf
 exact again_c [18,164,165,166,167,168,169,170,171,172,173,174,175,176,177,178,179,180,181,182,183,184,185,186,187,12,161] n483 4 [] (⟨_,H,rfl,rfl⟩) (Nat.lt_succ_self _) (Nat.zero_le _) rfl (by kernel_rfl) (by kernel_rfl) rfl ⟨⟨rfl,rfl,rfl⟩,⟨⟨rfl,rfl,rfl⟩,⟨⟨rfl,rfl,rfl⟩,⟨⟨rfl,rfl,rfl⟩,trivial⟩⟩⟩⟩
end Go.Proofs.Ythlhbgedidipkaa
