/- SnapTells: for every input the call returns true, and its arguments read as they did. -/
import Derived.Test.YthlhbgedidipkaaGreatVaA15
import Derived.Test.YthlhbgedidipkaaGreatVaA14
import Derived.Test.YthlhbgedidipkaaGreatVaA18
import Derived.Test.YthlhbgedidipkaaGreatVaA8
import Derived.KernelRfl
import Derived.Test.YthlhbgedidipkaaGreatVaA17
import Derived.Test.YthlhbgedidipkaaGreatVaA16
import Derived.Test.YthlhbgedidipkaaGreatRows
set_option linter.all false
/- That the program's functions yield what the plain ones tell (written by a program of mine). -/
namespace Go.Proofs.YthlhbgedidipkaaGreat
open Go.RowKit
def gc13 : BCode := (.seq (.reg 0 [⟨(some 0),.mv (.const (.bool false)),none,0⟩] none 0 []) (.seq (.reg 2 [⟨(some 14),.bd [(.lit (.int .i64 0)),(.sl [] true)] [],none,0⟩,⟨(some 15),.cl 79 [(.tmp 14),(.const (.string ⟨#[97,64,120]⟩)),(.const (.string ⟨#[49]⟩)),(.const (.int .i64 1)),(.const (.int .i64 0))],none,0⟩,⟨(some 13),.mv (.tmp 15),none,0⟩,⟨(some 16),.ex (.tmp 13) 0,none,0⟩,⟨(some 17),.ex (.tmp 13) 1,none,0⟩,⟨(some 18),.ex (.tmp 13) 2,none,0⟩,⟨(some 1),.al (.agg [(.lit (.int .i64 0)),(.sl [] true)]),none,0⟩,⟨(some 2),.al (.agg [(.lit (.bool false)),(.lit (.int .i64 0)),(.lit (.int .i64 0)),(.lit (.int .i64 0))]),none,1⟩,⟨none,.st 2 (.tmp 1) (.tmp 16),none,2⟩,⟨none,.st 4 (.tmp 2) (.tmp 17),none,2⟩,⟨(some 3),.mv (.tmp 18),none,2⟩] none 0 []) (.seq (.reg 0 [⟨(some 20),.ld 2 true (.tmp 1),none,0⟩,⟨(some 21),.cl 79 [(.tmp 20),(.const (.string ⟨#[98,64,120]⟩)),(.const (.string ⟨#[]⟩)),(.const (.int .i64 0)),(.const (.int .i64 0))],none,0⟩,⟨(some 19),.mv (.tmp 21),none,0⟩,⟨(some 22),.ex (.tmp 19) 0,none,0⟩,⟨(some 23),.ex (.tmp 19) 1,none,0⟩,⟨(some 24),.ex (.tmp 19) 2,none,0⟩,⟨none,.st 2 (.tmp 1) (.tmp 22),none,0⟩] none 0 []) (.seq (.reg 0 [⟨(some 26),.ld 2 true (.tmp 1),none,0⟩,⟨(some 27),.cl 79 [(.tmp 26),(.const (.string ⟨#[99,64,120]⟩)),(.const (.string ⟨#[50]⟩)),(.const (.int .i64 0)),(.const (.int .i64 0))],none,0⟩,⟨(some 25),.mv (.tmp 27),none,0⟩,⟨(some 28),.ex (.tmp 25) 0,none,0⟩,⟨(some 29),.ex (.tmp 25) 1,none,0⟩,⟨(some 30),.ex (.tmp 25) 2,none,0⟩,⟨none,.st 2 (.tmp 1) (.tmp 28),none,0⟩] none 0 []) (.seq (.reg 3 [⟨(some 31),.bs 1 1 [(.lit (.string ⟨#[]⟩))] [(0,(.const (.string ⟨#[97,64,120]⟩)))],none,0⟩,⟨(some 32),.bs 1 1 [(.lit (.string ⟨#[]⟩))] [(0,(.const (.string ⟨#[99,64,120,32,50]⟩)))],none,1⟩,⟨(some 33),.bd [(.sl [] true),(.sl [] true)] [(0,1,(.tmp 31)),(1,1,(.tmp 32))],none,2⟩,⟨(some 4),.al (.agg [(.sl [] true),(.sl [] true)]),none,2⟩,⟨none,.st 2 (.tmp 4) (.tmp 33),none,3⟩] none 0 []) (.seq (.reg 0 [⟨(some 34),.ld 2 true (.tmp 4),none,0⟩,⟨(some 35),.ld 2 true (.tmp 1),none,0⟩,⟨(some 36),.cl 25 [(.tmp 34),(.tmp 35)],none,0⟩,⟨(some 5),.mv (.tmp 36),none,0⟩] none 0 []) (.seq (.reg 2 [⟨(some 38),.cl 81 [],none,0⟩,⟨(some 39),.ld 2 true (.tmp 4),none,0⟩,⟨(some 40),.ld 2 true (.tmp 1),none,0⟩,⟨(some 41),.cl 80 [(.tmp 38),(.tmp 39),(.tmp 40)],none,0⟩,⟨(some 37),.mv (.tmp 41),none,0⟩,⟨(some 42),.ex (.tmp 37) 0,none,0⟩,⟨(some 43),.ex (.tmp 37) 1,none,0⟩,⟨(some 44),.ex (.tmp 37) 2,none,0⟩,⟨(some 6),.al (.agg [(.lit (.bool false)),(.lit (.bool false)),(.lit (.string ⟨#[]⟩)),(.lit (.int .i64 0))]),none,0⟩,⟨(some 7),.al (.agg [(.lit (.int .u8 0)),(.lit (.string ⟨#[]⟩)),(.lit (.string ⟨#[]⟩)),(.lit (.string ⟨#[]⟩)),(.lit (.int .i64 0)),(.lit (.int .i64 0)),(.lit (.int .i64 0)),(.lit (.int .i64 0))]),none,1⟩,⟨none,.st 4 (.tmp 6) (.tmp 42),none,2⟩,⟨none,.st 8 (.tmp 7) (.tmp 43),none,2⟩,⟨(some 8),.mv (.tmp 44),none,2⟩] (some [[],[],[],[2,1,0],[0,1,2,3],[3,2,1,0,4],[3,2,1,0,4],[3,2,1,0,4],[],[],[9,4,0,1,2,3,5,8],[8,5,10,4,0,1,2,3,6,9],[9,6,10,5,8,11,4,0,1,2,3,7]]) 0 []) (.seq (.reg 2 [⟨(some 46),.ld 4 true (.tmp 6),none,0⟩,⟨(some 47),.ld 2 true (.tmp 4),none,0⟩,⟨(some 48),.ld 2 true (.tmp 1),none,0⟩,⟨(some 49),.cl 80 [(.tmp 46),(.tmp 47),(.tmp 48)],none,0⟩,⟨(some 45),.mv (.tmp 49),none,0⟩,⟨(some 50),.ex (.tmp 45) 0,none,0⟩,⟨(some 51),.ex (.tmp 45) 1,none,0⟩,⟨(some 52),.ex (.tmp 45) 2,none,0⟩,⟨(some 9),.al (.agg [(.lit (.bool false)),(.lit (.bool false)),(.lit (.string ⟨#[]⟩)),(.lit (.int .i64 0))]),none,0⟩,⟨(some 10),.al (.agg [(.lit (.int .u8 0)),(.lit (.string ⟨#[]⟩)),(.lit (.string ⟨#[]⟩)),(.lit (.string ⟨#[]⟩)),(.lit (.int .i64 0)),(.lit (.int .i64 0)),(.lit (.int .i64 0)),(.lit (.int .i64 0))]),none,1⟩,⟨none,.st 4 (.tmp 9) (.tmp 50),none,2⟩,⟨none,.st 8 (.tmp 10) (.tmp 51),none,2⟩,⟨(some 11),.mv (.tmp 52),none,2⟩] none 0 []) (.seq (.reg 0 [⟨(some 53),.ld 2 true (.tmp 4),none,0⟩,⟨(some 54),.ld 2 true (.tmp 1),none,0⟩,⟨(some 55),.cl 19 [(.tmp 53),(.tmp 54)],none,0⟩,⟨(some 12),.mv (.tmp 55),none,0⟩] none 0 []) (.seq (.reg 0 [⟨(some 56),.mv (.tmp 5),none,0⟩,⟨(some 57),.lens (.tmp 56),none,0⟩,⟨(some 58),.bin .eql (.tmp 57) (.const (.int .i64 4)),none,0⟩,⟨(some 59),.mv (.tmp 58),none,0⟩,⟨(some 60),.mv (.tmp 5),(some (59,true)),0⟩,⟨(some 61),.ixs 8 (.tmp 60) (.const (.int .i64 0)),(some (59,true)),0⟩,⟨(some 62),.ld 8 true (.tmp 61),(some (59,true)),0⟩,⟨(some 63),.bd [(.lit (.int .u8 0)),(.lit (.string ⟨#[]⟩)),(.lit (.string ⟨#[]⟩)),(.lit (.string ⟨#[]⟩)),(.lit (.int .i64 0)),(.lit (.int .i64 0)),(.lit (.int .i64 0)),(.lit (.int .i64 0))] [(0,1,(.const (.int .u8 36))),(7,1,(.const (.int .i64 2)))],(some (59,true)),0⟩,⟨(some 64),.eqa false [1,2,2,2,1,1,1,1] (.tmp 62) (.tmp 63),(some (59,true)),0⟩,⟨(some 65),.pick (.tmp 59) (.tmp 64) (.const (.bool false)),none,0⟩,⟨(some 66),.mv (.tmp 65),none,0⟩,⟨(some 67),.mv (.tmp 5),(some (66,true)),0⟩,⟨(some 68),.ixs 8 (.tmp 67) (.const (.int .i64 1)),(some (66,true)),0⟩,⟨(some 69),.fa 1 (.tmp 68),(some (66,true)),0⟩,⟨(some 70),.ld 1 false (.tmp 69),(some (66,true)),0⟩,⟨(some 71),.bin .eql (.tmp 70) (.const (.string ⟨#[97,64,120]⟩)),(some (66,true)),0⟩,⟨(some 72),.pick (.tmp 66) (.tmp 71) (.const (.bool false)),none,0⟩,⟨(some 73),.mv (.tmp 72),none,0⟩,⟨(some 74),.mv (.tmp 5),(some (73,true)),0⟩,⟨(some 75),.ixs 8 (.tmp 74) (.const (.int .i64 2)),(some (73,true)),0⟩,⟨(some 76),.fa 1 (.tmp 75),(some (73,true)),0⟩,⟨(some 77),.ld 1 false (.tmp 76),(some (73,true)),0⟩,⟨(some 78),.bin .eql (.tmp 77) (.const (.string ⟨#[99,64,120]⟩)),(some (73,true)),0⟩,⟨(some 79),.pick (.tmp 73) (.tmp 78) (.const (.bool false)),none,0⟩,⟨(some 80),.mv (.tmp 79),none,0⟩,⟨(some 81),.mv (.tmp 5),(some (80,true)),0⟩,⟨(some 82),.ixs 8 (.tmp 81) (.const (.int .i64 3)),(some (80,true)),0⟩,⟨(some 83),.ld 8 true (.tmp 82),(some (80,true)),0⟩,⟨(some 84),.bd [(.lit (.int .u8 0)),(.lit (.string ⟨#[]⟩)),(.lit (.string ⟨#[]⟩)),(.lit (.string ⟨#[]⟩)),(.lit (.int .i64 0)),(.lit (.int .i64 0)),(.lit (.int .i64 0)),(.lit (.int .i64 0))] [(0,1,(.const (.int .u8 37)))],(some (80,true)),0⟩,⟨(some 85),.eqa false [1,2,2,2,1,1,1,1] (.tmp 83) (.tmp 84),(some (80,true)),0⟩,⟨(some 86),.pick (.tmp 80) (.tmp 85) (.const (.bool false)),none,0⟩,⟨(some 87),.mv (.tmp 86),none,0⟩,⟨(some 88),.ld 8 true (.tmp 7),(some (87,true)),0⟩,⟨(some 89),.mv (.tmp 5),(some (87,true)),0⟩,⟨(some 90),.ixs 8 (.tmp 89) (.const (.int .i64 0)),(some (87,true)),0⟩,⟨(some 91),.ld 8 true (.tmp 90),(some (87,true)),0⟩,⟨(some 92),.eqa false [1,2,2,2,1,1,1,1] (.tmp 88) (.tmp 91),(some (87,true)),0⟩,⟨(some 93),.pick (.tmp 87) (.tmp 92) (.const (.bool false)),none,0⟩,⟨(some 94),.mv (.tmp 93),none,0⟩,⟨(some 95),.mv (.tmp 8),(some (94,true)),0⟩,⟨(some 96),.pick (.tmp 94) (.tmp 95) (.const (.bool false)),none,0⟩,⟨(some 97),.mv (.tmp 96),none,0⟩,⟨(some 98),.mv (.tmp 11),(some (97,true)),0⟩,⟨(some 99),.pick (.tmp 97) (.tmp 98) (.const (.bool false)),none,0⟩,⟨(some 100),.mv (.tmp 99),none,0⟩,⟨(some 101),.ld 4 true (.tmp 9),(some (100,true)),0⟩,⟨(some 102),.bd [(.lit (.bool false)),(.lit (.bool false)),(.lit (.string ⟨#[]⟩)),(.lit (.int .i64 0))] [(0,1,(.const (.bool true))),(1,1,(.const (.bool true))),(2,1,(.const (.string ⟨#[97,64,120,32,49]⟩))),(3,1,(.const (.int .i64 1)))],(some (100,true)),0⟩,⟨(some 103),.eqa false [0,0,2,1] (.tmp 101) (.tmp 102),(some (100,true)),0⟩,⟨(some 104),.pick (.tmp 100) (.tmp 103) (.const (.bool false)),none,0⟩,⟨(some 105),.mv (.tmp 104),none,0⟩,⟨(some 106),.ld 4 true (.tmp 9),(some (105,true)),0⟩,⟨(some 107),.cl 82 [(.tmp 106),(.const (.string ⟨#[98,64,120,32]⟩))],(some (105,true)),0⟩,⟨(some 108),.pick (.tmp 105) (.tmp 107) (.const (.bool false)),none,0⟩,⟨(some 109),.mv (.tmp 108),none,0⟩,⟨(some 110),.ld 4 true (.tmp 9),(some (109,true)),0⟩,⟨(some 111),.cl 82 [(.tmp 110),(.const (.string ⟨#[97,64,120,32,49]⟩))],(some (109,true)),0⟩,⟨(some 112),.un .not (.tmp 111),(some (109,true)),0⟩,⟨(some 113),.pick (.tmp 109) (.tmp 112) (.const (.bool false)),none,0⟩,⟨(some 114),.mv (.tmp 113),none,0⟩,⟨(some 115),.bd [(.lit (.bool false)),(.lit (.bool false)),(.lit (.string ⟨#[]⟩)),(.lit (.int .i64 0))] [],(some (114,true)),0⟩,⟨(some 116),.cl 82 [(.tmp 115),(.const (.string ⟨#[122]⟩))],(some (114,true)),0⟩,⟨(some 117),.un .not (.tmp 116),(some (114,true)),0⟩,⟨(some 118),.pick (.tmp 114) (.tmp 117) (.const (.bool false)),none,0⟩,⟨(some 119),.mv (.tmp 118),none,0⟩,⟨(some 120),.mv (.tmp 12),(some (119,true)),0⟩,⟨(some 121),.lens (.tmp 120),(some (119,true)),0⟩,⟨(some 122),.bin .eql (.tmp 121) (.const (.int .i64 2)),(some (119,true)),0⟩,⟨(some 123),.pick (.tmp 119) (.tmp 122) (.const (.bool false)),none,0⟩,⟨(some 124),.mv (.tmp 123),none,0⟩,⟨(some 125),.ld 2 true (.tmp 4),(some (124,true)),0⟩,⟨(some 126),.ld 2 true (.tmp 1),(some (124,true)),0⟩,⟨(some 127),.cl 21 [(.tmp 125),(.tmp 126)],(some (124,true)),0⟩,⟨(some 128),.bin .eql (.tmp 127) (.const (.int .i64 2)),(some (124,true)),0⟩,⟨(some 129),.pick (.tmp 124) (.tmp 128) (.const (.bool false)),none,0⟩,⟨(some 130),.mv (.tmp 129),none,0⟩,⟨(some 131),.ld 2 true (.tmp 4),(some (130,true)),0⟩,⟨(some 132),.mv (.tmp 12),(some (130,true)),0⟩,⟨(some 133),.ixs 6 (.tmp 132) (.const (.int .i64 0)),(some (130,true)),0⟩,⟨(some 134),.ld 6 true (.tmp 133),(some (130,true)),0⟩,⟨(some 135),.cl 15 [(.tmp 131),(.tmp 134)],(some (130,true)),0⟩,⟨(some 136),.pick (.tmp 130) (.tmp 135) (.const (.bool false)),none,0⟩,⟨(some 137),.mv (.tmp 136),none,0⟩,⟨(some 138),.ld 4 true (.tmp 9),(some (137,true)),0⟩,⟨(some 139),.cl 83 [(.tmp 138)],(some (137,true)),0⟩,⟨(some 140),.bin .eql (.tmp 139) (.const (.int .i64 0)),(some (137,true)),0⟩,⟨(some 141),.pick (.tmp 137) (.tmp 140) (.const (.bool false)),none,0⟩,⟨(some 142),.mv (.tmp 141),none,0⟩,⟨(some 143),.bd [(.lit (.bool false)),(.lit (.bool false)),(.lit (.string ⟨#[]⟩)),(.lit (.int .i64 0))] [(1,1,(.const (.bool true)))],(some (142,true)),0⟩,⟨(some 144),.cl 83 [(.tmp 143)],(some (142,true)),0⟩,⟨(some 145),.bin .eql (.tmp 144) (.const (.int .i64 4)),(some (142,true)),0⟩,⟨(some 146),.pick (.tmp 142) (.tmp 145) (.const (.bool false)),none,0⟩,⟨(some 147),.mv (.tmp 146),none,0⟩,⟨(some 148),.pick (.tmp 147) (.const (.bool true)) (.const (.bool false)),none,0⟩,⟨(some 0),.mv (.tmp 148),none,0⟩] (some [[],[0],[0,1],[1,0,2],[2,0,1,3],[3,1,0,2,4],[4,2,0,1,3,5],[2,0,1,3],[7,5,3,1,0,2,4,6],[6,4,5,7,8,2,0,1,3],[3,1,0,2,8,7,5,4,6,9],[9,6,4,5,7,8,2,0,1,3,10],[10,3,1,0,2,8,7,5,4,6,9,11],[11,9,6,4,5,7,8,2,0,1,3,10,12],[12,10,3,1,0,2,8,7,5,4,6,9,11,13],[13,11,9,6,4,5,7,8,2,0,1,3,10,12,14],[14,12,11,13,15,9,6,4,5,7,8,2,0,1,3,10],[10,3,1,0,2,8,7,5,4,6,9,15,13,11,12,14,16],[16,14,12,11,13,15,9,6,4,5,7,8,2,0,1,3,10,17],[17,10,3,1,0,2,8,7,5,4,6,9,15,13,11,12,14,16,18],[18,16,14,12,11,13,15,9,6,4,5,7,8,2,0,1,3,10,17,19],[19,17,10,3,1,0,2,8,7,5,4,6,9,15,13,11,12,14,16,18,20],[20,18,16,14,12,11,13,15,9,6,4,5,7,8,2,0,1,3,10,17,19,21],[21,19,18,20,22,16,14,12,11,13,15,9,6,4,5,7,8,2,0,1,3,10,17],[17,10,3,1,0,2,8,7,5,4,6,9,15,13,11,12,14,16,22,20,18,19,21,23],[23,21,19,18,20,22,16,14,12,11,13,15,9,6,4,5,7,8,2,0,1,3,10,17,24],[24,17,10,3,1,0,2,8,7,5,4,6,9,15,13,11,12,14,16,22,20,18,19,21,23,25],[25,23,21,19,18,20,22,16,14,12,11,13,15,9,6,4,5,7,8,2,0,1,3,10,17,24,26],[23,21,19,18,20,22,16,14,12,11,13,15,9,6,4,5,7,8,2,0,1,3,10,17,24],[28,26,24,17,10,3,1,0,2,8,7,5,4,6,9,15,13,11,12,14,16,22,20,18,19,21,23,25,27],[27,25,26,28,29,23,21,19,18,20,22,16,14,12,11,13,15,9,6,4,5,7,8,2,0,1,3,10,17,24],[24,17,10,3,1,0,2,8,7,5,4,6,9,15,13,11,12,14,16,22,20,18,19,21,23,29,28,26,25,27,30],[30,27,25,26,28,29,23,21,19,18,20,22,16,14,12,11,13,15,9,6,4,5,7,8,2,0,1,3,10,17,24,31],[30,27,25,26,28,29,23,21,19,18,20,22,16,14,12,11,13,15,9,6,4,5,7,8,2,0,1,3,10,17,24,31],[31,24,17,10,3,1,0,2,8,7,5,4,6,9,15,13,11,12,14,16,22,20,18,19,21,23,29,28,26,25,27,30,33],[33,30,27,25,26,28,29,23,21,19,18,20,22,16,14,12,11,13,15,9,6,4,5,7,8,2,0,1,3,10,17,24,31,34],[34,33,35,31,24,17,10,3,1,0,2,8,7,5,4,6,9,15,13,11,12,14,16,22,20,18,19,21,23,29,28,26,25,27,30,32],[32,35,33,34,36,30,27,25,26,28,29,23,21,19,18,20,22,16,14,12,11,13,15,9,6,4,5,7,8,2,0,1,3,10,17,24,31],[31,24,17,10,3,1,0,2,8,7,5,4,6,9,15,13,11,12,14,16,22,20,18,19,21,23,29,28,26,25,27,30,36,34,33,35,32,37],[37,32,35,33,34,36,30,27,25,26,28,29,23,21,19,18,20,22,16,14,12,11,13,15,9,6,4,5,7,8,2,0,1,3,10,17,24,31,38],[39,37,32,35,33,34,36,30,27,25,26,28,29,23,21,19,18,20,22,16,14,12,11,13,15,9,6,4,5,7,8,2,0,1,3,10,17,24,31,38],[38,31,24,17,10,3,1,0,2,8,7,5,4,6,9,15,13,11,12,14,16,22,20,18,19,21,23,29,28,26,25,27,30,36,34,33,35,32,37,39,40],[40,39,37,32,35,33,34,36,30,27,25,26,28,29,23,21,19,18,20,22,16,14,12,11,13,15,9,6,4,5,7,8,2,0,1,3,10,17,24,31,38,41],[42,40,39,37,32,35,33,34,36,30,27,25,26,28,29,23,21,19,18,20,22,16,14,12,11,13,15,9,6,4,5,7,8,2,0,1,3,10,17,24,31,38,41],[41,38,31,24,17,10,3,1,0,2,8,7,5,4,6,9,15,13,11,12,14,16,22,20,18,19,21,23,29,28,26,25,27,30,36,34,33,35,32,37,39,40,42,43],[43,42,40,39,37,32,35,33,34,36,30,27,25,26,28,29,23,21,19,18,20,22,16,14,12,11,13,15,9,6,4,5,7,8,2,0,1,3,10,17,24,31,38,41,44],[43,42,40,39,37,32,35,33,34,36,30,27,25,26,28,29,23,21,19,18,20,22,16,14,12,11,13,15,9,6,4,5,7,8,2,0,1,3,10,17,24,31,38,41,44],[46,44,41,38,31,24,17,10,3,1,0,2,8,7,5,4,6,9,15,13,11,12,14,16,22,20,18,19,21,23,29,28,26,25,27,30,36,34,33,35,32,37,39,40,42,43,45],[45,46,47,43,42,40,39,37,32,35,33,34,36,30,27,25,26,28,29,23,21,19,18,20,22,16,14,12,11,13,15,9,6,4,5,7,8,2,0,1,3,10,17,24,31,38,41,44],[44,41,38,31,24,17,10,3,1,0,2,8,7,5,4,6,9,15,13,11,12,14,16,22,20,18,19,21,23,29,28,26,25,27,30,36,34,33,35,32,37,39,40,42,43,47,46,45,48],[48,45,46,47,43,42,40,39,37,32,35,33,34,36,30,27,25,26,28,29,23,21,19,18,20,22,16,14,12,11,13,15,9,6,4,5,7,8,2,0,1,3,10,17,24,31,38,41,44,49],[49,44,41,38,31,24,17,10,3,1,0,2,8,7,5,4,6,9,15,13,11,12,14,16,22,20,18,19,21,23,29,28,26,25,27,30,36,34,33,35,32,37,39,40,42,43,47,46,45,48,50],[50,51,48,45,46,47,43,42,40,39,37,32,35,33,34,36,30,27,25,26,28,29,23,21,19,18,20,22,16,14,12,11,13,15,9,6,4,5,7,8,2,0,1,3,10,17,24,31,38,41,44,49],[49,44,41,38,31,24,17,10,3,1,0,2,8,7,5,4,6,9,15,13,11,12,14,16,22,20,18,19,21,23,29,28,26,25,27,30,36,34,33,35,32,37,39,40,42,43,47,46,45,48,51,50,52],[52,50,51,48,45,46,47,43,42,40,39,37,32,35,33,34,36,30,27,25,26,28,29,23,21,19,18,20,22,16,14,12,11,13,15,9,6,4,5,7,8,2,0,1,3,10,17,24,31,38,41,44,49,53],[53,49,44,41,38,31,24,17,10,3,1,0,2,8,7,5,4,6,9,15,13,11,12,14,16,22,20,18,19,21,23,29,28,26,25,27,30,36,34,33,35,32,37,39,40,42,43,47,46,45,48,51,50,52,54],[54,52,50,51,48,45,46,47,43,42,40,39,37,32,35,33,34,36,30,27,25,26,28,29,23,21,19,18,20,22,16,14,12,11,13,15,9,6,4,5,7,8,2,0,1,3,10,17,24,31,38,41,44,49,53,55],[55,54,56,52,50,51,48,45,46,47,43,42,40,39,37,32,35,33,34,36,30,27,25,26,28,29,23,21,19,18,20,22,16,14,12,11,13,15,9,6,4,5,7,8,2,0,1,3,10,17,24,31,38,41,44,49,53],[53,49,44,41,38,31,24,17,10,3,1,0,2,8,7,5,4,6,9,15,13,11,12,14,16,22,20,18,19,21,23,29,28,26,25,27,30,36,34,33,35,32,37,39,40,42,43,47,46,45,48,51,50,52,56,54,55,57],[57,55,54,56,52,50,51,48,45,46,47,43,42,40,39,37,32,35,33,34,36,30,27,25,26,28,29,23,21,19,18,20,22,16,14,12,11,13,15,9,6,4,5,7,8,2,0,1,3,10,17,24,31,38,41,44,49,53,58],[58,53,49,44,41,38,31,24,17,10,3,1,0,2,8,7,5,4,6,9,15,13,11,12,14,16,22,20,18,19,21,23,29,28,26,25,27,30,36,34,33,35,32,37,39,40,42,43,47,46,45,48,51,50,52,56,54,55,57,59],[59,57,55,54,56,52,50,51,48,45,46,47,43,42,40,39,37,32,35,33,34,36,30,27,25,26,28,29,23,21,19,18,20,22,16,14,12,11,13,15,9,6,4,5,7,8,2,0,1,3,10,17,24,31,38,41,44,49,53,58,60],[60,59,61,57,55,54,56,52,50,51,48,45,46,47,43,42,40,39,37,32,35,33,34,36,30,27,25,26,28,29,23,21,19,18,20,22,16,14,12,11,13,15,9,6,4,5,7,8,2,0,1,3,10,17,24,31,38,41,44,49,53,58],[58,53,49,44,41,38,31,24,17,10,3,1,0,2,8,7,5,4,6,9,15,13,11,12,14,16,22,20,18,19,21,23,29,28,26,25,27,30,36,34,33,35,32,37,39,40,42,43,47,46,45,48,51,50,52,56,54,55,57,61,59,60,62],[62,60,59,61,57,55,54,56,52,50,51,48,45,46,47,43,42,40,39,37,32,35,33,34,36,30,27,25,26,28,29,23,21,19,18,20,22,16,14,12,11,13,15,9,6,4,5,7,8,2,0,1,3,10,17,24,31,38,41,44,49,53,58,63],[63,58,53,49,44,41,38,31,24,17,10,3,1,0,2,8,7,5,4,6,9,15,13,11,12,14,16,22,20,18,19,21,23,29,28,26,25,27,30,36,34,33,35,32,37,39,40,42,43,47,46,45,48,51,50,52,56,54,55,57,61,59,60,62,64],[64,62,60,59,61,57,55,54,56,52,50,51,48,45,46,47,43,42,40,39,37,32,35,33,34,36,30,27,25,26,28,29,23,21,19,18,20,22,16,14,12,11,13,15,9,6,4,5,7,8,2,0,1,3,10,17,24,31,38,41,44,49,53,58,63,65],[65,64,66,62,60,59,61,57,55,54,56,52,50,51,48,45,46,47,43,42,40,39,37,32,35,33,34,36,30,27,25,26,28,29,23,21,19,18,20,22,16,14,12,11,13,15,9,6,4,5,7,8,2,0,1,3,10,17,24,31,38,41,44,49,53,58,63],[63,58,53,49,44,41,38,31,24,17,10,3,1,0,2,8,7,5,4,6,9,15,13,11,12,14,16,22,20,18,19,21,23,29,28,26,25,27,30,36,34,33,35,32,37,39,40,42,43,47,46,45,48,51,50,52,56,54,55,57,61,59,60,62,66,64,65,67],[67,65,64,66,62,60,59,61,57,55,54,56,52,50,51,48,45,46,47,43,42,40,39,37,32,35,33,34,36,30,27,25,26,28,29,23,21,19,18,20,22,16,14,12,11,13,15,9,6,4,5,7,8,2,0,1,3,10,17,24,31,38,41,44,49,53,58,63,68],[67,65,64,66,62,60,59,61,57,55,54,56,52,50,51,48,45,46,47,43,42,40,39,37,32,35,33,34,36,30,27,25,26,28,29,23,21,19,18,20,22,16,14,12,11,13,15,9,6,4,5,7,8,2,0,1,3,10,17,24,31,38,41,44,49,53,58,63,68],[70,68,63,58,53,49,44,41,38,31,24,17,10,3,1,0,2,8,7,5,4,6,9,15,13,11,12,14,16,22,20,18,19,21,23,29,28,26,25,27,30,36,34,33,35,32,37,39,40,42,43,47,46,45,48,51,50,52,56,54,55,57,61,59,60,62,66,64,65,67,69],[69,67,65,64,66,62,60,59,61,57,55,54,56,52,50,51,48,45,46,47,43,42,40,39,37,32,35,33,34,36,30,27,25,26,28,29,23,21,19,18,20,22,16,14,12,11,13,15,9,6,4,5,7,8,2,0,1,3,10,17,24,31,38,41,44,49,53,58,63,68,70,71],[71,70,69,72,67,65,64,66,62,60,59,61,57,55,54,56,52,50,51,48,45,46,47,43,42,40,39,37,32,35,33,34,36,30,27,25,26,28,29,23,21,19,18,20,22,16,14,12,11,13,15,9,6,4,5,7,8,2,0,1,3,10,17,24,31,38,41,44,49,53,58,63,68],[68,63,58,53,49,44,41,38,31,24,17,10,3,1,0,2,8,7,5,4,6,9,15,13,11,12,14,16,22,20,18,19,21,23,29,28,26,25,27,30,36,34,33,35,32,37,39,40,42,43,47,46,45,48,51,50,52,56,54,55,57,61,59,60,62,66,64,65,67,72,69,70,71,73],[73,71,70,69,72,67,65,64,66,62,60,59,61,57,55,54,56,52,50,51,48,45,46,47,43,42,40,39,37,32,35,33,34,36,30,27,25,26,28,29,23,21,19,18,20,22,16,14,12,11,13,15,9,6,4,5,7,8,2,0,1,3,10,17,24,31,38,41,44,49,53,58,63,68,74],[73,71,70,69,72,67,65,64,66,62,60,59,61,57,55,54,56,52,50,51,48,45,46,47,43,42,40,39,37,32,35,33,34,36,30,27,25,26,28,29,23,21,19,18,20,22,16,14,12,11,13,15,9,6,4,5,7,8,2,0,1,3,10,17,24,31,38,41,44,49,53,58,63,68,74],[74,68,63,58,53,49,44,41,38,31,24,17,10,3,1,0,2,8,7,5,4,6,9,15,13,11,12,14,16,22,20,18,19,21,23,29,28,26,25,27,30,36,34,33,35,32,37,39,40,42,43,47,46,45,48,51,50,52,56,54,55,57,61,59,60,62,66,64,65,67,72,69,70,71,73,76],[76,73,71,70,69,72,67,65,64,66,62,60,59,61,57,55,54,56,52,50,51,48,45,46,47,43,42,40,39,37,32,35,33,34,36,30,27,25,26,28,29,23,21,19,18,20,22,16,14,12,11,13,15,9,6,4,5,7,8,2,0,1,3,10,17,24,31,38,41,44,49,53,58,63,68,74,77],[77,76,78,74,68,63,58,53,49,44,41,38,31,24,17,10,3,1,0,2,8,7,5,4,6,9,15,13,11,12,14,16,22,20,18,19,21,23,29,28,26,25,27,30,36,34,33,35,32,37,39,40,42,43,47,46,45,48,51,50,52,56,54,55,57,61,59,60,62,66,64,65,67,72,69,70,71,73,75],[75,78,76,77,79,73,71,70,69,72,67,65,64,66,62,60,59,61,57,55,54,56,52,50,51,48,45,46,47,43,42,40,39,37,32,35,33,34,36,30,27,25,26,28,29,23,21,19,18,20,22,16,14,12,11,13,15,9,6,4,5,7,8,2,0,1,3,10,17,24,31,38,41,44,49,53,58,63,68,74],[74,68,63,58,53,49,44,41,38,31,24,17,10,3,1,0,2,8,7,5,4,6,9,15,13,11,12,14,16,22,20,18,19,21,23,29,28,26,25,27,30,36,34,33,35,32,37,39,40,42,43,47,46,45,48,51,50,52,56,54,55,57,61,59,60,62,66,64,65,67,72,69,70,71,73,79,77,76,78,75,80],[80,75,78,76,77,79,73,71,70,69,72,67,65,64,66,62,60,59,61,57,55,54,56,52,50,51,48,45,46,47,43,42,40,39,37,32,35,33,34,36,30,27,25,26,28,29,23,21,19,18,20,22,16,14,12,11,13,15,9,6,4,5,7,8,2,0,1,3,10,17,24,31,38,41,44,49,53,58,63,68,74,81],[81,74,68,63,58,53,49,44,41,38,31,24,17,10,3,1,0,2,8,7,5,4,6,9,15,13,11,12,14,16,22,20,18,19,21,23,29,28,26,25,27,30,36,34,33,35,32,37,39,40,42,43,47,46,45,48,51,50,52,56,54,55,57,61,59,60,62,66,64,65,67,72,69,70,71,73,79,77,76,78,75,80,82],[82,80,75,78,76,77,79,73,71,70,69,72,67,65,64,66,62,60,59,61,57,55,54,56,52,50,51,48,45,46,47,43,42,40,39,37,32,35,33,34,36,30,27,25,26,28,29,23,21,19,18,20,22,16,14,12,11,13,15,9,6,4,5,7,8,2,0,1,3,10,17,24,31,38,41,44,49,53,58,63,68,74,81,83],[83,82,84,80,75,78,76,77,79,73,71,70,69,72,67,65,64,66,62,60,59,61,57,55,54,56,52,50,51,48,45,46,47,43,42,40,39,37,32,35,33,34,36,30,27,25,26,28,29,23,21,19,18,20,22,16,14,12,11,13,15,9,6,4,5,7,8,2,0,1,3,10,17,24,31,38,41,44,49,53,58,63,68,74,81],[81,74,68,63,58,53,49,44,41,38,31,24,17,10,3,1,0,2,8,7,5,4,6,9,15,13,11,12,14,16,22,20,18,19,21,23,29,28,26,25,27,30,36,34,33,35,32,37,39,40,42,43,47,46,45,48,51,50,52,56,54,55,57,61,59,60,62,66,64,65,67,72,69,70,71,73,79,77,76,78,75,80,84,82,83,85],[85,83,82,84,80,75,78,76,77,79,73,71,70,69,72,67,65,64,66,62,60,59,61,57,55,54,56,52,50,51,48,45,46,47,43,42,40,39,37,32,35,33,34,36,30,27,25,26,28,29,23,21,19,18,20,22,16,14,12,11,13,15,9,6,4,5,7,8,2,0,1,3,10,17,24,31,38,41,44,49,53,58,63,68,74,81,86],[86,81,74,68,63,58,53,49,44,41,38,31,24,17,10,3,1,0,2,8,7,5,4,6,9,15,13,11,12,14,16,22,20,18,19,21,23,29,28,26,25,27,30,36,34,33,35,32,37,39,40,42,43,47,46,45,48,51,50,52,56,54,55,57,61,59,60,62,66,64,65,67,72,69,70,71,73,79,77,76,78,75,80,84,82,83,85,87],[87,85,83,82,84,80,75,78,76,77,79,73,71,70,69,72,67,65,64,66,62,60,59,61,57,55,54,56,52,50,51,48,45,46,47,43,42,40,39,37,32,35,33,34,36,30,27,25,26,28,29,23,21,19,18,20,22,16,14,12,11,13,15,9,6,4,5,7,8,2,0,1,3,10,17,24,31,38,41,44,49,53,58,63,68,74,81,86,88],[88,87,89,85,83,82,84,80,75,78,76,77,79,73,71,70,69,72,67,65,64,66,62,60,59,61,57,55,54,56,52,50,51,48,45,46,47,43,42,40,39,37,32,35,33,34,36,30,27,25,26,28,29,23,21,19,18,20,22,16,14,12,11,13,15,9,6,4,5,7,8,2,0,1,3,10,17,24,31,38,41,44,49,53,58,63,68,74,81,86],[86,81,74,68,63,58,53,49,44,41,38,31,24,17,10,3,1,0,2,8,7,5,4,6,9,15,13,11,12,14,16,22,20,18,19,21,23,29,28,26,25,27,30,36,34,33,35,32,37,39,40,42,43,47,46,45,48,51,50,52,56,54,55,57,61,59,60,62,66,64,65,67,72,69,70,71,73,79,77,76,78,75,80,84,82,83,85,89,87,88,90],[90,88,87,89,85,83,82,84,80,75,78,76,77,79,73,71,70,69,72,67,65,64,66,62,60,59,61,57,55,54,56,52,50,51,48,45,46,47,43,42,40,39,37,32,35,33,34,36,30,27,25,26,28,29,23,21,19,18,20,22,16,14,12,11,13,15,9,6,4,5,7,8,2,0,1,3,10,17,24,31,38,41,44,49,53,58,63,68,74,81,86,91],[91,86,81,74,68,63,58,53,49,44,41,38,31,24,17,10,3,1,0,2,8,7,5,4,6,9,15,13,11,12,14,16,22,20,18,19,21,23,29,28,26,25,27,30,36,34,33,35,32,37,39,40,42,43,47,46,45,48,51,50,52,56,54,55,57,61,59,60,62,66,64,65,67,72,69,70,71,73,79,77,76,78,75,80,84,82,83,85,89,87,88,90,92]]) 0 []) .ret))))))))))
set_option maxRecDepth 1000000 in
theorem gc13_ok : compF Tryz.prog Tryz.f13 = some (gc13.er,149,[.tmp 0]) := by unfold gc13;kernel_rfl
set_option maxRecDepth 100000 in
set_option maxHeartbeats 4000000 in
theorem p_law26_awake_v : CallsO Tryz.prog 13 [] V.b (p_law26_awake) := by
 refine callsO_comp mix Tryz.func13 gc13_ok fun r H=>?_
 rw [p_law26_awake] at H
 conv=>whnf
 refine ask_c (p_book_Set_v _ _ _ _ _) H rfl rfl (fun v1 H=>?_);conv=>whnf
 refine ⟨Nat.le_of_ble_eq_true rfl,?_⟩;conv=>whnf
 refine ⟨Nat.le_of_ble_eq_true rfl,?_⟩;conv=>whnf
 refine ask_c (p_book_Set_v _ _ _ _ _) H rfl rfl (fun v2 H=>?_);conv=>whnf
 refine ⟨Nat.le_of_ble_eq_true rfl,?_⟩;conv=>whnf
 refine ask_c (p_book_Set_v _ _ _ _ _) H rfl rfl (fun v3 H=>?_);conv=>whnf
 refine ⟨Nat.le_of_ble_eq_true rfl,?_⟩;conv=>whnf
 refine ⟨Nat.le_of_ble_eq_true rfl,?_⟩;conv=>whnf
 refine askF_c (p_snap_All_v _ _) H (.cons (fzagg (.cons (fzown (f := V.s) (l := [(⟨#[97,64,120]⟩ : ByteArray)]) rfl rfl (fun _=>rfl) (fun _=>rfl)) (.cons (fzown (f := V.s) (l := [(⟨#[99,64,120,32,50]⟩ : ByteArray)]) rfl rfl (fun _=>rfl) (fun _=>rfl)) (.nil))) rfl) (.cons (fzagg (.cons (.id rfl) (.cons (.id rfl) (.nil))) rfl) (.nil))) (fun v4 H=>?_);conv=>whnf
 refine ask_c (p_snap_Begin_v) H rfl rfl (fun v5 H=>?_);conv=>whnf
 refine askF_c (p_snap_Next_v _ _ _) H (.cons (fzagg (.cons (.id rfl) (.cons (.id rfl) (.cons (.id rfl) (.cons (.id rfl) (.nil))))) rfl) (.cons (fzagg (.cons (fzown (f := V.s) (l := [(⟨#[97,64,120]⟩ : ByteArray)]) rfl rfl (fun _=>rfl) (fun _=>rfl)) (.cons (fzown (f := V.s) (l := [(⟨#[99,64,120,32,50]⟩ : ByteArray)]) rfl rfl (fun _=>rfl) (fun _=>rfl)) (.nil))) rfl) (.cons (fzagg (.cons (.id rfl) (.cons (.id rfl) (.nil))) rfl) (.nil)))) (fun v6 H=>?_);conv=>whnf
 refine ⟨Nat.le_of_ble_eq_true rfl,?_⟩;conv=>whnf
 refine ⟨Nat.le_of_ble_eq_true rfl,?_⟩;conv=>whnf
 refine FootQ.mk ⟨rfl,?_⟩;conv=>whnf
 refine askF_c (p_snap_Next_v _ _ _) H (.cons (fzagg (.cons (.id rfl) (.cons (.id rfl) (.cons (.id rfl) (.cons (.id rfl) (.nil))))) rfl) (.cons (fzagg (.cons (fzown (f := V.s) (l := [(⟨#[97,64,120]⟩ : ByteArray)]) rfl rfl (fun _=>rfl) (fun _=>rfl)) (.cons (fzown (f := V.s) (l := [(⟨#[99,64,120,32,50]⟩ : ByteArray)]) rfl rfl (fun _=>rfl) (fun _=>rfl)) (.nil))) rfl) (.cons (fzagg (.cons (.id rfl) (.cons (.id rfl) (.nil))) rfl) (.nil)))) (fun v7 H=>?_);conv=>whnf
 refine ⟨Nat.le_of_ble_eq_true rfl,?_⟩;conv=>whnf
 refine ⟨Nat.le_of_ble_eq_true rfl,?_⟩;conv=>whnf
 refine askF_c (p_snap_View_v _ _) H (.cons (fzagg (.cons (fzown (f := V.s) (l := [(⟨#[97,64,120]⟩ : ByteArray)]) rfl rfl (fun _=>rfl) (fun _=>rfl)) (.cons (fzown (f := V.s) (l := [(⟨#[99,64,120,32,50]⟩ : ByteArray)]) rfl rfl (fun _=>rfl) (fun _=>rfl)) (.nil))) rfl) (.cons (fzagg (.cons (.id rfl) (.cons (.id rfl) (.nil))) rfl) (.nil))) (fun v8 H=>?_);conv=>whnf
 refine LenQ.M ?_;conv=>whnf
 refine tst_d H (fun b9 H=>?_) (fun b9 H=>?_)
 ·conv=>whnf
  iterate 72 (refine Tst.F ?_;conv=>whnf)
  refine FootQ.mk ⟨rfl,?_⟩;conv=>whnf
  exact fin0_c (enc := V.b) H (.inr rfl) (.cons (.tmp rfl) (.nil)) rfl rfl
 conv=>whnf
 refine Tst.T ?_;conv=>whnf
 refine ixs_c (f := StanzaStanza.v) H (fun _=>rfl) (fun x10 H=>?_);conv=>whnf
 iterate 4 (refine Tst.T ?_;conv=>whnf)
 refine tst_d H (fun b11 H=>?_) (fun b11 H=>?_)
 ·conv=>whnf
  iterate 66 (refine Tst.F ?_;conv=>whnf)
  refine FootQ.mk ⟨rfl,?_⟩;conv=>whnf
  exact fin0_c (enc := V.b) H (.inr rfl) (.cons (.tmp rfl) (.nil)) rfl rfl
 conv=>whnf
 refine Tst.T ?_;conv=>whnf
 refine ixs_c (f := StanzaStanza.v) H (fun _=>rfl) (fun x12 H=>?_);conv=>whnf
 refine Tst.T ?_;conv=>whnf
 refine ⟨Nat.le_of_ble_eq_true rfl,?_⟩;conv=>whnf
 iterate 3 (refine Tst.T ?_;conv=>whnf)
 refine tst_d H (fun b13 H=>?_) (fun b13 H=>?_)
 ·conv=>whnf
  iterate 60 (refine Tst.F ?_;conv=>whnf)
  refine FootQ.mk ⟨rfl,?_⟩;conv=>whnf
  exact fin0_c (enc := V.b) H (.inr rfl) (.cons (.tmp rfl) (.nil)) rfl rfl
 conv=>whnf
 refine Tst.T ?_;conv=>whnf
 refine ixs_c (f := StanzaStanza.v) H (fun _=>rfl) (fun x14 H=>?_);conv=>whnf
 refine Tst.T ?_;conv=>whnf
 refine ⟨Nat.le_of_ble_eq_true rfl,?_⟩;conv=>whnf
 iterate 3 (refine Tst.T ?_;conv=>whnf)
 refine tst_d H (fun b15 H=>?_) (fun b15 H=>?_)
 ·conv=>whnf
  iterate 54 (refine Tst.F ?_;conv=>whnf)
  refine FootQ.mk ⟨rfl,?_⟩;conv=>whnf
  exact fin0_c (enc := V.b) H (.inr rfl) (.cons (.tmp rfl) (.nil)) rfl rfl
 conv=>whnf
 refine Tst.T ?_;conv=>whnf
 refine ixs_c (f := StanzaStanza.v) H (fun _=>rfl) (fun x16 H=>?_);conv=>whnf
 iterate 4 (refine Tst.T ?_;conv=>whnf)
 refine tst_d H (fun b17 H=>?_) (fun b17 H=>?_)
 ·conv=>whnf
  iterate 48 (refine Tst.F ?_;conv=>whnf)
  refine FootQ.mk ⟨rfl,?_⟩;conv=>whnf
  exact fin0_c (enc := V.b) H (.inr rfl) (.cons (.tmp rfl) (.nil)) rfl rfl
 conv=>whnf
 iterate 2 (refine Tst.T ?_;conv=>whnf)
 refine ixs_c (f := StanzaStanza.v) H (fun _=>rfl) (fun x18 H=>?_);conv=>whnf
 iterate 3 (refine Tst.T ?_;conv=>whnf)
 refine tst_d H (fun b19 H=>?_) (fun b19 H=>?_)
 ·conv=>whnf
  iterate 42 (refine Tst.F ?_;conv=>whnf)
  refine FootQ.mk ⟨rfl,?_⟩;conv=>whnf
  exact fin0_c (enc := V.b) H (.inr rfl) (.cons (.tmp rfl) (.nil)) rfl rfl
 conv=>whnf
 refine Tst.T ?_;conv=>whnf
 refine tst_d H (fun b20 H=>?_) (fun b20 H=>?_)
 ·conv=>whnf
  iterate 40 (refine Tst.F ?_;conv=>whnf)
  refine FootQ.mk ⟨rfl,?_⟩;conv=>whnf
  exact fin0_c (enc := V.b) H (.inr rfl) (.cons (.tmp rfl) (.nil)) rfl rfl
 conv=>whnf
 refine Tst.T ?_;conv=>whnf
 refine tst_d H (fun b21 H=>?_) (fun b21 H=>?_)
 ·conv=>whnf
  iterate 38 (refine Tst.F ?_;conv=>whnf)
  refine FootQ.mk ⟨rfl,?_⟩;conv=>whnf
  exact fin0_c (enc := V.b) H (.inr rfl) (.cons (.tmp rfl) (.nil)) rfl rfl
 conv=>whnf
 iterate 3 (refine Tst.T ?_;conv=>whnf)
 refine tst_d H (fun b22 H=>?_) (fun b22 H=>?_)
 ·conv=>whnf
  iterate 34 (refine Tst.F ?_;conv=>whnf)
  refine FootQ.mk ⟨rfl,?_⟩;conv=>whnf
  exact fin0_c (enc := V.b) H (.inr rfl) (.cons (.tmp rfl) (.nil)) rfl rfl
 conv=>whnf
 refine Tst.T ?_;conv=>whnf
 refine ask_c (p_snap_Covers_v _ _) H rfl rfl (fun v23 H=>?_);conv=>whnf
 refine Tst.T ?_;conv=>whnf
 refine tst_d H (fun b24 H=>?_) (fun b24 H=>?_)
 ·conv=>whnf
  iterate 31 (refine Tst.F ?_;conv=>whnf)
  refine FootQ.mk ⟨rfl,?_⟩;conv=>whnf
  exact fin0_c (enc := V.b) H (.inr rfl) (.cons (.tmp rfl) (.nil)) rfl rfl
 conv=>whnf
 refine Tst.T ?_;conv=>whnf
 refine ask_c (p_snap_Covers_v _ _) H rfl rfl (fun v25 H=>?_);conv=>whnf
 iterate 2 (refine Tst.T ?_;conv=>whnf)
 refine Tst.not ?_
 refine tst_c H (fun b26 H=>?_) (fun b26 H=>?_)
 ·conv=>whnf
  iterate 27 (refine Tst.F ?_;conv=>whnf)
  refine FootQ.mk ⟨rfl,?_⟩;conv=>whnf
  exact fin0_c (enc := V.b) H (.inr rfl) (.cons (.tmp rfl) (.nil)) rfl rfl
 conv=>whnf
 refine Tst.T ?_;conv=>whnf
 refine ask_c (p_snap_Covers_v _ _) H rfl rfl (fun v27 H=>?_);conv=>whnf
 iterate 2 (refine Tst.T ?_;conv=>whnf)
 refine Tst.not ?_
 refine tst_c H (fun b28 H=>?_) (fun b28 H=>?_)
 ·conv=>whnf
  iterate 23 (refine Tst.F ?_;conv=>whnf)
  refine FootQ.mk ⟨rfl,?_⟩;conv=>whnf
  exact fin0_c (enc := V.b) H (.inr rfl) (.cons (.tmp rfl) (.nil)) rfl rfl
 conv=>whnf
 refine Tst.T ?_;conv=>whnf
 refine LenQ.M ?_;conv=>whnf
 iterate 2 (refine Tst.T ?_;conv=>whnf)
 refine tst_d H (fun b29 H=>?_) (fun b29 H=>?_)
 ·conv=>whnf
  iterate 19 (refine Tst.F ?_;conv=>whnf)
  refine FootQ.mk ⟨rfl,?_⟩;conv=>whnf
  exact fin0_c (enc := V.b) H (.inr rfl) (.cons (.tmp rfl) (.nil)) rfl rfl
 conv=>whnf
 iterate 2 (refine Tst.T ?_;conv=>whnf)
 refine askF_c (p_snap_Count_v _ _) H (.cons (fzagg (.cons (fzown (f := V.s) (l := [(⟨#[97,64,120]⟩ : ByteArray)]) rfl rfl (fun _=>rfl) (fun _=>rfl)) (.cons (fzown (f := V.s) (l := [(⟨#[99,64,120,32,50]⟩ : ByteArray)]) rfl rfl (fun _=>rfl) (fun _=>rfl)) (.nil))) rfl) (.cons (fzagg (.cons (.id rfl) (.cons (.id rfl) (.nil))) rfl) (.nil))) (fun v30 H=>?_);conv=>whnf
 iterate 2 (refine Tst.T ?_;conv=>whnf)
 refine tst_d H (fun b31 H=>?_) (fun b31 H=>?_)
 ·conv=>whnf
  iterate 14 (refine Tst.F ?_;conv=>whnf)
  refine FootQ.mk ⟨rfl,?_⟩;conv=>whnf
  exact fin0_c (enc := V.b) H (.inr rfl) (.cons (.tmp rfl) (.nil)) rfl rfl
 conv=>whnf
 iterate 2 (refine Tst.T ?_;conv=>whnf)
 refine ixs_c (f := BookRow.v) H (fun _=>rfl) (fun x32 H=>?_);conv=>whnf
 iterate 2 (refine Tst.T ?_;conv=>whnf)
 refine askF_c (p_snap_Sees_v _ _) H (.cons (fzagg (.cons (fzown (f := V.s) (l := [(⟨#[97,64,120]⟩ : ByteArray)]) rfl rfl (fun _=>rfl) (fun _=>rfl)) (.cons (fzown (f := V.s) (l := [(⟨#[99,64,120,32,50]⟩ : ByteArray)]) rfl rfl (fun _=>rfl) (fun _=>rfl)) (.nil))) rfl) (.cons (fzagg (.cons (.id rfl) (.cons (.id rfl) (.cons (.id rfl) (.cons (.id rfl) (.cons (.id rfl) (.cons (.id rfl) (.nil))))))) rfl) (.nil))) (fun v33 H=>?_);conv=>whnf
 refine Tst.T ?_;conv=>whnf
 refine tst_d H (fun b34 H=>?_) (fun b34 H=>?_)
 ·conv=>whnf
  iterate 8 (refine Tst.F ?_;conv=>whnf)
  refine FootQ.mk ⟨rfl,?_⟩;conv=>whnf
  exact fin0_c (enc := V.b) H (.inr rfl) (.cons (.tmp rfl) (.nil)) rfl rfl
 conv=>whnf
 refine Tst.T ?_;conv=>whnf
 refine ask_c (p_snap_Check_v _) H rfl rfl (fun v35 H=>?_);conv=>whnf
 iterate 2 (refine Tst.T ?_;conv=>whnf)
 refine tst_d H (fun b36 H=>?_) (fun b36 H=>?_)
 ·conv=>whnf
  iterate 4 (refine Tst.F ?_;conv=>whnf)
  refine FootQ.mk ⟨rfl,?_⟩;conv=>whnf
  exact fin0_c (enc := V.b) H (.inr rfl) (.cons (.tmp rfl) (.nil)) rfl rfl
 conv=>whnf
 refine Tst.T ?_;conv=>whnf
 refine ask_c (p_snap_Check_v _) H rfl rfl (fun v37 H=>?_);conv=>whnf
 iterate 2 (refine Tst.T ?_;conv=>whnf)
 refine tst_c H (fun b38 H=>?_) (fun b38 H=>?_)
 ·conv=>whnf
  refine FootQ.mk ⟨rfl,?_⟩;conv=>whnf
  exact fin0_c (enc := V.b) H (.inr rfl) (.cons (.tmp rfl) (.nil)) rfl rfl
 conv=>whnf
 refine FootQ.mk ⟨rfl,?_⟩;conv=>whnf
 exact fin0_c (enc := V.b) H (.inr rfl) (.cons (.tmp rfl) (.nil)) rfl rfl
end Go.Proofs.YthlhbgedidipkaaGreat
/- That the program's functions yield what the plain ones tell (written by a program of mine). -/
namespace Go.Proofs.YthlhbgedidipkaaGreat
open Go.RowKit
def gc3 : BCode := (.seq (.reg 2 [⟨(some 2),.bx (.tmp 0),none,0⟩,⟨(some 3),.bx (.tmp 1),none,1⟩,⟨(some 4),.mv (.const (.bool false)),none,2⟩] none 0 []) (.seq (.seq (.reg 0 [⟨(some 8),.ld 2 true (.tmp 2),none,0⟩,⟨(some 9),.cl 11 [(.tmp 8)],none,0⟩,⟨(some 10),.un .not (.tmp 9),none,0⟩,⟨(some 11),.mv (.tmp 10),none,0⟩,⟨(some 12),.ld 2 true (.tmp 3),(some (11,false)),0⟩,⟨(some 13),.cl 12 [(.tmp 12)],(some (11,false)),0⟩,⟨(some 14),.un .not (.tmp 13),(some (11,false)),0⟩,⟨(some 15),.pick (.tmp 11) (.const (.bool true)) (.tmp 14),none,0⟩] none 0 []) (.cond (.tmp 15) (.seq (.reg 0 [⟨(some 16),.cl 13 [],none,0⟩,⟨(some 4),.mv (.tmp 16),none,0⟩] none 0 []) .ret) .skip)) (.seq (.reg 2 [⟨(some 17),.ld 2 true (.tmp 2),none,0⟩,⟨(some 18),.ld 2 true (.tmp 3),none,0⟩,⟨(some 19),.cl 14 [(.tmp 18)],none,0⟩,⟨(some 5),.al (.agg [(.sl [] true),(.sl [] true)]),none,0⟩,⟨(some 6),.al (.agg [(.lit (.int .i64 0)),(.sl [] true)]),none,1⟩,⟨none,.st 2 (.tmp 5) (.tmp 17),none,2⟩,⟨none,.st 2 (.tmp 6) (.tmp 19),none,2⟩] (some [[],[],[1],[],[],[4,1,2,0,3],[3,0,5,1,2,4]]) 0 []) (.seq (.seq (.reg 0 [⟨(some 7),.mv (.const (.int .i64 0)),none,0⟩] none 0 []) (.block 0 (.loop (.seq (.seq (.reg 0 [⟨(some 20),.mv (.tmp 7),none,0⟩,⟨(some 21),.fa 1 (.tmp 3),none,0⟩,⟨(some 22),.ld 1 false (.tmp 21),none,0⟩,⟨(some 23),.lens (.tmp 22),none,0⟩,⟨(some 24),.bin .lss (.tmp 20) (.tmp 23),none,0⟩] none 0 []) (.cond (.tmp 24) .skip (.exit 0))) (.seq (.block 1 (.seq (.reg 0 [⟨(some 27),.ld 2 true (.tmp 5),none,0⟩,⟨(some 28),.fa 1 (.tmp 6),none,0⟩,⟨(some 29),.ld 1 false (.tmp 28),none,0⟩,⟨(some 30),.mv (.tmp 7),none,0⟩,⟨(some 31),.ixs 6 (.tmp 29) (.tmp 30),none,0⟩,⟨(some 32),.ld 6 true (.tmp 31),none,0⟩,⟨(some 33),.cl 15 [(.tmp 27),(.tmp 32)],none,0⟩,⟨(some 34),.ld 2 true (.tmp 2),none,0⟩,⟨(some 35),.fa 1 (.tmp 3),none,0⟩,⟨(some 36),.ld 1 false (.tmp 35),none,0⟩,⟨(some 37),.mv (.tmp 7),none,0⟩,⟨(some 38),.ixs 6 (.tmp 36) (.tmp 37),none,0⟩,⟨(some 39),.ld 6 true (.tmp 38),none,0⟩,⟨(some 40),.cl 16 [(.tmp 34),(.tmp 39)],none,0⟩,⟨(some 41),.binb true (.tmp 33) (.tmp 40),none,0⟩] (some [[],[],[1],[],[3,1,2],[2,1,3,4],[4,3,1,2,5,0],[],[],[8],[],[10,8,9],[9,8,10,11],[0,5,2,1,3,4,6,11,10,8,9,12,7],[7,12,9,8,10,11,13,0,5,2,1,3,4,6]]) 0 []) (.cond (.tmp 41) (.seq (.reg 0 [⟨(some 4),.mv (.const (.bool false)),none,0⟩] none 0 []) .ret) .skip))) (.reg 0 [⟨(some 25),.mv (.tmp 7),none,0⟩,⟨(some 26),.bin .add (.tmp 25) (.const (.int .i64 1)),none,0⟩,⟨(some 7),.mv (.tmp 26),none,0⟩] none 0 [])))))) (.seq (.reg 0 [⟨(some 42),.ld 2 true (.tmp 5),none,0⟩,⟨(some 43),.ld 2 true (.tmp 6),none,0⟩,⟨(some 44),.cl 19 [(.tmp 42),(.tmp 43)],none,0⟩,⟨(some 45),.cl 18 [(.tmp 44)],none,0⟩,⟨(some 46),.ld 2 true (.tmp 2),none,0⟩,⟨(some 47),.ld 2 true (.tmp 3),none,0⟩,⟨(some 48),.cl 20 [(.tmp 46),(.tmp 47)],none,0⟩,⟨(some 49),.cl 17 [(.tmp 45),(.tmp 48)],none,0⟩,⟨(some 50),.mv (.tmp 49),none,0⟩,⟨(some 51),.ld 2 true (.tmp 5),(some (50,true)),0⟩,⟨(some 52),.ld 2 true (.tmp 6),(some (50,true)),0⟩,⟨(some 53),.cl 21 [(.tmp 51),(.tmp 52)],(some (50,true)),0⟩,⟨(some 54),.ld 2 true (.tmp 2),(some (50,true)),0⟩,⟨(some 55),.ld 2 true (.tmp 3),(some (50,true)),0⟩,⟨(some 56),.cl 22 [(.tmp 54),(.tmp 55)],(some (50,true)),0⟩,⟨(some 57),.bin .eql (.tmp 53) (.tmp 56),(some (50,true)),0⟩,⟨(some 58),.pick (.tmp 50) (.tmp 57) (.const (.bool false)),none,0⟩,⟨(some 59),.mv (.tmp 58),none,0⟩,⟨(some 60),.ld 2 true (.tmp 5),(some (59,true)),0⟩,⟨(some 61),.ld 2 true (.tmp 6),(some (59,true)),0⟩,⟨(some 62),.cl 25 [(.tmp 60),(.tmp 61)],(some (59,true)),0⟩,⟨(some 63),.cl 24 [(.tmp 62)],(some (59,true)),0⟩,⟨(some 64),.ld 2 true (.tmp 2),(some (59,true)),0⟩,⟨(some 65),.ld 2 true (.tmp 3),(some (59,true)),0⟩,⟨(some 66),.cl 26 [(.tmp 64),(.tmp 65)],(some (59,true)),0⟩,⟨(some 67),.cl 23 [(.tmp 63),(.tmp 66)],(some (59,true)),0⟩,⟨(some 68),.pick (.tmp 59) (.tmp 67) (.const (.bool false)),none,0⟩,⟨(some 69),.mv (.tmp 68),none,0⟩,⟨(some 70),.cl 13 [],(some (69,true)),0⟩,⟨(some 71),.pick (.tmp 69) (.tmp 70) (.const (.bool false)),none,0⟩,⟨(some 4),.mv (.tmp 71),none,0⟩] (some [[],[],[1,0],[0,1,2],[],[],[2,1,0,3,5,4],[4,5,6,2,1,0,3],[3,0,1,2,6,5,4,7],[7,4,5,6,2,1,0,3,8],[7,4,5,6,2,1,0,3,8],[10,8,3,0,1,2,6,5,4,7,9],[7,4,5,6,2,1,0,3,8],[7,4,5,6,2,1,0,3,8],[9,10,11,13,8,3,0,1,2,6,5,4,7,12],[12,13,14,9,7,4,5,6,2,1,0,3,8,10,11],[11,10,9,14,13,12,15,7,4,5,6,2,1,0,3,8],[8,3,0,1,2,6,5,4,7,15,12,13,14,9,10,11,16],[16,11,10,9,14,13,12,15,7,4,5,6,2,1,0,3,8,17],[16,11,10,9,14,13,12,15,7,4,5,6,2,1,0,3,8,17],[19,17,8,3,0,1,2,6,5,4,7,15,12,13,14,9,10,11,16,18],[18,16,11,10,9,14,13,12,15,7,4,5,6,2,1,0,3,8,17,19,20],[16,11,10,9,14,13,12,15,7,4,5,6,2,1,0,3,8,17],[16,11,10,9,14,13,12,15,7,4,5,6,2,1,0,3,8,17],[20,19,18,21,23,17,8,3,0,1,2,6,5,4,7,15,12,13,14,9,10,11,16,22],[22,23,24,20,19,17,8,3,0,1,2,6,5,4,7,15,12,13,14,9,10,11,16,18,21],[21,18,19,20,24,23,22,25,16,11,10,9,14,13,12,15,7,4,5,6,2,1,0,3,8,17],[17,8,3,0,1,2,6,5,4,7,15,12,13,14,9,10,11,16,25,22,23,24,20,19,18,21,26],[26,21,18,19,20,24,23,22,25,16,11,10,9,14,13,12,15,7,4,5,6,2,1,0,3,8,17,27],[28,26,21,18,19,20,24,23,22,25,16,11,10,9,14,13,12,15,7,4,5,6,2,1,0,3,8,17,27],[27,17,8,3,0,1,2,6,5,4,7,15,12,13,14,9,10,11,16,25,22,23,24,20,19,18,21,26,28,29]]) 0 []) .ret)))))
theorem gc3_ok : compF Tryz.prog Tryz.f3 = some (gc3.er,72,[.tmp 4]) := by unfold gc3;kernel_rfl
set_option maxRecDepth 100000 in
set_option maxHeartbeats 4000000 in
theorem p_law26_SnapTells_v {u1 u2 u3 : Bool} (a0 : SnapEyes) (a1 : BookState) : CallsO Tryz.prog 3 [.agg [.sl (List.map V.s a0.Users) u1,.sl (List.map V.s a0.Keys) u2],.agg [.i a1.Seq,.sl (List.map BookRow.v a1.Rows) u3]] V.b (p_law26_SnapTells a0 a1) := by
 refine callsO_comp mix Tryz.func3 gc3_ok fun r H=>?_
 rw [p_law26_SnapTells] at H
 conv=>whnf
 refine ask_c (p_ref26_Light_v _) H rfl rfl (fun v1 H=>?_);conv=>whnf
 refine Tst.not ?_
 refine tst_d H (fun b2 H=>?_) (fun b2 H=>?_)
 ·conv=>whnf
  iterate 4 (refine Tst.T ?_;conv=>whnf)
  refine ask_c (p_law26_awake_v) H rfl rfl (fun v33 H=>?_);conv=>whnf
  exact fin0_c (enc := V.b) H (.inr rfl) (.cons (.tmp rfl) (.nil)) rfl rfl
 conv=>whnf
 refine Tst.F ?_;conv=>whnf
 refine ask_c (p_ref24_Light_v _) H rfl rfl (fun v3 H=>?_);conv=>whnf
 iterate 2 (refine Tst.F ?_;conv=>whnf)
 refine Tst.not ?_
 refine tst_d H (fun b4 H=>?_) (fun b4 H=>?_)
 ·conv=>whnf
  refine ask_c (p_law26_awake_v) H rfl rfl (fun v32 H=>?_);conv=>whnf
  exact fin0_c (enc := V.b) H (.inr rfl) (.cons (.tmp rfl) (.nil)) rfl rfl
 conv=>whnf
 refine ask_c (p_law26_Book_v _) H rfl rfl (fun v5 H=>?_);conv=>whnf
 refine ⟨Nat.le_of_ble_eq_true rfl,?_⟩;conv=>whnf
 refine ⟨Nat.le_of_ble_eq_true rfl,?_⟩;conv=>whnf
 refine FootQ.mk ⟨rfl,?_⟩;conv=>whnf
 obtain ⟨o7,HL8,HQ9⟩ := bind_c H
 refine loop_c [4,7] [20,21,22,23,24,25,26,27,28,29,30,31,32,33,34,35,36,37,38,39,40,41] [20,21,22,23,24,25,26,27,28,29,30,31,32,33,34,35,36,37,38,39,40,41] (fun n vals st=>(∃ y11,p_law26_SnapTells_l1  a0 a1 a0 v5 n y11 = some o7 ∧ vals = [.b false,.i y11] ∧ st = [.live [.sl (List.map V.s a0.Users) u1,.sl (List.map V.s a0.Keys) u2] 0,.live [.i a1.Seq,.sl (List.map BookRow.v a1.Rows) u3] 0,.live [.sl (List.map V.s a0.Users) u1,.sl (List.map V.s a0.Keys) u2] 0,.live [.i v5.Seq,.sl (List.map BookRow.v v5.Rows) false] 0])) fuel 4 [] (⟨_,HL8,rfl,rfl⟩) (Nat.zero_le _) rfl (by kernel_rfl) (by kernel_rfl) rfl ⟨⟨rfl,rfl,rfl⟩,⟨⟨rfl,rfl,rfl⟩,⟨⟨rfl,rfl,rfl⟩,⟨⟨rfl,rfl,rfl⟩,trivial⟩⟩⟩⟩ ?_
 rintro (_ | n10) _ _ (⟨y11,H,rfl,rfl⟩)
 ·rw [p_law26_SnapTells_l1] at H;cases H
 rw [p_law26_SnapTells_l1] at H
 conv=>whnf
 refine LenQ.M ?_;conv=>whnf
 refine tst_c H (fun b12 H=>?_) (fun b12 H=>?_)
 ·conv=>whnf
  refine ixs_c (f := BookRow.v) H (fun _=>rfl) (fun x13 H=>?_);conv=>whnf
  refine ask_c (p_snap_Sees_v _ _) H rfl rfl (fun v14 H=>?_);conv=>whnf
  refine ixs_c (f := BookRow.v) H (fun _=>rfl) (fun x15 H=>?_);conv=>whnf
  refine ask_c (p_ref26_Sees_v _ _) H rfl rfl (fun v16 H=>?_);conv=>whnf
  refine FootQ.mk ⟨rfl,?_⟩;conv=>whnf
  refine tst_c H (fun b17 H=>?_) (fun b17 H=>?_)
  ·conv=>whnf
   obtain rfl := Option.some.inj H
   have H := HQ9
   try dsimp only at H
   exact fin0_c (enc := V.b) H (.inr rfl) (.cons (.tmp rfl) (.nil)) rfl rfl
  conv=>whnf
  refine Ari.w ?_;conv=>whnf
  exact again_c [20,21,22,23,24,25,26,27,28,29,30,31,32,33,34,35,36,37,38,39,40,41] n10 4 [] (⟨_,H,rfl,rfl⟩) (Nat.lt_succ_self _) (Nat.zero_le _) rfl (by kernel_rfl) (by kernel_rfl) rfl ⟨⟨rfl,rfl,rfl⟩,⟨⟨rfl,rfl,rfl⟩,⟨⟨rfl,rfl,rfl⟩,⟨⟨rfl,rfl,rfl⟩,trivial⟩⟩⟩⟩
 conv=>whnf
 obtain rfl := Option.some.inj H
 have H := HQ9
 try dsimp only at H
 refine ask_c (p_snap_View_v _ _) H rfl rfl (fun v18 H=>?_);conv=>whnf
 refine ask_c (p_law24_Rows_v _) H rfl rfl (fun v19 H=>?_);conv=>whnf
 refine ask_c (p_ref26_View_v _ _) H rfl rfl (fun v20 H=>?_);conv=>whnf
 refine ask_c (p_ref24_SameRows_v _ _) H rfl rfl (fun v21 H=>?_);conv=>whnf
 refine tst_d H (fun b22 H=>?_) (fun b22 H=>?_)
 ·conv=>whnf
  iterate 18 (refine Tst.F ?_;conv=>whnf)
  refine FootQ.mk ⟨rfl,?_⟩;conv=>whnf
  exact fin0_c (enc := V.b) H (.inr rfl) (.cons (.tmp rfl) (.nil)) rfl rfl
 conv=>whnf
 iterate 2 (refine Tst.T ?_;conv=>whnf)
 refine ask_c (p_snap_Count_v _ _) H rfl rfl (fun v23 H=>?_);conv=>whnf
 iterate 3 (refine Tst.T ?_;conv=>whnf)
 refine ask_c (p_ref26_Count_v _ _) H rfl rfl (fun v24 H=>?_);conv=>whnf
 iterate 2 (refine Tst.T ?_;conv=>whnf)
 refine tst_d H (fun b25 H=>?_) (fun b25 H=>?_)
 ·conv=>whnf
  iterate 10 (refine Tst.F ?_;conv=>whnf)
  refine FootQ.mk ⟨rfl,?_⟩;conv=>whnf
  exact fin0_c (enc := V.b) H (.inr rfl) (.cons (.tmp rfl) (.nil)) rfl rfl
 conv=>whnf
 iterate 2 (refine Tst.T ?_;conv=>whnf)
 refine ask_c (p_snap_All_v _ _) H rfl rfl (fun v26 H=>?_);conv=>whnf
 refine Tst.T ?_;conv=>whnf
 refine ask_c (p_law10_Back_v _) H rfl rfl (fun v27 H=>?_);conv=>whnf
 iterate 3 (refine Tst.T ?_;conv=>whnf)
 refine ask_c (p_ref26_All_v _ _) H rfl rfl (fun v28 H=>?_);conv=>whnf
 refine Tst.T ?_;conv=>whnf
 refine ask_c (p_ref10_SameAll_v _ _) H rfl rfl (fun v29 H=>?_);conv=>whnf
 refine Tst.T ?_;conv=>whnf
 refine tst_d H (fun b30 H=>?_) (fun b30 H=>?_)
 ·conv=>whnf
  refine Tst.F ?_;conv=>whnf
  refine FootQ.mk ⟨rfl,?_⟩;conv=>whnf
  exact fin0_c (enc := V.b) H (.inr rfl) (.cons (.tmp rfl) (.nil)) rfl rfl
 conv=>whnf
 refine ask_c (p_law26_awake_v) H rfl rfl (fun v31 H=>?_);conv=>whnf
 refine Tst.T ?_;conv=>whnf
 refine FootQ.mk ⟨rfl,?_⟩;conv=>whnf
 exact fin0_c (enc := V.b) H (.inr rfl) (.cons (.tmp rfl) (.nil)) rfl rfl
end Go.Proofs.YthlhbgedidipkaaGreat
/- SnapTells: for every input the call returns true, and its arguments read as they did. -/
namespace Go.Proofs.YthlhbgedidipkaaGreat
open Go.ChangeShapes Go.WideShapes Go.ChangeAt Go.RowKit Go.Joins Go.Deep
set_option maxRecDepth 100000 in
theorem snapTells_lifted (os : Os) (started : os.Started) (H : Type) (enc : TypeId × Value → H) :
    ReturnsInHanded {} Tryz.checked os 3 .any (Rows.snapTellsSpec.pre6 enc Tryz.prog Tryz.f3 Rows.snapTellsRow.domain false) (Rows.snapTellsSpec.post enc Tryz.prog Tryz.f3 false true false false) := by
  refine returnsInHanded_of_change_shaped (C := Tryz.checked) own0 started (by kernel_rfl) Tryz.func3
    (ChangeSpec.witness6 (enc := enc) (C := Tryz.checked) false ⟨#[], #[.agg #[.slice none 0 0, .slice none 0 0], .agg #[.int .i64 0, .slice none 0 0]], []⟩ 8 (by kernel_rfl) (by kernel_rfl) (by kernel_rfl) (by kernel_rfl)) ?_
  intro W base args ds gs before hval0 hW hcnd _ hsh _
  have hval : ∀ (j : Nat) t v, Tryz.f3.params[j]? = some t → args[j]? = some v → Value.okWide Tryz.prog W .any base t v := hval0
  have hW' := hW
  obtain ⟨p, q, hA0, hV, rfl, hfz, hnd⟩ := hW
  have hA : DataW.TrodAll enc Tryz.prog W 0 (fun _ => true) true Tryz.f3.params.toList args.toList ds p := hA0
  rw [Tryz.params3] at hA hval
  have hA2 := hA
  obtain ⟨v0, v1, d0, d1, p0, p1, rfl, rfl, hp, h0, h1⟩ := trodAll_two hA
  obtain ⟨rfl, rfl⟩ := trodVars_none hV
  obtain ⟨fu0, hf0⟩ := h0
  obtain ⟨cs0, rfl, _⟩ := okWide_struct Tryz.underlying24 (hval 0 _ v0 rfl rfl)
  obtain ⟨a0, r0⟩ := rd_T24 hf0
  have hx0 : Rep (MW W) noBk (.agg cs0) (.agg [.sl (List.map V.s a0.Users) false, .sl (List.map V.s a0.Keys) false]) := rep_aggL r0 (by intro u hu; simp only [List.mem_cons, List.not_mem_nil, or_false] at hu; rcases hu with rfl | rfl <;> rfl)
  obtain ⟨fu1, hf1⟩ := h1
  obtain ⟨cs1, rfl, _⟩ := okWide_struct Tryz.underlying27 (hval 1 _ v1 rfl rfl)
  obtain ⟨a1, w1, r1⟩ := rd_T27 hf1
  have hx1 : Rep (MW W) noBk (.agg cs1) (.agg [.i a1.Seq, .sl (List.map BookRow.v a1.Rows) false]) := rep_aggL r1 (by intro u hu; simp only [List.mem_cons, List.not_mem_nil, or_false] at hu; rcases hu with rfl | rfl <;> rfl)
  refine (rep_one (callsO_true (p_law26_SnapTells_v a0 a1) (snapTells_pure a0 a1)) (maxLen_cell W hsh) (repAr2 hx0 hx1)).mono ?_
  rintro e W' ⟨rfl, bel⟩
  refine ⟨_, rfl, _, _, _, [], p, [], hW', ?_, ?_, ?_, ?_, ?_⟩
  · exact trodAll_mk1 (shut_bool Tryz.underlying4 true)
  · exact trodAll_below laid0 bel (by
      intro t ht
      simp at ht
      rcases ht with rfl | rfl <;> exact ⟨by kernel_rfl, of_decide_eq_true (by kernel_rfl)⟩) hA2
  · rfl
  · exact bel.frame _
  · exact fun h => by cases h
theorem snapTells_holds : Rows.SnapTellsSaid :=
  OpenClaim.holds_of_wide 3 Tryz.f3 rfl rfl rfl rfl rfl rfl rfl ⟨rfl, rfl, rfl, rfl, rfl⟩ rfl rfl rfl rfl rfl (by kernel_rfl) Tryz.func3 (by kernel_rfl)
    (of_decide_eq_true (by kernel_rfl)) (by unfold Func.isWrapper; first | (rw [if_pos (by decide +kernel)]; kernel_rfl) | (rw [if_neg (by decide +kernel)]; exact ⟨rfl, rfl⟩))
    (fun os started H enc _ => snapTells_lifted os started H enc)
#print axioms snapTells_holds
end Go.Proofs.YthlhbgedidipkaaGreat
