/- A part of the proof: 2 texts joined. -/
import Derived.Test.YtpmoioopjbfhkaaXaA12
import Derived.Test.YtpmoioopjbfhkaaXaA13
import Derived.Test.YtpmoioopjbfhkaaXaA10
import Derived.KernelRfl
set_option linter.all false
/- That the program's functions yield what the plain ones tell (written by a program of mine). -/
namespace Go.Proofs.Ytpmoioopjbfhkaa
open Go.RowKit
set_option maxRecDepth 1000000
set_option maxHeartbeats 4000000
def gc7:BCode:=(.seq (.reg 0 [⟨(some 0),.mv (.const (.bool false)),none,0⟩] none 0 []) (.seq (.reg 1 [⟨(some 12),.bd [(.lit (.string ⟨#[]⟩)),(.lit (.string ⟨#[]⟩)),(.lit (.int .i64 0)),(.lit (.int .i64 0)),(.lit (.bool false))] [(0,1,(.const (.string ⟨#[97,64,98]⟩))),(1,1,(.const (.string ⟨#[65,110,110]⟩))),(2,1,(.const (.int .i64 1))),(3,1,(.const (.int .i64 3))),(4,1,(.const (.bool true)))],none,0⟩,⟨(some 1),.al (.agg [(.lit (.string ⟨#[]⟩)),(.lit (.string ⟨#[]⟩)),(.lit (.int .i64 0)),(.lit (.int .i64 0)),(.lit (.bool false))]),none,0⟩,⟨none,.st 5 (.tmp 1) (.tmp 12),none,1⟩] none 0 []) (.seq (.reg 1 [⟨(some 13),.bd [(.lit (.string ⟨#[]⟩)),(.lit (.string ⟨#[]⟩)),(.lit (.int .i64 0)),(.lit (.int .i64 0)),(.lit (.bool false))] [(0,1,(.const (.string ⟨#[99,64,100]⟩))),(2,1,(.const (.int .i64 8)))],none,0⟩,⟨(some 2),.al (.agg [(.lit (.string ⟨#[]⟩)),(.lit (.string ⟨#[]⟩)),(.lit (.int .i64 0)),(.lit (.int .i64 0)),(.lit (.bool false))]),none,0⟩,⟨none,.st 5 (.tmp 2) (.tmp 13),none,1⟩] none 0 []) (.seq (.reg 0 [⟨(some 15),.ld 5 true (.tmp 1),none,0⟩,⟨(some 16),.cl 23 [(.tmp 15)],none,0⟩,⟨(some 14),.mv (.tmp 16),none,0⟩,⟨(some 17),.ex (.tmp 14) 0,none,0⟩,⟨(some 18),.ex (.tmp 14) 1,none,0⟩,⟨(some 3),.mv (.tmp 17),none,0⟩,⟨(some 4),.mv (.tmp 18),none,0⟩] none 0 []) (.seq (.reg 1 [⟨(some 20),.mv (.tmp 3),none,0⟩,⟨(some 21),.cl 24 [(.tmp 20)],none,0⟩,⟨(some 19),.mv (.tmp 21),none,0⟩,⟨(some 22),.ex (.tmp 19) 0,none,0⟩,⟨(some 23),.ex (.tmp 19) 1,none,0⟩,⟨(some 5),.al (.agg [(.lit (.string ⟨#[]⟩)),(.lit (.string ⟨#[]⟩)),(.lit (.int .i64 0)),(.lit (.int .i64 0)),(.lit (.bool false))]),none,0⟩,⟨none,.st 5 (.tmp 5) (.tmp 22),none,1⟩,⟨(some 6),.mv (.tmp 23),none,1⟩] none 0 []) (.seq (.reg 1 [⟨(some 25),.mv (.tmp 3),none,0⟩,⟨(some 26),.bin .add (.tmp 25) (.const (.string ⟨#[120]⟩)),none,0⟩,⟨(some 27),.cl 24 [(.tmp 26)],none,0⟩,⟨(some 24),.mv (.tmp 27),none,0⟩,⟨(some 28),.ex (.tmp 24) 0,none,0⟩,⟨(some 29),.ex (.tmp 24) 1,none,0⟩,⟨(some 7),.al (.agg [(.lit (.string ⟨#[]⟩)),(.lit (.string ⟨#[]⟩)),(.lit (.int .i64 0)),(.lit (.int .i64 0)),(.lit (.bool false))]),none,0⟩,⟨none,.st 5 (.tmp 7) (.tmp 28),none,1⟩,⟨(some 8),.mv (.tmp 29),none,1⟩] none 0 []) (.seq (.reg 0 [⟨(some 31),.bd [(.lit (.string ⟨#[]⟩)),(.lit (.string ⟨#[]⟩)),(.lit (.int .i64 0)),(.lit (.int .i64 0)),(.lit (.bool false))] [(0,1,(.const (.string ⟨#[97,64,98]⟩))),(1,1,(.const (.string ⟨#[120]⟩)))],none,0⟩,⟨(some 32),.cl 23 [(.tmp 31)],none,0⟩,⟨(some 30),.mv (.tmp 32),none,0⟩,⟨(some 33),.ex (.tmp 30) 0,none,0⟩,⟨(some 34),.ex (.tmp 30) 1,none,0⟩,⟨(some 9),.mv (.tmp 33),none,0⟩,⟨(some 10),.mv (.tmp 34),none,0⟩] none 0 []) (.seq (.reg 1 [⟨(some 35),.ld 5 true (.tmp 2),none,0⟩,⟨(some 36),.ld 5 true (.tmp 1),none,0⟩,⟨(some 37),.bd [(.lit (.string ⟨#[]⟩)),(.lit (.string ⟨#[]⟩)),(.lit (.int .i64 0)),(.lit (.int .i64 0)),(.lit (.bool false))] [(0,1,(.const (.string ⟨#[97,64,98]⟩))),(3,1,(.const (.int .i64 1)))],none,0⟩,⟨(some 38),.bs 5 3 [(.lit (.string ⟨#[]⟩)),(.lit (.string ⟨#[]⟩)),(.lit (.int .i64 0)),(.lit (.int .i64 0)),(.lit (.bool false)),(.lit (.string ⟨#[]⟩)),(.lit (.string ⟨#[]⟩)),(.lit (.int .i64 0)),(.lit (.int .i64 0)),(.lit (.bool false)),(.lit (.string ⟨#[]⟩)),(.lit (.string ⟨#[]⟩)),(.lit (.int .i64 0)),(.lit (.int .i64 0)),(.lit (.bool false))] [(0,(.tmp 35)),(1,(.tmp 36)),(2,(.tmp 37))],none,0⟩,⟨(some 39),.cl 9 [(.tmp 38)],none,1⟩,⟨(some 11),.mv (.tmp 39),none,1⟩] none 0 []) (.seq (.reg 0 [⟨(some 40),.mv (.tmp 3),none,0⟩,⟨(some 41),.bin .eql (.tmp 40) (.const (.string ⟨#[3,97,64,98,3,65,110,110,17,0,0,0,0,0,3]⟩)),none,0⟩,⟨(some 42),.mv (.tmp 41),none,0⟩,⟨(some 43),.mv (.tmp 4),(some (42,true)),0⟩,⟨(some 44),.bin .eql (.tmp 43) (.const (.int .i64 0)),(some (42,true)),0⟩,⟨(some 45),.pick (.tmp 42) (.tmp 44) (.const (.bool false)),none,0⟩,⟨(some 46),.mv (.tmp 45),none,0⟩,⟨(some 47),.ld 5 true (.tmp 5),(some (46,true)),0⟩,⟨(some 48),.ld 5 true (.tmp 1),(some (46,true)),0⟩,⟨(some 49),.eqa false [2,2,1,1,0] (.tmp 47) (.tmp 48),(some (46,true)),0⟩,⟨(some 50),.pick (.tmp 46) (.tmp 49) (.const (.bool false)),none,0⟩,⟨(some 51),.mv (.tmp 50),none,0⟩,⟨(some 52),.mv (.tmp 6),(some (51,true)),0⟩,⟨(some 53),.bin .eql (.tmp 52) (.const (.int .i64 0)),(some (51,true)),0⟩,⟨(some 54),.pick (.tmp 51) (.tmp 53) (.const (.bool false)),none,0⟩,⟨(some 55),.mv (.tmp 54),none,0⟩,⟨(some 56),.mv (.tmp 8),(some (55,true)),0⟩,⟨(some 57),.bin .eql (.tmp 56) (.const (.int .i64 4)),(some (55,true)),0⟩,⟨(some 58),.pick (.tmp 55) (.tmp 57) (.const (.bool false)),none,0⟩,⟨(some 59),.mv (.tmp 58),none,0⟩,⟨(some 60),.mv (.tmp 10),(some (59,true)),0⟩,⟨(some 61),.bin .eql (.tmp 60) (.const (.int .i64 4)),(some (59,true)),0⟩,⟨(some 62),.pick (.tmp 59) (.tmp 61) (.const (.bool false)),none,0⟩,⟨(some 63),.mv (.tmp 62),none,0⟩,⟨(some 64),.ld 5 true (.tmp 1),(some (63,true)),0⟩,⟨(some 65),.cl 28 [(.tmp 64)],(some (63,true)),0⟩,⟨(some 66),.pick (.tmp 63) (.tmp 65) (.const (.bool false)),none,0⟩,⟨(some 67),.mv (.tmp 66),none,0⟩,⟨(some 68),.ld 5 true (.tmp 2),(some (67,true)),0⟩,⟨(some 69),.cl 28 [(.tmp 68)],(some (67,true)),0⟩,⟨(some 70),.un .not (.tmp 69),(some (67,true)),0⟩,⟨(some 71),.pick (.tmp 67) (.tmp 70) (.const (.bool false)),none,0⟩,⟨(some 72),.mv (.tmp 71),none,0⟩,⟨(some 73),.ld 5 true (.tmp 2),(some (72,true)),0⟩,⟨(some 74),.cl 29 [(.tmp 73)],(some (72,true)),0⟩,⟨(some 75),.un .not (.tmp 74),(some (72,true)),0⟩,⟨(some 76),.pick (.tmp 72) (.tmp 75) (.const (.bool false)),none,0⟩,⟨(some 77),.mv (.tmp 76),none,0⟩,⟨(some 78),.bd [(.lit (.string ⟨#[]⟩)),(.lit (.string ⟨#[]⟩)),(.lit (.int .i64 0)),(.lit (.int .i64 0)),(.lit (.bool false))] [(0,1,(.const (.string ⟨#[99,64,100]⟩)))],(some (77,true)),0⟩,⟨(some 79),.cl 29 [(.tmp 78)],(some (77,true)),0⟩,⟨(some 80),.pick (.tmp 77) (.tmp 79) (.const (.bool false)),none,0⟩,⟨(some 81),.mv (.tmp 80),none,0⟩,⟨(some 82),.ld 5 true (.tmp 1),(some (81,true)),0⟩,⟨(some 83),.cl 37 [(.tmp 82)],(some (81,true)),0⟩,⟨(some 84),.pick (.tmp 81) (.tmp 83) (.const (.bool false)),none,0⟩,⟨(some 85),.mv (.tmp 84),none,0⟩,⟨(some 86),.ld 5 true (.tmp 1),(some (85,true)),0⟩,⟨(some 87),.cl 38 [(.tmp 86)],(some (85,true)),0⟩,⟨(some 88),.un .not (.tmp 87),(some (85,true)),0⟩,⟨(some 89),.pick (.tmp 85) (.tmp 88) (.const (.bool false)),none,0⟩,⟨(some 90),.mv (.tmp 89),none,0⟩,⟨(some 91),.ld 5 true (.tmp 1),(some (90,true)),0⟩,⟨(some 92),.cl 26 [(.tmp 91)],(some (90,true)),0⟩,⟨(some 93),.bd [(.lit (.int .u8 0)),(.lit (.string ⟨#[]⟩)),(.lit (.string ⟨#[]⟩)),(.lit (.string ⟨#[]⟩)),(.lit (.int .i64 0)),(.lit (.int .i64 0)),(.lit (.int .i64 0)),(.lit (.int .i64 0))] [(0,1,(.const (.int .u8 38))),(1,1,(.const (.string ⟨#[97,64,98]⟩))),(3,1,(.const (.string ⟨#[65,110,110]⟩))),(4,1,(.const (.int .i64 1))),(7,1,(.const (.int .i64 3)))],(some (90,true)),0⟩,⟨(some 94),.eqa false [1,2,2,2,1,1,1,1] (.tmp 92) (.tmp 93),(some (90,true)),0⟩,⟨(some 95),.pick (.tmp 90) (.tmp 94) (.const (.bool false)),none,0⟩,⟨(some 96),.mv (.tmp 95),none,0⟩,⟨(some 97),.ld 5 true (.tmp 2),(some (96,true)),0⟩,⟨(some 98),.cl 26 [(.tmp 97)],(some (96,true)),0⟩,⟨(some 99),.bd [(.lit (.int .u8 0)),(.lit (.string ⟨#[]⟩)),(.lit (.string ⟨#[]⟩)),(.lit (.string ⟨#[]⟩)),(.lit (.int .i64 0)),(.lit (.int .i64 0)),(.lit (.int .i64 0)),(.lit (.int .i64 0))] [(0,1,(.const (.int .u8 39))),(1,1,(.const (.string ⟨#[99,64,100]⟩)))],(some (96,true)),0⟩,⟨(some 100),.eqa false [1,2,2,2,1,1,1,1] (.tmp 98) (.tmp 99),(some (96,true)),0⟩,⟨(some 101),.pick (.tmp 96) (.tmp 100) (.const (.bool false)),none,0⟩,⟨(some 102),.mv (.tmp 101),none,0⟩,⟨(some 103),.mv (.tmp 11),(some (102,true)),0⟩,⟨(some 104),.lens (.tmp 103),(some (102,true)),0⟩,⟨(some 105),.bin .eql (.tmp 104) (.const (.int .i64 3)),(some (102,true)),0⟩,⟨(some 106),.pick (.tmp 102) (.tmp 105) (.const (.bool false)),none,0⟩,⟨(some 107),.mv (.tmp 106),none,0⟩,⟨(some 108),.mv (.tmp 11),(some (107,true)),0⟩,⟨(some 109),.ixs 5 (.tmp 108) (.const (.int .i64 0)),(some (107,true)),0⟩,⟨(some 110),.fa 3 (.tmp 109),(some (107,true)),0⟩,⟨(some 111),.ld 1 false (.tmp 110),(some (107,true)),0⟩,⟨(some 112),.bin .eql (.tmp 111) (.const (.int .i64 1)),(some (107,true)),0⟩,⟨(some 113),.pick (.tmp 107) (.tmp 112) (.const (.bool false)),none,0⟩,⟨(some 114),.mv (.tmp 113),none,0⟩,⟨(some 115),.mv (.tmp 11),(some (114,true)),0⟩,⟨(some 116),.ixs 5 (.tmp 115) (.const (.int .i64 1)),(some (114,true)),0⟩,⟨(some 117),.ld 5 true (.tmp 116),(some (114,true)),0⟩,⟨(some 118),.ld 5 true (.tmp 1),(some (114,true)),0⟩,⟨(some 119),.eqa false [2,2,1,1,0] (.tmp 117) (.tmp 118),(some (114,true)),0⟩,⟨(some 120),.pick (.tmp 114) (.tmp 119) (.const (.bool false)),none,0⟩,⟨(some 121),.mv (.tmp 120),none,0⟩,⟨(some 122),.ld 5 true (.tmp 1),(some (121,true)),0⟩,⟨(some 123),.ld 5 true (.tmp 2),(some (121,true)),0⟩,⟨(some 124),.cl 13 [(.tmp 122),(.tmp 123)],(some (121,true)),0⟩,⟨(some 125),.pick (.tmp 121) (.tmp 124) (.const (.bool false)),none,0⟩,⟨(some 126),.mv (.tmp 125),none,0⟩,⟨(some 127),.ld 5 true (.tmp 1),(some (126,true)),0⟩,⟨(some 128),.cl 25 [(.tmp 127)],(some (126,true)),0⟩,⟨(some 129),.bin .eql (.tmp 128) (.const (.int .i64 0)),(some (126,true)),0⟩,⟨(some 130),.pick (.tmp 126) (.tmp 129) (.const (.bool false)),none,0⟩,⟨(some 131),.mv (.tmp 130),none,0⟩,⟨(some 132),.bd [(.lit (.string ⟨#[]⟩)),(.lit (.string ⟨#[]⟩)),(.lit (.int .i64 0)),(.lit (.int .i64 0)),(.lit (.bool false))] [],(some (131,true)),0⟩,⟨(some 133),.cl 25 [(.tmp 132)],(some (131,true)),0⟩,⟨(some 134),.bin .eql (.tmp 133) (.const (.int .i64 11)),(some (131,true)),0⟩,⟨(some 135),.pick (.tmp 131) (.tmp 134) (.const (.bool false)),none,0⟩,⟨(some 136),.mv (.tmp 135),none,0⟩,⟨(some 137),.pick (.tmp 136) (.const (.bool true)) (.const (.bool false)),none,0⟩,⟨(some 138),.mv (.tmp 137),none,0⟩,⟨(some 139),.pick (.tmp 138) (.const (.bool true)) (.const (.bool false)),none,0⟩,⟨(some 0),.mv (.tmp 139),none,0⟩] (some [[],[0],[0,1],[1,0,2],[2,0,1,3],[3,4,1,0,2],[2,0,1,4,3,5],[5,3,4,1,0,2,6],[5,3,4,1,0,2,6],[8,6,2,0,1,4,3,5,7],[7,8,9,5,3,4,1,0,2,6],[6,2,0,1,4,3,5,9,8,7,10],[10,7,8,9,5,3,4,1,0,2,6,11],[11,6,2,0,1,4,3,5,9,8,7,10,12],[12,13,10,7,8,9,5,3,4,1,0,2,6,11],[11,6,2,0,1,4,3,5,9,8,7,10,13,12,14],[14,12,13,10,7,8,9,5,3,4,1,0,2,6,11,15],[15,11,6,2,0,1,4,3,5,9,8,7,10,13,12,14,16],[16,17,14,12,13,10,7,8,9,5,3,4,1,0,2,6,11,15],[15,11,6,2,0,1,4,3,5,9,8,7,10,13,12,14,17,16,18],[18,16,17,14,12,13,10,7,8,9,5,3,4,1,0,2,6,11,15,19],[19,15,11,6,2,0,1,4,3,5,9,8,7,10,13,12,14,17,16,18,20],[20,21,18,16,17,14,12,13,10,7,8,9,5,3,4,1,0,2,6,11,15,19],[19,15,11,6,2,0,1,4,3,5,9,8,7,10,13,12,14,17,16,18,21,20,22],[22,20,21,18,16,17,14,12,13,10,7,8,9,5,3,4,1,0,2,6,11,15,19,23],[23,19,15,11,6,2,0,1,4,3,5,9,8,7,10,13,12,14,17,16,18,21,20,22,24],[24,25,22,20,21,18,16,17,14,12,13,10,7,8,9,5,3,4,1,0,2,6,11,15,19,23],[23,19,15,11,6,2,0,1,4,3,5,9,8,7,10,13,12,14,17,16,18,21,20,22,25,24,26],[26,24,25,22,20,21,18,16,17,14,12,13,10,7,8,9,5,3,4,1,0,2,6,11,15,19,23,27],[27,23,19,15,11,6,2,0,1,4,3,5,9,8,7,10,13,12,14,17,16,18,21,20,22,25,24,26,28],[28,26,24,25,22,20,21,18,16,17,14,12,13,10,7,8,9,5,3,4,1,0,2,6,11,15,19,23,27,29],[29,28,30,26,24,25,22,20,21,18,16,17,14,12,13,10,7,8,9,5,3,4,1,0,2,6,11,15,19,23,27],[27,23,19,15,11,6,2,0,1,4,3,5,9,8,7,10,13,12,14,17,16,18,21,20,22,25,24,26,30,28,29,31],[31,29,28,30,26,24,25,22,20,21,18,16,17,14,12,13,10,7,8,9,5,3,4,1,0,2,6,11,15,19,23,27,32],[32,27,23,19,15,11,6,2,0,1,4,3,5,9,8,7,10,13,12,14,17,16,18,21,20,22,25,24,26,30,28,29,31,33],[33,31,29,28,30,26,24,25,22,20,21,18,16,17,14,12,13,10,7,8,9,5,3,4,1,0,2,6,11,15,19,23,27,32,34],[34,33,35,31,29,28,30,26,24,25,22,20,21,18,16,17,14,12,13,10,7,8,9,5,3,4,1,0,2,6,11,15,19,23,27,32],[32,27,23,19,15,11,6,2,0,1,4,3,5,9,8,7,10,13,12,14,17,16,18,21,20,22,25,24,26,30,28,29,31,35,33,34,36],[36,34,33,35,31,29,28,30,26,24,25,22,20,21,18,16,17,14,12,13,10,7,8,9,5,3,4,1,0,2,6,11,15,19,23,27,32,37],[37,32,27,23,19,15,11,6,2,0,1,4,3,5,9,8,7,10,13,12,14,17,16,18,21,20,22,25,24,26,30,28,29,31,35,33,34,36,38],[38,39,36,34,33,35,31,29,28,30,26,24,25,22,20,21,18,16,17,14,12,13,10,7,8,9,5,3,4,1,0,2,6,11,15,19,23,27,32,37],[37,32,27,23,19,15,11,6,2,0,1,4,3,5,9,8,7,10,13,12,14,17,16,18,21,20,22,25,24,26,30,28,29,31,35,33,34,36,39,38,40],[40,38,39,36,34,33,35,31,29,28,30,26,24,25,22,20,21,18,16,17,14,12,13,10,7,8,9,5,3,4,1,0,2,6,11,15,19,23,27,32,37,41],[41,37,32,27,23,19,15,11,6,2,0,1,4,3,5,9,8,7,10,13,12,14,17,16,18,21,20,22,25,24,26,30,28,29,31,35,33,34,36,39,38,40,42],[42,43,40,38,39,36,34,33,35,31,29,28,30,26,24,25,22,20,21,18,16,17,14,12,13,10,7,8,9,5,3,4,1,0,2,6,11,15,19,23,27,32,37,41],[41,37,32,27,23,19,15,11,6,2,0,1,4,3,5,9,8,7,10,13,12,14,17,16,18,21,20,22,25,24,26,30,28,29,31,35,33,34,36,39,38,40,43,42,44],[44,42,43,40,38,39,36,34,33,35,31,29,28,30,26,24,25,22,20,21,18,16,17,14,12,13,10,7,8,9,5,3,4,1,0,2,6,11,15,19,23,27,32,37,41,45],[45,41,37,32,27,23,19,15,11,6,2,0,1,4,3,5,9,8,7,10,13,12,14,17,16,18,21,20,22,25,24,26,30,28,29,31,35,33,34,36,39,38,40,43,42,44,46],[46,44,42,43,40,38,39,36,34,33,35,31,29,28,30,26,24,25,22,20,21,18,16,17,14,12,13,10,7,8,9,5,3,4,1,0,2,6,11,15,19,23,27,32,37,41,45,47],[47,46,48,44,42,43,40,38,39,36,34,33,35,31,29,28,30,26,24,25,22,20,21,18,16,17,14,12,13,10,7,8,9,5,3,4,1,0,2,6,11,15,19,23,27,32,37,41,45],[45,41,37,32,27,23,19,15,11,6,2,0,1,4,3,5,9,8,7,10,13,12,14,17,16,18,21,20,22,25,24,26,30,28,29,31,35,33,34,36,39,38,40,43,42,44,48,46,47,49],[49,47,46,48,44,42,43,40,38,39,36,34,33,35,31,29,28,30,26,24,25,22,20,21,18,16,17,14,12,13,10,7,8,9,5,3,4,1,0,2,6,11,15,19,23,27,32,37,41,45,50],[50,45,41,37,32,27,23,19,15,11,6,2,0,1,4,3,5,9,8,7,10,13,12,14,17,16,18,21,20,22,25,24,26,30,28,29,31,35,33,34,36,39,38,40,43,42,44,48,46,47,49,51],[49,47,46,48,44,42,43,40,38,39,36,34,33,35,31,29,28,30,26,24,25,22,20,21,18,16,17,14,12,13,10,7,8,9,5,3,4,1,0,2,6,11,15,19,23,27,32,37,41,45,50],[53,51,49,47,46,48,44,42,43,40,38,39,36,34,33,35,31,29,28,30,26,24,25,22,20,21,18,16,17,14,12,13,10,7,8,9,5,3,4,1,0,2,6,11,15,19,23,27,32,37,41,45,50,52],[52,51,53,54,49,47,46,48,44,42,43,40,38,39,36,34,33,35,31,29,28,30,26,24,25,22,20,21,18,16,17,14,12,13,10,7,8,9,5,3,4,1,0,2,6,11,15,19,23,27,32,37,41,45,50],[50,45,41,37,32,27,23,19,15,11,6,2,0,1,4,3,5,9,8,7,10,13,12,14,17,16,18,21,20,22,25,24,26,30,28,29,31,35,33,34,36,39,38,40,43,42,44,48,46,47,49,54,53,51,52,55],[55,52,51,53,54,49,47,46,48,44,42,43,40,38,39,36,34,33,35,31,29,28,30,26,24,25,22,20,21,18,16,17,14,12,13,10,7,8,9,5,3,4,1,0,2,6,11,15,19,23,27,32,37,41,45,50,56],[56,50,45,41,37,32,27,23,19,15,11,6,2,0,1,4,3,5,9,8,7,10,13,12,14,17,16,18,21,20,22,25,24,26,30,28,29,31,35,33,34,36,39,38,40,43,42,44,48,46,47,49,54,53,51,52,55,57],[55,52,51,53,54,49,47,46,48,44,42,43,40,38,39,36,34,33,35,31,29,28,30,26,24,25,22,20,21,18,16,17,14,12,13,10,7,8,9,5,3,4,1,0,2,6,11,15,19,23,27,32,37,41,45,50,56],[59,57,55,52,51,53,54,49,47,46,48,44,42,43,40,38,39,36,34,33,35,31,29,28,30,26,24,25,22,20,21,18,16,17,14,12,13,10,7,8,9,5,3,4,1,0,2,6,11,15,19,23,27,32,37,41,45,50,56,58],[58,57,59,60,55,52,51,53,54,49,47,46,48,44,42,43,40,38,39,36,34,33,35,31,29,28,30,26,24,25,22,20,21,18,16,17,14,12,13,10,7,8,9,5,3,4,1,0,2,6,11,15,19,23,27,32,37,41,45,50,56],[56,50,45,41,37,32,27,23,19,15,11,6,2,0,1,4,3,5,9,8,7,10,13,12,14,17,16,18,21,20,22,25,24,26,30,28,29,31,35,33,34,36,39,38,40,43,42,44,48,46,47,49,54,53,51,52,55,60,59,57,58,61],[61,58,57,59,60,55,52,51,53,54,49,47,46,48,44,42,43,40,38,39,36,34,33,35,31,29,28,30,26,24,25,22,20,21,18,16,17,14,12,13,10,7,8,9,5,3,4,1,0,2,6,11,15,19,23,27,32,37,41,45,50,56,62],[62,56,50,45,41,37,32,27,23,19,15,11,6,2,0,1,4,3,5,9,8,7,10,13,12,14,17,16,18,21,20,22,25,24,26,30,28,29,31,35,33,34,36,39,38,40,43,42,44,48,46,47,49,54,53,51,52,55,60,59,57,58,61,63],[63,61,58,57,59,60,55,52,51,53,54,49,47,46,48,44,42,43,40,38,39,36,34,33,35,31,29,28,30,26,24,25,22,20,21,18,16,17,14,12,13,10,7,8,9,5,3,4,1,0,2,6,11,15,19,23,27,32,37,41,45,50,56,62,64],[64,63,65,61,58,57,59,60,55,52,51,53,54,49,47,46,48,44,42,43,40,38,39,36,34,33,35,31,29,28,30,26,24,25,22,20,21,18,16,17,14,12,13,10,7,8,9,5,3,4,1,0,2,6,11,15,19,23,27,32,37,41,45,50,56,62],[62,56,50,45,41,37,32,27,23,19,15,11,6,2,0,1,4,3,5,9,8,7,10,13,12,14,17,16,18,21,20,22,25,24,26,30,28,29,31,35,33,34,36,39,38,40,43,42,44,48,46,47,49,54,53,51,52,55,60,59,57,58,61,65,63,64,66],[66,64,63,65,61,58,57,59,60,55,52,51,53,54,49,47,46,48,44,42,43,40,38,39,36,34,33,35,31,29,28,30,26,24,25,22,20,21,18,16,17,14,12,13,10,7,8,9,5,3,4,1,0,2,6,11,15,19,23,27,32,37,41,45,50,56,62,67],[67,62,56,50,45,41,37,32,27,23,19,15,11,6,2,0,1,4,3,5,9,8,7,10,13,12,14,17,16,18,21,20,22,25,24,26,30,28,29,31,35,33,34,36,39,38,40,43,42,44,48,46,47,49,54,53,51,52,55,60,59,57,58,61,65,63,64,66,68],[68,66,64,63,65,61,58,57,59,60,55,52,51,53,54,49,47,46,48,44,42,43,40,38,39,36,34,33,35,31,29,28,30,26,24,25,22,20,21,18,16,17,14,12,13,10,7,8,9,5,3,4,1,0,2,6,11,15,19,23,27,32,37,41,45,50,56,62,67,69],[69,67,62,56,50,45,41,37,32,27,23,19,15,11,6,2,0,1,4,3,5,9,8,7,10,13,12,14,17,16,18,21,20,22,25,24,26,30,28,29,31,35,33,34,36,39,38,40,43,42,44,48,46,47,49,54,53,51,52,55,60,59,57,58,61,65,63,64,66,68,70],[70,68,66,64,63,65,61,58,57,59,60,55,52,51,53,54,49,47,46,48,44,42,43,40,38,39,36,34,33,35,31,29,28,30,26,24,25,22,20,21,18,16,17,14,12,13,10,7,8,9,5,3,4,1,0,2,6,11,15,19,23,27,32,37,41,45,50,56,62,67,69,71],[71,69,68,70,72,66,64,63,65,61,58,57,59,60,55,52,51,53,54,49,47,46,48,44,42,43,40,38,39,36,34,33,35,31,29,28,30,26,24,25,22,20,21,18,16,17,14,12,13,10,7,8,9,5,3,4,1,0,2,6,11,15,19,23,27,32,37,41,45,50,56,62,67],[67,62,56,50,45,41,37,32,27,23,19,15,11,6,2,0,1,4,3,5,9,8,7,10,13,12,14,17,16,18,21,20,22,25,24,26,30,28,29,31,35,33,34,36,39,38,40,43,42,44,48,46,47,49,54,53,51,52,55,60,59,57,58,61,65,63,64,66,72,70,68,69,71,73],[73,71,69,68,70,72,66,64,63,65,61,58,57,59,60,55,52,51,53,54,49,47,46,48,44,42,43,40,38,39,36,34,33,35,31,29,28,30,26,24,25,22,20,21,18,16,17,14,12,13,10,7,8,9,5,3,4,1,0,2,6,11,15,19,23,27,32,37,41,45,50,56,62,67,74],[74,67,62,56,50,45,41,37,32,27,23,19,15,11,6,2,0,1,4,3,5,9,8,7,10,13,12,14,17,16,18,21,20,22,25,24,26,30,28,29,31,35,33,34,36,39,38,40,43,42,44,48,46,47,49,54,53,51,52,55,60,59,57,58,61,65,63,64,66,72,70,68,69,71,73,75],[75,73,71,69,68,70,72,66,64,63,65,61,58,57,59,60,55,52,51,53,54,49,47,46,48,44,42,43,40,38,39,36,34,33,35,31,29,28,30,26,24,25,22,20,21,18,16,17,14,12,13,10,7,8,9,5,3,4,1,0,2,6,11,15,19,23,27,32,37,41,45,50,56,62,67,74,76],[73,71,69,68,70,72,66,64,63,65,61,58,57,59,60,55,52,51,53,54,49,47,46,48,44,42,43,40,38,39,36,34,33,35,31,29,28,30,26,24,25,22,20,21,18,16,17,14,12,13,10,7,8,9,5,3,4,1,0,2,6,11,15,19,23,27,32,37,41,45,50,56,62,67,74],[78,76,74,67,62,56,50,45,41,37,32,27,23,19,15,11,6,2,0,1,4,3,5,9,8,7,10,13,12,14,17,16,18,21,20,22,25,24,26,30,28,29,31,35,33,34,36,39,38,40,43,42,44,48,46,47,49,54,53,51,52,55,60,59,57,58,61,65,63,64,66,72,70,68,69,71,73,75,77],[77,75,76,78,79,73,71,69,68,70,72,66,64,63,65,61,58,57,59,60,55,52,51,53,54,49,47,46,48,44,42,43,40,38,39,36,34,33,35,31,29,28,30,26,24,25,22,20,21,18,16,17,14,12,13,10,7,8,9,5,3,4,1,0,2,6,11,15,19,23,27,32,37,41,45,50,56,62,67,74],[74,67,62,56,50,45,41,37,32,27,23,19,15,11,6,2,0,1,4,3,5,9,8,7,10,13,12,14,17,16,18,21,20,22,25,24,26,30,28,29,31,35,33,34,36,39,38,40,43,42,44,48,46,47,49,54,53,51,52,55,60,59,57,58,61,65,63,64,66,72,70,68,69,71,73,79,78,76,75,77,80],[80,77,75,76,78,79,73,71,69,68,70,72,66,64,63,65,61,58,57,59,60,55,52,51,53,54,49,47,46,48,44,42,43,40,38,39,36,34,33,35,31,29,28,30,26,24,25,22,20,21,18,16,17,14,12,13,10,7,8,9,5,3,4,1,0,2,6,11,15,19,23,27,32,37,41,45,50,56,62,67,74,81],[80,77,75,76,78,79,73,71,69,68,70,72,66,64,63,65,61,58,57,59,60,55,52,51,53,54,49,47,46,48,44,42,43,40,38,39,36,34,33,35,31,29,28,30,26,24,25,22,20,21,18,16,17,14,12,13,10,7,8,9,5,3,4,1,0,2,6,11,15,19,23,27,32,37,41,45,50,56,62,67,74,81],[83,81,74,67,62,56,50,45,41,37,32,27,23,19,15,11,6,2,0,1,4,3,5,9,8,7,10,13,12,14,17,16,18,21,20,22,25,24,26,30,28,29,31,35,33,34,36,39,38,40,43,42,44,48,46,47,49,54,53,51,52,55,60,59,57,58,61,65,63,64,66,72,70,68,69,71,73,79,78,76,75,77,80,82],[82,83,84,80,77,75,76,78,79,73,71,69,68,70,72,66,64,63,65,61,58,57,59,60,55,52,51,53,54,49,47,46,48,44,42,43,40,38,39,36,34,33,35,31,29,28,30,26,24,25,22,20,21,18,16,17,14,12,13,10,7,8,9,5,3,4,1,0,2,6,11,15,19,23,27,32,37,41,45,50,56,62,67,74,81],[81,74,67,62,56,50,45,41,37,32,27,23,19,15,11,6,2,0,1,4,3,5,9,8,7,10,13,12,14,17,16,18,21,20,22,25,24,26,30,28,29,31,35,33,34,36,39,38,40,43,42,44,48,46,47,49,54,53,51,52,55,60,59,57,58,61,65,63,64,66,72,70,68,69,71,73,79,78,76,75,77,80,84,83,82,85],[85,82,83,84,80,77,75,76,78,79,73,71,69,68,70,72,66,64,63,65,61,58,57,59,60,55,52,51,53,54,49,47,46,48,44,42,43,40,38,39,36,34,33,35,31,29,28,30,26,24,25,22,20,21,18,16,17,14,12,13,10,7,8,9,5,3,4,1,0,2,6,11,15,19,23,27,32,37,41,45,50,56,62,67,74,81,86],[86,81,74,67,62,56,50,45,41,37,32,27,23,19,15,11,6,2,0,1,4,3,5,9,8,7,10,13,12,14,17,16,18,21,20,22,25,24,26,30,28,29,31,35,33,34,36,39,38,40,43,42,44,48,46,47,49,54,53,51,52,55,60,59,57,58,61,65,63,64,66,72,70,68,69,71,73,79,78,76,75,77,80,84,83,82,85,87],[87,85,82,83,84,80,77,75,76,78,79,73,71,69,68,70,72,66,64,63,65,61,58,57,59,60,55,52,51,53,54,49,47,46,48,44,42,43,40,38,39,36,34,33,35,31,29,28,30,26,24,25,22,20,21,18,16,17,14,12,13,10,7,8,9,5,3,4,1,0,2,6,11,15,19,23,27,32,37,41,45,50,56,62,67,74,81,86,88],[88,87,89,85,82,83,84,80,77,75,76,78,79,73,71,69,68,70,72,66,64,63,65,61,58,57,59,60,55,52,51,53,54,49,47,46,48,44,42,43,40,38,39,36,34,33,35,31,29,28,30,26,24,25,22,20,21,18,16,17,14,12,13,10,7,8,9,5,3,4,1,0,2,6,11,15,19,23,27,32,37,41,45,50,56,62,67,74,81,86],[86,81,74,67,62,56,50,45,41,37,32,27,23,19,15,11,6,2,0,1,4,3,5,9,8,7,10,13,12,14,17,16,18,21,20,22,25,24,26,30,28,29,31,35,33,34,36,39,38,40,43,42,44,48,46,47,49,54,53,51,52,55,60,59,57,58,61,65,63,64,66,72,70,68,69,71,73,79,78,76,75,77,80,84,83,82,85,89,87,88,90],[90,88,87,89,85,82,83,84,80,77,75,76,78,79,73,71,69,68,70,72,66,64,63,65,61,58,57,59,60,55,52,51,53,54,49,47,46,48,44,42,43,40,38,39,36,34,33,35,31,29,28,30,26,24,25,22,20,21,18,16,17,14,12,13,10,7,8,9,5,3,4,1,0,2,6,11,15,19,23,27,32,37,41,45,50,56,62,67,74,81,86,91],[91,86,81,74,67,62,56,50,45,41,37,32,27,23,19,15,11,6,2,0,1,4,3,5,9,8,7,10,13,12,14,17,16,18,21,20,22,25,24,26,30,28,29,31,35,33,34,36,39,38,40,43,42,44,48,46,47,49,54,53,51,52,55,60,59,57,58,61,65,63,64,66,72,70,68,69,71,73,79,78,76,75,77,80,84,83,82,85,89,87,88,90,92],[92,90,88,87,89,85,82,83,84,80,77,75,76,78,79,73,71,69,68,70,72,66,64,63,65,61,58,57,59,60,55,52,51,53,54,49,47,46,48,44,42,43,40,38,39,36,34,33,35,31,29,28,30,26,24,25,22,20,21,18,16,17,14,12,13,10,7,8,9,5,3,4,1,0,2,6,11,15,19,23,27,32,37,41,45,50,56,62,67,74,81,86,91,93],[93,92,94,90,88,87,89,85,82,83,84,80,77,75,76,78,79,73,71,69,68,70,72,66,64,63,65,61,58,57,59,60,55,52,51,53,54,49,47,46,48,44,42,43,40,38,39,36,34,33,35,31,29,28,30,26,24,25,22,20,21,18,16,17,14,12,13,10,7,8,9,5,3,4,1,0,2,6,11,15,19,23,27,32,37,41,45,50,56,62,67,74,81,86,91],[91,86,81,74,67,62,56,50,45,41,37,32,27,23,19,15,11,6,2,0,1,4,3,5,9,8,7,10,13,12,14,17,16,18,21,20,22,25,24,26,30,28,29,31,35,33,34,36,39,38,40,43,42,44,48,46,47,49,54,53,51,52,55,60,59,57,58,61,65,63,64,66,72,70,68,69,71,73,79,78,76,75,77,80,84,83,82,85,89,87,88,90,94,92,93,95],[95,93,92,94,90,88,87,89,85,82,83,84,80,77,75,76,78,79,73,71,69,68,70,72,66,64,63,65,61,58,57,59,60,55,52,51,53,54,49,47,46,48,44,42,43,40,38,39,36,34,33,35,31,29,28,30,26,24,25,22,20,21,18,16,17,14,12,13,10,7,8,9,5,3,4,1,0,2,6,11,15,19,23,27,32,37,41,45,50,56,62,67,74,81,86,91,96],[96,91,86,81,74,67,62,56,50,45,41,37,32,27,23,19,15,11,6,2,0,1,4,3,5,9,8,7,10,13,12,14,17,16,18,21,20,22,25,24,26,30,28,29,31,35,33,34,36,39,38,40,43,42,44,48,46,47,49,54,53,51,52,55,60,59,57,58,61,65,63,64,66,72,70,68,69,71,73,79,78,76,75,77,80,84,83,82,85,89,87,88,90,94,92,93,95,97],[97,95,93,92,94,90,88,87,89,85,82,83,84,80,77,75,76,78,79,73,71,69,68,70,72,66,64,63,65,61,58,57,59,60,55,52,51,53,54,49,47,46,48,44,42,43,40,38,39,36,34,33,35,31,29,28,30,26,24,25,22,20,21,18,16,17,14,12,13,10,7,8,9,5,3,4,1,0,2,6,11,15,19,23,27,32,37,41,45,50,56,62,67,74,81,86,91,96,98],[98,96,91,86,81,74,67,62,56,50,45,41,37,32,27,23,19,15,11,6,2,0,1,4,3,5,9,8,7,10,13,12,14,17,16,18,21,20,22,25,24,26,30,28,29,31,35,33,34,36,39,38,40,43,42,44,48,46,47,49,54,53,51,52,55,60,59,57,58,61,65,63,64,66,72,70,68,69,71,73,79,78,76,75,77,80,84,83,82,85,89,87,88,90,94,92,93,95,97,99]]) 0 []) .ret)))))))))
theorem gc7_ok:compF Try.prog Try.f7=some (gc7.er,140,[.tmp 0]):=by unfold gc7;kernel_rfl
theorem p_law20_awake_t:CallsO Try.prog 7 [] V.b (tru? (p_law20_awake)):=by
 refine callsO_comp mix Try.func7 gc7_ok fun r H=>?_
 have H1:=tru_of H
 clear H
 obtain ⟨rfl,H⟩:=H1
 rw [p_law20_awake] at H
 conv=>whnf
 refine ⟨Nat.le_of_ble_eq_true rfl,?_⟩;conv=>whnf
 refine ⟨Nat.le_of_ble_eq_true rfl,?_⟩;conv=>whnf
 refine ask_c (p_item_Put_v _) H rfl rfl (fun v1 H=>?_);conv=>whnf
 refine ask_c (p_item_Get_v _) H rfl rfl (fun v2 H=>?_);conv=>whnf
 refine ⟨Nat.le_of_ble_eq_true rfl,?_⟩;conv=>whnf
 refine cat_c H (fun s3 H=>?_);conv=>whnf
 refine ask_c (p_item_Get_v _) H rfl rfl (fun v4 H=>?_);conv=>whnf
 refine ⟨Nat.le_of_ble_eq_true rfl,?_⟩;conv=>whnf
 refine ask_c (p_item_Put_v _) H rfl rfl (fun v5 H=>?_);conv=>whnf
 refine askF_c (p_item_Sort_v _) H (.cons (.c (fzown (f:=ItemItem.v) (l:=[(ItemItem.mk (⟨#[99,64,100]⟩ : ByteArray) (⟨#[]⟩ : ByteArray) (8:Int) (0:Int) false),(ItemItem.mk (⟨#[97,64,98]⟩ : ByteArray) (⟨#[65,110,110]⟩ : ByteArray) (1:Int) (3:Int) true),(ItemItem.mk (⟨#[97,64,98]⟩ : ByteArray) (⟨#[]⟩ : ByteArray) (0:Int) (1:Int) false)]) rfl rfl (fun _=>rfl) (fun _=>rfl))) (.nil)) (fun v6 H=>?_);conv=>whnf
 refine tstT_c H (fun b7 H=>?_);conv=>whnf
 iterate 2 (refine Tst.T ?_;conv=>whnf)
 refine tstT_c H (fun b8 H=>?_);conv=>whnf
 iterate 3 (refine Tst.T ?_;conv=>whnf)
 refine tstT_c H (fun b9 H=>?_);conv=>whnf
 iterate 2 (refine Tst.T ?_;conv=>whnf)
 refine tstT_c H (fun b10 H=>?_);conv=>whnf
 iterate 2 (refine Tst.T ?_;conv=>whnf)
 refine tstT_c H (fun b11 H=>?_);conv=>whnf
 iterate 2 (refine Tst.T ?_;conv=>whnf)
 refine tstT_c H (fun b12 H=>?_);conv=>whnf
 refine Tst.T ?_;conv=>whnf
 refine ask_c (p_item_Listed_v _) H rfl rfl (fun v13 H=>?_);conv=>whnf
 refine Tst.T ?_;conv=>whnf
 refine tstT_c H (fun b14 H=>?_);conv=>whnf
 refine Tst.T ?_;conv=>whnf
 refine ask_c (p_item_Listed_v _) H rfl rfl (fun v15 H=>?_);conv=>whnf
 iterate 2 (refine Tst.T ?_;conv=>whnf)
 refine Tst.not ?_
 refine tstF_c H (fun b16 H=>?_);conv=>whnf
 refine Tst.T ?_;conv=>whnf
 refine ask_c (p_item_Idle_v _) H rfl rfl (fun v17 H=>?_);conv=>whnf
 iterate 2 (refine Tst.T ?_;conv=>whnf)
 refine Tst.not ?_
 refine tstF_c H (fun b18 H=>?_);conv=>whnf
 refine Tst.T ?_;conv=>whnf
 refine ask_c (p_item_Idle_v _) H rfl rfl (fun v19 H=>?_);conv=>whnf
 refine Tst.T ?_;conv=>whnf
 refine tstT_c H (fun b20 H=>?_);conv=>whnf
 refine Tst.T ?_;conv=>whnf
 refine ask_c (p_item_Sees_v _) H rfl rfl (fun v21 H=>?_);conv=>whnf
 refine Tst.T ?_;conv=>whnf
 refine tstT_c H (fun b22 H=>?_);conv=>whnf
 refine Tst.T ?_;conv=>whnf
 refine ask_c (p_item_Seen_v _) H rfl rfl (fun v23 H=>?_);conv=>whnf
 iterate 2 (refine Tst.T ?_;conv=>whnf)
 refine Tst.not ?_
 refine tstF_c H (fun b24 H=>?_);conv=>whnf
 refine Tst.T ?_;conv=>whnf
 refine ask_c (p_item_Push_v _) H rfl rfl (fun v25 H=>?_);conv=>whnf
 iterate 3 (refine Tst.T ?_;conv=>whnf)
 refine tstT_c H (fun b26 H=>?_);conv=>whnf
 refine Tst.T ?_;conv=>whnf
 refine ask_c (p_item_Push_v _) H rfl rfl (fun v27 H=>?_);conv=>whnf
 iterate 3 (refine Tst.T ?_;conv=>whnf)
 refine tstT_c H (fun b28 H=>?_);conv=>whnf
 refine Tst.T ?_;conv=>whnf
 refine LenQ.M ?_;conv=>whnf
 iterate 2 (refine Tst.T ?_;conv=>whnf)
 refine tstT_c H (fun b29 H=>?_);conv=>whnf
 refine Tst.T ?_;conv=>whnf
 refine ixs_c (f:=ItemItem.v) H (fun _=>rfl) (fun x30 H=>?_);conv=>whnf
 refine Tst.T ?_;conv=>whnf
 refine ⟨Nat.le_of_ble_eq_true rfl,?_⟩;conv=>whnf
 iterate 3 (refine Tst.T ?_;conv=>whnf)
 refine tstT_c H (fun b31 H=>?_);conv=>whnf
 refine Tst.T ?_;conv=>whnf
 refine ixs_c (f:=ItemItem.v) H (fun _=>rfl) (fun x32 H=>?_);conv=>whnf
 iterate 4 (refine Tst.T ?_;conv=>whnf)
 refine tstT_c H (fun b33 H=>?_);conv=>whnf
 iterate 2 (refine Tst.T ?_;conv=>whnf)
 refine ask_c (p_item_Less_v _ _) H rfl rfl (fun v34 H=>?_);conv=>whnf
 refine Tst.T ?_;conv=>whnf
 refine tstT_c H (fun b35 H=>?_);conv=>whnf
 refine Tst.T ?_;conv=>whnf
 refine ask_c (p_item_Check_v _) H rfl rfl (fun v36 H=>?_);conv=>whnf
 iterate 2 (refine Tst.T ?_;conv=>whnf)
 refine tstT_c H (fun b37 H=>?_);conv=>whnf
 refine Tst.T ?_;conv=>whnf
 refine ask_c (p_item_Check_v _) H rfl rfl (fun v38 H=>?_);conv=>whnf
 iterate 2 (refine Tst.T ?_;conv=>whnf)
 refine tstT_c H (fun b39 H=>?_);conv=>whnf
 refine Tst.T ?_;conv=>whnf
 refine FootQ.mk ⟨rfl,?_⟩;conv=>whnf
 exact fb_ H
theorem p_law20_awake_true:p_law20_awake=some true:=by kernel_rfl
theorem p_law20_awake_v:CallsO Try.prog 7 [] V.b p_law20_awake:=tru_closed p_law20_awake_t p_law20_awake_true
end Go.Proofs.Ytpmoioopjbfhkaa

/- That the program's functions yield what the plain ones tell (written by a program of mine). -/
namespace Go.Proofs.Ytpmoioopjbfhkaa
open Go.RowKit
set_option maxRecDepth 100000
set_option maxHeartbeats 4000000
def gc8:BCode:=(.seq (.reg 1 [⟨(some 1),.bx (.tmp 0),none,0⟩,⟨(some 2),.mv (.const (.bool false)),none,1⟩] none 0 []) (.seq (.reg 0 [⟨(some 3),.fa 0 (.tmp 1),none,0⟩,⟨(some 4),.ld 1 false (.tmp 3),none,0⟩,⟨(some 5),.lent (.tmp 4),none,0⟩,⟨(some 6),.bin .leq (.tmp 5) (.const (.int .i64 100)),none,0⟩,⟨(some 7),.mv (.tmp 6),none,0⟩,⟨(some 8),.fa 1 (.tmp 1),(some (7,true)),0⟩,⟨(some 9),.ld 1 false (.tmp 8),(some (7,true)),0⟩,⟨(some 10),.lent (.tmp 9),(some (7,true)),0⟩,⟨(some 11),.bin .leq (.tmp 10) (.const (.int .i64 100)),(some (7,true)),0⟩,⟨(some 12),.pick (.tmp 7) (.tmp 11) (.const (.bool false)),none,0⟩,⟨(some 2),.mv (.tmp 12),none,0⟩] none 0 []) .ret))
theorem gc8_ok:compF Try.prog Try.f8=some (gc8.er,13,[.tmp 2]):=by unfold gc8;kernel_rfl
theorem p_ref20_Light_v (a0:ItemItem):CallsO Try.prog 8 [.agg [.s a0.Contact,.s a0.Name,.i a0.Sub,.i a0.Ver,.b a0.Own]] V.b (p_ref20_Light a0):=by
 refine callsO_comp mix Try.func8 gc8_ok fun r H=>?_
 rw [p_ref20_Light] at H
 conv=>whnf
 refine tst_c H (fun b1 H=>?_) (fun b1 H=>?_)
 ·conv=>whnf
  iterate 4 (refine Tst.T ?_;conv=>whnf)
  exact fb_ H
 conv=>whnf
 iterate 4 (refine Tst.F ?_;conv=>whnf)
 exact fb_ H
def gc10:BCode:=(.seq (.reg 0 [⟨(some 2),.mv (.const (.slice none 0 0)),none,0⟩] none 0 []) (.seq (.reg 0 [⟨(some 3),.mv (.const (.slice none 0 0)),none,0⟩] none 0 []) (.seq (.seq (.reg 0 [⟨(some 4),.mv (.const (.int .i64 0)),none,0⟩] none 0 []) (.block 0 (.loop (.seq (.seq (.reg 0 [⟨(some 5),.mv (.tmp 4),none,0⟩,⟨(some 6),.mv (.tmp 0),none,0⟩,⟨(some 7),.lens (.tmp 6),none,0⟩,⟨(some 8),.bin .lss (.tmp 5) (.tmp 7),none,0⟩] none 0 []) (.cond (.tmp 8) .skip (.exit 0))) (.seq (.block 1 (.reg 2 [⟨(some 11),.mv (.tmp 3),none,0⟩,⟨(some 12),.mv (.tmp 0),none,0⟩,⟨(some 13),.mv (.tmp 4),none,0⟩,⟨(some 14),.ixs 5 (.tmp 12) (.tmp 13),none,0⟩,⟨(some 15),.ld 5 true (.tmp 14),none,0⟩,⟨(some 16),.bs 5 1 [(.lit (.string ⟨#[]⟩)),(.lit (.string ⟨#[]⟩)),(.lit (.int .i64 0)),(.lit (.int .i64 0)),(.lit (.bool false))] [(0,(.tmp 15))],none,0⟩,⟨(some 17),.ap 5 56 (.tmp 11) (.tmp 16),none,1⟩,⟨(some 3),.mv (.tmp 17),none,2⟩] none 0 [])) (.reg 0 [⟨(some 9),.mv (.tmp 4),none,0⟩,⟨(some 10),.bin .add (.tmp 9) (.const (.int .i64 1)),none,0⟩,⟨(some 4),.mv (.tmp 10),none,0⟩] none 0 [])))))) (.seq (.reg 0 [⟨(some 18),.mv (.tmp 3),none,0⟩,⟨(some 2),.mv (.tmp 18),none,0⟩] none 0 []) .ret))))
theorem gc10_ok:compF Try.prog Try.f10=some (gc10.er,19,[.tmp 2]):=by unfold gc10;kernel_rfl
theorem p_law20_Own_v {u1:Bool} (a0:List ItemItem):CallsO Try.prog 10 [.sl (List.map ItemItem.v a0) u1] (fun l:List ItemItem=>V.sl (l.map ItemItem.v) false) (p_law20_Own a0):=by
 refine callsO_comp mix Try.func10 gc10_ok fun r H=>?_
 rw [p_law20_Own] at H
 conv=>whnf
 obtain ⟨o2,HL3,HQ4⟩:=bind_c H
 refine loop_c [3,4] [5,6,7,8,9,10,11,12,13,14,15,16,17] [5,6,7,8,9,10,11,12,13,14,15,16,17] (fun n vals st=>(∃ y6,p_law20_Own_l1  a0 n [] y6=some o2∧vals=[.sl (List.map ItemItem.v []) true,.i y6]∧st=[])∨(∃ y10 y11,p_law20_Own_l1  a0 n y10 y11=some o2∧vals=[.osl 0 0 (List.length y10) 5 false,.i y11]∧st=[.live (cellsM ItemItem.v y10) (cellsM ItemItem.v y10).length])) fuel 0 [] (.inl (⟨_,HL3,rfl,rfl⟩)) (Nat.zero_le _) rfl (by kernel_rfl) (by kernel_rfl) rfl trivial ?_
 rintro (_ | n5) _ _ (⟨y6,H,rfl,rfl⟩ | ⟨y10,y11,H,rfl,rfl⟩)
 ·rw [p_law20_Own_l1] at H;cases H
 ·rw [p_law20_Own_l1] at H;cases H
 ·rw [p_law20_Own_l1] at H
  conv=>whnf
  refine LenQ.M ?_;conv=>whnf
  refine tst_d H (fun b7 H=>?_) (fun b7 H=>?_)
  ·conv=>whnf
   obtain rfl:=Option.some.inj H
   have H:=HQ4
   try dsimp only at H
   refine finR_c (enc:=(fun l:List ItemItem=>V.sl (l.map ItemItem.v) false)) H ?_;conv=>whnf
   exact ⟨_,.v (.c (.slw))⟩
  conv=>whnf
  refine ixs_c (f:=ItemItem.v) H (fun _=>rfl) (fun x8 H=>?_);conv=>whnf
  refine appN_c (f:=ItemItem.v) H (fun _=>rfl) (srcM (f:=ItemItem.v) (fun _=>rfl) _ _) rfl (.v (srcOwn (f:=ItemItem.v) (l:=[x8]) (fun _=>rfl) rfl rfl rfl)) (by decide) rfl (by simp) (fun l9 H=>?_);conv=>whnf
  refine Ari.w ?_;conv=>whnf
  exact again_c [5,6,7,8,9,10,11,12,13,14,15,16,17] n5 1 [1] (.inr (⟨_,_,H,rfl,rfl⟩)) (Nat.lt_succ_self _) (Nat.zero_le _) rfl (by kernel_rfl) (by kernel_rfl) rfl (wkB_live0 rfl (cellsM_idlt (f:=ItemItem.v) (fun _=>rfl) _) rfl trivial)
 rw [p_law20_Own_l1] at H
 conv=>whnf
 refine LenQ.M ?_;conv=>whnf
 refine tst_d H (fun b12 H=>?_) (fun b12 H=>?_)
 ·conv=>whnf
  obtain rfl:=Option.some.inj H
  have H:=HQ4
  try dsimp only at H
  refine finR_c (enc:=(fun l:List ItemItem=>V.sl (l.map ItemItem.v) false)) H ?_;conv=>whnf
  exact ⟨_,.v (.c (fzown (f:=ItemItem.v) (l:=y10) rfl rfl (fun _=>rfl) (fun _=>rfl)))⟩
 conv=>whnf
 refine ixs_c (f:=ItemItem.v) H (fun _=>rfl) (fun x13 H=>?_);conv=>whnf
 refine appO_c (f:=ItemItem.v) H (fun _=>rfl) rfl (Nat.le_refl _) (.v (srcOwn (f:=ItemItem.v) (l:=[x13]) (fun _=>rfl) rfl rfl rfl)) (by decide) rfl (by simp) (fun l14 H=>?_);conv=>whnf
 refine Ari.w ?_;conv=>whnf
 exact again_c [5,6,7,8,9,10,11,12,13,14,15,16,17] n5 1 [2] (.inr (⟨_,_,H,rfl,rfl⟩)) (Nat.lt_succ_self _) (Nat.zero_le _) rfl (by kernel_rfl) (by kernel_rfl) rfl (wkB_live0 rfl (cellsM_idlt (f:=ItemItem.v) (fun _=>rfl) _) rfl trivial)
def gc12:BCode:=(.seq (.reg 0 [⟨(some 2),.mv (.const (.slice none 0 0)),none,0⟩] none 0 []) (.seq (.reg 0 [⟨(some 3),.mv (.const (.slice none 0 0)),none,0⟩] none 0 []) (.seq (.seq (.reg 0 [⟨(some 4),.mv (.const (.int .i64 0)),none,0⟩] none 0 []) (.block 0 (.loop (.seq (.seq (.reg 0 [⟨(some 5),.mv (.tmp 4),none,0⟩,⟨(some 6),.mv (.tmp 0),none,0⟩,⟨(some 7),.lens (.tmp 6),none,0⟩,⟨(some 8),.bin .lss (.tmp 5) (.tmp 7),none,0⟩] none 0 []) (.cond (.tmp 8) .skip (.exit 0))) (.seq (.block 1 (.reg 2 [⟨(some 11),.mv (.tmp 3),none,0⟩,⟨(some 12),.mv (.tmp 0),none,0⟩,⟨(some 13),.mv (.tmp 4),none,0⟩,⟨(some 14),.ixs 5 (.tmp 12) (.tmp 13),none,0⟩,⟨(some 15),.ld 5 true (.tmp 14),none,0⟩,⟨(some 16),.bs 5 1 [(.lit (.string ⟨#[]⟩)),(.lit (.string ⟨#[]⟩)),(.lit (.int .i64 0)),(.lit (.int .i64 0)),(.lit (.bool false))] [(0,(.tmp 15))],none,0⟩,⟨(some 17),.ap 5 56 (.tmp 11) (.tmp 16),none,1⟩,⟨(some 3),.mv (.tmp 17),none,2⟩] none 0 [])) (.reg 0 [⟨(some 9),.mv (.tmp 4),none,0⟩,⟨(some 10),.bin .add (.tmp 9) (.const (.int .i64 1)),none,0⟩,⟨(some 4),.mv (.tmp 10),none,0⟩] none 0 [])))))) (.seq (.reg 0 [⟨(some 18),.mv (.tmp 3),none,0⟩,⟨(some 2),.mv (.tmp 18),none,0⟩] none 0 []) .ret))))
theorem gc12_ok:compF Try.prog Try.f12=some (gc12.er,19,[.tmp 2]):=by unfold gc12;kernel_rfl
theorem p_law20_Back_v {u1:Bool} (a0:List ItemItem):CallsO Try.prog 12 [.sl (List.map ItemItem.v a0) u1] (fun l:List ItemItem=>V.sl (l.map ItemItem.v) false) (p_law20_Back a0):=by
 refine callsO_comp mix Try.func12 gc12_ok fun r H=>?_
 rw [p_law20_Back] at H
 conv=>whnf
 obtain ⟨o2,HL3,HQ4⟩:=bind_c H
 refine loop_c [3,4] [5,6,7,8,9,10,11,12,13,14,15,16,17] [5,6,7,8,9,10,11,12,13,14,15,16,17] (fun n vals st=>(∃ y6,p_law20_Back_l1  a0 n [] y6=some o2∧vals=[.sl (List.map ItemItem.v []) true,.i y6]∧st=[])∨(∃ y10 y11,p_law20_Back_l1  a0 n y10 y11=some o2∧vals=[.osl 0 0 (List.length y10) 5 false,.i y11]∧st=[.live (cellsM ItemItem.v y10) (cellsM ItemItem.v y10).length])) fuel 0 [] (.inl (⟨_,HL3,rfl,rfl⟩)) (Nat.zero_le _) rfl (by kernel_rfl) (by kernel_rfl) rfl trivial ?_
 rintro (_ | n5) _ _ (⟨y6,H,rfl,rfl⟩ | ⟨y10,y11,H,rfl,rfl⟩)
 ·rw [p_law20_Back_l1] at H;cases H
 ·rw [p_law20_Back_l1] at H;cases H
 ·rw [p_law20_Back_l1] at H
  conv=>whnf
  refine LenQ.M ?_;conv=>whnf
  refine tst_d H (fun b7 H=>?_) (fun b7 H=>?_)
  ·conv=>whnf
   obtain rfl:=Option.some.inj H
   have H:=HQ4
   try dsimp only at H
   refine finR_c (enc:=(fun l:List ItemItem=>V.sl (l.map ItemItem.v) false)) H ?_;conv=>whnf
   exact ⟨_,.v (.c (.slw))⟩
  conv=>whnf
  refine ixs_c (f:=ItemItem.v) H (fun _=>rfl) (fun x8 H=>?_);conv=>whnf
  refine appN_c (f:=ItemItem.v) H (fun _=>rfl) (srcM (f:=ItemItem.v) (fun _=>rfl) _ _) rfl (.v (srcOwn (f:=ItemItem.v) (l:=[x8]) (fun _=>rfl) rfl rfl rfl)) (by decide) rfl (by simp) (fun l9 H=>?_);conv=>whnf
  refine Ari.w ?_;conv=>whnf
  exact again_c [5,6,7,8,9,10,11,12,13,14,15,16,17] n5 1 [1] (.inr (⟨_,_,H,rfl,rfl⟩)) (Nat.lt_succ_self _) (Nat.zero_le _) rfl (by kernel_rfl) (by kernel_rfl) rfl (wkB_live0 rfl (cellsM_idlt (f:=ItemItem.v) (fun _=>rfl) _) rfl trivial)
 rw [p_law20_Back_l1] at H
 conv=>whnf
 refine LenQ.M ?_;conv=>whnf
 refine tst_d H (fun b12 H=>?_) (fun b12 H=>?_)
 ·conv=>whnf
  obtain rfl:=Option.some.inj H
  have H:=HQ4
  try dsimp only at H
  refine finR_c (enc:=(fun l:List ItemItem=>V.sl (l.map ItemItem.v) false)) H ?_;conv=>whnf
  exact ⟨_,.v (.c (fzown (f:=ItemItem.v) (l:=y10) rfl rfl (fun _=>rfl) (fun _=>rfl)))⟩
 conv=>whnf
 refine ixs_c (f:=ItemItem.v) H (fun _=>rfl) (fun x13 H=>?_);conv=>whnf
 refine appO_c (f:=ItemItem.v) H (fun _=>rfl) rfl (Nat.le_refl _) (.v (srcOwn (f:=ItemItem.v) (l:=[x13]) (fun _=>rfl) rfl rfl rfl)) (by decide) rfl (by simp) (fun l14 H=>?_);conv=>whnf
 refine Ari.w ?_;conv=>whnf
 exact again_c [5,6,7,8,9,10,11,12,13,14,15,16,17] n5 1 [2] (.inr (⟨_,_,H,rfl,rfl⟩)) (Nat.lt_succ_self _) (Nat.zero_le _) rfl (by kernel_rfl) (by kernel_rfl) rfl (wkB_live0 rfl (cellsM_idlt (f:=ItemItem.v) (fun _=>rfl) _) rfl trivial)
def gc11:BCode:=(.seq (.reg 0 [⟨(some 4),.mv (.const (.bool false)),none,0⟩] none 0 []) (.seq (.seq (.reg 0 [⟨(some 6),.mv (.tmp 0),none,0⟩,⟨(some 7),.lens (.tmp 6),none,0⟩,⟨(some 8),.mv (.tmp 1),none,0⟩,⟨(some 9),.lens (.tmp 8),none,0⟩,⟨(some 10),.bin .neq (.tmp 7) (.tmp 9),none,0⟩] none 0 []) (.cond (.tmp 10) (.seq (.reg 0 [⟨(some 4),.mv (.const (.bool false)),none,0⟩] none 0 []) .ret) .skip)) (.seq (.seq (.reg 0 [⟨(some 5),.mv (.const (.int .i64 0)),none,0⟩] none 0 []) (.block 0 (.loop (.seq (.seq (.reg 0 [⟨(some 11),.mv (.tmp 5),none,0⟩,⟨(some 12),.mv (.tmp 0),none,0⟩,⟨(some 13),.lens (.tmp 12),none,0⟩,⟨(some 14),.bin .lss (.tmp 11) (.tmp 13),none,0⟩] none 0 []) (.cond (.tmp 14) .skip (.exit 0))) (.seq (.block 1 (.seq (.reg 0 [⟨(some 17),.mv (.tmp 0),none,0⟩,⟨(some 18),.mv (.tmp 5),none,0⟩,⟨(some 19),.ixs 5 (.tmp 17) (.tmp 18),none,0⟩,⟨(some 20),.ld 5 true (.tmp 19),none,0⟩,⟨(some 21),.mv (.tmp 1),none,0⟩,⟨(some 22),.mv (.tmp 5),none,0⟩,⟨(some 23),.ixs 5 (.tmp 21) (.tmp 22),none,0⟩,⟨(some 24),.ld 5 true (.tmp 23),none,0⟩,⟨(some 25),.eqa true [2,2,1,1,0] (.tmp 20) (.tmp 24),none,0⟩] (some [[],[],[1,0],[0,1,2],[],[],[5,4],[4,5,6],[6,5,4,7,2,1,0,3]]) 0 []) (.cond (.tmp 25) (.seq (.reg 0 [⟨(some 4),.mv (.const (.bool false)),none,0⟩] none 0 []) .ret) .skip))) (.reg 0 [⟨(some 15),.mv (.tmp 5),none,0⟩,⟨(some 16),.bin .add (.tmp 15) (.const (.int .i64 1)),none,0⟩,⟨(some 5),.mv (.tmp 16),none,0⟩] none 0 [])))))) (.seq (.reg 0 [⟨(some 4),.mv (.const (.bool true)),none,0⟩] none 0 []) .ret))))
theorem gc11_ok:compF Try.prog Try.f11=some (gc11.er,26,[.tmp 4]):=by unfold gc11;kernel_rfl
theorem p_ref20_SameItems_v {u1 u2:Bool} (a0:List ItemItem) (a1:List ItemItem):CallsO Try.prog 11 [.sl (List.map ItemItem.v a0) u1,.sl (List.map ItemItem.v a1) u2] V.b (p_ref20_SameItems a0 a1):=by
 refine callsO_comp mix Try.func11 gc11_ok fun r H=>?_
 rw [p_ref20_SameItems] at H
 conv=>whnf
 iterate 2 (refine LenQ.M ?_;conv=>whnf)
 refine tst_c H (fun b1 H=>?_) (fun b1 H=>?_)
 ·conv=>whnf
  exact fb_ H
 conv=>whnf
 obtain ⟨o3,HL4,HQ5⟩:=bind_c H
 refine loop_c [4,5] [11,12,13,14,15,16,17,18,19,20,21,22,23,24,25] [11,12,13,14,15,16,17,18,19,20,21,22,23,24,25] (fun n vals st=>(∃ y7,p_ref20_SameItems_l1  a0 a1 n y7=some o3∧vals=[.b false,.i y7]∧st=[])) fuel 0 [] (⟨_,HL4,rfl,rfl⟩) (Nat.zero_le _) rfl (by kernel_rfl) (by kernel_rfl) rfl trivial ?_
 rintro (_ | n6) _ _ (⟨y7,H,rfl,rfl⟩)
 ·rw [p_ref20_SameItems_l1] at H;cases H
 rw [p_ref20_SameItems_l1] at H
 conv=>whnf
 refine LenQ.M ?_;conv=>whnf
 refine tst_d H (fun b8 H=>?_) (fun b8 H=>?_)
 ·conv=>whnf
  obtain rfl:=Option.some.inj H
  have H:=HQ5
  try dsimp only at H
  exact fb_ H
 conv=>whnf
 refine ixs_c (f:=ItemItem.v) H (fun _=>rfl) (fun x9 H=>?_);conv=>whnf
 refine ixs_c (f:=ItemItem.v) H (fun _=>rfl) (fun x10 H=>?_);conv=>whnf
 refine FootQ.mk ⟨rfl,?_⟩;conv=>whnf
 refine Tst.not ?_
 refine tst_d H (fun b11 H=>?_) (fun b11 H=>?_)
 ·conv=>whnf
  obtain rfl:=Option.some.inj H
  have H:=HQ5
  try dsimp only at H
  exact fb_ H
 conv=>whnf
 refine Ari.w ?_;conv=>whnf
 exact again_c [11,12,13,14,15,16,17,18,19,20,21,22,23,24,25] n6 0 [] (⟨_,H,rfl,rfl⟩) (Nat.lt_succ_self _) (Nat.zero_le _) rfl (by kernel_rfl) (by kernel_rfl) rfl trivial
end Go.Proofs.Ytpmoioopjbfhkaa

