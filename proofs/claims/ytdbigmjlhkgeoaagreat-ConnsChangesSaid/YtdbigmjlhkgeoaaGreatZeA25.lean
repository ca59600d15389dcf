/- ConnsChanges: for every input the call returns true, and its arguments read as they did. -/
import Derived.Test.YtdbigmjlhkgeoaaGreatZeA17
import Derived.Test.YtdbigmjlhkgeoaaGreatZeA22
import Derived.Test.YtdbigmjlhkgeoaaGreatZeA21
import Derived.Test.YtdbigmjlhkgeoaaGreatZeA23
import Derived.Test.YtdbigmjlhkgeoaaGreatZeA24
import Derived.Test.YtdbigmjlhkgeoaaGreatZeA11
import Derived.KernelRfl
import Derived.Test.YtdbigmjlhkgeoaaGreatZeA12
import Derived.Test.YtdbigmjlhkgeoaaGreatRows
set_option linter.all false
namespace Go.Proofs.YtdbigmjlhkgeoaaGreat
open Go.RowKit
set_option maxRecDepth 1000000
set_option maxHeartbeats 4000000
def gc3:BCode:=(.seq (R_ 1 [O_ 3 (.bx (t_ 1)) 0,O_ 4 (.mv (b_ false)) 1]) (.join (.seq (R_ 0 [O_ 34 (.mv (t_ 0)) 0,O_ 35 (.cl 7 [(t_ 34)]) 0,O_ 36 (.un .not (t_ 35)) 0,O_ 37 (.mv (t_ 36)) 0,⟨(some 38),.fa 2 (t_ 3),(some (37,false)),0⟩,⟨(some 39),.ld 1 false (t_ 38),(some (37,false)),0⟩,⟨(some 40),.lent (t_ 39),(some (37,false)),0⟩,⟨(some 41),.bin .gtr (t_ 40) (i_ 100),(some (37,false)),0⟩,O_ 42 (.pick (t_ 37) (b_ true) (t_ 41)) 0,O_ 43 (.mv (t_ 42)) 0,⟨(some 44),.fa 3 (t_ 3),(some (43,false)),0⟩,⟨(some 45),.ld 1 false (t_ 44),(some (43,false)),0⟩,⟨(some 46),.lent (t_ 45),(some (43,false)),0⟩,⟨(some 47),.bin .gtr (t_ 46) (i_ 100),(some (43,false)),0⟩,O_ 48 (.pick (t_ 43) (b_ true) (t_ 47)) 0,O_ 49 (.mv (t_ 48)) 0,⟨(some 50),.fa 4 (t_ 3),(some (49,false)),0⟩,⟨(some 51),.ld 1 false (t_ 50),(some (49,false)),0⟩,⟨(some 52),.lent (t_ 51),(some (49,false)),0⟩,⟨(some 53),.bin .gtr (t_ 52) (i_ 100),(some (49,false)),0⟩,O_ 54 (.pick (t_ 49) (b_ true) (t_ 53)) 0]) (.cond (t_ 54) (.seq (R_ 0 [O_ 55 (.cl 8 []) 0,O_ 4 (.mv (t_ 55)) 0]) .ret) .skip)) (.seq (R_ 0 [O_ 56 (.mv (t_ 0)) 0,O_ 57 (.cl 9 [(t_ 56)]) 0,O_ 5 (.mv (t_ 57)) 0]) (.seq (R_ 0 [O_ 59 (.mv (t_ 5)) 0,O_ 60 (.fa 0 (t_ 3)) 0,O_ 61 (.ld 1 false (t_ 60)) 0,O_ 62 (.fa 1 (t_ 3)) 0,O_ 63 (.ld 1 false (t_ 62)) 0,O_ 64 (.cl 10 [(t_ 59),(t_ 61),(t_ 63)]) 0,O_ 58 (.mv (t_ 64)) 0,O_ 65 (.ex (t_ 58) 0) 0,O_ 66 (.ex (t_ 58) 1) 0,O_ 6 (.mv (t_ 65)) 0,O_ 7 (.mv (t_ 66)) 0]) (.seq (R_ 0 [O_ 68 (.mv (t_ 0)) 0,O_ 69 (.fa 0 (t_ 3)) 0,O_ 70 (.ld 1 false (t_ 69)) 0,O_ 71 (.fa 1 (t_ 3)) 0,O_ 72 (.ld 1 false (t_ 71)) 0,O_ 73 (.cl 11 [(t_ 68),(t_ 70),(t_ 72)]) 0,O_ 67 (.mv (t_ 73)) 0,O_ 74 (.ex (t_ 67) 0) 0,O_ 75 (.ex (t_ 67) 1) 0,O_ 8 (.mv (t_ 74)) 0,O_ 9 (.mv (t_ 75)) 0]) (.seq (R_ 1 [O_ 77 (.mv (t_ 5)) 0,O_ 78 (.fa 0 (t_ 3)) 0,O_ 79 (.ld 1 false (t_ 78)) 0,O_ 80 (.cl 12 [(t_ 77),(t_ 79)]) 0,O_ 76 (.mv (t_ 80)) 0,O_ 81 (.ex (t_ 76) 0) 0,O_ 82 (.ex (t_ 76) 1) 0,O_ 83 (.ex (t_ 76) 2) 0,O_ 11 (.al (.agg [(.lit (.int .i64 0)),(.lit (.int .i64 0)),(.lit (.string ⟨#[]⟩)),(.lit (.string ⟨#[]⟩)),(.lit (.int .i64 0)),(.lit (.string ⟨#[]⟩)),(.lit (.int .i64 0)),(.lit (.int .i64 0))])) 0,O_ 10 (.mv (t_ 81)) 1,U_ (.st 8 (t_ 11) (t_ 82)) 1,O_ 12 (.mv (t_ 83)) 1]) (.seq (R_ 1 [O_ 85 (.mv (t_ 0)) 0,O_ 86 (.fa 0 (t_ 3)) 0,O_ 87 (.ld 1 false (t_ 86)) 0,O_ 88 (.cl 13 [(t_ 85),(t_ 87)]) 0,O_ 84 (.mv (t_ 88)) 0,O_ 89 (.ex (t_ 84) 0) 0,O_ 90 (.ex (t_ 84) 1) 0,O_ 91 (.ex (t_ 84) 2) 0,O_ 14 (.al (.agg [(.lit (.int .i64 0)),(.lit (.int .i64 0)),(.lit (.string ⟨#[]⟩)),(.lit (.string ⟨#[]⟩)),(.lit (.int .i64 0)),(.lit (.string ⟨#[]⟩)),(.lit (.int .i64 0)),(.lit (.int .i64 0))])) 0,O_ 13 (.mv (t_ 89)) 1,U_ (.st 8 (t_ 14) (t_ 90)) 1,O_ 15 (.mv (t_ 91)) 1]) (.seq (R_ 0 [O_ 93 (.mv (t_ 5)) 0,O_ 94 (.fa 0 (t_ 3)) 0,O_ 95 (.ld 1 false (t_ 94)) 0,O_ 96 (.fa 2 (t_ 3)) 0,O_ 97 (.ld 1 false (t_ 96)) 0,O_ 98 (.fa 3 (t_ 3)) 0,O_ 99 (.ld 1 false (t_ 98)) 0,O_ 100 (.cl 14 [(t_ 93),(t_ 95),(t_ 97),(t_ 99)]) 0,O_ 92 (.mv (t_ 100)) 0,O_ 101 (.ex (t_ 92) 0) 0,O_ 102 (.ex (t_ 92) 1) 0,O_ 16 (.mv (t_ 101)) 0,O_ 17 (.mv (t_ 102)) 0]) (.seq (R_ 0 [O_ 104 (.mv (t_ 0)) 0,O_ 105 (.fa 0 (t_ 3)) 0,O_ 106 (.ld 1 false (t_ 105)) 0,O_ 107 (.fa 2 (t_ 3)) 0,O_ 108 (.ld 1 false (t_ 107)) 0,O_ 109 (.fa 3 (t_ 3)) 0,O_ 110 (.ld 1 false (t_ 109)) 0,O_ 111 (.cl 15 [(t_ 104),(t_ 106),(t_ 108),(t_ 110)]) 0,O_ 103 (.mv (t_ 111)) 0,O_ 112 (.ex (t_ 103) 0) 0,O_ 113 (.ex (t_ 103) 1) 0,O_ 18 (.mv (t_ 112)) 0,O_ 19 (.mv (t_ 113)) 0]) (.join (.seq (.reg 1 [O_ 114 (.mv (t_ 6)) 0,O_ 115 (.cl 17 [(t_ 114)]) 0,O_ 116 (.mv (t_ 8)) 0,O_ 117 (.cl 16 [(t_ 115),(t_ 116)]) 0,O_ 118 (.un .not (t_ 117)) 0,O_ 119 (.mv (t_ 118)) 0,⟨(some 120),.mv (t_ 7),(some (119,false)),0⟩,⟨(some 121),.mv (t_ 9),(some (119,false)),0⟩,⟨(some 122),.bin .neq (t_ 120) (t_ 121),(some (119,false)),0⟩,O_ 123 (.pick (t_ 119) (b_ true) (t_ 122)) 0,O_ 124 (.mv (t_ 123)) 0,⟨(some 125),.mv (t_ 10),(some (124,false)),0⟩,⟨(some 126),.cl 17 [(t_ 125)],(some (124,false)),0⟩,⟨(some 127),.mv (t_ 13),(some (124,false)),0⟩,⟨(some 128),.cl 16 [(t_ 126),(t_ 127)],(some (124,false)),0⟩,⟨(some 129),.un .not (t_ 128),(some (124,false)),0⟩,O_ 130 (.pick (t_ 124) (b_ true) (t_ 129)) 0,O_ 131 (.mv (t_ 130)) 0,⟨(some 132),.ld 8 true (t_ 11),(some (131,false)),0⟩,⟨(some 133),.bs 8 1 [(.lit (.int .i64 0)),(.lit (.int .i64 0)),(.lit (.string ⟨#[]⟩)),(.lit (.string ⟨#[]⟩)),(.lit (.int .i64 0)),(.lit (.string ⟨#[]⟩)),(.lit (.int .i64 0)),(.lit (.int .i64 0))] [(0,(t_ 132))],(some (131,false)),0⟩,⟨(some 134),.cl 17 [(t_ 133)],(some (131,false)),1⟩,⟨(some 135),.ixs 8 (t_ 134) (i_ 0),(some (131,false)),1⟩,⟨(some 136),.ld 8 true (t_ 135),(some (131,false)),1⟩,⟨(some 137),.ld 8 true (t_ 14),(some (131,false)),1⟩,⟨(some 138),.eqa true [1,1,2,2,1,2,1,1] (t_ 136) (t_ 137),(some (131,false)),1⟩,O_ 139 (.pick (t_ 131) (b_ true) (t_ 138)) 1,O_ 140 (.mv (t_ 139)) 1,⟨(some 141),.mv (t_ 12),(some (140,false)),1⟩,⟨(some 142),.mv (t_ 15),(some (140,false)),1⟩,⟨(some 143),.binb true (t_ 141) (t_ 142),(some (140,false)),1⟩,O_ 144 (.pick (t_ 140) (b_ true) (t_ 143)) 1,O_ 145 (.mv (t_ 144)) 1,⟨(some 146),.mv (t_ 16),(some (145,false)),1⟩,⟨(some 147),.cl 17 [(t_ 146)],(some (145,false)),1⟩,⟨(some 148),.mv (t_ 18),(some (145,false)),1⟩,⟨(some 149),.cl 16 [(t_ 147),(t_ 148)],(some (145,false)),1⟩,⟨(some 150),.un .not (t_ 149),(some (145,false)),1⟩,O_ 151 (.pick (t_ 145) (b_ true) (t_ 150)) 1,O_ 152 (.mv (t_ 151)) 1,⟨(some 153),.mv (t_ 17),(some (152,false)),1⟩,⟨(some 154),.mv (t_ 19),(some (152,false)),1⟩,⟨(some 155),.bin .neq (t_ 153) (t_ 154),(some (152,false)),1⟩,O_ 156 (.pick (t_ 152) (b_ true) (t_ 155)) 1] (some [[],[0],[],[2,0,1],[1,0,2,3],[3,2,0,1,4],[4,1,0,2,3,5],[4,1,0,2,3,5],[7,5,3,2,0,1,4,6],[6,7,8,4,1,0,2,3,5],[5,3,2,0,1,4,8,7,6,9],[9,6,7,8,4,1,0,2,3,5,10],[10,5,3,2,0,1,4,8,7,6,9,11],[9,6,7,8,4,1,0,2,3,5,10],[13,11,9,6,7,8,4,1,0,2,3,5,10,12],[12,10,5,3,2,0,1,4,8,7,6,9,11,13,14],[14,13,11,12,15,9,6,7,8,4,1,0,2,3,5,10],[10,5,3,2,0,1,4,8,7,6,9,15,12,11,13,14,16],[16,14,13,11,12,15,9,6,7,8,4,1,0,2,3,5,10,17],[17,10,5,3,2,0,1,4,8,7,6,9,15,12,11,13,14,16,18],[18,16,14,13,11,12,15,9,6,7,8,4,1,0,2,3,5,10,17,19],[19,17,10,5,3,2,0,1,4,8,7,6,9,15,12,11,13,14,16,18,20],[20,18,16,14,13,11,12,15,9,6,7,8,4,1,0,2,3,5,10,17,19,21],[16,14,13,11,12,15,9,6,7,8,4,1,0,2,3,5,10,17],[23,21,19,17,10,5,3,2,0,1,4,8,7,6,9,15,12,11,13,14,16,18,20,22],[22,20,18,19,21,23,24,16,14,13,11,12,15,9,6,7,8,4,1,0,2,3,5,10,17],[17,10,5,3,2,0,1,4,8,7,6,9,15,12,11,13,14,16,24,23,21,19,18,20,22,25],[25,22,20,18,19,21,23,24,16,14,13,11,12,15,9,6,7,8,4,1,0,2,3,5,10,17,26],[25,22,20,18,19,21,23,24,16,14,13,11,12,15,9,6,7,8,4,1,0,2,3,5,10,17,26],[28,26,17,10,5,3,2,0,1,4,8,7,6,9,15,12,11,13,14,16,24,23,21,19,18,20,22,25,27],[27,28,29,25,22,20,18,19,21,23,24,16,14,13,11,12,15,9,6,7,8,4,1,0,2,3,5,10,17,26],[26,17,10,5,3,2,0,1,4,8,7,6,9,15,12,11,13,14,16,24,23,21,19,18,20,22,25,29,28,27,30],[30,27,28,29,25,22,20,18,19,21,23,24,16,14,13,11,12,15,9,6,7,8,4,1,0,2,3,5,10,17,26,31],[31,26,17,10,5,3,2,0,1,4,8,7,6,9,15,12,11,13,14,16,24,23,21,19,18,20,22,25,29,28,27,30,32],[30,27,28,29,25,22,20,18,19,21,23,24,16,14,13,11,12,15,9,6,7,8,4,1,0,2,3,5,10,17,26,31],[34,32,30,27,28,29,25,22,20,18,19,21,23,24,16,14,13,11,12,15,9,6,7,8,4,1,0,2,3,5,10,17,26,31,33],[33,31,26,17,10,5,3,2,0,1,4,8,7,6,9,15,12,11,13,14,16,24,23,21,19,18,20,22,25,29,28,27,30,32,34,35],[35,34,32,33,36,30,27,28,29,25,22,20,18,19,21,23,24,16,14,13,11,12,15,9,6,7,8,4,1,0,2,3,5,10,17,26,31],[31,26,17,10,5,3,2,0,1,4,8,7,6,9,15,12,11,13,14,16,24,23,21,19,18,20,22,25,29,28,27,30,36,33,32,34,35,37],[37,35,34,32,33,36,30,27,28,29,25,22,20,18,19,21,23,24,16,14,13,11,12,15,9,6,7,8,4,1,0,2,3,5,10,17,26,31,38],[37,35,34,32,33,36,30,27,28,29,25,22,20,18,19,21,23,24,16,14,13,11,12,15,9,6,7,8,4,1,0,2,3,5,10,17,26,31,38],[40,38,31,26,17,10,5,3,2,0,1,4,8,7,6,9,15,12,11,13,14,16,24,23,21,19,18,20,22,25,29,28,27,30,36,33,32,34,35,37,39],[39,40,41,37,35,34,32,33,36,30,27,28,29,25,22,20,18,19,21,23,24,16,14,13,11,12,15,9,6,7,8,4,1,0,2,3,5,10,17,26,31,38]]) 0 []) (.cond (t_ 156) (.seq (R_ 0 [O_ 4 (.mv (b_ false)) 0]) .ret) .skip)) (.seq (R_ 0 [O_ 158 (.mv (t_ 5)) 0,O_ 159 (.fa 0 (t_ 3)) 0,O_ 160 (.ld 1 false (t_ 159)) 0,O_ 161 (.fa 1 (t_ 3)) 0,O_ 162 (.ld 1 false (t_ 161)) 0,O_ 163 (.cl 18 [(t_ 158),(t_ 160),(t_ 162)]) 0,O_ 157 (.mv (t_ 163)) 0,O_ 164 (.ex (t_ 157) 0) 0,O_ 165 (.ex (t_ 157) 1) 0,O_ 20 (.mv (t_ 164)) 0,O_ 21 (.mv (t_ 165)) 0]) (.seq (R_ 0 [O_ 167 (.mv (t_ 0)) 0,O_ 168 (.fa 0 (t_ 3)) 0,O_ 169 (.ld 1 false (t_ 168)) 0,O_ 170 (.fa 1 (t_ 3)) 0,O_ 171 (.ld 1 false (t_ 170)) 0,O_ 172 (.cl 19 [(t_ 167),(t_ 169),(t_ 171)]) 0,O_ 166 (.mv (t_ 172)) 0,O_ 173 (.ex (t_ 166) 0) 0,O_ 174 (.ex (t_ 166) 1) 0,O_ 22 (.mv (t_ 173)) 0,O_ 23 (.mv (t_ 174)) 0]) (.seq (R_ 0 [O_ 176 (.mv (t_ 5)) 0,O_ 177 (.fa 0 (t_ 3)) 0,O_ 178 (.ld 1 false (t_ 177)) 0,O_ 179 (.fa 1 (t_ 3)) 0,O_ 180 (.ld 1 false (t_ 179)) 0,O_ 181 (.cl 20 [(t_ 176),(t_ 178),(t_ 180)]) 0,O_ 175 (.mv (t_ 181)) 0,O_ 182 (.ex (t_ 175) 0) 0,O_ 183 (.ex (t_ 175) 1) 0,O_ 24 (.mv (t_ 182)) 0,O_ 25 (.mv (t_ 183)) 0]) (.seq (R_ 0 [O_ 185 (.mv (t_ 0)) 0,O_ 186 (.fa 0 (t_ 3)) 0,O_ 187 (.ld 1 false (t_ 186)) 0,O_ 188 (.fa 1 (t_ 3)) 0,O_ 189 (.ld 1 false (t_ 188)) 0,O_ 190 (.cl 21 [(t_ 185),(t_ 187),(t_ 189)]) 0,O_ 184 (.mv (t_ 190)) 0,O_ 191 (.ex (t_ 184) 0) 0,O_ 192 (.ex (t_ 184) 1) 0,O_ 26 (.mv (t_ 191)) 0,O_ 27 (.mv (t_ 192)) 0]) (.seq (R_ 0 [O_ 194 (.mv (t_ 5)) 0,O_ 195 (.fa 0 (t_ 3)) 0,O_ 196 (.ld 1 false (t_ 195)) 0,O_ 197 (.fa 4 (t_ 3)) 0,O_ 198 (.ld 1 false (t_ 197)) 0,O_ 199 (.cl 22 [(t_ 194),(t_ 196),(t_ 198)]) 0,O_ 193 (.mv (t_ 199)) 0,O_ 200 (.ex (t_ 193) 0) 0,O_ 201 (.ex (t_ 193) 1) 0,O_ 202 (.ex (t_ 193) 2) 0,O_ 28 (.mv (t_ 200)) 0,O_ 29 (.mv (t_ 201)) 0,O_ 30 (.mv (t_ 202)) 0]) (.seq (R_ 0 [O_ 204 (.mv (t_ 0)) 0,O_ 205 (.fa 0 (t_ 3)) 0,O_ 206 (.ld 1 false (t_ 205)) 0,O_ 207 (.fa 4 (t_ 3)) 0,O_ 208 (.ld 1 false (t_ 207)) 0,O_ 209 (.cl 23 [(t_ 204),(t_ 206),(t_ 208)]) 0,O_ 203 (.mv (t_ 209)) 0,O_ 210 (.ex (t_ 203) 0) 0,O_ 211 (.ex (t_ 203) 1) 0,O_ 212 (.ex (t_ 203) 2) 0,O_ 31 (.mv (t_ 210)) 0,O_ 32 (.mv (t_ 211)) 0,O_ 33 (.mv (t_ 212)) 0]) (.seq (R_ 0 [O_ 213 (.mv (t_ 20)) 0,O_ 214 (.cl 17 [(t_ 213)]) 0,O_ 215 (.mv (t_ 22)) 0,O_ 216 (.cl 16 [(t_ 214),(t_ 215)]) 0,O_ 217 (.mv (t_ 216)) 0,⟨(some 218),.mv (t_ 21),(some (217,true)),0⟩,⟨(some 219),.mv (t_ 23),(some (217,true)),0⟩,⟨(some 220),.binb false (t_ 218) (t_ 219),(some (217,true)),0⟩,O_ 221 (.pick (t_ 217) (t_ 220) (b_ false)) 0,O_ 222 (.mv (t_ 221)) 0,⟨(some 223),.mv (t_ 24),(some (222,true)),0⟩,⟨(some 224),.cl 17 [(t_ 223)],(some (222,true)),0⟩,⟨(some 225),.mv (t_ 26),(some (222,true)),0⟩,⟨(some 226),.cl 16 [(t_ 224),(t_ 225)],(some (222,true)),0⟩,O_ 227 (.pick (t_ 222) (t_ 226) (b_ false)) 0,O_ 228 (.mv (t_ 227)) 0,⟨(some 229),.mv (t_ 25),(some (228,true)),0⟩,⟨(some 230),.mv (t_ 27),(some (228,true)),0⟩,⟨(some 231),.binb false (t_ 229) (t_ 230),(some (228,true)),0⟩,O_ 232 (.pick (t_ 228) (t_ 231) (b_ false)) 0,O_ 233 (.mv (t_ 232)) 0,⟨(some 234),.mv (t_ 28),(some (233,true)),0⟩,⟨(some 235),.cl 17 [(t_ 234)],(some (233,true)),0⟩,⟨(some 236),.mv (t_ 31),(some (233,true)),0⟩,⟨(some 237),.cl 16 [(t_ 235),(t_ 236)],(some (233,true)),0⟩,O_ 238 (.pick (t_ 233) (t_ 237) (b_ false)) 0,O_ 239 (.mv (t_ 238)) 0,⟨(some 240),.mv (t_ 29),(some (239,true)),0⟩,⟨(some 241),.cl 25 [(t_ 240)],(some (239,true)),0⟩,⟨(some 242),.mv (t_ 32),(some (239,true)),0⟩,⟨(some 243),.cl 24 [(t_ 241),(t_ 242)],(some (239,true)),0⟩,O_ 244 (.pick (t_ 239) (t_ 243) (b_ false)) 0,O_ 245 (.mv (t_ 244)) 0,⟨(some 246),.mv (t_ 30),(some (245,true)),0⟩,⟨(some 247),.mv (t_ 33),(some (245,true)),0⟩,⟨(some 248),.bin .eql (t_ 246) (t_ 247),(some (245,true)),0⟩,O_ 249 (.pick (t_ 245) (t_ 248) (b_ false)) 0,O_ 250 (.mv (t_ 249)) 0,⟨(some 251),.mv (t_ 5),(some (250,true)),0⟩,⟨(some 252),.cl 17 [(t_ 251)],(some (250,true)),0⟩,⟨(some 253),.mv (t_ 0),(some (250,true)),0⟩,⟨(some 254),.cl 16 [(t_ 252),(t_ 253)],(some (250,true)),0⟩,O_ 255 (.pick (t_ 250) (t_ 254) (b_ false)) 0,O_ 256 (.mv (t_ 255)) 0,⟨(some 257),.cl 8 [],(some (256,true)),0⟩,O_ 258 (.pick (t_ 256) (t_ 257) (b_ false)) 0,O_ 4 (.mv (t_ 258)) 0]) .ret)))))))))))))))))
theorem gc3_ok:compF Tryz.prog Tryz.f3=some (gc3.er,259,[.tmp 4]):=by unfold gc3;kernel_rfl
theorem p_law31_ConnsChanges_v {u1:Bool} (a0:List ConnsConn) (a1:Law31Ask):CallsO Tryz.prog 3 [.sl (List.map ConnsConn.v a0) u1,.agg [.i a1.ID,.i a1.N,.s a1.User,.s a1.Res,.s a1.Bytes]] V.b (tru? (p_law31_ConnsChanges a0 a1)):=by
 refine callsO_comp mix Tryz.func3 gc3_ok fun r H=>?_
 have H1:=tru_of H
 clear H
 obtain ⟨rfl,H⟩:=H1
 rw [p_law31_ConnsChanges] at H
 conv=>whnf
 obtain ⟨K1,hK2,o3,HL4,HQ5⟩:=join0_c H
 refine join_c [4,3] [34,35,36,37,38,39,40,41,42,43,44,45,46,47,48,49,50,51,52,53,54,55] (fun vals st=>(K1 (.inr ())=some true∧vals=[.b false,.ptr 0 0]∧st=[.live [.i a1.ID,.i a1.N,.s a1.User,.s a1.Res,.s a1.Bytes] 0])) ?_ ?_
 ·have H:=HL4
  conv=>whnf
  refine ask_c (p_ref31_Light_v _) H rfl rfl (fun v7 H=>?_);conv=>whnf
  refine Tst.not ?_
  refine tst_d H (fun b8 H=>?_) (fun b8 H=>?_)
  ·conv=>whnf
   iterate 15 (refine Tst.T ?_;conv=>whnf)
   refine ask_c (p_law31_awake_v) H rfl rfl (fun v15 H=>?_);conv=>whnf
   obtain rfl:=Option.some.inj H
   have H:=HQ5
   rw [hK2] at H
   try dsimp only at H
   exact fb_ H
  conv=>whnf
  iterate 4 (refine Tst.F ?_;conv=>whnf)
  refine tst_c H (fun b9 H=>?_) (fun b9 H=>?_)
  ·conv=>whnf
   iterate 10 (refine Tst.T ?_;conv=>whnf)
   refine ask_c (p_law31_awake_v) H rfl rfl (fun v10 H=>?_);conv=>whnf
   obtain rfl:=Option.some.inj H
   have H:=HQ5
   rw [hK2] at H
   try dsimp only at H
   exact fb_ H
  conv=>whnf
  iterate 4 (refine Tst.F ?_;conv=>whnf)
  refine tst_c H (fun b11 H=>?_) (fun b11 H=>?_)
  ·conv=>whnf
   iterate 5 (refine Tst.T ?_;conv=>whnf)
   refine ask_c (p_law31_awake_v) H rfl rfl (fun v12 H=>?_);conv=>whnf
   obtain rfl:=Option.some.inj H
   have H:=HQ5
   rw [hK2] at H
   try dsimp only at H
   exact fb_ H
  conv=>whnf
  iterate 4 (refine Tst.F ?_;conv=>whnf)
  refine tst_c H (fun b13 H=>?_) (fun b13 H=>?_)
  ·conv=>whnf
   refine ask_c (p_law31_awake_v) H rfl rfl (fun v14 H=>?_);conv=>whnf
   obtain rfl:=Option.some.inj H
   have H:=HQ5
   rw [hK2] at H
   try dsimp only at H
   exact fb_ H
  conv=>whnf
  obtain rfl:=Option.some.inj H
  exact arrive_c [34,35,36,37,38,39,40,41,42,43,44,45,46,47,48,49,50,51,52,53,54,55] 1 [] (⟨HQ5,rfl,rfl⟩) (Nat.zero_le _) rfl (by kernel_rfl) (by kernel_rfl) rfl ⟨⟨rfl,rfl,rfl⟩,trivial⟩
 rintro _ _ (⟨H,rfl,rfl⟩)
 rw [hK2] at H
 try dsimp only at H
 conv=>whnf
 refine ask_c (p_law31_own_v _) H rfl rfl (fun v16 H=>?_);conv=>whnf
 refine ask_c (p_conns_Open_v _ _ _) H rfl rfl (fun v17 H=>?_);conv=>whnf
 refine ask_c (p_ref31_Open_v _ _ _) H rfl rfl (fun v18 H=>?_);conv=>whnf
 refine ask_c (p_conns_Close_v _ _) H rfl rfl (fun v19 H=>?_);conv=>whnf
 refine lq_ ?_;conv=>whnf
 refine ask_c (p_ref31_Close_v _ _) H rfl rfl (fun v20 H=>?_);conv=>whnf
 refine lq_ ?_;conv=>whnf
 refine ask_c (p_conns_Login_v _ _ _ _) H rfl rfl (fun v21 H=>?_);conv=>whnf
 refine ask_c (p_ref31_Login_v _ _ _ _) H rfl rfl (fun v22 H=>?_);conv=>whnf
 obtain ⟨K23,hK24,o25,HL26,HQ27⟩:=join0_c H
 refine join_c [4,3] [114,115,116,117,118,119,120,121,122,123,124,125,126,127,128,129,130,131,132,133,134,135,136,137,138,139,140,141,142,143,144,145,146,147,148,149,150,151,152,153,154,155,156,11,14,60,62,69,71,78,86,94,96,98,105,107,109] (fun vals st=>(K23 (.inr ())=some true∧vals=[.b false,.ptr 0 0]∧st=[.live [.i a1.ID,.i a1.N,.s a1.User,.s a1.Res,.s a1.Bytes] 0])) ?_ ?_
 ·have H:=HL26
  conv=>whnf
  refine ask_c (p_law31_Back_v _) H rfl rfl (fun v29 H=>?_);conv=>whnf
  refine ask_c (p_ref31_Same_v _ _) H rfl rfl (fun v30 H=>?_);conv=>whnf
  refine Tst.not ?_
  refine tst_d H (fun b31 H=>?_) (fun b31 H=>?_)
  ·conv=>whnf
   iterate 31 (refine Tst.T ?_;conv=>whnf)
   refine FootQ.mk ⟨rfl,?_⟩;conv=>whnf
   refine Tst.T ?_;conv=>whnf
   obtain rfl:=Option.some.inj H
   have H:=HQ27
   rw [hK24] at H
   try dsimp only at H
   exact fb_ H
  conv=>whnf
  iterate 3 (refine Tst.F ?_;conv=>whnf)
  refine tst_c H (fun b32 H=>?_) (fun b32 H=>?_)
  ·conv=>whnf
   iterate 27 (refine Tst.T ?_;conv=>whnf)
   refine FootQ.mk ⟨rfl,?_⟩;conv=>whnf
   refine Tst.T ?_;conv=>whnf
   obtain rfl:=Option.some.inj H
   have H:=HQ27
   rw [hK24] at H
   try dsimp only at H
   exact fb_ H
  conv=>whnf
  refine Tst.F ?_;conv=>whnf
  refine ask_c (p_law31_Back_v _) H rfl rfl (fun v33 H=>?_);conv=>whnf
  iterate 2 (refine Tst.F ?_;conv=>whnf)
  refine ask_c (p_ref31_Same_v _ _) H rfl rfl (fun v34 H=>?_);conv=>whnf
  iterate 2 (refine Tst.F ?_;conv=>whnf)
  refine Tst.not ?_
  refine tst_d H (fun b35 H=>?_) (fun b35 H=>?_)
  ·conv=>whnf
   iterate 21 (refine Tst.T ?_;conv=>whnf)
   refine FootQ.mk ⟨rfl,?_⟩;conv=>whnf
   refine Tst.T ?_;conv=>whnf
   obtain rfl:=Option.some.inj H
   have H:=HQ27
   rw [hK24] at H
   try dsimp only at H
   exact fb_ H
  conv=>whnf
  iterate 2 (refine Tst.F ?_;conv=>whnf)
  refine askF_c (p_law31_Back_v _) H (.cons (.c (fzown (f:=ConnsConn.v) (l:=[v19.2.1]) rfl rfl (fun _=>rfl) (fun _=>rfl))) (.nil)) (fun v36 H=>?_);conv=>whnf
  refine Tst.F ?_;conv=>whnf
  refine ixs_c (f:=ConnsConn.v) H (fun _=>rfl) (fun x37 H=>?_);conv=>whnf
  iterate 4 (refine Tst.F ?_;conv=>whnf)
  refine Tst.not ?_
  refine tst_d H (fun b38 H=>?_) (fun b38 H=>?_)
  ·conv=>whnf
   iterate 13 (refine Tst.T ?_;conv=>whnf)
   refine FootQ.mk ⟨rfl,?_⟩;conv=>whnf
   refine Tst.T ?_;conv=>whnf
   obtain rfl:=Option.some.inj H
   have H:=HQ27
   rw [hK24] at H
   try dsimp only at H
   exact fb_ H
  conv=>whnf
  iterate 3 (refine Tst.F ?_;conv=>whnf)
  refine tst_c H (fun b39 H=>?_) (fun b39 H=>?_)
  ·conv=>whnf
   iterate 9 (refine Tst.T ?_;conv=>whnf)
   refine FootQ.mk ⟨rfl,?_⟩;conv=>whnf
   refine Tst.T ?_;conv=>whnf
   obtain rfl:=Option.some.inj H
   have H:=HQ27
   rw [hK24] at H
   try dsimp only at H
   exact fb_ H
  conv=>whnf
  refine Tst.F ?_;conv=>whnf
  refine ask_c (p_law31_Back_v _) H rfl rfl (fun v40 H=>?_);conv=>whnf
  iterate 2 (refine Tst.F ?_;conv=>whnf)
  refine ask_c (p_ref31_Same_v _ _) H rfl rfl (fun v41 H=>?_);conv=>whnf
  iterate 2 (refine Tst.F ?_;conv=>whnf)
  refine Tst.not ?_
  refine tst_d H (fun b42 H=>?_) (fun b42 H=>?_)
  ·conv=>whnf
   iterate 3 (refine Tst.T ?_;conv=>whnf)
   refine FootQ.mk ⟨rfl,?_⟩;conv=>whnf
   refine Tst.T ?_;conv=>whnf
   obtain rfl:=Option.some.inj H
   have H:=HQ27
   rw [hK24] at H
   try dsimp only at H
   exact fb_ H
  conv=>whnf
  iterate 3 (refine Tst.F ?_;conv=>whnf)
  refine FootQ.mk ⟨rfl,?_⟩;conv=>whnf
  refine tst_c H (fun b43 H=>?_) (fun b43 H=>?_)
  ·conv=>whnf
   obtain rfl:=Option.some.inj H
   have H:=HQ27
   rw [hK24] at H
   try dsimp only at H
   exact fb_ H
  conv=>whnf
  obtain rfl:=Option.some.inj H
  exact arrive_c [114,115,116,117,118,119,120,121,122,123,124,125,126,127,128,129,130,131,132,133,134,135,136,137,138,139,140,141,142,143,144,145,146,147,148,149,150,151,152,153,154,155,156,11,14,60,62,69,71,78,86,94,96,98,105,107,109] 1 [] (⟨HQ27,rfl,rfl⟩) (Nat.zero_le _) rfl (by kernel_rfl) (by kernel_rfl) rfl ⟨⟨rfl,rfl,rfl⟩,trivial⟩
 rintro _ _ (⟨H,rfl,rfl⟩)
 rw [hK24] at H
 try dsimp only at H
 conv=>whnf
 refine ask_c (p_conns_Give_v _ _ _) H rfl rfl (fun v44 H=>?_);conv=>whnf
 refine ask_c (p_ref31_Give_v _ _ _) H rfl rfl (fun v45 H=>?_);conv=>whnf
 refine ask_c (p_conns_Spend_v _ _ _) H rfl rfl (fun v46 H=>?_);conv=>whnf
 refine ask_c (p_ref31_Spend_v _ _ _) H rfl rfl (fun v47 H=>?_);conv=>whnf
 refine ask_c (p_conns_Feed_v _ _ _) H rfl rfl (fun v48 H=>?_);conv=>whnf
 refine ask_c (p_ref31_Feed_v _ _ _) H rfl rfl (fun v49 H=>?_);conv=>whnf
 refine ask_c (p_law31_Back_v _) H rfl rfl (fun v50 H=>?_);conv=>whnf
 refine ask_c (p_ref31_Same_v _ _) H rfl rfl (fun v51 H=>?_);conv=>whnf
 refine tstT_c H (fun b52 H=>?_);conv=>whnf
 iterate 3 (refine Tst.T ?_;conv=>whnf)
 refine tstT_c H (fun b53 H=>?_);conv=>whnf
 refine Tst.T ?_;conv=>whnf
 refine ask_c (p_law31_Back_v _) H rfl rfl (fun v54 H=>?_);conv=>whnf
 iterate 2 (refine Tst.T ?_;conv=>whnf)
 refine ask_c (p_ref31_Same_v _ _) H rfl rfl (fun v55 H=>?_);conv=>whnf
 refine Tst.T ?_;conv=>whnf
 refine tstT_c H (fun b56 H=>?_);conv=>whnf
 iterate 3 (refine Tst.T ?_;conv=>whnf)
 refine tstT_c H (fun b57 H=>?_);conv=>whnf
 refine Tst.T ?_;conv=>whnf
 refine ask_c (p_law31_Back_v _) H rfl rfl (fun v58 H=>?_);conv=>whnf
 iterate 2 (refine Tst.T ?_;conv=>whnf)
 refine ask_c (p_ref31_Same_v _ _) H rfl rfl (fun v59 H=>?_);conv=>whnf
 refine Tst.T ?_;conv=>whnf
 refine tstT_c H (fun b60 H=>?_);conv=>whnf
 refine Tst.T ?_;conv=>whnf
 refine ask_c (p_law12_Items_v _) H rfl rfl (fun v61 H=>?_);conv=>whnf
 iterate 2 (refine Tst.T ?_;conv=>whnf)
 refine ask_c (p_ref12_SameItems_v _ _) H rfl rfl (fun v62 H=>?_);conv=>whnf
 refine Tst.T ?_;conv=>whnf
 refine tstT_c H (fun b63 H=>?_);conv=>whnf
 iterate 3 (refine Tst.T ?_;conv=>whnf)
 refine tstT_c H (fun b64 H=>?_);conv=>whnf
 refine Tst.T ?_;conv=>whnf
 refine ask_c (p_law31_Back_v _) H rfl rfl (fun v65 H=>?_);conv=>whnf
 iterate 2 (refine Tst.T ?_;conv=>whnf)
 refine ask_c (p_ref31_Same_v _ _) H rfl rfl (fun v66 H=>?_);conv=>whnf
 refine Tst.T ?_;conv=>whnf
 refine tstT_c H (fun b67 H=>?_);conv=>whnf
 refine ask_c (p_law31_awake_v) H rfl rfl (fun v68 H=>?_);conv=>whnf
 refine Tst.T ?_;conv=>whnf
 exact fb_ H
end Go.Proofs.YtdbigmjlhkgeoaaGreat

namespace Go.Proofs.YtdbigmjlhkgeoaaGreat
open Go.ChangeShapes Go.WideShapes Go.ChangeAt Go.RowKit Go.Joins Go.Deep
theorem connsChanges_named:Tryz.pinned.checked.prog.funcNamed Rows.connsChangesRow.func=some 3:=by kernel_rfl
theorem connsChanges_closed:joinedFacts Tryz.pinned.checked.prog 3 Tryz.f3 Rows.connsChangesSpec Rows.connsChangesRow=true:=by kernel_rfl
end Go.Proofs.YtdbigmjlhkgeoaaGreat

namespace Go.Proofs.YtdbigmjlhkgeoaaGreat
open Go.ChangeShapes Go.WideShapes Go.ChangeAt Go.RowKit Go.Joins Go.Deep
set_option maxRecDepth 100000 in
theorem connsChanges_lifted (os:Os) (started:os.Started) (H:Type) (enc:TypeId × Value→H) :
  ReturnsInHanded {} Tryz.checked os 3 .any (Rows.connsChangesSpec.pre6 enc Tryz.prog Tryz.f3 Rows.connsChangesRow.domain false) (Rows.connsChangesSpec.post enc Tryz.prog Tryz.f3 false true false false):=by
 refine returnsInHanded_of_change_shaped (C:=Tryz.checked) own0 started (by kernel_rfl) Tryz.func3
  (ChangeSpec.witness6 (enc:=enc) (C:=Tryz.checked) false ⟨#[],#[.slice none 0 0,.agg #[.int .i64 0,.int .i64 0,.string ⟨#[]⟩,.string ⟨#[]⟩,.string ⟨#[]⟩]],[]⟩ 8 (by kernel_rfl) (by kernel_rfl) (by kernel_rfl) (by kernel_rfl)) ?_
 intro W base args ds gs before hval0 hW hcnd _ hsh _
 have hval:∀ (j:Nat) t v,Tryz.f3.params[j]?=some t→args[j]?=some v→Value.okWide Tryz.prog W .any base t v:=hval0
 have hW':=hW
 obtain ⟨p,q,hA0,hV,rfl,hfz,hnd⟩:=hW
 have hA:DataW.TrodAll enc Tryz.prog W 0 (fun _=>true) true Tryz.f3.params.toList args.toList ds p:=hA0
 rw [Tryz.params3] at hA hval
 have hA2:=hA
 obtain ⟨v0,v1,d0,d1,p0,p1,rfl,rfl,hp,h0,h1⟩:=trodAll_two hA
 obtain ⟨rfl,rfl⟩:=trodVars_none hV
 obtain ⟨fu0,hf0⟩:=h0
 obtain ⟨q0,l0,k0,rfl⟩:=okWide_slice Tryz.underlying22 (hval 0 _ v0 rfl rfl)
 obtain ⟨a0,w0,r0⟩:=rd_T22 hf0
 have hx0:Rep (MW W) noBk _ _:=r0.2 0 (by simp [Value.cells]) (by simp)
 obtain ⟨fu1,hf1⟩:=h1
 obtain ⟨cs1,rfl,_⟩:=okWide_struct Tryz.underlying24 (hval 1 _ v1 rfl rfl)
 obtain ⟨a1,w1,r1⟩:=rd_T24 hf1
 have hx1:Rep (MW W) noBk (.agg cs1) (.agg [.i a1.ID,.i a1.N,.s a1.User,.s a1.Res,.s a1.Bytes]):=rep_aggL r1 (by intro u hu;simp only [List.mem_cons,List.not_mem_nil,or_false] at hu;rcases hu with rfl | rfl | rfl | rfl | rfl <;> rfl)
 refine (rep_one (callsO_true (p_law31_ConnsChanges_v a0 a1) (tru_ok (connsChanges_all a0 a1))) (maxLen_cell W hsh) (repAr2 hx0 hx1)).mono ?_
 rintro e W' ⟨rfl,bel⟩
 refine ⟨_,rfl,_,_,_,[],p,[],hW',?_,?_,?_,?_,?_⟩
 ·exact trodAll_mk1 (shut_bool Tryz.underlying4 true)
 ·exact trodAll_below laid0 bel (by
   intro t ht
   simp at ht
   rcases ht with rfl | rfl <;> exact ⟨by kernel_rfl,of_decide_eq_true (by kernel_rfl)⟩) hA2
 ·rfl
 ·exact bel.frame _
 ·exact fun h=>by cases h
theorem connsChanges_holds:Rows.ConnsChangesSaid :=
 OpenClaim.holds_of_wide 3 Tryz.f3 rfl rfl rfl rfl rfl rfl rfl ⟨rfl,rfl,rfl,rfl,rfl⟩ rfl rfl rfl rfl rfl connsChanges_named Tryz.func3 connsChanges_closed
  (of_decide_eq_true (by kernel_rfl)) (by unfold Func.isWrapper;first | (rw [if_pos (by decide +kernel)];kernel_rfl) | (rw [if_neg (by decide +kernel)];exact ⟨rfl,rfl⟩))
  (fun os started H enc _=>connsChanges_lifted os started H enc)
#print axioms connsChanges_holds
end Go.Proofs.YtdbigmjlhkgeoaaGreat

