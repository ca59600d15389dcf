/- ConnsKeeps: for every input the call returns true, and its arguments read as they did. -/
import Derived.Test.YtdbigmjlhkgeoaaGreatZhA6
import Derived.Test.YtdbigmjlhkgeoaaGreatZhA10
import Derived.Test.YtdbigmjlhkgeoaaGreatZhA9
import Derived.Test.YtdbigmjlhkgeoaaGreatZeA11
import Derived.KernelRfl
import Derived.Test.YtdbigmjlhkgeoaaGreatZhA1
import Derived.Test.YtdbigmjlhkgeoaaGreatRows
set_option linter.all false
namespace Go.Proofs.YtdbigmjlhkgeoaaGreat
open Go.RowKit
set_option maxRecDepth 1000000
set_option maxHeartbeats 4000000
def gc5:BCode:=(.seq (R_ 0 [O_ 2 (.mv (b_ false)) 0]) (.seq (.seq (R_ 0 [O_ 24 (.mv (t_ 0)) 0,O_ 25 (.lens (t_ 24)) 0,O_ 26 (.bin .gtr (t_ 25) (i_ 100)) 0]) (.cond (t_ 26) (.seq (R_ 0 [O_ 27 (.cl 8 []) 0,O_ 2 (.mv (t_ 27)) 0]) .ret) .skip)) (.seq (R_ 0 [O_ 3 (.mv (.const (.slice none 0 0))) 0]) (.seq (R_ 1 [O_ 4 (.al (.agg [(.lit (.bool false)),(.lit (.string ⟨#[]⟩)),(.lit (.int .i64 0)),(.lit (.bool false)),(.lit (.string ⟨#[]⟩)),(.lit (.int .i64 0)),(.lit (.bool false)),(.lit (.string ⟨#[]⟩)),(.lit (.int .i64 0)),(.lit (.bool false)),(.lit (.string ⟨#[]⟩)),(.lit (.int .i64 0)),(.lit (.bool false)),(.lit (.string ⟨#[]⟩)),(.lit (.int .i64 0)),(.lit (.bool false)),(.lit (.string ⟨#[]⟩)),(.lit (.int .i64 0)),(.lit (.bool false)),(.lit (.string ⟨#[]⟩)),(.lit (.int .i64 0)),(.lit (.bool false)),(.lit (.string ⟨#[]⟩)),(.lit (.int .i64 0)),(.lit (.bool false)),(.lit (.string ⟨#[]⟩)),(.lit (.int .i64 0)),(.lit (.bool false)),(.lit (.string ⟨#[]⟩)),(.lit (.int .i64 0)),(.lit (.bool false)),(.lit (.string ⟨#[]⟩)),(.lit (.int .i64 0)),(.lit (.bool false)),(.lit (.string ⟨#[]⟩)),(.lit (.int .i64 0)),(.lit (.bool false)),(.lit (.string ⟨#[]⟩)),(.lit (.int .i64 0)),(.lit (.bool false)),(.lit (.string ⟨#[]⟩)),(.lit (.int .i64 0)),(.lit (.bool false)),(.lit (.string ⟨#[]⟩)),(.lit (.int .i64 0)),(.lit (.bool false)),(.lit (.string ⟨#[]⟩)),(.lit (.int .i64 0)),(.lit (.bool false)),(.lit (.string ⟨#[]⟩)),(.lit (.int .i64 0)),(.lit (.bool false)),(.lit (.string ⟨#[]⟩)),(.lit (.int .i64 0)),(.lit (.bool false)),(.lit (.string ⟨#[]⟩)),(.lit (.int .i64 0)),(.lit (.bool false)),(.lit (.string ⟨#[]⟩)),(.lit (.int .i64 0))])) 0]) (.seq (.seq (R_ 0 [O_ 5 (.mv (i_ 0)) 0]) (.block 0 (.loop (.seq (.seq (R_ 0 [O_ 28 (.mv (t_ 5)) 0,O_ 29 (.mv (t_ 0)) 0,O_ 30 (.lens (t_ 29)) 0,O_ 31 (.bin .lss (t_ 28) (t_ 30)) 0]) (.cond (t_ 31) .skip (.exit 0))) (.seq (.block 1 (.seq (R_ 0 [O_ 34 (.mv (t_ 0)) 0,O_ 35 (.mv (t_ 5)) 0,O_ 36 (.ixs 4 (t_ 34) (t_ 35)) 0,O_ 37 (.fa 1 (t_ 36)) 0,O_ 38 (.ld 1 false (t_ 37)) 0,O_ 39 (.bin .rem (t_ 38) (.const (.int .u8 20))) 0,O_ 40 (.cvi .i64 (t_ 39)) 0,O_ 6 (.mv (t_ 40)) 0]) (.seq (.reg 2 [O_ 41 (.mv (t_ 0)) 0,O_ 42 (.mv (t_ 5)) 0,O_ 43 (.ixs 4 (t_ 41) (t_ 42)) 0,O_ 44 (.fa 2 (t_ 43)) 0,O_ 45 (.ld 1 false (t_ 44)) 0,O_ 46 (.bin .rem (t_ 45) (.const (.int .u8 3))) 0,O_ 47 (.bin .add (.const (.int .u8 97)) (t_ 46)) 0,O_ 48 (.bs 1 1 [(.lit (.int .u8 0))] [(0,(t_ 47))]) 0,O_ 49 (.b2s (t_ 48)) 1,O_ 50 (.bin .add (t_ 49) (.const (.string ⟨#[64,120]⟩))) 1,O_ 51 (.mv (t_ 0)) 1,O_ 52 (.mv (t_ 5)) 1,O_ 53 (.ixs 4 (t_ 51) (t_ 52)) 1,O_ 54 (.fa 2 (t_ 53)) 1,O_ 55 (.ld 1 false (t_ 54)) 1,O_ 56 (.bin .quo (t_ 55) (.const (.int .u8 3))) 1,O_ 57 (.bin .rem (t_ 56) (.const (.int .u8 3))) 1,O_ 58 (.bin .add (.const (.int .u8 114)) (t_ 57)) 1,O_ 59 (.bs 1 1 [(.lit (.int .u8 0))] [(0,(t_ 58))]) 1,O_ 60 (.b2s (t_ 59)) 2,O_ 7 (.mv (t_ 50)) 2,O_ 8 (.mv (t_ 60)) 2] (some [[],[],[1,0],[0,1,2],[2,1,0,3],[3,0,1,2,4],[4,2,1,0,3,5],[5,3,0,1,2,4,6],[6,4,2,1,0,3,5,7],[7,5,3,0,1,2,4,6,8],[],[],[11,10],[10,11,12],[12,11,10,13],[13,10,11,12,14],[14,12,11,10,13,15],[15,13,10,11,12,14,16],[16,14,12,11,10,13,15,17],[17,15,13,10,11,12,14,16,18],[8,6,4,2,1,0,3,5,7,9],[9,7,5,3,0,1,2,4,6,8,20,18,16,14,12,11,10,13,15,17,19]]) 0 []) (.seq (R_ 0 [O_ 61 (.mv (t_ 7)) 0,O_ 62 (.mv (t_ 8)) 0,O_ 63 (.cl 38 [(t_ 61),(t_ 62)]) 0,O_ 9 (.mv (t_ 63)) 0]) (.seq (R_ 0 [O_ 64 (.mv (t_ 0)) 0,O_ 65 (.mv (t_ 5)) 0,O_ 66 (.ixs 4 (t_ 64) (t_ 65)) 0,O_ 67 (.fa 3 (t_ 66)) 0,O_ 68 (.ld 1 false (t_ 67)) 0,O_ 69 (.cvi .i64 (t_ 68)) 0,O_ 10 (.mv (t_ 69)) 0]) (.seq (R_ 0 [O_ 70 (.mv (t_ 3)) 0,O_ 11 (.mv (t_ 70)) 0,O_ 12 (.mv (b_ false)) 0,O_ 13 (.mv (b_ false)) 0]) (.seq (R_ 1 [O_ 71 (.mv (t_ 6)) 0,O_ 72 (.ixa 20 3 (t_ 4) (t_ 71)) 0,O_ 73 (.ld 3 true (t_ 72)) 0,O_ 14 (.al (.agg [(.lit (.bool false)),(.lit (.string ⟨#[]⟩)),(.lit (.int .i64 0))])) 0,U_ (.st 3 (t_ 14) (t_ 73)) 1]) (.join (.seq (R_ 0 [O_ 74 (.mv (t_ 0)) 0,O_ 75 (.mv (t_ 5)) 0,O_ 76 (.ixs 4 (t_ 74) (t_ 75)) 0,O_ 77 (.fa 0 (t_ 76)) 0,O_ 78 (.ld 1 false (t_ 77)) 0,O_ 79 (.bin .rem (t_ 78) (.const (.int .u8 5))) 0]) (.block 2 (.seq (R_ 0 [O_ 101 (.bin .eql (t_ 79) (.const (.int .u8 0))) 0,O_ 100 (.mv (t_ 101)) 0]) (.cond (t_ 100) (.seq (R_ 0 [O_ 103 (.mv (t_ 3)) 0,O_ 104 (.mv (t_ 6)) 0,O_ 105 (.mv (t_ 10)) 0,O_ 106 (.cl 10 [(t_ 103),(t_ 104),(t_ 105)]) 0,O_ 102 (.mv (t_ 106)) 0,O_ 107 (.ex (t_ 102) 0) 0,O_ 108 (.ex (t_ 102) 1) 0,O_ 15 (.mv (t_ 107)) 0,O_ 16 (.mv (t_ 108)) 0]) (.seq (R_ 0 [O_ 109 (.mv (t_ 15)) 0,O_ 110 (.mv (t_ 16)) 0,O_ 111 (.bin .eql (t_ 110) (i_ 0)) 0,O_ 112 (.fa 0 (t_ 14)) 0,O_ 113 (.ld 1 false (t_ 112)) 0,O_ 114 (.un .not (t_ 113)) 0,O_ 115 (.mv (t_ 114)) 0,⟨(some 116),.mv (t_ 3),(some (115,true)),0⟩,⟨(some 117),.lens (t_ 116),(some (115,true)),0⟩,⟨(some 118),.bin .lss (t_ 117) (i_ 16),(some (115,true)),0⟩,O_ 119 (.pick (t_ 115) (t_ 118) (b_ false)) 0,O_ 11 (.mv (t_ 109)) 0,O_ 12 (.mv (t_ 111)) 0,O_ 13 (.mv (t_ 119)) 0]) (R_ 0 [O_ 120 (.bd [(.lit (.bool false)),(.lit (.string ⟨#[]⟩)),(.lit (.int .i64 0))] [(0,1,(b_ true))]) 0,U_ (.st 3 (t_ 14) (t_ 120)) 0]))) (.seq (R_ 0 [O_ 122 (.bin .eql (t_ 79) (.const (.int .u8 1))) 0,O_ 121 (.mv (t_ 122)) 0]) (.cond (t_ 121) (.seq (R_ 0 [O_ 124 (.mv (t_ 3)) 0,O_ 125 (.mv (t_ 6)) 0,O_ 126 (.cl 12 [(t_ 124),(t_ 125)]) 0,O_ 123 (.mv (t_ 126)) 0,O_ 127 (.ex (t_ 123) 0) 0,O_ 128 (.ex (t_ 123) 1) 0,O_ 129 (.ex (t_ 123) 2) 0,O_ 11 (.mv (t_ 127)) 0,O_ 12 (.mv (t_ 129)) 0]) (.seq (R_ 0 [O_ 130 (.fa 0 (t_ 14)) 0,O_ 131 (.ld 1 false (t_ 130)) 0,O_ 13 (.mv (t_ 131)) 0]) (R_ 0 [O_ 132 (.bd [(.lit (.bool false)),(.lit (.string ⟨#[]⟩)),(.lit (.int .i64 0))] []) 0,U_ (.st 3 (t_ 14) (t_ 132)) 0]))) (.seq (R_ 0 [O_ 134 (.bin .eql (t_ 79) (.const (.int .u8 2))) 0,O_ 133 (.mv (t_ 134)) 0]) (.cond (t_ 133) (.seq (R_ 0 [O_ 136 (.mv (t_ 3)) 0,O_ 137 (.mv (t_ 6)) 0,O_ 138 (.mv (t_ 7)) 0,O_ 139 (.mv (t_ 8)) 0,O_ 140 (.cl 14 [(t_ 136),(t_ 137),(t_ 138),(t_ 139)]) 0,O_ 135 (.mv (t_ 140)) 0,O_ 141 (.ex (t_ 135) 0) 0,O_ 142 (.ex (t_ 135) 1) 0,O_ 17 (.mv (t_ 141)) 0,O_ 18 (.mv (t_ 142)) 0]) (.join (.reg 0 [O_ 143 (.mv (t_ 17)) 0,O_ 144 (.mv (t_ 18)) 0,O_ 145 (.bin .eql (t_ 144) (i_ 0)) 0,O_ 146 (.fa 0 (t_ 14)) 0,O_ 147 (.ld 1 false (t_ 146)) 0,O_ 148 (.mv (t_ 147)) 0,⟨(some 149),.fa 1 (t_ 14),(some (148,true)),0⟩,⟨(some 150),.ld 1 false (t_ 149),(some (148,true)),0⟩,⟨(some 151),.bin .eql (t_ 150) (.const (.string ⟨#[]⟩)),(some (148,true)),0⟩,O_ 152 (.pick (t_ 148) (t_ 151) (b_ false)) 0,O_ 11 (.mv (t_ 143)) 0,O_ 12 (.mv (t_ 145)) 0,O_ 13 (.mv (t_ 152)) 0] (some [[],[],[1],[],[3],[3,4],[4,3,5],[5,3,4,6],[6,4,3,5,7],[7,6,8,4,3,5],[4,3,5,0],[0,5,3,4,10,1,2],[2,1,10,0,11,5,3,4,8,6,7,9]]) 0 []) (.seq (.seq (R_ 0 [O_ 19 (.mv (i_ 0)) 0]) (.block 3 (.loop (.seq (.seq (R_ 0 [O_ 153 (.mv (t_ 19)) 0,O_ 154 (.bin .lss (t_ 153) (i_ 20)) 0]) (.cond (t_ 154) .skip (.exit 3))) (.seq (.block 4 (R_ 0 [O_ 157 (.mv (t_ 13)) 0,O_ 158 (.mv (t_ 157)) 0,⟨(some 159),.mv (t_ 19),(some (158,true)),0⟩,⟨(some 160),.ixa 20 3 (t_ 4) (t_ 159),(some (158,true)),0⟩,⟨(some 161),.fa 1 (t_ 160),(some (158,true)),0⟩,⟨(some 162),.ld 1 false (t_ 161),(some (158,true)),0⟩,⟨(some 163),.mv (t_ 9),(some (158,true)),0⟩,⟨(some 164),.bin .neq (t_ 162) (t_ 163),(some (158,true)),0⟩,O_ 165 (.pick (t_ 158) (t_ 164) (b_ false)) 0,O_ 13 (.mv (t_ 165)) 0])) (R_ 0 [O_ 155 (.mv (t_ 19)) 0,O_ 156 (.bin .add (t_ 155) (i_ 1)) 0,O_ 19 (.mv (t_ 156)) 0])))))) (R_ 0 [O_ 166 (.mv (t_ 9)) 0,O_ 167 (.fa 1 (t_ 14)) 0,U_ (.st 1 (t_ 167) (t_ 166)) 0])))) (.seq (R_ 0 [O_ 169 (.bin .eql (t_ 79) (.const (.int .u8 3))) 0,O_ 168 (.mv (t_ 169)) 0]) (.cond (t_ 168) (.seq (R_ 0 [O_ 171 (.mv (t_ 3)) 0,O_ 172 (.mv (t_ 6)) 0,O_ 173 (.mv (t_ 10)) 0,O_ 174 (.cl 18 [(t_ 171),(t_ 172),(t_ 173)]) 0,O_ 170 (.mv (t_ 174)) 0,O_ 175 (.ex (t_ 170) 0) 0,O_ 176 (.ex (t_ 170) 1) 0,O_ 11 (.mv (t_ 175)) 0,O_ 12 (.mv (t_ 176)) 0]) (.seq (R_ 0 [O_ 177 (.fa 0 (t_ 14)) 0,O_ 178 (.ld 1 false (t_ 177)) 0,O_ 13 (.mv (t_ 178)) 0]) (R_ 0 [O_ 179 (.fa 2 (t_ 14)) 0,O_ 180 (.ld 1 false (t_ 179)) 0,O_ 181 (.mv (t_ 10)) 0,O_ 182 (.bin .add (t_ 180) (t_ 181)) 0,O_ 183 (.mn false (i_ 1048576) (t_ 182)) 0,O_ 184 (.fa 2 (t_ 14)) 0,U_ (.st 1 (t_ 184) (t_ 183)) 0]))) (.seq (R_ 0 [O_ 81 (.mv (t_ 3)) 0,O_ 82 (.mv (t_ 6)) 0,O_ 83 (.mv (t_ 10)) 0,O_ 84 (.cl 20 [(t_ 81),(t_ 82),(t_ 83)]) 0,O_ 80 (.mv (t_ 84)) 0,O_ 85 (.ex (t_ 80) 0) 0,O_ 86 (.ex (t_ 80) 1) 0,O_ 11 (.mv (t_ 85)) 0,O_ 12 (.mv (t_ 86)) 0]) (.seq (R_ 0 [O_ 87 (.fa 0 (t_ 14)) 0,O_ 88 (.ld 1 false (t_ 87)) 0,O_ 89 (.mv (t_ 88)) 0,⟨(some 90),.mv (t_ 10),(some (89,true)),0⟩,⟨(some 91),.fa 2 (t_ 14),(some (89,true)),0⟩,⟨(some 92),.ld 1 false (t_ 91),(some (89,true)),0⟩,⟨(some 93),.bin .leq (t_ 90) (t_ 92),(some (89,true)),0⟩,O_ 94 (.pick (t_ 89) (t_ 93) (b_ false)) 0,O_ 13 (.mv (t_ 94)) 0]) (R_ 0 [O_ 95 (.fa 2 (t_ 14)) 0,O_ 96 (.ld 1 false (t_ 95)) 0,O_ 97 (.mv (t_ 10)) 0,O_ 98 (.bin .sub (t_ 96) (t_ 97)) 0,O_ 99 (.fa 2 (t_ 14)) 0,U_ (.st 1 (t_ 99) (t_ 98)) 0]))))))))))))) (.join (.seq (R_ 0 [O_ 185 (.mv (t_ 12)) 0,O_ 186 (.mv (t_ 13)) 0,O_ 187 (.binb true (t_ 185) (t_ 186)) 0,O_ 188 (.mv (t_ 187)) 0,⟨(some 189),.mv (t_ 11),(some (188,false)),0⟩,⟨(some 190),.cl 30 [(t_ 189)],(some (188,false)),0⟩,⟨(some 191),.bin .neq (t_ 190) (i_ 0),(some (188,false)),0⟩,O_ 192 (.pick (t_ 188) (b_ true) (t_ 191)) 0,O_ 193 (.mv (t_ 192)) 0,⟨(some 194),.mv (t_ 12),(some (193,false)),0⟩,⟨(some 195),.un .not (t_ 194),(some (193,false)),0⟩,⟨(some 196),.mv (t_ 195),(some (193,false)),0⟩,⟨(some 197),.mv (t_ 11),(some (196,true)),0⟩,⟨(some 198),.mv (t_ 3),(some (196,true)),0⟩,⟨(some 199),.cl 37 [(t_ 197),(t_ 198)],(some (196,true)),0⟩,⟨(some 200),.un .not (t_ 199),(some (196,true)),0⟩,⟨(some 201),.pick (t_ 196) (t_ 200) (b_ false),(some (193,false)),0⟩,O_ 202 (.pick (t_ 193) (b_ true) (t_ 201)) 0]) (.cond (t_ 202) (.seq (R_ 0 [O_ 2 (.mv (b_ false)) 0]) .ret) .skip)) (.join (.seq (R_ 0 [O_ 203 (.mv (t_ 12)) 0]) (.cond (t_ 203) (R_ 0 [O_ 204 (.mv (t_ 6)) 0,O_ 205 (.ld 3 true (t_ 14)) 0,O_ 206 (.ixa 20 3 (t_ 4) (t_ 204)) 0,U_ (.st 3 (t_ 206) (t_ 205)) 0]) .skip)) (.seq (R_ 0 [O_ 20 (.mv (i_ 0)) 0]) (.seq (.seq (R_ 0 [O_ 21 (.mv (i_ 0)) 0]) (.block 5 (.loop (.seq (.seq (R_ 0 [O_ 207 (.mv (t_ 21)) 0,O_ 208 (.bin .lss (t_ 207) (i_ 20)) 0]) (.cond (t_ 208) .skip (.exit 5))) (.seq (.block 6 (.seq (R_ 1 [O_ 212 (.mv (t_ 11)) 0,O_ 213 (.mv (t_ 21)) 0,O_ 214 (.cl 26 [(t_ 212),(t_ 213)]) 0,O_ 211 (.mv (t_ 214)) 0,O_ 215 (.ex (t_ 211) 0) 0,O_ 216 (.ex (t_ 211) 1) 0,O_ 22 (.al (.agg [(.lit (.int .i64 0)),(.lit (.int .i64 0)),(.lit (.string ⟨#[]⟩)),(.lit (.string ⟨#[]⟩)),(.lit (.int .i64 0)),(.lit (.string ⟨#[]⟩)),(.lit (.int .i64 0)),(.lit (.int .i64 0))])) 0,U_ (.st 8 (t_ 22) (t_ 215)) 1,O_ 23 (.mv (t_ 216)) 1]) (.seq (.seq (.reg 0 [O_ 217 (.mv (t_ 23)) 0,O_ 218 (.mv (t_ 21)) 0,O_ 219 (.ixa 20 3 (t_ 4) (t_ 218)) 0,O_ 220 (.fa 0 (t_ 219)) 0,O_ 221 (.ld 1 false (t_ 220)) 0,O_ 222 (.binb true (t_ 217) (t_ 221)) 0,O_ 223 (.mv (t_ 222)) 0,⟨(some 224),.mv (t_ 23),(some (223,false)),0⟩,⟨(some 225),.mv (t_ 224),(some (223,false)),0⟩,⟨(some 226),.ld 8 true (t_ 22),(some (225,true)),0⟩,⟨(some 227),.cl 35 [(t_ 226)],(some (225,true)),0⟩,⟨(some 228),.mv (t_ 21),(some (225,true)),0⟩,⟨(some 229),.ixa 20 3 (t_ 4) (t_ 228),(some (225,true)),0⟩,⟨(some 230),.fa 1 (t_ 229),(some (225,true)),0⟩,⟨(some 231),.ld 1 false (t_ 230),(some (225,true)),0⟩,⟨(some 232),.bin .neq (t_ 227) (t_ 231),(some (225,true)),0⟩,⟨(some 233),.mv (t_ 232),(some (225,true)),0⟩,⟨(some 234),.fa 4 (t_ 22),(some (233,false)),0⟩,⟨(some 235),.ld 1 false (t_ 234),(some (233,false)),0⟩,⟨(some 236),.mv (t_ 21),(some (233,false)),0⟩,⟨(some 237),.ixa 20 3 (t_ 4) (t_ 236),(some (233,false)),0⟩,⟨(some 238),.fa 2 (t_ 237),(some (233,false)),0⟩,⟨(some 239),.ld 1 false (t_ 238),(some (233,false)),0⟩,⟨(some 240),.bin .neq (t_ 235) (t_ 239),(some (233,false)),0⟩,⟨(some 241),.pick (t_ 233) (b_ true) (t_ 240),(some (225,true)),0⟩,⟨(some 242),.pick (t_ 225) (t_ 241) (b_ false),(some (223,false)),0⟩,O_ 243 (.pick (t_ 223) (b_ true) (t_ 242)) 0] (some [[],[],[1],[1,2],[2,1,3],[3,1,2,4,0],[0,4,2,1,3,5],[5,3,1,2,4,0,6],[6,0,4,2,1,3,5,7],[7,5,3,1,2,4,0,6,8],[8,6,0,4,2,1,3,5,7,9],[7,5,3,1,2,4,0,6,8],[8,6,0,4,2,1,3,5,7,11],[11,7,5,3,1,2,4,0,6,8,12],[12,8,6,0,4,2,1,3,5,7,11,13],[13,11,12,14,9,7,5,3,1,2,4,0,6,8,10],[10,8,6,0,4,2,1,3,5,7,9,14,12,11,13,15],[15,13,11,12,14,9,7,5,3,1,2,4,0,6,8,10,16],[16,10,8,6,0,4,2,1,3,5,7,9,14,12,11,13,15,17],[15,13,11,12,14,9,7,5,3,1,2,4,0,6,8,10,16],[16,10,8,6,0,4,2,1,3,5,7,9,14,12,11,13,15,19],[19,15,13,11,12,14,9,7,5,3,1,2,4,0,6,8,10,16,20],[20,16,10,8,6,0,4,2,1,3,5,7,9,14,12,11,13,15,19,21],[21,19,20,22,17,15,13,11,12,14,9,7,5,3,1,2,4,0,6,8,10,16,18],[18,17,22,20,19,21,23,15,13,11,12,14,9,7,5,3,1,2,4,0,6,8,10,16],[16,10,9,14,12,11,13,15,23,21,19,20,22,17,18,24,7,5,3,1,2,4,0,6,8],[8,7,24,18,17,22,20,19,21,23,15,13,11,12,14,9,10,16,25,5,3,1,2,4,0,6]]) 0 []) (.cond (t_ 243) (.seq (R_ 0 [O_ 2 (.mv (b_ false)) 0]) .ret) .skip)) (.seq (R_ 0 [O_ 244 (.mv (t_ 23)) 0]) (.cond (t_ 244) (R_ 0 [O_ 245 (.mv (t_ 20)) 0,O_ 246 (.bin .add (t_ 245) (i_ 1)) 0,O_ 20 (.mv (t_ 246)) 0]) .skip))))) (R_ 0 [O_ 209 (.mv (t_ 21)) 0,O_ 210 (.bin .add (t_ 209) (i_ 1)) 0,O_ 21 (.mv (t_ 210)) 0])))))) (.seq (.seq (R_ 0 [O_ 247 (.mv (t_ 20)) 0,O_ 248 (.mv (t_ 11)) 0,O_ 249 (.lens (t_ 248)) 0,O_ 250 (.bin .neq (t_ 247) (t_ 249)) 0]) (.cond (t_ 250) (.seq (R_ 0 [O_ 2 (.mv (b_ false)) 0]) .ret) .skip)) (R_ 0 [O_ 251 (.mv (t_ 11)) 0,O_ 3 (.mv (t_ 251)) 0])))))))))))))) (R_ 0 [O_ 32 (.mv (t_ 5)) 0,O_ 33 (.bin .add (t_ 32) (i_ 1)) 0,O_ 5 (.mv (t_ 33)) 0])))))) (.seq (R_ 0 [O_ 252 (.cl 8 []) 0,O_ 2 (.mv (t_ 252)) 0]) .ret))))))
theorem gc5_ok:compF Tryz.prog Tryz.f5=some (gc5.er,253,[.tmp 2]):=by unfold gc5;kernel_rfl
theorem p_law31_ConnsKeeps_v {u1:Bool} (a0:List Law31Deed):CallsO Tryz.prog 5 [.sl (List.map Law31Deed.v a0) u1] V.b (tru? (p_law31_ConnsKeeps a0)):=by
 refine callsO_comp mix Tryz.func5 gc5_ok fun r H=>?_
 have H1:=tru_of H
 clear H
 obtain ⟨rfl,H⟩:=H1
 rw [p_law31_ConnsKeeps] at H
 conv=>whnf
 refine LenQ.M ?_;conv=>whnf
 refine tst_c H (fun b1 H=>?_) (fun b1 H=>?_)
 ·conv=>whnf
  refine ask_c (p_law31_awake_v) H rfl rfl (fun v2 H=>?_);conv=>whnf
  exact fb_ H
 conv=>whnf
 obtain ⟨o4,HL5,HQ6⟩:=bind_c H
 refine loop_c [2,3,5] [6,7,8,9,10,11,12,13,14,15,16,17,18,19,20,21,22,23,28,29,30,31,32,33,34,35,36,37,38,39,40,41,42,43,44,45,46,47,48,49,50,51,52,53,54,55,56,57,58,59,60,61,62,63,64,65,66,67,68,69,70,71,72,73,74,75,76,77,78,79,80,81,82,83,84,85,86,87,88,89,90,91,92,93,94,95,96,97,98,99,100,101,102,103,104,105,106,107,108,109,110,111,112,113,114,115,116,117,118,119,120,121,122,123,124,125,126,127,128,129,130,131,132,133,134,135,136,137,138,139,140,141,142,143,144,145,146,147,148,149,150,151,152,153,154,155,156,157,158,159,160,161,162,163,164,165,166,167,168,169,170,171,172,173,174,175,176,177,178,179,180,181,182,183,184,185,186,187,188,189,190,191,192,193,194,195,196,197,198,199,200,201,202,203,204,205,206,207,208,209,210,211,212,213,214,215,216,217,218,219,220,221,222,223,224,225,226,227,228,229,230,231,232,233,234,235,236,237,238,239,240,241,242,243,244,245,246,247,248,249,250,251] [6,7,8,9,10,11,12,13,14,15,16,17,18,19,20,21,22,23,28,29,30,31,32,33,34,35,36,37,38,39,40,41,42,43,44,45,46,47,48,49,50,51,52,53,54,55,56,57,58,59,60,61,62,63,64,65,66,67,68,69,70,71,72,73,74,75,76,77,78,79,80,81,82,83,84,85,86,87,88,89,90,91,92,93,94,95,96,97,98,99,100,101,102,103,104,105,106,107,108,109,110,111,112,113,114,115,116,117,118,119,120,121,122,123,124,125,126,127,128,129,130,131,132,133,134,135,136,137,138,139,140,141,142,143,144,145,146,147,148,149,150,151,152,153,154,155,156,157,158,159,160,161,162,163,164,165,166,167,168,169,170,171,172,173,174,175,176,177,178,179,180,181,182,183,184,185,186,187,188,189,190,191,192,193,194,195,196,197,198,199,200,201,202,203,204,205,206,207,208,209,210,211,212,213,214,215,216,217,218,219,220,221,222,223,224,225,226,227,228,229,230,231,232,233,234,235,236,237,238,239,240,241,242,243,244,245,246,247,248,249,250,251] (fun n vals st=>(∃ y8 y9,p_law31_ConnsKeeps_l1  a0 n [] y8 y9=some o4∧vals=[.b false,.sl (List.map ConnsConn.v []) true,.i y8]∧st=[.live (cellsM Law31One.v y9) 0])∨(∃ y113 y114 y115,p_law31_ConnsKeeps_l1  a0 n y113 y114 y115=some o4∧vals=[.b false,.sl (List.map ConnsConn.v y113) false,.i y114]∧st=[.live (cellsM Law31One.v y115) 0])) fuel 1 [] (.inl (⟨_,_,HL5,rfl,rfl⟩)) (Nat.zero_le _) rfl (by kernel_rfl) (by kernel_rfl) rfl (wkB_live0 rfl (cellsM_idlt (f:=Law31One.v) (fun _=>rfl) _) rfl trivial) ?_
 rintro (_ | n7) _ _ (⟨y8,y9,H,rfl,rfl⟩ | ⟨y113,y114,y115,H,rfl,rfl⟩)
 ·rw [p_law31_ConnsKeeps_l1] at H;cases H
 ·rw [p_law31_ConnsKeeps_l1] at H;cases H
 ·rw [p_law31_ConnsKeeps_l1] at H
  conv=>whnf
  refine LenQ.M ?_;conv=>whnf
  refine tst_d H (fun b10 H=>?_) (fun b10 H=>?_)
  ·conv=>whnf
   obtain rfl:=Option.some.inj H
   have H:=HQ6
   try dsimp only at H
   refine ask_c (p_law31_awake_v) H rfl rfl (fun v116 H=>?_);conv=>whnf
   exact fb_ H
  conv=>whnf
  refine ixs_c (f:=Law31Deed.v) H (fun _=>rfl) (fun x11 H=>?_);conv=>whnf
  refine lq_ ?_;conv=>whnf
  refine ⟨by decide,?_⟩;conv=>whnf
  refine Ari.w ?_;conv=>whnf
  refine ixs_c (f:=Law31Deed.v) H (fun _=>rfl) (fun x12 H=>?_);conv=>whnf
  refine lq_ ?_;conv=>whnf
  refine ⟨by decide,?_⟩;conv=>whnf
  refine Ari.w ?_;conv=>whnf
  refine b2sO_c H rfl rfl rfl (fun s13 H=>?_);conv=>whnf
  refine cat_c H (fun s14 H=>?_);conv=>whnf
  refine ixs_c (f:=Law31Deed.v) H (fun _=>rfl) (fun x15 H=>?_);conv=>whnf
  refine lq_ ?_;conv=>whnf
  refine ⟨by decide,Ari.w ?_⟩;conv=>whnf
  refine ⟨by decide,?_⟩;conv=>whnf
  refine Ari.w ?_;conv=>whnf
  refine b2sO_c H rfl rfl rfl (fun s16 H=>?_);conv=>whnf
  refine FootQ.mk ⟨rfl,?_⟩;conv=>whnf
  refine ask_c (p_pres_Key_v _ _) H rfl rfl (fun v17 H=>?_);conv=>whnf
  refine ixs_c (f:=Law31Deed.v) H (fun _=>rfl) (fun x18 H=>?_);conv=>whnf
  refine lq_ ?_;conv=>whnf
  refine Ari.w ?_;conv=>whnf
  refine ixa_c H (fun x19 h20 H=>?_);conv=>whnf
  refine ldo_c (f:=Law31One.v) (es:=3) h20 (fun _=>rfl) 0 (by omega) (by decide) ?_;conv=>whnf
  refine lq_ ?_;conv=>whnf
  obtain ⟨K21,hK22,o23,HL24,HQ25⟩:=join0_c H
  refine join_c [11,12,13,4,14] [15,16,17,18,19,74,75,76,77,78,79,80,81,82,83,84,85,86,87,88,89,90,91,92,93,94,95,96,97,98,99,100,101,102,103,104,105,106,107,108,109,110,111,112,113,114,115,116,117,118,119,120,121,122,123,124,125,126,127,128,129,130,131,132,133,134,135,136,137,138,139,140,141,142,143,144,145,146,147,148,149,150,151,152,153,154,155,156,157,158,159,160,161,162,163,164,165,166,167,168,169,170,171,172,173,174,175,176,177,178,179,180,181,182,183,184,48,59,72] (fun vals st=>(∃ y31 y32 y33 y34,K21 (y31,y32,y33,y34)=some o4∧vals=[.sl (List.map ConnsConn.v y31) false,.b y32,.b y33,.ptr 0 0,.ptr 1 0]∧st=[.live (cellsM Law31One.v y9) 0,.live [.b y34.open_,.s y34.key,.i y34.credit] 0])) ?_ ?_
  ·have H:=HL24
   conv=>whnf
   refine ixs_c (f:=Law31Deed.v) H (fun _=>rfl) (fun x27 H=>?_);conv=>whnf
   refine lq_ ?_;conv=>whnf
   refine ⟨by decide,?_⟩;conv=>whnf
   refine tst_c H (fun b28 H=>?_) (fun b28 H=>?_)
   ·conv=>whnf
    refine ask_c (p_conns_Open_v _ _ _) H rfl rfl (fun v29 H=>?_);conv=>whnf
    refine Tst.not ?_
    refine tst_c H (fun b30 H=>?_) (fun b30 H=>?_)
    ·conv=>whnf
     iterate 3 (refine Tst.F ?_;conv=>whnf)
     refine lq_ ?_;conv=>whnf
     obtain rfl:=Option.some.inj H
     exact arrive_c [15,16,17,18,19,74,75,76,77,78,79,80,81,82,83,84,85,86,87,88,89,90,91,92,93,94,95,96,97,98,99,100,101,102,103,104,105,106,107,108,109,110,111,112,113,114,115,116,117,118,119,120,121,122,123,124,125,126,127,128,129,130,131,132,133,134,135,136,137,138,139,140,141,142,143,144,145,146,147,148,149,150,151,152,153,154,155,156,157,158,159,160,161,162,163,164,165,166,167,168,169,170,171,172,173,174,175,176,177,178,179,180,181,182,183,184,48,59,72] 2 [0,3] (⟨_,_,_,_,HQ25,rfl,rfl⟩) (Nat.zero_le _) rfl (by kernel_rfl) (by kernel_rfl) rfl (wkB_live0 rfl (cellsM_idlt (f:=Law31One.v) (fun _=>rfl) _) rfl ⟨⟨rfl,rfl,rfl⟩,trivial⟩)
    conv=>whnf
    refine Tst.T ?_;conv=>whnf
    refine LenQ.ok ?_;conv=>whnf
    iterate 2 (refine Tst.T ?_;conv=>whnf)
    refine lq_ ?_;conv=>whnf
    obtain rfl:=Option.some.inj H
    exact arrive_c [15,16,17,18,19,74,75,76,77,78,79,80,81,82,83,84,85,86,87,88,89,90,91,92,93,94,95,96,97,98,99,100,101,102,103,104,105,106,107,108,109,110,111,112,113,114,115,116,117,118,119,120,121,122,123,124,125,126,127,128,129,130,131,132,133,134,135,136,137,138,139,140,141,142,143,144,145,146,147,148,149,150,151,152,153,154,155,156,157,158,159,160,161,162,163,164,165,166,167,168,169,170,171,172,173,174,175,176,177,178,179,180,181,182,183,184,48,59,72] 2 [0,3] (⟨_,_,_,_,HQ25,rfl,rfl⟩) (Nat.zero_le _) rfl (by kernel_rfl) (by kernel_rfl) rfl (wkB_live0 rfl (cellsM_idlt (f:=Law31One.v) (fun _=>rfl) _) rfl ⟨⟨rfl,rfl,rfl⟩,trivial⟩)
   conv=>whnf
   refine tst_c H (fun b35 H=>?_) (fun b35 H=>?_)
   ·conv=>whnf
    refine ask_c (p_conns_Close_v _ _) H rfl rfl (fun v36 H=>?_);conv=>whnf
    refine lq_ ?_;conv=>whnf
    obtain rfl:=Option.some.inj H
    exact arrive_c [15,16,17,18,19,74,75,76,77,78,79,80,81,82,83,84,85,86,87,88,89,90,91,92,93,94,95,96,97,98,99,100,101,102,103,104,105,106,107,108,109,110,111,112,113,114,115,116,117,118,119,120,121,122,123,124,125,126,127,128,129,130,131,132,133,134,135,136,137,138,139,140,141,142,143,144,145,146,147,148,149,150,151,152,153,154,155,156,157,158,159,160,161,162,163,164,165,166,167,168,169,170,171,172,173,174,175,176,177,178,179,180,181,182,183,184,48,59,72] 2 [0,3] (⟨_,_,_,_,HQ25,rfl,rfl⟩) (Nat.zero_le _) rfl (by kernel_rfl) (by kernel_rfl) rfl (wkB_live0 rfl (cellsM_idlt (f:=Law31One.v) (fun _=>rfl) _) rfl ⟨⟨rfl,rfl,rfl⟩,trivial⟩)
   conv=>whnf
   refine tst_d H (fun b37 H=>?_) (fun b37 H=>?_)
   ·conv=>whnf
    refine tst_c H (fun b62 H=>?_) (fun b62 H=>?_)
    ·conv=>whnf
     refine ask_c (p_conns_Give_v _ _ _) H rfl rfl (fun v63 H=>?_);conv=>whnf
     refine Ari.w ?_;conv=>whnf
     refine lq_ ?_;conv=>whnf
     obtain rfl:=Option.some.inj H
     exact arrive_c [15,16,17,18,19,74,75,76,77,78,79,80,81,82,83,84,85,86,87,88,89,90,91,92,93,94,95,96,97,98,99,100,101,102,103,104,105,106,107,108,109,110,111,112,113,114,115,116,117,118,119,120,121,122,123,124,125,126,127,128,129,130,131,132,133,134,135,136,137,138,139,140,141,142,143,144,145,146,147,148,149,150,151,152,153,154,155,156,157,158,159,160,161,162,163,164,165,166,167,168,169,170,171,172,173,174,175,176,177,178,179,180,181,182,183,184,48,59,72] 2 [0,3] (⟨_,_,_,_,HQ25,rfl,rfl⟩) (Nat.zero_le _) rfl (by kernel_rfl) (by kernel_rfl) rfl (wkB_live0 rfl (cellsM_idlt (f:=Law31One.v) (fun _=>rfl) _) rfl ⟨⟨rfl,rfl,rfl⟩,trivial⟩)
    conv=>whnf
    refine ask_c (p_conns_Spend_v _ _ _) H rfl rfl (fun v64 H=>?_);conv=>whnf
    refine tst_c H (fun b65 H=>?_) (fun b65 H=>?_)
    ·conv=>whnf
     iterate 4 (refine Tst.T ?_;conv=>whnf)
     refine Ari.w ?_;conv=>whnf
     refine lq_ ?_;conv=>whnf
     obtain rfl:=Option.some.inj H
     exact arrive_c [15,16,17,18,19,74,75,76,77,78,79,80,81,82,83,84,85,86,87,88,89,90,91,92,93,94,95,96,97,98,99,100,101,102,103,104,105,106,107,108,109,110,111,112,113,114,115,116,117,118,119,120,121,122,123,124,125,126,127,128,129,130,131,132,133,134,135,136,137,138,139,140,141,142,143,144,145,146,147,148,149,150,151,152,153,154,155,156,157,158,159,160,161,162,163,164,165,166,167,168,169,170,171,172,173,174,175,176,177,178,179,180,181,182,183,184,48,59,72] 2 [0,3] (⟨_,_,_,_,HQ25,rfl,rfl⟩) (Nat.zero_le _) rfl (by kernel_rfl) (by kernel_rfl) rfl (wkB_live0 rfl (cellsM_idlt (f:=Law31One.v) (fun _=>rfl) _) rfl ⟨⟨rfl,rfl,rfl⟩,trivial⟩)
    conv=>whnf
    iterate 4 (refine Tst.F ?_;conv=>whnf)
    refine Ari.w ?_;conv=>whnf
    refine lq_ ?_;conv=>whnf
    obtain rfl:=Option.some.inj H
    exact arrive_c [15,16,17,18,19,74,75,76,77,78,79,80,81,82,83,84,85,86,87,88,89,90,91,92,93,94,95,96,97,98,99,100,101,102,103,104,105,106,107,108,109,110,111,112,113,114,115,116,117,118,119,120,121,122,123,124,125,126,127,128,129,130,131,132,133,134,135,136,137,138,139,140,141,142,143,144,145,146,147,148,149,150,151,152,153,154,155,156,157,158,159,160,161,162,163,164,165,166,167,168,169,170,171,172,173,174,175,176,177,178,179,180,181,182,183,184,48,59,72] 2 [0,3] (⟨_,_,_,_,HQ25,rfl,rfl⟩) (Nat.zero_le _) rfl (by kernel_rfl) (by kernel_rfl) rfl (wkB_live0 rfl (cellsM_idlt (f:=Law31One.v) (fun _=>rfl) _) rfl ⟨⟨rfl,rfl,rfl⟩,trivial⟩)
   conv=>whnf
   refine ask_c (p_conns_Login_v _ _ _ _) H rfl rfl (fun v38 H=>?_);conv=>whnf
   obtain ⟨K39,hK40,o41,HL42,HQ43⟩:=join0_c H
   refine join_c [11,12,13,4,14] [143,144,145,146,147,148,149,150,151,152,48,59,72] (fun vals st=>(∃ y46,K39 y46=some o23∧vals=[.sl (List.map ConnsConn.v v38.1) false,.b (v38.2 == (0:Int)),.b y46,.ptr 0 0,.ptr 1 0]∧st=[.live (cellsM Law31One.v y9) 0,.live [.b x19.open_,.s x19.key,.i x19.credit] 0])) ?_ ?_
   ·have H:=HL42
    conv=>whnf
    refine tst_c H (fun b45 H=>?_) (fun b45 H=>?_)
    ·conv=>whnf
     iterate 3 (refine Tst.T ?_;conv=>whnf)
     refine FootQ.mk ⟨rfl,?_⟩;conv=>whnf
     obtain rfl:=Option.some.inj H
     exact arrive_c [143,144,145,146,147,148,149,150,151,152,48,59,72] 2 [0,3] (⟨_,HQ43,rfl,rfl⟩) (Nat.zero_le _) rfl (by kernel_rfl) (by kernel_rfl) rfl (wkB_live0 rfl (cellsM_idlt (f:=Law31One.v) (fun _=>rfl) _) rfl ⟨⟨rfl,rfl,rfl⟩,trivial⟩)
    conv=>whnf
    iterate 3 (refine Tst.F ?_;conv=>whnf)
    refine FootQ.mk ⟨rfl,?_⟩;conv=>whnf
    obtain rfl:=Option.some.inj H
    exact arrive_c [143,144,145,146,147,148,149,150,151,152,48,59,72] 2 [0,3] (⟨_,HQ43,rfl,rfl⟩) (Nat.zero_le _) rfl (by kernel_rfl) (by kernel_rfl) rfl (wkB_live0 rfl (cellsM_idlt (f:=Law31One.v) (fun _=>rfl) _) rfl ⟨⟨rfl,rfl,rfl⟩,trivial⟩)
   rintro _ _ (⟨y46,H,rfl,rfl⟩)
   rw [hK40] at H
   try dsimp only at H
   conv=>whnf
   obtain ⟨o48,HL49,HQ50⟩:=bind_c H
   refine loop_c [13,19] [153,154,155,156,157,158,159,160,161,162,163,164,165] [153,154,155,156,157,158,159,160,161,162,163,164,165] (fun n vals st=>(∃ y52 y53,p_law31_ConnsKeeps_l2  v17 y9 n y52 y53=some o48∧vals=[.b y52,.i y53]∧st=[.live (cellsM Law31One.v y9) 0,.live [.b x19.open_,.s x19.key,.i x19.credit] 0])) fuel 2 [] (⟨_,_,HL49,rfl,rfl⟩) (Nat.zero_le _) rfl (by kernel_rfl) (by kernel_rfl) rfl (wkB_live0 rfl (cellsM_idlt (f:=Law31One.v) (fun _=>rfl) _) rfl ⟨⟨rfl,rfl,rfl⟩,trivial⟩) ?_
   rintro (_ | n51) _ _ (⟨y52,y53,H,rfl,rfl⟩)
   ·rw [p_law31_ConnsKeeps_l2] at H;cases H
   rw [p_law31_ConnsKeeps_l2] at H
   conv=>whnf
   refine tst_d H (fun b54 H=>?_) (fun b54 H=>?_)
   ·conv=>whnf
    obtain rfl:=Option.some.inj H
    have H:=HQ50
    try dsimp only at H
    refine lq_ ?_;conv=>whnf
    obtain rfl:=Option.some.inj H
    exact arrive_c [15,16,17,18,19,74,75,76,77,78,79,80,81,82,83,84,85,86,87,88,89,90,91,92,93,94,95,96,97,98,99,100,101,102,103,104,105,106,107,108,109,110,111,112,113,114,115,116,117,118,119,120,121,122,123,124,125,126,127,128,129,130,131,132,133,134,135,136,137,138,139,140,141,142,143,144,145,146,147,148,149,150,151,152,153,154,155,156,157,158,159,160,161,162,163,164,165,166,167,168,169,170,171,172,173,174,175,176,177,178,179,180,181,182,183,184,48,59,72] 2 [] (⟨_,_,_,_,HQ25,rfl,rfl⟩) (Nat.zero_le _) rfl (by kernel_rfl) (by kernel_rfl) rfl (wkB_live0 rfl (cellsM_idlt (f:=Law31One.v) (fun _=>rfl) _) rfl ⟨⟨rfl,rfl,rfl⟩,trivial⟩)
   conv=>whnf
   refine tst_d H (fun b55 H=>?_) (fun b55 H=>?_)
   ·conv=>whnf
    iterate 6 (refine Tst.F ?_;conv=>whnf)
    refine Ari.w ?_;conv=>whnf
    exact again_c [153,154,155,156,157,158,159,160,161,162,163,164,165] n51 2 [] (⟨_,_,H,rfl,rfl⟩) (Nat.lt_succ_self _) (Nat.zero_le _) rfl (by kernel_rfl) (by kernel_rfl) rfl (wkB_live0 rfl (cellsM_idlt (f:=Law31One.v) (fun _=>rfl) _) rfl ⟨⟨rfl,rfl,rfl⟩,trivial⟩)
   conv=>whnf
   refine Tst.T ?_;conv=>whnf
   refine ixa_c H (fun x56 h57 H=>?_);conv=>whnf
   iterate 2 (refine Tst.T ?_;conv=>whnf)
   refine ldo_c (f:=Law31One.v) (es:=3) h57 (fun _=>rfl) 1 (by omega) (by decide) ?_;conv=>whnf
   iterate 3 (refine Tst.T ?_;conv=>whnf)
   refine Ari.w ?_;conv=>whnf
   exact again_c [153,154,155,156,157,158,159,160,161,162,163,164,165] n51 2 [] (⟨_,_,H,rfl,rfl⟩) (Nat.lt_succ_self _) (Nat.zero_le _) rfl (by kernel_rfl) (by kernel_rfl) rfl (wkB_live0 rfl (cellsM_idlt (f:=Law31One.v) (fun _=>rfl) _) rfl ⟨⟨rfl,rfl,rfl⟩,trivial⟩)
  rintro _ _ (⟨y31,y32,y33,y34,H,rfl,rfl⟩)
  rw [hK22] at H
  try dsimp only at H
  conv=>whnf
  obtain ⟨K66,hK67,o68,HL69,HQ70⟩:=join0_c H
  refine join_c [2,4,14] [185,186,187,188,189,190,191,192,193,194,195,196,197,198,199,200,201,202] (fun vals st=>(K66 (.inr ())=some o4∧vals=[.b false,.ptr 0 0,.ptr 1 0]∧st=[.live (cellsM Law31One.v y9) 0,.live [.b y34.open_,.s y34.key,.i y34.credit] 0])) ?_ ?_
  ·have H:=HL69
   conv=>whnf
   refine tst_c H (fun b72 H=>?_) (fun b72 H=>?_)
   ·conv=>whnf
    iterate 9 (refine Tst.T ?_;conv=>whnf)
    obtain rfl:=Option.some.inj H
    have H:=HQ70
    rw [hK67] at H
    try dsimp only at H
    obtain rfl:=Option.some.inj H
    have H:=HQ6
    try dsimp only at H
    exact fb_ H
   conv=>whnf
   refine Tst.F ?_;conv=>whnf
   refine ask_c (p_conns_Check_v _) H rfl rfl (fun v73 H=>?_);conv=>whnf
   iterate 2 (refine Tst.F ?_;conv=>whnf)
   refine tst_c H (fun b74 H=>?_) (fun b74 H=>?_)
   ·conv=>whnf
    iterate 5 (refine Tst.T ?_;conv=>whnf)
    obtain rfl:=Option.some.inj H
    have H:=HQ70
    rw [hK67] at H
    try dsimp only at H
    obtain rfl:=Option.some.inj H
    have H:=HQ6
    try dsimp only at H
    exact fb_ H
   conv=>whnf
   iterate 2 (refine Tst.F ?_;conv=>whnf)
   refine Tst.not ?_
   refine tst_c H (fun b75 H=>?_) (fun b75 H=>?_)
   ·conv=>whnf
    iterate 7 (refine Tst.F ?_;conv=>whnf)
    obtain rfl:=Option.some.inj H
    exact arrive_c [185,186,187,188,189,190,191,192,193,194,195,196,197,198,199,200,201,202] 2 [] (⟨HQ70,rfl,rfl⟩) (Nat.zero_le _) rfl (by kernel_rfl) (by kernel_rfl) rfl (wkB_live0 rfl (cellsM_idlt (f:=Law31One.v) (fun _=>rfl) _) rfl ⟨⟨rfl,rfl,rfl⟩,trivial⟩)
   conv=>whnf
   iterate 2 (refine Tst.T ?_;conv=>whnf)
   refine ask_c (p_conns_Same_v _ _) H rfl rfl (fun v76 H=>?_);conv=>whnf
   refine Tst.T ?_;conv=>whnf
   refine Tst.F ?_;conv=>whnf
   refine Tst.T ?_;conv=>whnf
   refine Tst.F ?_;conv=>whnf
   refine Tst.not ?_
   refine tst_d H (fun b77 H=>?_) (fun b77 H=>?_)
   ·conv=>whnf
    obtain rfl:=Option.some.inj H
    have H:=HQ70
    rw [hK67] at H
    try dsimp only at H
    obtain rfl:=Option.some.inj H
    have H:=HQ6
    try dsimp only at H
    exact fb_ H
   conv=>whnf
   obtain rfl:=Option.some.inj H
   exact arrive_c [185,186,187,188,189,190,191,192,193,194,195,196,197,198,199,200,201,202] 2 [] (⟨HQ70,rfl,rfl⟩) (Nat.zero_le _) rfl (by kernel_rfl) (by kernel_rfl) rfl (wkB_live0 rfl (cellsM_idlt (f:=Law31One.v) (fun _=>rfl) _) rfl ⟨⟨rfl,rfl,rfl⟩,trivial⟩)
  rintro _ _ (⟨H,rfl,rfl⟩)
  rw [hK67] at H
  try dsimp only at H
  conv=>whnf
  obtain ⟨K78,hK79,o80,HL81,HQ82⟩:=join0_c H
  refine join_c [4] [203,204,205,206,14] (fun vals st=>(∃ y87,K78 y87=some o4∧vals=[.ptr 0 0]∧st=[.live (cellsM Law31One.v y87) 0])) ?_ ?_
  ·have H:=HL81
   conv=>whnf
   refine tst_d H (fun b84 H=>?_) (fun b84 H=>?_)
   ·conv=>whnf
    obtain rfl:=Option.some.inj H
    exact arrive_c [203,204,205,206,14] 1 [] (⟨_,HQ82,rfl,rfl⟩) (Nat.zero_le _) rfl (by kernel_rfl) (by kernel_rfl) rfl (wkB_live0 rfl (cellsM_idlt (f:=Law31One.v) (fun _=>rfl) _) rfl trivial)
   conv=>whnf
   refine ixa_c H (fun x85 h86 H=>?_);conv=>whnf
   refine ⟨Nat.zero_le _,sto_c (f:=Law31One.v) (es:=3) h86 (x':=y34) (fun _=>rfl) 0 (by omega) (Nat.le_of_ble_eq_true rfl) (by rfl) ?_⟩;conv=>whnf
   obtain rfl:=Option.some.inj H
   exact arrive_c [203,204,205,206,14] 1 [] (⟨_,HQ82,rfl,rfl⟩) (Nat.zero_le _) rfl (by kernel_rfl) (by kernel_rfl) rfl (wkB_live0 rfl (cellsM_idlt (f:=Law31One.v) (fun _=>rfl) _) rfl trivial)
  rintro _ _ (⟨y87,H,rfl,rfl⟩)
  rw [hK79] at H
  try dsimp only at H
  conv=>whnf
  obtain ⟨o89,HL90,HQ91⟩:=bind_c H
  refine loop_c [2,20,21] [22,23,207,208,209,210,211,212,213,214,215,216,217,218,219,220,221,222,223,224,225,226,227,228,229,230,231,232,233,234,235,236,237,238,239,240,241,242,243,244,245,246] [22,23,207,208,209,210,211,212,213,214,215,216,217,218,219,220,221,222,223,224,225,226,227,228,229,230,231,232,233,234,235,236,237,238,239,240,241,242,243,244,245,246] (fun n vals st=>(∃ y93 y94,p_law31_ConnsKeeps_l3  y31 y87 n y93 y94=some o89∧vals=[.b false,.i y93,.i y94]∧st=[.live (cellsM Law31One.v y87) 0])) fuel 1 [] (⟨_,_,HL90,rfl,rfl⟩) (Nat.zero_le _) rfl (by kernel_rfl) (by kernel_rfl) rfl (wkB_live0 rfl (cellsM_idlt (f:=Law31One.v) (fun _=>rfl) _) rfl trivial) ?_
  rintro (_ | n92) _ _ (⟨y93,y94,H,rfl,rfl⟩)
  ·rw [p_law31_ConnsKeeps_l3] at H;cases H
  rw [p_law31_ConnsKeeps_l3] at H
  conv=>whnf
  refine tst_d H (fun b95 H=>?_) (fun b95 H=>?_)
  ·conv=>whnf
   obtain rfl:=Option.some.inj H
   have H:=HQ91
   try dsimp only at H
   refine LenQ.M ?_;conv=>whnf
   refine tst_c H (fun b112 H=>?_) (fun b112 H=>?_)
   ·conv=>whnf
    obtain rfl:=Option.some.inj H
    have H:=HQ6
    try dsimp only at H
    exact fb_ H
   conv=>whnf
   refine Ari.w ?_;conv=>whnf
   exact again_c [6,7,8,9,10,11,12,13,14,15,16,17,18,19,20,21,22,23,28,29,30,31,32,33,34,35,36,37,38,39,40,41,42,43,44,45,46,47,48,49,50,51,52,53,54,55,56,57,58,59,60,61,62,63,64,65,66,67,68,69,70,71,72,73,74,75,76,77,78,79,80,81,82,83,84,85,86,87,88,89,90,91,92,93,94,95,96,97,98,99,100,101,102,103,104,105,106,107,108,109,110,111,112,113,114,115,116,117,118,119,120,121,122,123,124,125,126,127,128,129,130,131,132,133,134,135,136,137,138,139,140,141,142,143,144,145,146,147,148,149,150,151,152,153,154,155,156,157,158,159,160,161,162,163,164,165,166,167,168,169,170,171,172,173,174,175,176,177,178,179,180,181,182,183,184,185,186,187,188,189,190,191,192,193,194,195,196,197,198,199,200,201,202,203,204,205,206,207,208,209,210,211,212,213,214,215,216,217,218,219,220,221,222,223,224,225,226,227,228,229,230,231,232,233,234,235,236,237,238,239,240,241,242,243,244,245,246,247,248,249,250,251] n7 1 [] (.inr (⟨_,_,_,H,rfl,rfl⟩)) (Nat.lt_succ_self _) (Nat.zero_le _) rfl (by kernel_rfl) (by kernel_rfl) rfl (wkB_live0 rfl (cellsM_idlt (f:=Law31One.v) (fun _=>rfl) _) rfl trivial)
  conv=>whnf
  refine ask_c (p_conns_Find_v _ _) H rfl rfl (fun v96 H=>?_);conv=>whnf
  refine lq_ ?_;conv=>whnf
  refine ixa_c H (fun x97 h98 H=>?_);conv=>whnf
  refine ldo_c (f:=Law31One.v) (es:=3) h98 (fun _=>rfl) 0 (by omega) (by decide) ?_;conv=>whnf
  refine tst_c H (fun b99 H=>?_) (fun b99 H=>?_)
  ·conv=>whnf
   iterate 3 (refine Tst.T ?_;conv=>whnf)
   refine FootQ.mk ⟨rfl,?_⟩;conv=>whnf
   refine Tst.T ?_;conv=>whnf
   obtain rfl:=Option.some.inj H
   have H:=HQ91
   try dsimp only at H
   obtain rfl:=Option.some.inj H
   have H:=HQ6
   try dsimp only at H
   exact fb_ H
  conv=>whnf
  refine Tst.F ?_;conv=>whnf
  refine tst_d H (fun b100 H=>?_) (fun b100 H=>?_)
  ·conv=>whnf
   iterate 11 (refine Tst.F ?_;conv=>whnf)
   refine FootQ.mk ⟨rfl,?_⟩;conv=>whnf
   refine Tst.F ?_;conv=>whnf
   refine Tst.isF b100 ?_;conv=>whnf
   refine Ari.w ?_;conv=>whnf
   exact again_c [22,23,207,208,209,210,211,212,213,214,215,216,217,218,219,220,221,222,223,224,225,226,227,228,229,230,231,232,233,234,235,236,237,238,239,240,241,242,243,244,245,246] n92 1 [] (⟨_,_,H,rfl,rfl⟩) (Nat.lt_succ_self _) (Nat.zero_le _) rfl (by kernel_rfl) (by kernel_rfl) rfl (wkB_live0 rfl (cellsM_idlt (f:=Law31One.v) (fun _=>rfl) _) rfl trivial)
  conv=>whnf
  refine Tst.T ?_;conv=>whnf
  refine ask_c (p_conns_Key_v _) H rfl rfl (fun v101 H=>?_);conv=>whnf
  iterate 2 (refine Tst.T ?_;conv=>whnf)
  refine ixa_c H (fun x102 h103 H=>?_);conv=>whnf
  iterate 2 (refine Tst.T ?_;conv=>whnf)
  refine ldo_c (f:=Law31One.v) (es:=3) h103 (fun _=>rfl) 1 (by omega) (by decide) ?_;conv=>whnf
  iterate 2 (refine Tst.T ?_;conv=>whnf)
  refine Tst.not ?_
  refine tst_d H (fun b104 H=>?_) (fun b104 H=>?_)
  ·conv=>whnf
   iterate 8 (refine Tst.T ?_;conv=>whnf)
   refine Tst.F ?_;conv=>whnf
   refine Tst.T ?_;conv=>whnf
   refine Tst.F ?_;conv=>whnf
   refine FootQ.mk ⟨rfl,?_⟩;conv=>whnf
   refine Tst.T ?_;conv=>whnf
   obtain rfl:=Option.some.inj H
   have H:=HQ91
   try dsimp only at H
   obtain rfl:=Option.some.inj H
   have H:=HQ6
   try dsimp only at H
   exact fb_ H
  conv=>whnf
  iterate 3 (refine Tst.F ?_;conv=>whnf)
  refine ixa_c H (fun x105 h106 H=>?_);conv=>whnf
  iterate 2 (refine Tst.F ?_;conv=>whnf)
  refine ldo_c (f:=Law31One.v) (es:=3) h106 (fun _=>rfl) 2 (by omega) (by decide) ?_;conv=>whnf
  refine Tst.F ?_;conv=>whnf
  refine Tst.T ?_;conv=>whnf
  iterate 2 (refine Tst.F ?_;conv=>whnf)
  refine Tst.T ?_;conv=>whnf
  refine Tst.F ?_;conv=>whnf
  refine FootQ.mk ⟨rfl,?_⟩;conv=>whnf
  refine tst_c H (fun b107 H=>?_) (fun b107 H=>?_)
  ·conv=>whnf
   obtain rfl:=Option.some.inj H
   have H:=HQ91
   try dsimp only at H
   obtain rfl:=Option.some.inj H
   have H:=HQ6
   try dsimp only at H
   exact fb_ H
  conv=>whnf
  refine Tst.isT b100 ?_;conv=>whnf
  iterate 2 (refine Ari.w ?_;conv=>whnf)
  exact again_c [22,23,207,208,209,210,211,212,213,214,215,216,217,218,219,220,221,222,223,224,225,226,227,228,229,230,231,232,233,234,235,236,237,238,239,240,241,242,243,244,245,246] n92 1 [] (⟨_,_,H,rfl,rfl⟩) (Nat.lt_succ_self _) (Nat.zero_le _) rfl (by kernel_rfl) (by kernel_rfl) rfl (wkB_live0 rfl (cellsM_idlt (f:=Law31One.v) (fun _=>rfl) _) rfl trivial)
 rw [p_law31_ConnsKeeps_l1] at H
 conv=>whnf
 refine LenQ.M ?_;conv=>whnf
 refine tst_d H (fun b117 H=>?_) (fun b117 H=>?_)
 ·conv=>whnf
  obtain rfl:=Option.some.inj H
  have H:=HQ6
  try dsimp only at H
  refine ask_c (p_law31_awake_v) H rfl rfl (fun v223 H=>?_);conv=>whnf
  exact fb_ H
 conv=>whnf
 refine ixs_c (f:=Law31Deed.v) H (fun _=>rfl) (fun x118 H=>?_);conv=>whnf
 refine lq_ ?_;conv=>whnf
 refine ⟨by decide,?_⟩;conv=>whnf
 refine Ari.w ?_;conv=>whnf
 refine ixs_c (f:=Law31Deed.v) H (fun _=>rfl) (fun x119 H=>?_);conv=>whnf
 refine lq_ ?_;conv=>whnf
 refine ⟨by decide,?_⟩;conv=>whnf
 refine Ari.w ?_;conv=>whnf
 refine b2sO_c H rfl rfl rfl (fun s120 H=>?_);conv=>whnf
 refine cat_c H (fun s121 H=>?_);conv=>whnf
 refine ixs_c (f:=Law31Deed.v) H (fun _=>rfl) (fun x122 H=>?_);conv=>whnf
 refine lq_ ?_;conv=>whnf
 refine ⟨by decide,Ari.w ?_⟩;conv=>whnf
 refine ⟨by decide,?_⟩;conv=>whnf
 refine Ari.w ?_;conv=>whnf
 refine b2sO_c H rfl rfl rfl (fun s123 H=>?_);conv=>whnf
 refine FootQ.mk ⟨rfl,?_⟩;conv=>whnf
 refine ask_c (p_pres_Key_v _ _) H rfl rfl (fun v124 H=>?_);conv=>whnf
 refine ixs_c (f:=Law31Deed.v) H (fun _=>rfl) (fun x125 H=>?_);conv=>whnf
 refine lq_ ?_;conv=>whnf
 refine Ari.w ?_;conv=>whnf
 refine ixa_c H (fun x126 h127 H=>?_);conv=>whnf
 refine ldo_c (f:=Law31One.v) (es:=3) h127 (fun _=>rfl) 0 (by omega) (by decide) ?_;conv=>whnf
 refine lq_ ?_;conv=>whnf
 obtain ⟨K128,hK129,o130,HL131,HQ132⟩:=join0_c H
 refine join_c [11,12,13,4,14] [15,16,17,18,19,74,75,76,77,78,79,80,81,82,83,84,85,86,87,88,89,90,91,92,93,94,95,96,97,98,99,100,101,102,103,104,105,106,107,108,109,110,111,112,113,114,115,116,117,118,119,120,121,122,123,124,125,126,127,128,129,130,131,132,133,134,135,136,137,138,139,140,141,142,143,144,145,146,147,148,149,150,151,152,153,154,155,156,157,158,159,160,161,162,163,164,165,166,167,168,169,170,171,172,173,174,175,176,177,178,179,180,181,182,183,184,48,59,72] (fun vals st=>(∃ y138 y139 y140 y141,K128 (y138,y139,y140,y141)=some o4∧vals=[.sl (List.map ConnsConn.v y138) false,.b y139,.b y140,.ptr 0 0,.ptr 1 0]∧st=[.live (cellsM Law31One.v y115) 0,.live [.b y141.open_,.s y141.key,.i y141.credit] 0])) ?_ ?_
 ·have H:=HL131
  conv=>whnf
  refine ixs_c (f:=Law31Deed.v) H (fun _=>rfl) (fun x134 H=>?_);conv=>whnf
  refine lq_ ?_;conv=>whnf
  refine ⟨by decide,?_⟩;conv=>whnf
  refine tst_c H (fun b135 H=>?_) (fun b135 H=>?_)
  ·conv=>whnf
   refine ask_c (p_conns_Open_v _ _ _) H rfl rfl (fun v136 H=>?_);conv=>whnf
   refine Tst.not ?_
   refine tst_c H (fun b137 H=>?_) (fun b137 H=>?_)
   ·conv=>whnf
    iterate 3 (refine Tst.F ?_;conv=>whnf)
    refine lq_ ?_;conv=>whnf
    obtain rfl:=Option.some.inj H
    exact arrive_c [15,16,17,18,19,74,75,76,77,78,79,80,81,82,83,84,85,86,87,88,89,90,91,92,93,94,95,96,97,98,99,100,101,102,103,104,105,106,107,108,109,110,111,112,113,114,115,116,117,118,119,120,121,122,123,124,125,126,127,128,129,130,131,132,133,134,135,136,137,138,139,140,141,142,143,144,145,146,147,148,149,150,151,152,153,154,155,156,157,158,159,160,161,162,163,164,165,166,167,168,169,170,171,172,173,174,175,176,177,178,179,180,181,182,183,184,48,59,72] 2 [0,3] (⟨_,_,_,_,HQ132,rfl,rfl⟩) (Nat.zero_le _) rfl (by kernel_rfl) (by kernel_rfl) rfl (wkB_live0 rfl (cellsM_idlt (f:=Law31One.v) (fun _=>rfl) _) rfl ⟨⟨rfl,rfl,rfl⟩,trivial⟩)
   conv=>whnf
   refine Tst.T ?_;conv=>whnf
   refine LenQ.M ?_;conv=>whnf
   iterate 2 (refine Tst.T ?_;conv=>whnf)
   refine lq_ ?_;conv=>whnf
   obtain rfl:=Option.some.inj H
   exact arrive_c [15,16,17,18,19,74,75,76,77,78,79,80,81,82,83,84,85,86,87,88,89,90,91,92,93,94,95,96,97,98,99,100,101,102,103,104,105,106,107,108,109,110,111,112,113,114,115,116,117,118,119,120,121,122,123,124,125,126,127,128,129,130,131,132,133,134,135,136,137,138,139,140,141,142,143,144,145,146,147,148,149,150,151,152,153,154,155,156,157,158,159,160,161,162,163,164,165,166,167,168,169,170,171,172,173,174,175,176,177,178,179,180,181,182,183,184,48,59,72] 2 [0,3] (⟨_,_,_,_,HQ132,rfl,rfl⟩) (Nat.zero_le _) rfl (by kernel_rfl) (by kernel_rfl) rfl (wkB_live0 rfl (cellsM_idlt (f:=Law31One.v) (fun _=>rfl) _) rfl ⟨⟨rfl,rfl,rfl⟩,trivial⟩)
  conv=>whnf
  refine tst_c H (fun b142 H=>?_) (fun b142 H=>?_)
  ·conv=>whnf
   refine ask_c (p_conns_Close_v _ _) H rfl rfl (fun v143 H=>?_);conv=>whnf
   refine lq_ ?_;conv=>whnf
   obtain rfl:=Option.some.inj H
   exact arrive_c [15,16,17,18,19,74,75,76,77,78,79,80,81,82,83,84,85,86,87,88,89,90,91,92,93,94,95,96,97,98,99,100,101,102,103,104,105,106,107,108,109,110,111,112,113,114,115,116,117,118,119,120,121,122,123,124,125,126,127,128,129,130,131,132,133,134,135,136,137,138,139,140,141,142,143,144,145,146,147,148,149,150,151,152,153,154,155,156,157,158,159,160,161,162,163,164,165,166,167,168,169,170,171,172,173,174,175,176,177,178,179,180,181,182,183,184,48,59,72] 2 [0,3] (⟨_,_,_,_,HQ132,rfl,rfl⟩) (Nat.zero_le _) rfl (by kernel_rfl) (by kernel_rfl) rfl (wkB_live0 rfl (cellsM_idlt (f:=Law31One.v) (fun _=>rfl) _) rfl ⟨⟨rfl,rfl,rfl⟩,trivial⟩)
  conv=>whnf
  refine tst_d H (fun b144 H=>?_) (fun b144 H=>?_)
  ·conv=>whnf
   refine tst_c H (fun b169 H=>?_) (fun b169 H=>?_)
   ·conv=>whnf
    refine ask_c (p_conns_Give_v _ _ _) H rfl rfl (fun v170 H=>?_);conv=>whnf
    refine Ari.w ?_;conv=>whnf
    refine lq_ ?_;conv=>whnf
    obtain rfl:=Option.some.inj H
    exact arrive_c [15,16,17,18,19,74,75,76,77,78,79,80,81,82,83,84,85,86,87,88,89,90,91,92,93,94,95,96,97,98,99,100,101,102,103,104,105,106,107,108,109,110,111,112,113,114,115,116,117,118,119,120,121,122,123,124,125,126,127,128,129,130,131,132,133,134,135,136,137,138,139,140,141,142,143,144,145,146,147,148,149,150,151,152,153,154,155,156,157,158,159,160,161,162,163,164,165,166,167,168,169,170,171,172,173,174,175,176,177,178,179,180,181,182,183,184,48,59,72] 2 [0,3] (⟨_,_,_,_,HQ132,rfl,rfl⟩) (Nat.zero_le _) rfl (by kernel_rfl) (by kernel_rfl) rfl (wkB_live0 rfl (cellsM_idlt (f:=Law31One.v) (fun _=>rfl) _) rfl ⟨⟨rfl,rfl,rfl⟩,trivial⟩)
   conv=>whnf
   refine ask_c (p_conns_Spend_v _ _ _) H rfl rfl (fun v171 H=>?_);conv=>whnf
   refine tst_c H (fun b172 H=>?_) (fun b172 H=>?_)
   ·conv=>whnf
    iterate 4 (refine Tst.T ?_;conv=>whnf)
    refine Ari.w ?_;conv=>whnf
    refine lq_ ?_;conv=>whnf
    obtain rfl:=Option.some.inj H
    exact arrive_c [15,16,17,18,19,74,75,76,77,78,79,80,81,82,83,84,85,86,87,88,89,90,91,92,93,94,95,96,97,98,99,100,101,102,103,104,105,106,107,108,109,110,111,112,113,114,115,116,117,118,119,120,121,122,123,124,125,126,127,128,129,130,131,132,133,134,135,136,137,138,139,140,141,142,143,144,145,146,147,148,149,150,151,152,153,154,155,156,157,158,159,160,161,162,163,164,165,166,167,168,169,170,171,172,173,174,175,176,177,178,179,180,181,182,183,184,48,59,72] 2 [0,3] (⟨_,_,_,_,HQ132,rfl,rfl⟩) (Nat.zero_le _) rfl (by kernel_rfl) (by kernel_rfl) rfl (wkB_live0 rfl (cellsM_idlt (f:=Law31One.v) (fun _=>rfl) _) rfl ⟨⟨rfl,rfl,rfl⟩,trivial⟩)
   conv=>whnf
   iterate 4 (refine Tst.F ?_;conv=>whnf)
   refine Ari.w ?_;conv=>whnf
   refine lq_ ?_;conv=>whnf
   obtain rfl:=Option.some.inj H
   exact arrive_c [15,16,17,18,19,74,75,76,77,78,79,80,81,82,83,84,85,86,87,88,89,90,91,92,93,94,95,96,97,98,99,100,101,102,103,104,105,106,107,108,109,110,111,112,113,114,115,116,117,118,119,120,121,122,123,124,125,126,127,128,129,130,131,132,133,134,135,136,137,138,139,140,141,142,143,144,145,146,147,148,149,150,151,152,153,154,155,156,157,158,159,160,161,162,163,164,165,166,167,168,169,170,171,172,173,174,175,176,177,178,179,180,181,182,183,184,48,59,72] 2 [0,3] (⟨_,_,_,_,HQ132,rfl,rfl⟩) (Nat.zero_le _) rfl (by kernel_rfl) (by kernel_rfl) rfl (wkB_live0 rfl (cellsM_idlt (f:=Law31One.v) (fun _=>rfl) _) rfl ⟨⟨rfl,rfl,rfl⟩,trivial⟩)
  conv=>whnf
  refine ask_c (p_conns_Login_v _ _ _ _) H rfl rfl (fun v145 H=>?_);conv=>whnf
  obtain ⟨K146,hK147,o148,HL149,HQ150⟩:=join0_c H
  refine join_c [11,12,13,4,14] [143,144,145,146,147,148,149,150,151,152,48,59,72] (fun vals st=>(∃ y153,K146 y153=some o130∧vals=[.sl (List.map ConnsConn.v v145.1) false,.b (v145.2 == (0:Int)),.b y153,.ptr 0 0,.ptr 1 0]∧st=[.live (cellsM Law31One.v y115) 0,.live [.b x126.open_,.s x126.key,.i x126.credit] 0])) ?_ ?_
  ·have H:=HL149
   conv=>whnf
   refine tst_c H (fun b152 H=>?_) (fun b152 H=>?_)
   ·conv=>whnf
    iterate 3 (refine Tst.T ?_;conv=>whnf)
    refine FootQ.mk ⟨rfl,?_⟩;conv=>whnf
    obtain rfl:=Option.some.inj H
    exact arrive_c [143,144,145,146,147,148,149,150,151,152,48,59,72] 2 [0,3] (⟨_,HQ150,rfl,rfl⟩) (Nat.zero_le _) rfl (by kernel_rfl) (by kernel_rfl) rfl (wkB_live0 rfl (cellsM_idlt (f:=Law31One.v) (fun _=>rfl) _) rfl ⟨⟨rfl,rfl,rfl⟩,trivial⟩)
   conv=>whnf
   iterate 3 (refine Tst.F ?_;conv=>whnf)
   refine FootQ.mk ⟨rfl,?_⟩;conv=>whnf
   obtain rfl:=Option.some.inj H
   exact arrive_c [143,144,145,146,147,148,149,150,151,152,48,59,72] 2 [0,3] (⟨_,HQ150,rfl,rfl⟩) (Nat.zero_le _) rfl (by kernel_rfl) (by kernel_rfl) rfl (wkB_live0 rfl (cellsM_idlt (f:=Law31One.v) (fun _=>rfl) _) rfl ⟨⟨rfl,rfl,rfl⟩,trivial⟩)
  rintro _ _ (⟨y153,H,rfl,rfl⟩)
  rw [hK147] at H
  try dsimp only at H
  conv=>whnf
  obtain ⟨o155,HL156,HQ157⟩:=bind_c H
  refine loop_c [13,19] [153,154,155,156,157,158,159,160,161,162,163,164,165] [153,154,155,156,157,158,159,160,161,162,163,164,165] (fun n vals st=>(∃ y159 y160,p_law31_ConnsKeeps_l2  v124 y115 n y159 y160=some o155∧vals=[.b y159,.i y160]∧st=[.live (cellsM Law31One.v y115) 0,.live [.b x126.open_,.s x126.key,.i x126.credit] 0])) fuel 2 [] (⟨_,_,HL156,rfl,rfl⟩) (Nat.zero_le _) rfl (by kernel_rfl) (by kernel_rfl) rfl (wkB_live0 rfl (cellsM_idlt (f:=Law31One.v) (fun _=>rfl) _) rfl ⟨⟨rfl,rfl,rfl⟩,trivial⟩) ?_
  rintro (_ | n158) _ _ (⟨y159,y160,H,rfl,rfl⟩)
  ·rw [p_law31_ConnsKeeps_l2] at H;cases H
  rw [p_law31_ConnsKeeps_l2] at H
  conv=>whnf
  refine tst_d H (fun b161 H=>?_) (fun b161 H=>?_)
  ·conv=>whnf
   obtain rfl:=Option.some.inj H
   have H:=HQ157
   try dsimp only at H
   refine lq_ ?_;conv=>whnf
   obtain rfl:=Option.some.inj H
   exact arrive_c [15,16,17,18,19,74,75,76,77,78,79,80,81,82,83,84,85,86,87,88,89,90,91,92,93,94,95,96,97,98,99,100,101,102,103,104,105,106,107,108,109,110,111,112,113,114,115,116,117,118,119,120,121,122,123,124,125,126,127,128,129,130,131,132,133,134,135,136,137,138,139,140,141,142,143,144,145,146,147,148,149,150,151,152,153,154,155,156,157,158,159,160,161,162,163,164,165,166,167,168,169,170,171,172,173,174,175,176,177,178,179,180,181,182,183,184,48,59,72] 2 [] (⟨_,_,_,_,HQ132,rfl,rfl⟩) (Nat.zero_le _) rfl (by kernel_rfl) (by kernel_rfl) rfl (wkB_live0 rfl (cellsM_idlt (f:=Law31One.v) (fun _=>rfl) _) rfl ⟨⟨rfl,rfl,rfl⟩,trivial⟩)
  conv=>whnf
  refine tst_d H (fun b162 H=>?_) (fun b162 H=>?_)
  ·conv=>whnf
   iterate 6 (refine Tst.F ?_;conv=>whnf)
   refine Ari.w ?_;conv=>whnf
   exact again_c [153,154,155,156,157,158,159,160,161,162,163,164,165] n158 2 [] (⟨_,_,H,rfl,rfl⟩) (Nat.lt_succ_self _) (Nat.zero_le _) rfl (by kernel_rfl) (by kernel_rfl) rfl (wkB_live0 rfl (cellsM_idlt (f:=Law31One.v) (fun _=>rfl) _) rfl ⟨⟨rfl,rfl,rfl⟩,trivial⟩)
  conv=>whnf
  refine Tst.T ?_;conv=>whnf
  refine ixa_c H (fun x163 h164 H=>?_);conv=>whnf
  iterate 2 (refine Tst.T ?_;conv=>whnf)
  refine ldo_c (f:=Law31One.v) (es:=3) h164 (fun _=>rfl) 1 (by omega) (by decide) ?_;conv=>whnf
  iterate 3 (refine Tst.T ?_;conv=>whnf)
  refine Ari.w ?_;conv=>whnf
  exact again_c [153,154,155,156,157,158,159,160,161,162,163,164,165] n158 2 [] (⟨_,_,H,rfl,rfl⟩) (Nat.lt_succ_self _) (Nat.zero_le _) rfl (by kernel_rfl) (by kernel_rfl) rfl (wkB_live0 rfl (cellsM_idlt (f:=Law31One.v) (fun _=>rfl) _) rfl ⟨⟨rfl,rfl,rfl⟩,trivial⟩)
 rintro _ _ (⟨y138,y139,y140,y141,H,rfl,rfl⟩)
 rw [hK129] at H
 try dsimp only at H
 conv=>whnf
 obtain ⟨K173,hK174,o175,HL176,HQ177⟩:=join0_c H
 refine join_c [2,4,14] [185,186,187,188,189,190,191,192,193,194,195,196,197,198,199,200,201,202] (fun vals st=>(K173 (.inr ())=some o4∧vals=[.b false,.ptr 0 0,.ptr 1 0]∧st=[.live (cellsM Law31One.v y115) 0,.live [.b y141.open_,.s y141.key,.i y141.credit] 0])) ?_ ?_
 ·have H:=HL176
  conv=>whnf
  refine tst_c H (fun b179 H=>?_) (fun b179 H=>?_)
  ·conv=>whnf
   iterate 9 (refine Tst.T ?_;conv=>whnf)
   obtain rfl:=Option.some.inj H
   have H:=HQ177
   rw [hK174] at H
   try dsimp only at H
   obtain rfl:=Option.some.inj H
   have H:=HQ6
   try dsimp only at H
   exact fb_ H
  conv=>whnf
  refine Tst.F ?_;conv=>whnf
  refine ask_c (p_conns_Check_v _) H rfl rfl (fun v180 H=>?_);conv=>whnf
  iterate 2 (refine Tst.F ?_;conv=>whnf)
  refine tst_c H (fun b181 H=>?_) (fun b181 H=>?_)
  ·conv=>whnf
   iterate 5 (refine Tst.T ?_;conv=>whnf)
   obtain rfl:=Option.some.inj H
   have H:=HQ177
   rw [hK174] at H
   try dsimp only at H
   obtain rfl:=Option.some.inj H
   have H:=HQ6
   try dsimp only at H
   exact fb_ H
  conv=>whnf
  iterate 2 (refine Tst.F ?_;conv=>whnf)
  refine Tst.not ?_
  refine tst_c H (fun b182 H=>?_) (fun b182 H=>?_)
  ·conv=>whnf
   iterate 7 (refine Tst.F ?_;conv=>whnf)
   obtain rfl:=Option.some.inj H
   exact arrive_c [185,186,187,188,189,190,191,192,193,194,195,196,197,198,199,200,201,202] 2 [] (⟨HQ177,rfl,rfl⟩) (Nat.zero_le _) rfl (by kernel_rfl) (by kernel_rfl) rfl (wkB_live0 rfl (cellsM_idlt (f:=Law31One.v) (fun _=>rfl) _) rfl ⟨⟨rfl,rfl,rfl⟩,trivial⟩)
  conv=>whnf
  iterate 2 (refine Tst.T ?_;conv=>whnf)
  refine ask_c (p_conns_Same_v _ _) H rfl rfl (fun v183 H=>?_);conv=>whnf
  refine Tst.T ?_;conv=>whnf
  refine Tst.F ?_;conv=>whnf
  refine Tst.T ?_;conv=>whnf
  refine Tst.F ?_;conv=>whnf
  refine Tst.not ?_
  refine tst_d H (fun b184 H=>?_) (fun b184 H=>?_)
  ·conv=>whnf
   obtain rfl:=Option.some.inj H
   have H:=HQ177
   rw [hK174] at H
   try dsimp only at H
   obtain rfl:=Option.some.inj H
   have H:=HQ6
   try dsimp only at H
   exact fb_ H
  conv=>whnf
  obtain rfl:=Option.some.inj H
  exact arrive_c [185,186,187,188,189,190,191,192,193,194,195,196,197,198,199,200,201,202] 2 [] (⟨HQ177,rfl,rfl⟩) (Nat.zero_le _) rfl (by kernel_rfl) (by kernel_rfl) rfl (wkB_live0 rfl (cellsM_idlt (f:=Law31One.v) (fun _=>rfl) _) rfl ⟨⟨rfl,rfl,rfl⟩,trivial⟩)
 rintro _ _ (⟨H,rfl,rfl⟩)
 rw [hK174] at H
 try dsimp only at H
 conv=>whnf
 obtain ⟨K185,hK186,o187,HL188,HQ189⟩:=join0_c H
 refine join_c [4] [203,204,205,206,14] (fun vals st=>(∃ y194,K185 y194=some o4∧vals=[.ptr 0 0]∧st=[.live (cellsM Law31One.v y194) 0])) ?_ ?_
 ·have H:=HL188
  conv=>whnf
  refine tst_d H (fun b191 H=>?_) (fun b191 H=>?_)
  ·conv=>whnf
   obtain rfl:=Option.some.inj H
   exact arrive_c [203,204,205,206,14] 1 [] (⟨_,HQ189,rfl,rfl⟩) (Nat.zero_le _) rfl (by kernel_rfl) (by kernel_rfl) rfl (wkB_live0 rfl (cellsM_idlt (f:=Law31One.v) (fun _=>rfl) _) rfl trivial)
  conv=>whnf
  refine ixa_c H (fun x192 h193 H=>?_);conv=>whnf
  refine ⟨Nat.zero_le _,sto_c (f:=Law31One.v) (es:=3) h193 (x':=y141) (fun _=>rfl) 0 (by omega) (Nat.le_of_ble_eq_true rfl) (by rfl) ?_⟩;conv=>whnf
  obtain rfl:=Option.some.inj H
  exact arrive_c [203,204,205,206,14] 1 [] (⟨_,HQ189,rfl,rfl⟩) (Nat.zero_le _) rfl (by kernel_rfl) (by kernel_rfl) rfl (wkB_live0 rfl (cellsM_idlt (f:=Law31One.v) (fun _=>rfl) _) rfl trivial)
 rintro _ _ (⟨y194,H,rfl,rfl⟩)
 rw [hK186] at H
 try dsimp only at H
 conv=>whnf
 obtain ⟨o196,HL197,HQ198⟩:=bind_c H
 refine loop_c [2,20,21] [22,23,207,208,209,210,211,212,213,214,215,216,217,218,219,220,221,222,223,224,225,226,227,228,229,230,231,232,233,234,235,236,237,238,239,240,241,242,243,244,245,246] [22,23,207,208,209,210,211,212,213,214,215,216,217,218,219,220,221,222,223,224,225,226,227,228,229,230,231,232,233,234,235,236,237,238,239,240,241,242,243,244,245,246] (fun n vals st=>(∃ y200 y201,p_law31_ConnsKeeps_l3  y138 y194 n y200 y201=some o196∧vals=[.b false,.i y200,.i y201]∧st=[.live (cellsM Law31One.v y194) 0])) fuel 1 [] (⟨_,_,HL197,rfl,rfl⟩) (Nat.zero_le _) rfl (by kernel_rfl) (by kernel_rfl) rfl (wkB_live0 rfl (cellsM_idlt (f:=Law31One.v) (fun _=>rfl) _) rfl trivial) ?_
 rintro (_ | n199) _ _ (⟨y200,y201,H,rfl,rfl⟩)
 ·rw [p_law31_ConnsKeeps_l3] at H;cases H
 rw [p_law31_ConnsKeeps_l3] at H
 conv=>whnf
 refine tst_d H (fun b202 H=>?_) (fun b202 H=>?_)
 ·conv=>whnf
  obtain rfl:=Option.some.inj H
  have H:=HQ198
  try dsimp only at H
  refine LenQ.M ?_;conv=>whnf
  refine tst_c H (fun b219 H=>?_) (fun b219 H=>?_)
  ·conv=>whnf
   obtain rfl:=Option.some.inj H
   have H:=HQ6
   try dsimp only at H
   exact fb_ H
  conv=>whnf
  refine Ari.w ?_;conv=>whnf
  exact again_c [6,7,8,9,10,11,12,13,14,15,16,17,18,19,20,21,22,23,28,29,30,31,32,33,34,35,36,37,38,39,40,41,42,43,44,45,46,47,48,49,50,51,52,53,54,55,56,57,58,59,60,61,62,63,64,65,66,67,68,69,70,71,72,73,74,75,76,77,78,79,80,81,82,83,84,85,86,87,88,89,90,91,92,93,94,95,96,97,98,99,100,101,102,103,104,105,106,107,108,109,110,111,112,113,114,115,116,117,118,119,120,121,122,123,124,125,126,127,128,129,130,131,132,133,134,135,136,137,138,139,140,141,142,143,144,145,146,147,148,149,150,151,152,153,154,155,156,157,158,159,160,161,162,163,164,165,166,167,168,169,170,171,172,173,174,175,176,177,178,179,180,181,182,183,184,185,186,187,188,189,190,191,192,193,194,195,196,197,198,199,200,201,202,203,204,205,206,207,208,209,210,211,212,213,214,215,216,217,218,219,220,221,222,223,224,225,226,227,228,229,230,231,232,233,234,235,236,237,238,239,240,241,242,243,244,245,246,247,248,249,250,251] n7 1 [] (.inr (⟨_,_,_,H,rfl,rfl⟩)) (Nat.lt_succ_self _) (Nat.zero_le _) rfl (by kernel_rfl) (by kernel_rfl) rfl (wkB_live0 rfl (cellsM_idlt (f:=Law31One.v) (fun _=>rfl) _) rfl trivial)
 conv=>whnf
 refine ask_c (p_conns_Find_v _ _) H rfl rfl (fun v203 H=>?_);conv=>whnf
 refine lq_ ?_;conv=>whnf
 refine ixa_c H (fun x204 h205 H=>?_);conv=>whnf
 refine ldo_c (f:=Law31One.v) (es:=3) h205 (fun _=>rfl) 0 (by omega) (by decide) ?_;conv=>whnf
 refine tst_c H (fun b206 H=>?_) (fun b206 H=>?_)
 ·conv=>whnf
  iterate 3 (refine Tst.T ?_;conv=>whnf)
  refine FootQ.mk ⟨rfl,?_⟩;conv=>whnf
  refine Tst.T ?_;conv=>whnf
  obtain rfl:=Option.some.inj H
  have H:=HQ198
  try dsimp only at H
  obtain rfl:=Option.some.inj H
  have H:=HQ6
  try dsimp only at H
  exact fb_ H
 conv=>whnf
 refine Tst.F ?_;conv=>whnf
 refine tst_d H (fun b207 H=>?_) (fun b207 H=>?_)
 ·conv=>whnf
  iterate 11 (refine Tst.F ?_;conv=>whnf)
  refine FootQ.mk ⟨rfl,?_⟩;conv=>whnf
  refine Tst.F ?_;conv=>whnf
  refine Tst.isF b207 ?_;conv=>whnf
  refine Ari.w ?_;conv=>whnf
  exact again_c [22,23,207,208,209,210,211,212,213,214,215,216,217,218,219,220,221,222,223,224,225,226,227,228,229,230,231,232,233,234,235,236,237,238,239,240,241,242,243,244,245,246] n199 1 [] (⟨_,_,H,rfl,rfl⟩) (Nat.lt_succ_self _) (Nat.zero_le _) rfl (by kernel_rfl) (by kernel_rfl) rfl (wkB_live0 rfl (cellsM_idlt (f:=Law31One.v) (fun _=>rfl) _) rfl trivial)
 conv=>whnf
 refine Tst.T ?_;conv=>whnf
 refine ask_c (p_conns_Key_v _) H rfl rfl (fun v208 H=>?_);conv=>whnf
 iterate 2 (refine Tst.T ?_;conv=>whnf)
 refine ixa_c H (fun x209 h210 H=>?_);conv=>whnf
 iterate 2 (refine Tst.T ?_;conv=>whnf)
 refine ldo_c (f:=Law31One.v) (es:=3) h210 (fun _=>rfl) 1 (by omega) (by decide) ?_;conv=>whnf
 iterate 2 (refine Tst.T ?_;conv=>whnf)
 refine Tst.not ?_
 refine tst_d H (fun b211 H=>?_) (fun b211 H=>?_)
 ·conv=>whnf
  iterate 8 (refine Tst.T ?_;conv=>whnf)
  refine Tst.F ?_;conv=>whnf
  refine Tst.T ?_;conv=>whnf
  refine Tst.F ?_;conv=>whnf
  refine FootQ.mk ⟨rfl,?_⟩;conv=>whnf
  refine Tst.T ?_;conv=>whnf
  obtain rfl:=Option.some.inj H
  have H:=HQ198
  try dsimp only at H
  obtain rfl:=Option.some.inj H
  have H:=HQ6
  try dsimp only at H
  exact fb_ H
 conv=>whnf
 iterate 3 (refine Tst.F ?_;conv=>whnf)
 refine ixa_c H (fun x212 h213 H=>?_);conv=>whnf
 iterate 2 (refine Tst.F ?_;conv=>whnf)
 refine ldo_c (f:=Law31One.v) (es:=3) h213 (fun _=>rfl) 2 (by omega) (by decide) ?_;conv=>whnf
 refine Tst.F ?_;conv=>whnf
 refine Tst.T ?_;conv=>whnf
 iterate 2 (refine Tst.F ?_;conv=>whnf)
 refine Tst.T ?_;conv=>whnf
 refine Tst.F ?_;conv=>whnf
 refine FootQ.mk ⟨rfl,?_⟩;conv=>whnf
 refine tst_c H (fun b214 H=>?_) (fun b214 H=>?_)
 ·conv=>whnf
  obtain rfl:=Option.some.inj H
  have H:=HQ198
  try dsimp only at H
  obtain rfl:=Option.some.inj H
  have H:=HQ6
  try dsimp only at H
  exact fb_ H
 conv=>whnf
 refine Tst.isT b207 ?_;conv=>whnf
 iterate 2 (refine Ari.w ?_;conv=>whnf)
 exact again_c [22,23,207,208,209,210,211,212,213,214,215,216,217,218,219,220,221,222,223,224,225,226,227,228,229,230,231,232,233,234,235,236,237,238,239,240,241,242,243,244,245,246] n199 1 [] (⟨_,_,H,rfl,rfl⟩) (Nat.lt_succ_self _) (Nat.zero_le _) rfl (by kernel_rfl) (by kernel_rfl) rfl (wkB_live0 rfl (cellsM_idlt (f:=Law31One.v) (fun _=>rfl) _) rfl trivial)
end Go.Proofs.YtdbigmjlhkgeoaaGreat

namespace Go.Proofs.YtdbigmjlhkgeoaaGreat
open Go.ChangeShapes Go.WideShapes Go.ChangeAt Go.RowKit Go.Joins Go.Deep
theorem connsKeeps_named:Tryz.pinned.checked.prog.funcNamed Rows.connsKeepsRow.func=some 5:=by kernel_rfl
theorem connsKeeps_closed:joinedFacts Tryz.pinned.checked.prog 5 Tryz.f5 Rows.connsKeepsSpec Rows.connsKeepsRow=true:=by kernel_rfl
end Go.Proofs.YtdbigmjlhkgeoaaGreat

namespace Go.Proofs.YtdbigmjlhkgeoaaGreat
open Go.ChangeShapes Go.WideShapes Go.ChangeAt Go.RowKit Go.Joins Go.Deep
set_option maxRecDepth 100000 in
theorem connsKeeps_lifted (os:Os) (started:os.Started) (H:Type) (enc:TypeId × Value→H) :
  ReturnsInHanded {} Tryz.checked os 5 .any (Rows.connsKeepsSpec.pre6 enc Tryz.prog Tryz.f5 Rows.connsKeepsRow.domain false) (Rows.connsKeepsSpec.post enc Tryz.prog Tryz.f5 false true false false):=by
 refine returnsInHanded_of_change_shaped (C:=Tryz.checked) own0 started (by kernel_rfl) Tryz.func5
  (ChangeSpec.witness6 (enc:=enc) (C:=Tryz.checked) false ⟨#[],#[.slice none 0 0],[]⟩ 8 (by kernel_rfl) (by kernel_rfl) (by kernel_rfl) (by kernel_rfl)) ?_
 intro W base args ds gs before hval0 hW hcnd _ hsh _
 have hval:∀ (j:Nat) t v,Tryz.f5.params[j]?=some t→args[j]?=some v→Value.okWide Tryz.prog W .any base t v:=hval0
 have hW':=hW
 obtain ⟨p,q,hA0,hV,rfl,hfz,hnd⟩:=hW
 have hA:DataW.TrodAll enc Tryz.prog W 0 (fun _=>true) true Tryz.f5.params.toList args.toList ds p:=hA0
 rw [Tryz.params5] at hA hval
 have hA2:=hA
 obtain ⟨v0,d0,rfl,rfl,h0⟩:=trodAll_one hA
 obtain ⟨rfl,rfl⟩:=trodVars_none hV
 obtain ⟨fu0,hf0⟩:=h0
 obtain ⟨q0,l0,k0,rfl⟩:=okWide_slice Tryz.underlying81 (hval 0 _ v0 rfl rfl)
 obtain ⟨a0,w0,r0⟩:=rd_T81 hf0
 have hx0:Rep (MW W) noBk _ _:=r0.2 0 (by simp [Value.cells]) (by simp)
 refine (rep_one (callsO_true (p_law31_ConnsKeeps_v a0) (tru_ok (connsKeeps_all a0 w0))) (maxLen_cell W hsh) (repAr1 hx0)).mono ?_
 rintro e W' ⟨rfl,bel⟩
 refine ⟨_,rfl,_,_,_,[],p,[],hW',?_,?_,?_,?_,?_⟩
 ·exact trodAll_mk1 (shut_bool Tryz.underlying4 true)
 ·exact trodAll_below laid0 bel (by
   intro t ht
   simp at ht
   rcases ht with rfl <;> exact ⟨by kernel_rfl,of_decide_eq_true (by kernel_rfl)⟩) hA2
 ·rfl
 ·exact bel.frame _
 ·exact fun h=>by cases h
theorem connsKeeps_holds:Rows.ConnsKeepsSaid :=
 OpenClaim.holds_of_wide 5 Tryz.f5 rfl rfl rfl rfl rfl rfl rfl ⟨rfl,rfl,rfl,rfl,rfl⟩ rfl rfl rfl rfl rfl connsKeeps_named Tryz.func5 connsKeeps_closed
  (of_decide_eq_true (by kernel_rfl)) (by unfold Func.isWrapper;first | (rw [if_pos (by decide +kernel)];kernel_rfl) | (rw [if_neg (by decide +kernel)];exact ⟨rfl,rfl⟩))
  (fun os started H enc _=>connsKeeps_lifted os started H enc)
#print axioms connsKeeps_holds
end Go.Proofs.YtdbigmjlhkgeoaaGreat

