/- A part of the proof: 3 texts joined. -/
import Derived.Test.YthmgficajgedlaaReA1
import Derived.Test.YthmgficajgedlaaReA2
import Derived.Test.YthmgficajgedlaaReA3
import Derived.Test.YthmgficajgedlaaRcA5
import Derived.KernelRfl
import Derived.Test.YthmgficajgedlaaRcA7
set_option linter.all false
/- That the program's functions yield what the plain ones tell (written by a program of mine). -/
namespace Go.Proofs.Ythmgficajgedlaa
open Go.RowKit
def gc6 : BCode := (.seq (.reg 0 [⟨(some 2), .mv (.const (.bool false)), none, 0⟩] none 0 []) (.seq (.seq (.reg 0 [⟨(some 24), .mv (.tmp 0), none, 0⟩, ⟨(some 25), .lens (.tmp 24), none, 0⟩, ⟨(some 26), .bin .gtr (.tmp 25) (.const (.int .i64 100)), none, 0⟩] none 0 []) (.cond (.tmp 26) (.seq (.reg 0 [⟨(some 27), .cl 27 [], none, 0⟩, ⟨(some 2), .mv (.tmp 27), none, 0⟩] none 0 []) .ret) .skip)) (.seq (.reg 0 [⟨(some 3), .mv (.const (.slice none 0 0)), none, 0⟩] none 0 []) (.seq (.reg 1 [⟨(some 4), .al (.agg [(.lit (.bool false)), (.lit (.bool false)), (.lit (.bool false)), (.lit (.bool false)), (.lit (.bool false)), (.lit (.bool false)), (.lit (.bool false)), (.lit (.bool false)), (.lit (.bool false)), (.lit (.bool false)), (.lit (.bool false)), (.lit (.bool false)), (.lit (.bool false)), (.lit (.bool false)), (.lit (.bool false)), (.lit (.bool false)), (.lit (.bool false)), (.lit (.bool false)), (.lit (.bool false)), (.lit (.bool false)), (.lit (.bool false)), (.lit (.bool false)), (.lit (.bool false)), (.lit (.bool false)), (.lit (.bool false)), (.lit (.bool false)), (.lit (.bool false)), (.lit (.bool false)), (.lit (.bool false)), (.lit (.bool false)), (.lit (.bool false)), (.lit (.bool false)), (.lit (.bool false)), (.lit (.bool false)), (.lit (.bool false)), (.lit (.bool false)), (.lit (.bool false)), (.lit (.bool false)), (.lit (.bool false)), (.lit (.bool false))]), none, 0⟩] none 0 []) (.seq (.seq (.reg 0 [⟨(some 5), .mv (.const (.int .i64 0)), none, 0⟩] none 0 []) (.block 0 (.loop (.seq (.seq (.reg 0 [⟨(some 28), .mv (.tmp 5), none, 0⟩, ⟨(some 29), .mv (.tmp 0), none, 0⟩, ⟨(some 30), .lens (.tmp 29), none, 0⟩, ⟨(some 31), .bin .lss (.tmp 28) (.tmp 30), none, 0⟩] none 0 []) (.cond (.tmp 31) .skip (.exit 0))) (.seq (.block 1 (.seq (.reg 0 [⟨(some 34), .mv (.tmp 0), none, 0⟩, ⟨(some 35), .mv (.tmp 5), none, 0⟩, ⟨(some 36), .ixs 4 (.tmp 34) (.tmp 35), none, 0⟩, ⟨(some 37), .fa 0 (.tmp 36), none, 0⟩, ⟨(some 38), .ld 1 false (.tmp 37), none, 0⟩, ⟨(some 39), .bin .rem (.tmp 38) (.const (.int .u8 5)), none, 0⟩, ⟨(some 40), .cvi .i64 (.tmp 39), none, 0⟩, ⟨(some 41), .mv (.tmp 0), none, 0⟩, ⟨(some 42), .mv (.tmp 5), none, 0⟩, ⟨(some 43), .ixs 4 (.tmp 41) (.tmp 42), none, 0⟩, ⟨(some 44), .fa 1 (.tmp 43), none, 0⟩, ⟨(some 45), .ld 1 false (.tmp 44), none, 0⟩, ⟨(some 46), .bin .rem (.tmp 45) (.const (.int .u8 8)), none, 0⟩, ⟨(some 47), .cvi .i64 (.tmp 46), none, 0⟩, ⟨(some 6), .mv (.tmp 40), none, 0⟩, ⟨(some 7), .mv (.tmp 47), none, 0⟩] (some [[], [], [1, 0], [0, 1, 2], [2, 1, 0, 3], [3, 0, 1, 2, 4], [4, 2, 1, 0, 3, 5], [], [], [8, 7], [7, 8, 9], [9, 8, 7, 10], [10, 7, 8, 9, 11], [11, 9, 8, 7, 10, 12], [5, 3, 0, 1, 2, 4, 6], [6, 4, 2, 1, 0, 3, 5, 14, 12, 10, 7, 8, 9, 11, 13]]) 0 []) (.seq (.reg 2 [⟨(some 48), .mv (.tmp 6), none, 0⟩, ⟨(some 49), .cvi .u8 (.tmp 48), none, 0⟩, ⟨(some 50), .bin .add (.const (.int .u8 97)) (.tmp 49), none, 0⟩, ⟨(some 51), .bs 1 1 [(.lit (.int .u8 0))] [(0, (.tmp 50))], none, 0⟩, ⟨(some 52), .b2s (.tmp 51), none, 1⟩, ⟨(some 53), .bin .add (.tmp 52) (.const (.string ⟨#[64, 120, 32, 114]⟩)), none, 1⟩, ⟨(some 54), .mv (.tmp 7), none, 1⟩, ⟨(some 55), .cvi .u8 (.tmp 54), none, 1⟩, ⟨(some 56), .bin .add (.const (.int .u8 112)) (.tmp 55), none, 1⟩, ⟨(some 57), .bs 1 1 [(.lit (.int .u8 0))] [(0, (.tmp 56))], none, 1⟩, ⟨(some 58), .b2s (.tmp 57), none, 2⟩, ⟨(some 59), .bin .add (.tmp 58) (.const (.string ⟨#[64, 121]⟩)), none, 2⟩, ⟨(some 8), .mv (.tmp 53), none, 2⟩, ⟨(some 9), .mv (.tmp 59), none, 2⟩] (some [[], [0], [0, 1], [1, 0, 2], [2, 0, 1, 3], [3, 1, 0, 2, 4], [], [6], [6, 7], [7, 6, 8], [8, 6, 7, 9], [9, 7, 6, 8, 10], [4, 2, 0, 1, 3, 5], [5, 3, 1, 0, 2, 4, 12, 10, 8, 6, 7, 9, 11]]) 0 []) (.seq (.reg 0 [⟨(some 60), .mv (.tmp 3), none, 0⟩, ⟨(some 61), .lens (.tmp 60), none, 0⟩, ⟨(some 10), .mv (.tmp 61), none, 0⟩] none 0 []) (.join (.block 2 (.seq (.reg 0 [⟨(some 96), .mv (.tmp 0), none, 0⟩, ⟨(some 97), .mv (.tmp 5), none, 0⟩, ⟨(some 98), .ixs 4 (.tmp 96) (.tmp 97), none, 0⟩, ⟨(some 99), .fa 3 (.tmp 98), none, 0⟩, ⟨(some 100), .ld 1 false (.tmp 99), none, 0⟩, ⟨(some 95), .mv (.tmp 100), none, 0⟩] none 0 []) (.cond (.tmp 95) (.seq (.reg 0 [⟨(some 102), .mv (.tmp 3), none, 0⟩, ⟨(some 103), .mv (.tmp 8), none, 0⟩, ⟨(some 104), .cl 40 [(.tmp 102), (.tmp 103)], none, 0⟩, ⟨(some 101), .mv (.tmp 104), none, 0⟩, ⟨(some 105), .ex (.tmp 101) 0, none, 0⟩, ⟨(some 106), .ex (.tmp 101) 1, none, 0⟩, ⟨(some 11), .mv (.tmp 105), none, 0⟩, ⟨(some 12), .mv (.tmp 106), none, 0⟩] none 0 []) (.seq (.seq (.reg 0 [⟨(some 107), .mv (.tmp 12), none, 0⟩, ⟨(some 108), .lens (.tmp 107), none, 0⟩, ⟨(some 109), .mv (.tmp 10), none, 0⟩, ⟨(some 110), .mv (.tmp 11), none, 0⟩, ⟨(some 111), .lens (.tmp 110), none, 0⟩, ⟨(some 112), .bin .sub (.tmp 109) (.tmp 111), none, 0⟩, ⟨(some 113), .bin .neq (.tmp 108) (.tmp 112), none, 0⟩] none 0 []) (.cond (.tmp 113) (.seq (.reg 0 [⟨(some 2), .mv (.const (.bool false)), none, 0⟩] none 0 []) .ret) .skip)) (.seq (.reg 0 [⟨(some 114), .mv (.tmp 6), none, 0⟩, ⟨(some 115), .bd [(.lit (.bool false)), (.lit (.bool false)), (.lit (.bool false)), (.lit (.bool false)), (.lit (.bool false)), (.lit (.bool false)), (.lit (.bool false)), (.lit (.bool false))] [], none, 0⟩, ⟨(some 116), .ixa 5 8 (.tmp 4) (.tmp 114), none, 0⟩, ⟨none, .st 8 (.tmp 116) (.tmp 115), none, 0⟩] none 0 []) (.reg 0 [⟨(some 117), .mv (.tmp 11), none, 0⟩, ⟨(some 3), .mv (.tmp 117), none, 0⟩] none 0 [])))) (.seq (.reg 0 [⟨(some 119), .mv (.tmp 0), none, 0⟩, ⟨(some 120), .mv (.tmp 5), none, 0⟩, ⟨(some 121), .ixs 4 (.tmp 119) (.tmp 120), none, 0⟩, ⟨(some 122), .fa 2 (.tmp 121), none, 0⟩, ⟨(some 123), .ld 1 false (.tmp 122), none, 0⟩, ⟨(some 118), .mv (.tmp 123), none, 0⟩] none 0 []) (.cond (.tmp 118) (.seq (.reg 0 [⟨(some 125), .mv (.tmp 3), none, 0⟩, ⟨(some 126), .mv (.tmp 8), none, 0⟩, ⟨(some 127), .mv (.tmp 9), none, 0⟩, ⟨(some 128), .cl 41 [(.tmp 125), (.tmp 126), (.tmp 127)], none, 0⟩, ⟨(some 124), .mv (.tmp 128), none, 0⟩, ⟨(some 129), .ex (.tmp 124) 0, none, 0⟩, ⟨(some 130), .ex (.tmp 124) 1, none, 0⟩, ⟨(some 13), .mv (.tmp 129), none, 0⟩, ⟨(some 14), .mv (.tmp 130), none, 0⟩] none 0 []) (.seq (.seq (.reg 0 [⟨(some 131), .mv (.tmp 14), none, 0⟩, ⟨(some 132), .mv (.tmp 6), none, 0⟩, ⟨(some 133), .mv (.tmp 7), none, 0⟩, ⟨(some 134), .ixa 5 8 (.tmp 4) (.tmp 132), none, 0⟩, ⟨(some 135), .ixa 8 1 (.tmp 134) (.tmp 133), none, 0⟩, ⟨(some 136), .ld 1 false (.tmp 135), none, 0⟩, ⟨(some 137), .binb true (.tmp 131) (.tmp 136), none, 0⟩] none 0 []) (.cond (.tmp 137) (.seq (.reg 0 [⟨(some 2), .mv (.const (.bool false)), none, 0⟩] none 0 []) .ret) .skip)) (.seq (.reg 0 [⟨(some 138), .mv (.tmp 6), none, 0⟩, ⟨(some 139), .mv (.tmp 7), none, 0⟩, ⟨(some 140), .ixa 5 8 (.tmp 4) (.tmp 138), none, 0⟩, ⟨(some 141), .ixa 8 1 (.tmp 140) (.tmp 139), none, 0⟩, ⟨none, .st 1 (.tmp 141) (.const (.bool false)), none, 0⟩] none 0 []) (.reg 0 [⟨(some 142), .mv (.tmp 13), none, 0⟩, ⟨(some 3), .mv (.tmp 142), none, 0⟩] none 0 [])))) (.seq (.reg 0 [⟨(some 63), .mv (.tmp 3), none, 0⟩, ⟨(some 64), .mv (.tmp 8), none, 0⟩, ⟨(some 65), .mv (.tmp 9), none, 0⟩, ⟨(some 66), .cl 42 [(.tmp 63), (.tmp 64), (.tmp 65)], none, 0⟩, ⟨(some 62), .mv (.tmp 66), none, 0⟩, ⟨(some 67), .ex (.tmp 62) 0, none, 0⟩, ⟨(some 68), .ex (.tmp 62) 1, none, 0⟩, ⟨(some 15), .mv (.tmp 67), none, 0⟩, ⟨(some 16), .mv (.tmp 68), none, 0⟩] none 0 []) (.seq (.seq (.reg 0 [⟨(some 69), .mv (.tmp 16), none, 0⟩, ⟨(some 70), .bin .eql (.tmp 69) (.const (.int .i64 0)), none, 0⟩, ⟨(some 71), .mv (.tmp 6), none, 0⟩, ⟨(some 72), .mv (.tmp 7), none, 0⟩, ⟨(some 73), .ixa 5 8 (.tmp 4) (.tmp 71), none, 0⟩, ⟨(some 74), .ixa 8 1 (.tmp 73) (.tmp 72), none, 0⟩, ⟨(some 75), .ld 1 false (.tmp 74), none, 0⟩, ⟨(some 76), .mv (.tmp 75), none, 0⟩, ⟨(some 77), .mv (.tmp 10), (some (76, false)), 0⟩, ⟨(some 78), .bin .lss (.tmp 77) (.const (.int .i64 32)), (some (76, false)), 0⟩, ⟨(some 79), .pick (.tmp 76) (.const (.bool true)) (.tmp 78), none, 0⟩, ⟨(some 80), .binb true (.tmp 70) (.tmp 79), none, 0⟩] none 0 []) (.cond (.tmp 80) (.seq (.reg 0 [⟨(some 2), .mv (.const (.bool false)), none, 0⟩] none 0 []) .ret) .skip)) (.seq (.reg 0 [⟨(some 81), .mv (.tmp 6), none, 0⟩, ⟨(some 82), .mv (.tmp 7), none, 0⟩, ⟨(some 83), .mv (.tmp 6), none, 0⟩, ⟨(some 84), .mv (.tmp 7), none, 0⟩, ⟨(some 85), .ixa 5 8 (.tmp 4) (.tmp 83), none, 0⟩, ⟨(some 86), .ixa 8 1 (.tmp 85) (.tmp 84), none, 0⟩, ⟨(some 87), .ld 1 false (.tmp 86), none, 0⟩, ⟨(some 88), .mv (.tmp 87), none, 0⟩, ⟨(some 89), .mv (.tmp 16), (some (88, false)), 0⟩, ⟨(some 90), .bin .eql (.tmp 89) (.const (.int .i64 0)), (some (88, false)), 0⟩, ⟨(some 91), .pick (.tmp 88) (.const (.bool true)) (.tmp 90), none, 0⟩, ⟨(some 92), .ixa 5 8 (.tmp 4) (.tmp 81), none, 0⟩, ⟨(some 93), .ixa 8 1 (.tmp 92) (.tmp 82), none, 0⟩, ⟨none, .st 1 (.tmp 93) (.tmp 91), none, 0⟩] (some [[], [], [], [], [2], [3, 2, 4], [4, 2, 3, 5], [5, 3, 2, 4, 6], [6, 4, 2, 3, 5, 7], [7, 5, 3, 2, 4, 6, 8], [8, 9, 6, 4, 2, 3, 5, 7], [0], [10, 9, 8, 7, 6, 5, 4, 3, 2, 1, 0, 11], [11, 0, 1, 2, 3, 4, 5, 6, 7, 8, 9, 10, 12]]) 0 []) (.reg 0 [⟨(some 94), .mv (.tmp 15), none, 0⟩, ⟨(some 3), .mv (.tmp 94), none, 0⟩] none 0 []))))))))) (.seq (.seq (.reg 0 [⟨(some 143), .mv (.tmp 3), none, 0⟩, ⟨(some 144), .cl 29 [(.tmp 143)], none, 0⟩, ⟨(some 145), .bin .neq (.tmp 144) (.const (.int .i64 0)), none, 0⟩] none 0 []) (.cond (.tmp 145) (.seq (.reg 0 [⟨(some 2), .mv (.const (.bool false)), none, 0⟩] none 0 []) .ret) .skip)) (.seq (.reg 0 [⟨(some 17), .mv (.const (.int .i64 0)), none, 0⟩] none 0 []) (.seq (.seq (.reg 0 [⟨(some 18), .mv (.const (.int .i64 0)), none, 0⟩] none 0 []) (.block 3 (.loop (.seq (.seq (.reg 0 [⟨(some 146), .mv (.tmp 18), none, 0⟩, ⟨(some 147), .bin .lss (.tmp 146) (.const (.int .i64 5)), none, 0⟩] none 0 []) (.cond (.tmp 147) .skip (.exit 3))) (.seq (.block 4 (.seq (.reg 0 [⟨(some 19), .mv (.const (.int .i64 0)), none, 0⟩] none 0 []) (.block 5 (.loop (.seq (.seq (.reg 0 [⟨(some 150), .mv (.tmp 19), none, 0⟩, ⟨(some 151), .bin .lss (.tmp 150) (.const (.int .i64 8)), none, 0⟩] none 0 []) (.cond (.tmp 151) .skip (.exit 5))) (.seq (.block 6 (.seq (.seq (.reg 2 [⟨(some 154), .mv (.tmp 3), none, 0⟩, ⟨(some 155), .mv (.tmp 18), none, 0⟩, ⟨(some 156), .cvi .u8 (.tmp 155), none, 0⟩, ⟨(some 157), .bin .add (.const (.int .u8 97)) (.tmp 156), none, 0⟩, ⟨(some 158), .bs 1 1 [(.lit (.int .u8 0))] [(0, (.tmp 157))], none, 0⟩, ⟨(some 159), .b2s (.tmp 158), none, 1⟩, ⟨(some 160), .bin .add (.tmp 159) (.const (.string ⟨#[64, 120, 32, 114]⟩)), none, 1⟩, ⟨(some 161), .mv (.tmp 19), none, 1⟩, ⟨(some 162), .cvi .u8 (.tmp 161), none, 1⟩, ⟨(some 163), .bin .add (.const (.int .u8 112)) (.tmp 162), none, 1⟩, ⟨(some 164), .bs 1 1 [(.lit (.int .u8 0))] [(0, (.tmp 163))], none, 1⟩, ⟨(some 165), .b2s (.tmp 164), none, 2⟩, ⟨(some 166), .bin .add (.tmp 165) (.const (.string ⟨#[64, 121]⟩)), none, 2⟩, ⟨(some 167), .cl 36 [(.tmp 154), (.tmp 160), (.tmp 166)], none, 2⟩, ⟨(some 168), .mv (.tmp 18), none, 2⟩, ⟨(some 169), .mv (.tmp 19), none, 2⟩, ⟨(some 170), .ixa 5 8 (.tmp 4) (.tmp 168), none, 2⟩, ⟨(some 171), .ixa 8 1 (.tmp 170) (.tmp 169), none, 2⟩, ⟨(some 172), .ld 1 false (.tmp 171), none, 2⟩, ⟨(some 173), .binb true (.tmp 167) (.tmp 172), none, 2⟩] (some [[], [], [1], [1, 2], [2, 1, 3], [3, 1, 2, 4], [4, 2, 1, 3, 5], [], [7], [7, 8], [8, 7, 9], [9, 7, 8, 10], [10, 8, 7, 9, 11], [11, 9, 7, 8, 10, 12, 5, 3, 1, 2, 4, 6, 0], [], [], [14], [15, 14, 16], [16, 14, 15, 17], [17, 15, 14, 16, 18, 0, 6, 4, 2, 1, 3, 5, 12, 10, 8, 7, 9, 11, 13]]) 0 []) (.cond (.tmp 173) (.seq (.reg 0 [⟨(some 2), .mv (.const (.bool false)), none, 0⟩] none 0 []) .ret) .skip)) (.seq (.reg 0 [⟨(some 174), .mv (.tmp 18), none, 0⟩, ⟨(some 175), .mv (.tmp 19), none, 0⟩, ⟨(some 176), .ixa 5 8 (.tmp 4) (.tmp 174), none, 0⟩, ⟨(some 177), .ixa 8 1 (.tmp 176) (.tmp 175), none, 0⟩, ⟨(some 178), .ld 1 false (.tmp 177), none, 0⟩] none 0 []) (.cond (.tmp 178) (.reg 0 [⟨(some 179), .mv (.tmp 17), none, 0⟩, ⟨(some 180), .bin .add (.tmp 179) (.const (.int .i64 1)), none, 0⟩, ⟨(some 17), .mv (.tmp 180), none, 0⟩] none 0 []) .skip)))) (.reg 0 [⟨(some 152), .mv (.tmp 19), none, 0⟩, ⟨(some 153), .bin .add (.tmp 152) (.const (.int .i64 1)), none, 0⟩, ⟨(some 19), .mv (.tmp 153), none, 0⟩] none 0 []))))))) (.reg 0 [⟨(some 148), .mv (.tmp 18), none, 0⟩, ⟨(some 149), .bin .add (.tmp 148) (.const (.int .i64 1)), none, 0⟩, ⟨(some 18), .mv (.tmp 149), none, 0⟩] none 0 [])))))) (.seq (.reg 0 [⟨(some 20), .mv (.const (.int .i64 0)), none, 0⟩, ⟨(some 21), .mv (.const (.int .i64 0)), none, 0⟩] none 0 []) (.seq (.seq (.reg 0 [⟨(some 22), .mv (.const (.int .i64 0)), none, 0⟩] none 0 []) (.block 7 (.loop (.seq (.seq (.reg 0 [⟨(some 181), .mv (.tmp 22), none, 0⟩, ⟨(some 182), .bin .lss (.tmp 181) (.const (.int .i64 5)), none, 0⟩] none 0 []) (.cond (.tmp 182) .skip (.exit 7))) (.seq (.block 8 (.reg 1 [⟨(some 185), .mv (.tmp 20), none, 0⟩, ⟨(some 186), .mv (.tmp 3), none, 0⟩, ⟨(some 187), .mv (.tmp 22), none, 0⟩, ⟨(some 188), .cvi .u8 (.tmp 187), none, 0⟩, ⟨(some 189), .bin .add (.const (.int .u8 97)) (.tmp 188), none, 0⟩, ⟨(some 190), .bs 1 1 [(.lit (.int .u8 0))] [(0, (.tmp 189))], none, 0⟩, ⟨(some 191), .b2s (.tmp 190), none, 1⟩, ⟨(some 192), .bin .add (.tmp 191) (.const (.string ⟨#[64, 120, 32, 114]⟩)), none, 1⟩, ⟨(some 193), .cl 32 [(.tmp 186), (.tmp 192)], none, 1⟩, ⟨(some 194), .lens (.tmp 193), none, 1⟩, ⟨(some 195), .bin .add (.tmp 185) (.tmp 194), none, 1⟩, ⟨(some 20), .mv (.tmp 195), none, 1⟩] none 0 [])) (.reg 0 [⟨(some 183), .mv (.tmp 22), none, 0⟩, ⟨(some 184), .bin .add (.tmp 183) (.const (.int .i64 1)), none, 0⟩, ⟨(some 22), .mv (.tmp 184), none, 0⟩] none 0 [])))))) (.seq (.seq (.reg 0 [⟨(some 23), .mv (.const (.int .i64 0)), none, 0⟩] none 0 []) (.block 9 (.loop (.seq (.seq (.reg 0 [⟨(some 196), .mv (.tmp 23), none, 0⟩, ⟨(some 197), .bin .lss (.tmp 196) (.const (.int .i64 8)), none, 0⟩] none 0 []) (.cond (.tmp 197) .skip (.exit 9))) (.seq (.block 10 (.reg 1 [⟨(some 200), .mv (.tmp 21), none, 0⟩, ⟨(some 201), .mv (.tmp 3), none, 0⟩, ⟨(some 202), .mv (.tmp 23), none, 0⟩, ⟨(some 203), .cvi .u8 (.tmp 202), none, 0⟩, ⟨(some 204), .bin .add (.const (.int .u8 112)) (.tmp 203), none, 0⟩, ⟨(some 205), .bs 1 1 [(.lit (.int .u8 0))] [(0, (.tmp 204))], none, 0⟩, ⟨(some 206), .b2s (.tmp 205), none, 1⟩, ⟨(some 207), .bin .add (.tmp 206) (.const (.string ⟨#[64, 121]⟩)), none, 1⟩, ⟨(some 208), .cl 34 [(.tmp 201), (.tmp 207)], none, 1⟩, ⟨(some 209), .lens (.tmp 208), none, 1⟩, ⟨(some 210), .bin .add (.tmp 200) (.tmp 209), none, 1⟩, ⟨(some 21), .mv (.tmp 210), none, 1⟩] none 0 [])) (.reg 0 [⟨(some 198), .mv (.tmp 23), none, 0⟩, ⟨(some 199), .bin .add (.tmp 198) (.const (.int .i64 1)), none, 0⟩, ⟨(some 23), .mv (.tmp 199), none, 0⟩] none 0 [])))))) (.seq (.reg 0 [⟨(some 211), .mv (.tmp 17), none, 0⟩, ⟨(some 212), .mv (.tmp 3), none, 0⟩, ⟨(some 213), .lens (.tmp 212), none, 0⟩, ⟨(some 214), .bin .neq (.tmp 211) (.tmp 213), none, 0⟩, ⟨(some 215), .mv (.tmp 214), none, 0⟩, ⟨(some 216), .mv (.tmp 20), (some (215, false)), 0⟩, ⟨(some 217), .mv (.tmp 17), (some (215, false)), 0⟩, ⟨(some 218), .bin .neq (.tmp 216) (.tmp 217), (some (215, false)), 0⟩, ⟨(some 219), .pick (.tmp 215) (.const (.bool true)) (.tmp 218), none, 0⟩, ⟨(some 220), .mv (.tmp 219), none, 0⟩, ⟨(some 221), .mv (.tmp 21), (some (220, false)), 0⟩, ⟨(some 222), .mv (.tmp 17), (some (220, false)), 0⟩, ⟨(some 223), .bin .neq (.tmp 221) (.tmp 222), (some (220, false)), 0⟩, ⟨(some 224), .pick (.tmp 220) (.const (.bool true)) (.tmp 223), none, 0⟩] none 0 []) (.cond (.tmp 224) (.seq (.reg 0 [⟨(some 2), .mv (.const (.bool false)), none, 0⟩] none 0 []) .ret) .skip))))))))))))) (.reg 0 [⟨(some 32), .mv (.tmp 5), none, 0⟩, ⟨(some 33), .bin .add (.tmp 32) (.const (.int .i64 1)), none, 0⟩, ⟨(some 5), .mv (.tmp 33), none, 0⟩] none 0 [])))))) (.seq (.reg 0 [⟨(some 225), .cl 27 [], none, 0⟩, ⟨(some 2), .mv (.tmp 225), none, 0⟩] none 0 []) .ret))))))
set_option maxRecDepth 1000000 in
theorem gc6_ok : compF Try.prog Try.f6 = some (gc6.er, 226, [.tmp 2]) := by unfold gc6; kernel_rfl
set_option maxRecDepth 100000 in
set_option maxHeartbeats 4000000 in
theorem p_law29_DirsKeeps_v {u1 : Bool} (a0 : List Law29Deed) : CallsO Try.prog 6 [.sl (List.map Law29Deed.v a0) u1] V.b (p_law29_DirsKeeps a0) := by
  refine callsO_comp mix Try.func6 gc6_ok fun r H => ?_
  rw [p_law29_DirsKeeps] at H
  conv => whnf
  refine LenQ.M ?_; conv => whnf
  refine tst_c H (fun b1 H => ?_) (fun b1 H => ?_)
  · conv => whnf
    refine ask_c (p_law29_awake_v) H rfl rfl (fun v2 H => ?_); conv => whnf
    exact fin0_c (enc := V.b) H (.inr rfl) (.cons (.tmp rfl) (.nil)) rfl rfl
  conv => whnf
  obtain ⟨o4, HL5, HQ6⟩ := bind_c H
  refine loop_c [2, 3, 5] [6, 7, 8, 9, 10, 11, 12, 13, 14, 15, 16, 17, 18, 19, 20, 21, 22, 23, 28, 29, 30, 31, 32, 33, 34, 35, 36, 37, 38, 39, 40, 41, 42, 43, 44, 45, 46, 47, 48, 49, 50, 51, 52, 53, 54, 55, 56, 57, 58, 59, 60, 61, 62, 63, 64, 65, 66, 67, 68, 69, 70, 71, 72, 73, 74, 75, 76, 77, 78, 79, 80, 81, 82, 83, 84, 85, 86, 87, 88, 89, 90, 91, 92, 93, 94, 95, 96, 97, 98, 99, 100, 101, 102, 103, 104, 105, 106, 107, 108, 109, 110, 111, 112, 113, 114, 115, 116, 117, 118, 119, 120, 121, 122, 123, 124, 125, 126, 127, 128, 129, 130, 131, 132, 133, 134, 135, 136, 137, 138, 139, 140, 141, 142, 143, 144, 145, 146, 147, 148, 149, 150, 151, 152, 153, 154, 155, 156, 157, 158, 159, 160, 161, 162, 163, 164, 165, 166, 167, 168, 169, 170, 171, 172, 173, 174, 175, 176, 177, 178, 179, 180, 181, 182, 183, 184, 185, 186, 187, 188, 189, 190, 191, 192, 193, 194, 195, 196, 197, 198, 199, 200, 201, 202, 203, 204, 205, 206, 207, 208, 209, 210, 211, 212, 213, 214, 215, 216, 217, 218, 219, 220, 221, 222, 223, 224] [6, 7, 8, 9, 10, 11, 12, 13, 14, 15, 16, 17, 18, 19, 20, 21, 22, 23, 28, 29, 30, 31, 32, 33, 34, 35, 36, 37, 38, 39, 40, 41, 42, 43, 44, 45, 46, 47, 48, 49, 50, 51, 52, 53, 54, 55, 56, 57, 58, 59, 60, 61, 62, 63, 64, 65, 66, 67, 68, 69, 70, 71, 72, 73, 74, 75, 76, 77, 78, 79, 80, 81, 82, 83, 84, 85, 86, 87, 88, 89, 90, 91, 92, 93, 94, 95, 96, 97, 98, 99, 100, 101, 102, 103, 104, 105, 106, 107, 108, 109, 110, 111, 112, 113, 114, 115, 116, 117, 118, 119, 120, 121, 122, 123, 124, 125, 126, 127, 128, 129, 130, 131, 132, 133, 134, 135, 136, 137, 138, 139, 140, 141, 142, 143, 144, 145, 146, 147, 148, 149, 150, 151, 152, 153, 154, 155, 156, 157, 158, 159, 160, 161, 162, 163, 164, 165, 166, 167, 168, 169, 170, 171, 172, 173, 174, 175, 176, 177, 178, 179, 180, 181, 182, 183, 184, 185, 186, 187, 188, 189, 190, 191, 192, 193, 194, 195, 196, 197, 198, 199, 200, 201, 202, 203, 204, 205, 206, 207, 208, 209, 210, 211, 212, 213, 214, 215, 216, 217, 218, 219, 220, 221, 222, 223, 224] (fun n vals st => (∃ y8 y9, p_law29_DirsKeeps_l1  a0 n [] y8 y9 = some o4 ∧ vals = [.b false, .sl (List.map Ref29Arrow.v []) true, .i y8] ∧ st = [.live (cellsM V.b y9) 0]) ∨ (∃ y124 y125 y126, p_law29_DirsKeeps_l1  a0 n y124 y125 y126 = some o4 ∧ vals = [.b false, .sl (List.map Ref29Arrow.v y124) false, .i y125] ∧ st = [.live (cellsM V.b y126) 0])) fuel 1 [] (.inl (⟨_, _, HL5, rfl, rfl⟩)) (Nat.zero_le _) rfl (by kernel_rfl) (by kernel_rfl) rfl (wkB_live0 rfl (cellsM_idlt (f := V.b) (fun _ => rfl) _) rfl trivial) ?_
  rintro (_ | n7) _ _ (⟨y8, y9, H, rfl, rfl⟩ | ⟨y124, y125, y126, H, rfl, rfl⟩)
  · rw [p_law29_DirsKeeps_l1] at H; cases H
  · rw [p_law29_DirsKeeps_l1] at H; cases H
  · rw [p_law29_DirsKeeps_l1] at H
    conv => whnf
    refine LenQ.M ?_; conv => whnf
    refine tst_d H (fun b10 H => ?_) (fun b10 H => ?_)
    · conv => whnf
      obtain rfl := Option.some.inj H
      have H := HQ6
      try dsimp only at H
      refine ask_c (p_law29_awake_v) H rfl rfl (fun v127 H => ?_); conv => whnf
      exact fin0_c (enc := V.b) H (.inr rfl) (.cons (.tmp rfl) (.nil)) rfl rfl
    conv => whnf
    refine ixs_c (f := Law29Deed.v) H (fun _ => rfl) (fun x11 H => ?_); conv => whnf
    refine ⟨Nat.le_of_ble_eq_true rfl, ?_⟩; conv => whnf
    refine ⟨by decide, ?_⟩; conv => whnf
    refine Ari.w ?_; conv => whnf
    refine ixs_c (f := Law29Deed.v) H (fun _ => rfl) (fun x12 H => ?_); conv => whnf
    refine ⟨Nat.le_of_ble_eq_true rfl, ?_⟩; conv => whnf
    refine ⟨by decide, ?_⟩; conv => whnf
    refine Ari.w ?_; conv => whnf
    refine FootQ.mk ⟨rfl, ?_⟩; conv => whnf
    iterate 2 (refine Ari.w ?_; conv => whnf)
    refine b2sO_c H rfl rfl rfl (fun s13 H => ?_); conv => whnf
    refine cat_c H (fun s14 H => ?_); conv => whnf
    iterate 2 (refine Ari.w ?_; conv => whnf)
    refine b2sO_c H rfl rfl rfl (fun s15 H => ?_); conv => whnf
    refine cat_c H (fun s16 H => ?_); conv => whnf
    refine FootQ.mk ⟨rfl, ?_⟩; conv => whnf
    refine LenQ.ok ?_; conv => whnf
    obtain ⟨K17, hK18, o19, HL20, HQ21⟩ := join0_c H
    refine join_c [2, 3, 4] [11, 12, 13, 14, 15, 16, 62, 63, 64, 65, 66, 67, 68, 69, 70, 71, 72, 73, 74, 75, 76, 77, 78, 79, 80, 81, 82, 83, 84, 85, 86, 87, 88, 89, 90, 91, 92, 93, 94, 95, 96, 97, 98, 99, 100, 101, 102, 103, 104, 105, 106, 107, 108, 109, 110, 111, 112, 113, 114, 115, 116, 117, 118, 119, 120, 121, 122, 123, 124, 125, 126, 127, 128, 129, 130, 131, 132, 133, 134, 135, 136, 137, 138, 139, 140, 141, 142, 51, 57] (fun vals st => (∃ y29 y30, K17 (.inr (y29, y30)) = some o4 ∧ vals = [.b false, .sl (List.map Ref29Arrow.v y29) false, .ptr 0 0] ∧ st = [.live (cellsM V.b y30) 0])) ?_ ?_
    · have H := HL20
      conv => whnf
      refine ixs_c (f := Law29Deed.v) H (fun _ => rfl) (fun x23 H => ?_); conv => whnf
      refine ⟨Nat.le_of_ble_eq_true rfl, ?_⟩; conv => whnf
      refine tst_c H (fun b24 H => ?_) (fun b24 H => ?_)
      · conv => whnf
        refine ask_c (p_dirs_Clear_v _ _) H rfl rfl (fun v25 H => ?_); conv => whnf
        iterate 2 (refine LenQ.M ?_; conv => whnf)
        refine Ari.w ?_; conv => whnf
        refine tst_c H (fun b26 H => ?_) (fun b26 H => ?_)
        · conv => whnf
          obtain rfl := Option.some.inj H
          have H := HQ21
          rw [hK18] at H
          try dsimp only at H
          obtain rfl := Option.some.inj H
          have H := HQ6
          try dsimp only at H
          exact fin0_c (enc := V.b) H (.inr rfl) (.cons (.tmp rfl) (.nil)) rfl rfl
        conv => whnf
        refine ixrow_c H (fun H => ?_); conv => whnf
        refine ⟨Nat.zero_le _, rowS_c (f := V.b) (es := 1) (row := [false, false, false, false, false, false, false, false]) H (fun _ => rfl) (by first | omega | (simp only [w64] <;> omega)) rfl (fun l28 H => ?_)⟩; conv => whnf
        obtain rfl := Option.some.inj H
        exact arrive_c [11, 12, 13, 14, 15, 16, 62, 63, 64, 65, 66, 67, 68, 69, 70, 71, 72, 73, 74, 75, 76, 77, 78, 79, 80, 81, 82, 83, 84, 85, 86, 87, 88, 89, 90, 91, 92, 93, 94, 95, 96, 97, 98, 99, 100, 101, 102, 103, 104, 105, 106, 107, 108, 109, 110, 111, 112, 113, 114, 115, 116, 117, 118, 119, 120, 121, 122, 123, 124, 125, 126, 127, 128, 129, 130, 131, 132, 133, 134, 135, 136, 137, 138, 139, 140, 141, 142, 51, 57] 1 [] (⟨_, _, HQ21, rfl, rfl⟩) (Nat.zero_le _) rfl (by kernel_rfl) (by kernel_rfl) rfl (wkB_live0 rfl (cellsM_idlt (f := V.b) (fun _ => rfl) _) rfl trivial)
      conv => whnf
      refine ixs_c (f := Law29Deed.v) H (fun _ => rfl) (fun x31 H => ?_); conv => whnf
      refine ⟨Nat.le_of_ble_eq_true rfl, ?_⟩; conv => whnf
      refine tst_c H (fun b32 H => ?_) (fun b32 H => ?_)
      · conv => whnf
        refine ask_c (p_dirs_Del_v _ _ _) H rfl rfl (fun v33 H => ?_); conv => whnf
        refine ixrow_c H (fun H => ?_); conv => whnf
        refine ix2_c (b := (Int.toNat (w64 (Int.tmod x11.From (5 : Int))) * 8)) H (fun x35 h36 H => ?_); conv => whnf
        refine ldo_c (f := V.b) (es := 1) h36 (fun _ => rfl) 0 (by first | omega | (simp only [w64] <;> omega)) (by decide) ?_; conv => whnf
        refine tst_c H (fun b37 H => ?_) (fun b37 H => ?_)
        · conv => whnf
          obtain rfl := Option.some.inj H
          have H := HQ21
          rw [hK18] at H
          try dsimp only at H
          obtain rfl := Option.some.inj H
          have H := HQ6
          try dsimp only at H
          exact fin0_c (enc := V.b) H (.inr rfl) (.cons (.tmp rfl) (.nil)) rfl rfl
        conv => whnf
        refine ixrow_c H (fun H => ?_); conv => whnf
        refine ix2_c (b := (Int.toNat (w64 (Int.tmod x11.From (5 : Int))) * 8)) H (fun x39 h40 H => ?_); conv => whnf
        refine ⟨Nat.zero_le _, sto_c (f := V.b) (es := 1) h40 (x' := false) (fun _ => rfl) 0 (by first | omega | (simp only [w64] <;> omega)) (Nat.le_of_ble_eq_true rfl) (by rfl) ?_⟩; conv => whnf
        obtain rfl := Option.some.inj H
        exact arrive_c [11, 12, 13, 14, 15, 16, 62, 63, 64, 65, 66, 67, 68, 69, 70, 71, 72, 73, 74, 75, 76, 77, 78, 79, 80, 81, 82, 83, 84, 85, 86, 87, 88, 89, 90, 91, 92, 93, 94, 95, 96, 97, 98, 99, 100, 101, 102, 103, 104, 105, 106, 107, 108, 109, 110, 111, 112, 113, 114, 115, 116, 117, 118, 119, 120, 121, 122, 123, 124, 125, 126, 127, 128, 129, 130, 131, 132, 133, 134, 135, 136, 137, 138, 139, 140, 141, 142, 51, 57] 1 [] (⟨_, _, HQ21, rfl, rfl⟩) (Nat.zero_le _) rfl (by kernel_rfl) (by kernel_rfl) rfl (wkB_live0 rfl (cellsM_idlt (f := V.b) (fun _ => rfl) _) rfl trivial)
      conv => whnf
      refine ask_c (p_dirs_Add_v _ _ _) H rfl rfl (fun v41 H => ?_); conv => whnf
      refine ixrow_c H (fun H => ?_); conv => whnf
      refine ix2_c (b := (Int.toNat (w64 (Int.tmod x11.From (5 : Int))) * 8)) H (fun x43 h44 H => ?_); conv => whnf
      refine ldo_c (f := V.b) (es := 1) h44 (fun _ => rfl) 0 (by first | omega | (simp only [w64] <;> omega)) (by decide) ?_; conv => whnf
      refine tst_c H (fun b45 H => ?_) (fun b45 H => ?_)
      · conv => whnf
        iterate 2 (refine Tst.T ?_; conv => whnf)
        refine tst_c H (fun b46 H => ?_) (fun b46 H => ?_)
        · conv => whnf
          obtain rfl := Option.some.inj H
          have H := HQ21
          rw [hK18] at H
          try dsimp only at H
          obtain rfl := Option.some.inj H
          have H := HQ6
          try dsimp only at H
          exact fin0_c (enc := V.b) H (.inr rfl) (.cons (.tmp rfl) (.nil)) rfl rfl
        conv => whnf
        refine ixrow_c H (fun H => ?_); conv => whnf
        refine ix2_c (b := (Int.toNat (w64 (Int.tmod x11.From (5 : Int))) * 8)) H (fun x48 h49 H => ?_); conv => whnf
        refine ldo_c (f := V.b) (es := 1) h49 (fun _ => rfl) 0 (by first | omega | (simp only [w64] <;> omega)) (by decide) ?_; conv => whnf
        refine tst_c H (fun b50 H => ?_) (fun b50 H => ?_)
        · conv => whnf
          iterate 2 (refine Tst.T ?_; conv => whnf)
          refine ixrow_c H (fun H => ?_); conv => whnf
          refine ix2_c (b := (Int.toNat (w64 (Int.tmod x11.From (5 : Int))) * 8)) H (fun x52 h53 H => ?_); conv => whnf
          refine ⟨Nat.zero_le _, sto_c (f := V.b) (es := 1) h53 (x' := true) (fun _ => rfl) 0 (by first | omega | (simp only [w64] <;> omega)) (Nat.le_of_ble_eq_true rfl) (by rfl) ?_⟩; conv => whnf
          refine FootQ.mk ⟨rfl, ?_⟩; conv => whnf
          obtain rfl := Option.some.inj H
          exact arrive_c [11, 12, 13, 14, 15, 16, 62, 63, 64, 65, 66, 67, 68, 69, 70, 71, 72, 73, 74, 75, 76, 77, 78, 79, 80, 81, 82, 83, 84, 85, 86, 87, 88, 89, 90, 91, 92, 93, 94, 95, 96, 97, 98, 99, 100, 101, 102, 103, 104, 105, 106, 107, 108, 109, 110, 111, 112, 113, 114, 115, 116, 117, 118, 119, 120, 121, 122, 123, 124, 125, 126, 127, 128, 129, 130, 131, 132, 133, 134, 135, 136, 137, 138, 139, 140, 141, 142, 51, 57] 1 [] (⟨_, _, HQ21, rfl, rfl⟩) (Nat.zero_le _) rfl (by kernel_rfl) (by kernel_rfl) rfl (wkB_live0 rfl (cellsM_idlt (f := V.b) (fun _ => rfl) _) rfl trivial)
        conv => whnf
        iterate 2 (refine Tst.F ?_; conv => whnf)
        refine ixrow_c H (fun H => ?_); conv => whnf
        refine ix2_c (b := (Int.toNat (w64 (Int.tmod x11.From (5 : Int))) * 8)) H (fun x55 h56 H => ?_); conv => whnf
        refine ⟨Nat.zero_le _, sto_c (f := V.b) (es := 1) h56 (x' := (v41.2 == (0 : Int))) (fun _ => rfl) 0 (by first | omega | (simp only [w64] <;> omega)) (Nat.le_of_ble_eq_true rfl) (by rfl) ?_⟩; conv => whnf
        refine FootQ.mk ⟨rfl, ?_⟩; conv => whnf
        obtain rfl := Option.some.inj H
        exact arrive_c [11, 12, 13, 14, 15, 16, 62, 63, 64, 65, 66, 67, 68, 69, 70, 71, 72, 73, 74, 75, 76, 77, 78, 79, 80, 81, 82, 83, 84, 85, 86, 87, 88, 89, 90, 91, 92, 93, 94, 95, 96, 97, 98, 99, 100, 101, 102, 103, 104, 105, 106, 107, 108, 109, 110, 111, 112, 113, 114, 115, 116, 117, 118, 119, 120, 121, 122, 123, 124, 125, 126, 127, 128, 129, 130, 131, 132, 133, 134, 135, 136, 137, 138, 139, 140, 141, 142, 51, 57] 1 [] (⟨_, _, HQ21, rfl, rfl⟩) (Nat.zero_le _) rfl (by kernel_rfl) (by kernel_rfl) rfl (wkB_live0 rfl (cellsM_idlt (f := V.b) (fun _ => rfl) _) rfl trivial)
      conv => whnf
      iterate 2 (refine Tst.F ?_; conv => whnf)
      refine tst_c H (fun b57 H => ?_) (fun b57 H => ?_)
      · conv => whnf
        obtain rfl := Option.some.inj H
        have H := HQ21
        rw [hK18] at H
        try dsimp only at H
        obtain rfl := Option.some.inj H
        have H := HQ6
        try dsimp only at H
        exact fin0_c (enc := V.b) H (.inr rfl) (.cons (.tmp rfl) (.nil)) rfl rfl
      conv => whnf
      refine ixrow_c H (fun H => ?_); conv => whnf
      refine ix2_c (b := (Int.toNat (w64 (Int.tmod x11.From (5 : Int))) * 8)) H (fun x59 h60 H => ?_); conv => whnf
      refine ldo_c (f := V.b) (es := 1) h60 (fun _ => rfl) 0 (by first | omega | (simp only [w64] <;> omega)) (by decide) ?_; conv => whnf
      refine tst_c H (fun b61 H => ?_) (fun b61 H => ?_)
      · conv => whnf
        iterate 2 (refine Tst.T ?_; conv => whnf)
        refine ixrow_c H (fun H => ?_); conv => whnf
        refine ix2_c (b := (Int.toNat (w64 (Int.tmod x11.From (5 : Int))) * 8)) H (fun x63 h64 H => ?_); conv => whnf
        refine ⟨Nat.zero_le _, sto_c (f := V.b) (es := 1) h64 (x' := true) (fun _ => rfl) 0 (by first | omega | (simp only [w64] <;> omega)) (Nat.le_of_ble_eq_true rfl) (by rfl) ?_⟩; conv => whnf
        refine FootQ.mk ⟨rfl, ?_⟩; conv => whnf
        obtain rfl := Option.some.inj H
        exact arrive_c [11, 12, 13, 14, 15, 16, 62, 63, 64, 65, 66, 67, 68, 69, 70, 71, 72, 73, 74, 75, 76, 77, 78, 79, 80, 81, 82, 83, 84, 85, 86, 87, 88, 89, 90, 91, 92, 93, 94, 95, 96, 97, 98, 99, 100, 101, 102, 103, 104, 105, 106, 107, 108, 109, 110, 111, 112, 113, 114, 115, 116, 117, 118, 119, 120, 121, 122, 123, 124, 125, 126, 127, 128, 129, 130, 131, 132, 133, 134, 135, 136, 137, 138, 139, 140, 141, 142, 51, 57] 1 [] (⟨_, _, HQ21, rfl, rfl⟩) (Nat.zero_le _) rfl (by kernel_rfl) (by kernel_rfl) rfl (wkB_live0 rfl (cellsM_idlt (f := V.b) (fun _ => rfl) _) rfl trivial)
      conv => whnf
      iterate 2 (refine Tst.F ?_; conv => whnf)
      refine ixrow_c H (fun H => ?_); conv => whnf
      refine ix2_c (b := (Int.toNat (w64 (Int.tmod x11.From (5 : Int))) * 8)) H (fun x66 h67 H => ?_); conv => whnf
      refine ⟨Nat.zero_le _, sto_c (f := V.b) (es := 1) h67 (x' := (v41.2 == (0 : Int))) (fun _ => rfl) 0 (by first | omega | (simp only [w64] <;> omega)) (Nat.le_of_ble_eq_true rfl) (by rfl) ?_⟩; conv => whnf
      refine FootQ.mk ⟨rfl, ?_⟩; conv => whnf
      obtain rfl := Option.some.inj H
      exact arrive_c [11, 12, 13, 14, 15, 16, 62, 63, 64, 65, 66, 67, 68, 69, 70, 71, 72, 73, 74, 75, 76, 77, 78, 79, 80, 81, 82, 83, 84, 85, 86, 87, 88, 89, 90, 91, 92, 93, 94, 95, 96, 97, 98, 99, 100, 101, 102, 103, 104, 105, 106, 107, 108, 109, 110, 111, 112, 113, 114, 115, 116, 117, 118, 119, 120, 121, 122, 123, 124, 125, 126, 127, 128, 129, 130, 131, 132, 133, 134, 135, 136, 137, 138, 139, 140, 141, 142, 51, 57] 1 [] (⟨_, _, HQ21, rfl, rfl⟩) (Nat.zero_le _) rfl (by kernel_rfl) (by kernel_rfl) rfl (wkB_live0 rfl (cellsM_idlt (f := V.b) (fun _ => rfl) _) rfl trivial)
    rintro _ _ (⟨y29, y30, H, rfl, rfl⟩)
    rw [hK18] at H
    try dsimp only at H
    conv => whnf
    refine ask_c (p_dirs_Check_v _) H rfl rfl (fun v68 H => ?_); conv => whnf
    refine tst_c H (fun b69 H => ?_) (fun b69 H => ?_)
    · conv => whnf
      obtain rfl := Option.some.inj H
      have H := HQ6
      try dsimp only at H
      exact fin0_c (enc := V.b) H (.inr rfl) (.cons (.tmp rfl) (.nil)) rfl rfl
    conv => whnf
    obtain ⟨o71, HL72, HQ73⟩ := bind_c H
    refine loop_c [2, 17, 18] [19, 146, 147, 148, 149, 150, 151, 152, 153, 154, 155, 156, 157, 158, 159, 160, 161, 162, 163, 164, 165, 166, 167, 168, 169, 170, 171, 172, 173, 174, 175, 176, 177, 178, 179, 180] [19, 146, 147, 148, 149, 150, 151, 152, 153, 154, 155, 156, 157, 158, 159, 160, 161, 162, 163, 164, 165, 166, 167, 168, 169, 170, 171, 172, 173, 174, 175, 176, 177, 178, 179, 180] (fun n vals st => (∃ y75 y76, p_law29_DirsKeeps_l2  y29 y30 n y75 y76 = some o71 ∧ vals = [.b false, .i y75, .i y76] ∧ st = [.live (cellsM V.b y30) 0])) fuel 1 [] (⟨_, _, HL72, rfl, rfl⟩) (Nat.zero_le _) rfl (by kernel_rfl) (by kernel_rfl) rfl (wkB_live0 rfl (cellsM_idlt (f := V.b) (fun _ => rfl) _) rfl trivial) ?_
    rintro (_ | n74) _ _ (⟨y75, y76, H, rfl, rfl⟩)
    · rw [p_law29_DirsKeeps_l2] at H; cases H
    rw [p_law29_DirsKeeps_l2] at H
    conv => whnf
    refine tst_c H (fun b77 H => ?_) (fun b77 H => ?_)
    · conv => whnf
      obtain ⟨o79, HL80, HQ81⟩ := bind_c H
      refine loop_c [2, 17, 19] [150, 151, 152, 153, 154, 155, 156, 157, 158, 159, 160, 161, 162, 163, 164, 165, 166, 167, 168, 169, 170, 171, 172, 173, 174, 175, 176, 177, 178, 179, 180] [150, 151, 152, 153, 154, 155, 156, 157, 158, 159, 160, 161, 162, 163, 164, 165, 166, 167, 168, 169, 170, 171, 172, 173, 174, 175, 176, 177, 178, 179, 180] (fun n vals st => (∃ y83 y84, p_law29_DirsKeeps_l3  y29 y76 y30 n y83 y84 = some o79 ∧ vals = [.b false, .i y83, .i y84] ∧ st = [.live (cellsM V.b y30) 0])) fuel 1 [] (⟨_, _, HL80, rfl, rfl⟩) (Nat.zero_le _) rfl (by kernel_rfl) (by kernel_rfl) rfl (wkB_live0 rfl (cellsM_idlt (f := V.b) (fun _ => rfl) _) rfl trivial) ?_
      rintro (_ | n82) _ _ (⟨y83, y84, H, rfl, rfl⟩)
      · rw [p_law29_DirsKeeps_l3] at H; cases H
      rw [p_law29_DirsKeeps_l3] at H
      conv => whnf
      refine tst_d H (fun b85 H => ?_) (fun b85 H => ?_)
      · conv => whnf
        obtain rfl := Option.some.inj H
        have H := HQ81
        try dsimp only at H
        refine Ari.w ?_; conv => whnf
        exact again_c [19, 146, 147, 148, 149, 150, 151, 152, 153, 154, 155, 156, 157, 158, 159, 160, 161, 162, 163, 164, 165, 166, 167, 168, 169, 170, 171, 172, 173, 174, 175, 176, 177, 178, 179, 180] n74 1 [] (⟨_, _, H, rfl, rfl⟩) (Nat.lt_succ_self _) (Nat.zero_le _) rfl (by kernel_rfl) (by kernel_rfl) rfl (wkB_live0 rfl (cellsM_idlt (f := V.b) (fun _ => rfl) _) rfl trivial)
      conv => whnf
      iterate 2 (refine Ari.w ?_; conv => whnf)
      refine b2sO_c H rfl rfl rfl (fun s86 H => ?_); conv => whnf
      refine cat_c H (fun s87 H => ?_); conv => whnf
      iterate 2 (refine Ari.w ?_; conv => whnf)
      refine b2sO_c H rfl rfl rfl (fun s88 H => ?_); conv => whnf
      refine cat_c H (fun s89 H => ?_); conv => whnf
      refine ask_c (p_dirs_Has_v _ _ _) H rfl rfl (fun v90 H => ?_); conv => whnf
      refine ixrow_c H (fun H => ?_); conv => whnf
      refine ix2_c (b := (Int.toNat y76 * 8)) H (fun x92 h93 H => ?_); conv => whnf
      refine ldo_c (f := V.b) (es := 1) h93 (fun _ => rfl) 0 (by first | omega | (simp only [w64] <;> omega)) (by decide) ?_; conv => whnf
      refine FootQ.mk ⟨rfl, ?_⟩; conv => whnf
      refine tst_c H (fun b94 H => ?_) (fun b94 H => ?_)
      · conv => whnf
        obtain rfl := Option.some.inj H
        have H := HQ81
        try dsimp only at H
        obtain rfl := Option.some.inj H
        have H := HQ73
        try dsimp only at H
        obtain rfl := Option.some.inj H
        have H := HQ6
        try dsimp only at H
        exact fin0_c (enc := V.b) H (.inr rfl) (.cons (.tmp rfl) (.nil)) rfl rfl
      conv => whnf
      refine ixrow_c H (fun H => ?_); conv => whnf
      refine ix2_c (b := (Int.toNat y76 * 8)) H (fun x96 h97 H => ?_); conv => whnf
      refine ldo_c (f := V.b) (es := 1) h97 (fun _ => rfl) 0 (by first | omega | (simp only [w64] <;> omega)) (by decide) ?_; conv => whnf
      refine tst_d H (fun b98 H => ?_) (fun b98 H => ?_)
      · conv => whnf
        refine Ari.w ?_; conv => whnf
        exact again_c [150, 151, 152, 153, 154, 155, 156, 157, 158, 159, 160, 161, 162, 163, 164, 165, 166, 167, 168, 169, 170, 171, 172, 173, 174, 175, 176, 177, 178, 179, 180] n82 1 [] (⟨_, _, H, rfl, rfl⟩) (Nat.lt_succ_self _) (Nat.zero_le _) rfl (by kernel_rfl) (by kernel_rfl) rfl (wkB_live0 rfl (cellsM_idlt (f := V.b) (fun _ => rfl) _) rfl trivial)
      conv => whnf
      iterate 2 (refine Ari.w ?_; conv => whnf)
      exact again_c [150, 151, 152, 153, 154, 155, 156, 157, 158, 159, 160, 161, 162, 163, 164, 165, 166, 167, 168, 169, 170, 171, 172, 173, 174, 175, 176, 177, 178, 179, 180] n82 1 [] (⟨_, _, H, rfl, rfl⟩) (Nat.lt_succ_self _) (Nat.zero_le _) rfl (by kernel_rfl) (by kernel_rfl) rfl (wkB_live0 rfl (cellsM_idlt (f := V.b) (fun _ => rfl) _) rfl trivial)
    conv => whnf
    obtain rfl := Option.some.inj H
    have H := HQ73
    try dsimp only at H
    obtain ⟨o100, HL101, HQ102⟩ := bind_c H
    refine loop_c [20, 22] [181, 182, 183, 184, 185, 186, 187, 188, 189, 190, 191, 192, 193, 194, 195] [181, 182, 183, 184, 185, 186, 187, 188, 189, 190, 191, 192, 193, 194, 195] (fun n vals st => (∃ y104 y105, p_law29_DirsKeeps_l4  y29 n y104 y105 = some o100 ∧ vals = [.i y104, .i y105] ∧ st = [.live (cellsM V.b y30) 0])) fuel 1 [] (⟨_, _, HL101, rfl, rfl⟩) (Nat.zero_le _) rfl (by kernel_rfl) (by kernel_rfl) rfl (wkB_live0 rfl (cellsM_idlt (f := V.b) (fun _ => rfl) _) rfl trivial) ?_
    rintro (_ | n103) _ _ (⟨y104, y105, H, rfl, rfl⟩)
    · rw [p_law29_DirsKeeps_l4] at H; cases H
    rw [p_law29_DirsKeeps_l4] at H
    conv => whnf
    refine tst_c H (fun b106 H => ?_) (fun b106 H => ?_)
    · conv => whnf
      iterate 2 (refine Ari.w ?_; conv => whnf)
      refine b2sO_c H rfl rfl rfl (fun s107 H => ?_); conv => whnf
      refine cat_c H (fun s108 H => ?_); conv => whnf
      refine ask_c (p_dirs_Of_v _ _) H rfl rfl (fun v109 H => ?_); conv => whnf
      refine LenQ.M ?_; conv => whnf
      iterate 2 (refine Ari.w ?_; conv => whnf)
      exact again_c [181, 182, 183, 184, 185, 186, 187, 188, 189, 190, 191, 192, 193, 194, 195] n103 1 [] (⟨_, _, H, rfl, rfl⟩) (Nat.lt_succ_self _) (Nat.zero_le _) rfl (by kernel_rfl) (by kernel_rfl) rfl (wkB_live0 rfl (cellsM_idlt (f := V.b) (fun _ => rfl) _) rfl trivial)
    conv => whnf
    obtain rfl := Option.some.inj H
    have H := HQ102
    try dsimp only at H
    obtain ⟨o111, HL112, HQ113⟩ := bind_c H
    refine loop_c [21, 23] [196, 197, 198, 199, 200, 201, 202, 203, 204, 205, 206, 207, 208, 209, 210] [196, 197, 198, 199, 200, 201, 202, 203, 204, 205, 206, 207, 208, 209, 210] (fun n vals st => (∃ y115 y116, p_law29_DirsKeeps_l5  y29 n y115 y116 = some o111 ∧ vals = [.i y115, .i y116] ∧ st = [.live (cellsM V.b y30) 0])) fuel 1 [] (⟨_, _, HL112, rfl, rfl⟩) (Nat.zero_le _) rfl (by kernel_rfl) (by kernel_rfl) rfl (wkB_live0 rfl (cellsM_idlt (f := V.b) (fun _ => rfl) _) rfl trivial) ?_
    rintro (_ | n114) _ _ (⟨y115, y116, H, rfl, rfl⟩)
    · rw [p_law29_DirsKeeps_l5] at H; cases H
    rw [p_law29_DirsKeeps_l5] at H
    conv => whnf
    refine tst_c H (fun b117 H => ?_) (fun b117 H => ?_)
    · conv => whnf
      iterate 2 (refine Ari.w ?_; conv => whnf)
      refine b2sO_c H rfl rfl rfl (fun s118 H => ?_); conv => whnf
      refine cat_c H (fun s119 H => ?_); conv => whnf
      refine ask_c (p_dirs_Keys_v _ _) H rfl rfl (fun v120 H => ?_); conv => whnf
      refine LenQ.M ?_; conv => whnf
      iterate 2 (refine Ari.w ?_; conv => whnf)
      exact again_c [196, 197, 198, 199, 200, 201, 202, 203, 204, 205, 206, 207, 208, 209, 210] n114 1 [] (⟨_, _, H, rfl, rfl⟩) (Nat.lt_succ_self _) (Nat.zero_le _) rfl (by kernel_rfl) (by kernel_rfl) rfl (wkB_live0 rfl (cellsM_idlt (f := V.b) (fun _ => rfl) _) rfl trivial)
    conv => whnf
    obtain rfl := Option.some.inj H
    have H := HQ113
    try dsimp only at H
    refine LenQ.M ?_; conv => whnf
    refine tst_c H (fun b121 H => ?_) (fun b121 H => ?_)
    · conv => whnf
      iterate 8 (refine Tst.T ?_; conv => whnf)
      obtain rfl := Option.some.inj H
      have H := HQ6
      try dsimp only at H
      exact fin0_c (enc := V.b) H (.inr rfl) (.cons (.tmp rfl) (.nil)) rfl rfl
    conv => whnf
    iterate 3 (refine Tst.F ?_; conv => whnf)
    refine tst_c H (fun b122 H => ?_) (fun b122 H => ?_)
    · conv => whnf
      iterate 4 (refine Tst.T ?_; conv => whnf)
      obtain rfl := Option.some.inj H
      have H := HQ6
      try dsimp only at H
      exact fin0_c (enc := V.b) H (.inr rfl) (.cons (.tmp rfl) (.nil)) rfl rfl
    conv => whnf
    iterate 3 (refine Tst.F ?_; conv => whnf)
    refine tst_c H (fun b123 H => ?_) (fun b123 H => ?_)
    · conv => whnf
      obtain rfl := Option.some.inj H
      have H := HQ6
      try dsimp only at H
      exact fin0_c (enc := V.b) H (.inr rfl) (.cons (.tmp rfl) (.nil)) rfl rfl
    conv => whnf
    refine Ari.w ?_; conv => whnf
    exact again_c [6, 7, 8, 9, 10, 11, 12, 13, 14, 15, 16, 17, 18, 19, 20, 21, 22, 23, 28, 29, 30, 31, 32, 33, 34, 35, 36, 37, 38, 39, 40, 41, 42, 43, 44, 45, 46, 47, 48, 49, 50, 51, 52, 53, 54, 55, 56, 57, 58, 59, 60, 61, 62, 63, 64, 65, 66, 67, 68, 69, 70, 71, 72, 73, 74, 75, 76, 77, 78, 79, 80, 81, 82, 83, 84, 85, 86, 87, 88, 89, 90, 91, 92, 93, 94, 95, 96, 97, 98, 99, 100, 101, 102, 103, 104, 105, 106, 107, 108, 109, 110, 111, 112, 113, 114, 115, 116, 117, 118, 119, 120, 121, 122, 123, 124, 125, 126, 127, 128, 129, 130, 131, 132, 133, 134, 135, 136, 137, 138, 139, 140, 141, 142, 143, 144, 145, 146, 147, 148, 149, 150, 151, 152, 153, 154, 155, 156, 157, 158, 159, 160, 161, 162, 163, 164, 165, 166, 167, 168, 169, 170, 171, 172, 173, 174, 175, 176, 177, 178, 179, 180, 181, 182, 183, 184, 185, 186, 187, 188, 189, 190, 191, 192, 193, 194, 195, 196, 197, 198, 199, 200, 201, 202, 203, 204, 205, 206, 207, 208, 209, 210, 211, 212, 213, 214, 215, 216, 217, 218, 219, 220, 221, 222, 223, 224] n7 1 [] (.inr (⟨_, _, _, H, rfl, rfl⟩)) (Nat.lt_succ_self _) (Nat.zero_le _) rfl (by kernel_rfl) (by kernel_rfl) rfl (wkB_live0 rfl (cellsM_idlt (f := V.b) (fun _ => rfl) _) rfl trivial)
  rw [p_law29_DirsKeeps_l1] at H
  conv => whnf
  refine LenQ.M ?_; conv => whnf
  refine tst_d H (fun b128 H => ?_) (fun b128 H => ?_)
  · conv => whnf
    obtain rfl := Option.some.inj H
    have H := HQ6
    try dsimp only at H
    refine ask_c (p_law29_awake_v) H rfl rfl (fun v242 H => ?_); conv => whnf
    exact fin0_c (enc := V.b) H (.inr rfl) (.cons (.tmp rfl) (.nil)) rfl rfl
  conv => whnf
  refine ixs_c (f := Law29Deed.v) H (fun _ => rfl) (fun x129 H => ?_); conv => whnf
  refine ⟨Nat.le_of_ble_eq_true rfl, ?_⟩; conv => whnf
  refine ⟨by decide, ?_⟩; conv => whnf
  refine Ari.w ?_; conv => whnf
  refine ixs_c (f := Law29Deed.v) H (fun _ => rfl) (fun x130 H => ?_); conv => whnf
  refine ⟨Nat.le_of_ble_eq_true rfl, ?_⟩; conv => whnf
  refine ⟨by decide, ?_⟩; conv => whnf
  refine Ari.w ?_; conv => whnf
  refine FootQ.mk ⟨rfl, ?_⟩; conv => whnf
  iterate 2 (refine Ari.w ?_; conv => whnf)
  refine b2sO_c H rfl rfl rfl (fun s131 H => ?_); conv => whnf
  refine cat_c H (fun s132 H => ?_); conv => whnf
  iterate 2 (refine Ari.w ?_; conv => whnf)
  refine b2sO_c H rfl rfl rfl (fun s133 H => ?_); conv => whnf
  refine cat_c H (fun s134 H => ?_); conv => whnf
  refine FootQ.mk ⟨rfl, ?_⟩; conv => whnf
  refine LenQ.M ?_; conv => whnf
  obtain ⟨K135, hK136, o137, HL138, HQ139⟩ := join0_c H
  refine join_c [2, 3, 4] [11, 12, 13, 14, 15, 16, 62, 63, 64, 65, 66, 67, 68, 69, 70, 71, 72, 73, 74, 75, 76, 77, 78, 79, 80, 81, 82, 83, 84, 85, 86, 87, 88, 89, 90, 91, 92, 93, 94, 95, 96, 97, 98, 99, 100, 101, 102, 103, 104, 105, 106, 107, 108, 109, 110, 111, 112, 113, 114, 115, 116, 117, 118, 119, 120, 121, 122, 123, 124, 125, 126, 127, 128, 129, 130, 131, 132, 133, 134, 135, 136, 137, 138, 139, 140, 141, 142, 51, 57] (fun vals st => (∃ y147 y148, K135 (.inr (y147, y148)) = some o4 ∧ vals = [.b false, .sl (List.map Ref29Arrow.v y147) false, .ptr 0 0] ∧ st = [.live (cellsM V.b y148) 0])) ?_ ?_
  · have H := HL138
    conv => whnf
    refine ixs_c (f := Law29Deed.v) H (fun _ => rfl) (fun x141 H => ?_); conv => whnf
    refine ⟨Nat.le_of_ble_eq_true rfl, ?_⟩; conv => whnf
    refine tst_c H (fun b142 H => ?_) (fun b142 H => ?_)
    · conv => whnf
      refine ask_c (p_dirs_Clear_v _ _) H rfl rfl (fun v143 H => ?_); conv => whnf
      iterate 2 (refine LenQ.M ?_; conv => whnf)
      refine Ari.w ?_; conv => whnf
      refine tst_c H (fun b144 H => ?_) (fun b144 H => ?_)
      · conv => whnf
        obtain rfl := Option.some.inj H
        have H := HQ139
        rw [hK136] at H
        try dsimp only at H
        obtain rfl := Option.some.inj H
        have H := HQ6
        try dsimp only at H
        exact fin0_c (enc := V.b) H (.inr rfl) (.cons (.tmp rfl) (.nil)) rfl rfl
      conv => whnf
      refine ixrow_c H (fun H => ?_); conv => whnf
      refine ⟨Nat.zero_le _, rowS_c (f := V.b) (es := 1) (row := [false, false, false, false, false, false, false, false]) H (fun _ => rfl) (by first | omega | (simp only [w64] <;> omega)) rfl (fun l146 H => ?_)⟩; conv => whnf
      obtain rfl := Option.some.inj H
      exact arrive_c [11, 12, 13, 14, 15, 16, 62, 63, 64, 65, 66, 67, 68, 69, 70, 71, 72, 73, 74, 75, 76, 77, 78, 79, 80, 81, 82, 83, 84, 85, 86, 87, 88, 89, 90, 91, 92, 93, 94, 95, 96, 97, 98, 99, 100, 101, 102, 103, 104, 105, 106, 107, 108, 109, 110, 111, 112, 113, 114, 115, 116, 117, 118, 119, 120, 121, 122, 123, 124, 125, 126, 127, 128, 129, 130, 131, 132, 133, 134, 135, 136, 137, 138, 139, 140, 141, 142, 51, 57] 1 [] (⟨_, _, HQ139, rfl, rfl⟩) (Nat.zero_le _) rfl (by kernel_rfl) (by kernel_rfl) rfl (wkB_live0 rfl (cellsM_idlt (f := V.b) (fun _ => rfl) _) rfl trivial)
    conv => whnf
    refine ixs_c (f := Law29Deed.v) H (fun _ => rfl) (fun x149 H => ?_); conv => whnf
    refine ⟨Nat.le_of_ble_eq_true rfl, ?_⟩; conv => whnf
    refine tst_c H (fun b150 H => ?_) (fun b150 H => ?_)
    · conv => whnf
      refine ask_c (p_dirs_Del_v _ _ _) H rfl rfl (fun v151 H => ?_); conv => whnf
      refine ixrow_c H (fun H => ?_); conv => whnf
      refine ix2_c (b := (Int.toNat (w64 (Int.tmod x129.From (5 : Int))) * 8)) H (fun x153 h154 H => ?_); conv => whnf
      refine ldo_c (f := V.b) (es := 1) h154 (fun _ => rfl) 0 (by first | omega | (simp only [w64] <;> omega)) (by decide) ?_; conv => whnf
      refine tst_c H (fun b155 H => ?_) (fun b155 H => ?_)
      · conv => whnf
        obtain rfl := Option.some.inj H
        have H := HQ139
        rw [hK136] at H
        try dsimp only at H
        obtain rfl := Option.some.inj H
        have H := HQ6
        try dsimp only at H
        exact fin0_c (enc := V.b) H (.inr rfl) (.cons (.tmp rfl) (.nil)) rfl rfl
      conv => whnf
      refine ixrow_c H (fun H => ?_); conv => whnf
      refine ix2_c (b := (Int.toNat (w64 (Int.tmod x129.From (5 : Int))) * 8)) H (fun x157 h158 H => ?_); conv => whnf
      refine ⟨Nat.zero_le _, sto_c (f := V.b) (es := 1) h158 (x' := false) (fun _ => rfl) 0 (by first | omega | (simp only [w64] <;> omega)) (Nat.le_of_ble_eq_true rfl) (by rfl) ?_⟩; conv => whnf
      obtain rfl := Option.some.inj H
      exact arrive_c [11, 12, 13, 14, 15, 16, 62, 63, 64, 65, 66, 67, 68, 69, 70, 71, 72, 73, 74, 75, 76, 77, 78, 79, 80, 81, 82, 83, 84, 85, 86, 87, 88, 89, 90, 91, 92, 93, 94, 95, 96, 97, 98, 99, 100, 101, 102, 103, 104, 105, 106, 107, 108, 109, 110, 111, 112, 113, 114, 115, 116, 117, 118, 119, 120, 121, 122, 123, 124, 125, 126, 127, 128, 129, 130, 131, 132, 133, 134, 135, 136, 137, 138, 139, 140, 141, 142, 51, 57] 1 [] (⟨_, _, HQ139, rfl, rfl⟩) (Nat.zero_le _) rfl (by kernel_rfl) (by kernel_rfl) rfl (wkB_live0 rfl (cellsM_idlt (f := V.b) (fun _ => rfl) _) rfl trivial)
    conv => whnf
    refine ask_c (p_dirs_Add_v _ _ _) H rfl rfl (fun v159 H => ?_); conv => whnf
    refine ixrow_c H (fun H => ?_); conv => whnf
    refine ix2_c (b := (Int.toNat (w64 (Int.tmod x129.From (5 : Int))) * 8)) H (fun x161 h162 H => ?_); conv => whnf
    refine ldo_c (f := V.b) (es := 1) h162 (fun _ => rfl) 0 (by first | omega | (simp only [w64] <;> omega)) (by decide) ?_; conv => whnf
    refine tst_c H (fun b163 H => ?_) (fun b163 H => ?_)
    · conv => whnf
      iterate 2 (refine Tst.T ?_; conv => whnf)
      refine tst_c H (fun b164 H => ?_) (fun b164 H => ?_)
      · conv => whnf
        obtain rfl := Option.some.inj H
        have H := HQ139
        rw [hK136] at H
        try dsimp only at H
        obtain rfl := Option.some.inj H
        have H := HQ6
        try dsimp only at H
        exact fin0_c (enc := V.b) H (.inr rfl) (.cons (.tmp rfl) (.nil)) rfl rfl
      conv => whnf
      refine ixrow_c H (fun H => ?_); conv => whnf
      refine ix2_c (b := (Int.toNat (w64 (Int.tmod x129.From (5 : Int))) * 8)) H (fun x166 h167 H => ?_); conv => whnf
      refine ldo_c (f := V.b) (es := 1) h167 (fun _ => rfl) 0 (by first | omega | (simp only [w64] <;> omega)) (by decide) ?_; conv => whnf
      refine tst_c H (fun b168 H => ?_) (fun b168 H => ?_)
      · conv => whnf
        iterate 2 (refine Tst.T ?_; conv => whnf)
        refine ixrow_c H (fun H => ?_); conv => whnf
        refine ix2_c (b := (Int.toNat (w64 (Int.tmod x129.From (5 : Int))) * 8)) H (fun x170 h171 H => ?_); conv => whnf
        refine ⟨Nat.zero_le _, sto_c (f := V.b) (es := 1) h171 (x' := true) (fun _ => rfl) 0 (by first | omega | (simp only [w64] <;> omega)) (Nat.le_of_ble_eq_true rfl) (by rfl) ?_⟩; conv => whnf
        refine FootQ.mk ⟨rfl, ?_⟩; conv => whnf
        obtain rfl := Option.some.inj H
        exact arrive_c [11, 12, 13, 14, 15, 16, 62, 63, 64, 65, 66, 67, 68, 69, 70, 71, 72, 73, 74, 75, 76, 77, 78, 79, 80, 81, 82, 83, 84, 85, 86, 87, 88, 89, 90, 91, 92, 93, 94, 95, 96, 97, 98, 99, 100, 101, 102, 103, 104, 105, 106, 107, 108, 109, 110, 111, 112, 113, 114, 115, 116, 117, 118, 119, 120, 121, 122, 123, 124, 125, 126, 127, 128, 129, 130, 131, 132, 133, 134, 135, 136, 137, 138, 139, 140, 141, 142, 51, 57] 1 [] (⟨_, _, HQ139, rfl, rfl⟩) (Nat.zero_le _) rfl (by kernel_rfl) (by kernel_rfl) rfl (wkB_live0 rfl (cellsM_idlt (f := V.b) (fun _ => rfl) _) rfl trivial)
      conv => whnf
      iterate 2 (refine Tst.F ?_; conv => whnf)
      refine ixrow_c H (fun H => ?_); conv => whnf
      refine ix2_c (b := (Int.toNat (w64 (Int.tmod x129.From (5 : Int))) * 8)) H (fun x173 h174 H => ?_); conv => whnf
      refine ⟨Nat.zero_le _, sto_c (f := V.b) (es := 1) h174 (x' := (v159.2 == (0 : Int))) (fun _ => rfl) 0 (by first | omega | (simp only [w64] <;> omega)) (Nat.le_of_ble_eq_true rfl) (by rfl) ?_⟩; conv => whnf
      refine FootQ.mk ⟨rfl, ?_⟩; conv => whnf
      obtain rfl := Option.some.inj H
      exact arrive_c [11, 12, 13, 14, 15, 16, 62, 63, 64, 65, 66, 67, 68, 69, 70, 71, 72, 73, 74, 75, 76, 77, 78, 79, 80, 81, 82, 83, 84, 85, 86, 87, 88, 89, 90, 91, 92, 93, 94, 95, 96, 97, 98, 99, 100, 101, 102, 103, 104, 105, 106, 107, 108, 109, 110, 111, 112, 113, 114, 115, 116, 117, 118, 119, 120, 121, 122, 123, 124, 125, 126, 127, 128, 129, 130, 131, 132, 133, 134, 135, 136, 137, 138, 139, 140, 141, 142, 51, 57] 1 [] (⟨_, _, HQ139, rfl, rfl⟩) (Nat.zero_le _) rfl (by kernel_rfl) (by kernel_rfl) rfl (wkB_live0 rfl (cellsM_idlt (f := V.b) (fun _ => rfl) _) rfl trivial)
    conv => whnf
    iterate 2 (refine Tst.F ?_; conv => whnf)
    refine tst_c H (fun b175 H => ?_) (fun b175 H => ?_)
    · conv => whnf
      obtain rfl := Option.some.inj H
      have H := HQ139
      rw [hK136] at H
      try dsimp only at H
      obtain rfl := Option.some.inj H
      have H := HQ6
      try dsimp only at H
      exact fin0_c (enc := V.b) H (.inr rfl) (.cons (.tmp rfl) (.nil)) rfl rfl
    conv => whnf
    refine ixrow_c H (fun H => ?_); conv => whnf
    refine ix2_c (b := (Int.toNat (w64 (Int.tmod x129.From (5 : Int))) * 8)) H (fun x177 h178 H => ?_); conv => whnf
    refine ldo_c (f := V.b) (es := 1) h178 (fun _ => rfl) 0 (by first | omega | (simp only [w64] <;> omega)) (by decide) ?_; conv => whnf
    refine tst_c H (fun b179 H => ?_) (fun b179 H => ?_)
    · conv => whnf
      iterate 2 (refine Tst.T ?_; conv => whnf)
      refine ixrow_c H (fun H => ?_); conv => whnf
      refine ix2_c (b := (Int.toNat (w64 (Int.tmod x129.From (5 : Int))) * 8)) H (fun x181 h182 H => ?_); conv => whnf
      refine ⟨Nat.zero_le _, sto_c (f := V.b) (es := 1) h182 (x' := true) (fun _ => rfl) 0 (by first | omega | (simp only [w64] <;> omega)) (Nat.le_of_ble_eq_true rfl) (by rfl) ?_⟩; conv => whnf
      refine FootQ.mk ⟨rfl, ?_⟩; conv => whnf
      obtain rfl := Option.some.inj H
      exact arrive_c [11, 12, 13, 14, 15, 16, 62, 63, 64, 65, 66, 67, 68, 69, 70, 71, 72, 73, 74, 75, 76, 77, 78, 79, 80, 81, 82, 83, 84, 85, 86, 87, 88, 89, 90, 91, 92, 93, 94, 95, 96, 97, 98, 99, 100, 101, 102, 103, 104, 105, 106, 107, 108, 109, 110, 111, 112, 113, 114, 115, 116, 117, 118, 119, 120, 121, 122, 123, 124, 125, 126, 127, 128, 129, 130, 131, 132, 133, 134, 135, 136, 137, 138, 139, 140, 141, 142, 51, 57] 1 [] (⟨_, _, HQ139, rfl, rfl⟩) (Nat.zero_le _) rfl (by kernel_rfl) (by kernel_rfl) rfl (wkB_live0 rfl (cellsM_idlt (f := V.b) (fun _ => rfl) _) rfl trivial)
    conv => whnf
    iterate 2 (refine Tst.F ?_; conv => whnf)
    refine ixrow_c H (fun H => ?_); conv => whnf
    refine ix2_c (b := (Int.toNat (w64 (Int.tmod x129.From (5 : Int))) * 8)) H (fun x184 h185 H => ?_); conv => whnf
    refine ⟨Nat.zero_le _, sto_c (f := V.b) (es := 1) h185 (x' := (v159.2 == (0 : Int))) (fun _ => rfl) 0 (by first | omega | (simp only [w64] <;> omega)) (Nat.le_of_ble_eq_true rfl) (by rfl) ?_⟩; conv => whnf
    refine FootQ.mk ⟨rfl, ?_⟩; conv => whnf
    obtain rfl := Option.some.inj H
    exact arrive_c [11, 12, 13, 14, 15, 16, 62, 63, 64, 65, 66, 67, 68, 69, 70, 71, 72, 73, 74, 75, 76, 77, 78, 79, 80, 81, 82, 83, 84, 85, 86, 87, 88, 89, 90, 91, 92, 93, 94, 95, 96, 97, 98, 99, 100, 101, 102, 103, 104, 105, 106, 107, 108, 109, 110, 111, 112, 113, 114, 115, 116, 117, 118, 119, 120, 121, 122, 123, 124, 125, 126, 127, 128, 129, 130, 131, 132, 133, 134, 135, 136, 137, 138, 139, 140, 141, 142, 51, 57] 1 [] (⟨_, _, HQ139, rfl, rfl⟩) (Nat.zero_le _) rfl (by kernel_rfl) (by kernel_rfl) rfl (wkB_live0 rfl (cellsM_idlt (f := V.b) (fun _ => rfl) _) rfl trivial)
  rintro _ _ (⟨y147, y148, H, rfl, rfl⟩)
  rw [hK136] at H
  try dsimp only at H
  conv => whnf
  refine ask_c (p_dirs_Check_v _) H rfl rfl (fun v186 H => ?_); conv => whnf
  refine tst_c H (fun b187 H => ?_) (fun b187 H => ?_)
  · conv => whnf
    obtain rfl := Option.some.inj H
    have H := HQ6
    try dsimp only at H
    exact fin0_c (enc := V.b) H (.inr rfl) (.cons (.tmp rfl) (.nil)) rfl rfl
  conv => whnf
  obtain ⟨o189, HL190, HQ191⟩ := bind_c H
  refine loop_c [2, 17, 18] [19, 146, 147, 148, 149, 150, 151, 152, 153, 154, 155, 156, 157, 158, 159, 160, 161, 162, 163, 164, 165, 166, 167, 168, 169, 170, 171, 172, 173, 174, 175, 176, 177, 178, 179, 180] [19, 146, 147, 148, 149, 150, 151, 152, 153, 154, 155, 156, 157, 158, 159, 160, 161, 162, 163, 164, 165, 166, 167, 168, 169, 170, 171, 172, 173, 174, 175, 176, 177, 178, 179, 180] (fun n vals st => (∃ y193 y194, p_law29_DirsKeeps_l2  y147 y148 n y193 y194 = some o189 ∧ vals = [.b false, .i y193, .i y194] ∧ st = [.live (cellsM V.b y148) 0])) fuel 1 [] (⟨_, _, HL190, rfl, rfl⟩) (Nat.zero_le _) rfl (by kernel_rfl) (by kernel_rfl) rfl (wkB_live0 rfl (cellsM_idlt (f := V.b) (fun _ => rfl) _) rfl trivial) ?_
  rintro (_ | n192) _ _ (⟨y193, y194, H, rfl, rfl⟩)
  · rw [p_law29_DirsKeeps_l2] at H; cases H
  rw [p_law29_DirsKeeps_l2] at H
  conv => whnf
  refine tst_c H (fun b195 H => ?_) (fun b195 H => ?_)
  · conv => whnf
    obtain ⟨o197, HL198, HQ199⟩ := bind_c H
    refine loop_c [2, 17, 19] [150, 151, 152, 153, 154, 155, 156, 157, 158, 159, 160, 161, 162, 163, 164, 165, 166, 167, 168, 169, 170, 171, 172, 173, 174, 175, 176, 177, 178, 179, 180] [150, 151, 152, 153, 154, 155, 156, 157, 158, 159, 160, 161, 162, 163, 164, 165, 166, 167, 168, 169, 170, 171, 172, 173, 174, 175, 176, 177, 178, 179, 180] (fun n vals st => (∃ y201 y202, p_law29_DirsKeeps_l3  y147 y194 y148 n y201 y202 = some o197 ∧ vals = [.b false, .i y201, .i y202] ∧ st = [.live (cellsM V.b y148) 0])) fuel 1 [] (⟨_, _, HL198, rfl, rfl⟩) (Nat.zero_le _) rfl (by kernel_rfl) (by kernel_rfl) rfl (wkB_live0 rfl (cellsM_idlt (f := V.b) (fun _ => rfl) _) rfl trivial) ?_
    rintro (_ | n200) _ _ (⟨y201, y202, H, rfl, rfl⟩)
    · rw [p_law29_DirsKeeps_l3] at H; cases H
    rw [p_law29_DirsKeeps_l3] at H
    conv => whnf
    refine tst_d H (fun b203 H => ?_) (fun b203 H => ?_)
    · conv => whnf
      obtain rfl := Option.some.inj H
      have H := HQ199
      try dsimp only at H
      refine Ari.w ?_; conv => whnf
      exact again_c [19, 146, 147, 148, 149, 150, 151, 152, 153, 154, 155, 156, 157, 158, 159, 160, 161, 162, 163, 164, 165, 166, 167, 168, 169, 170, 171, 172, 173, 174, 175, 176, 177, 178, 179, 180] n192 1 [] (⟨_, _, H, rfl, rfl⟩) (Nat.lt_succ_self _) (Nat.zero_le _) rfl (by kernel_rfl) (by kernel_rfl) rfl (wkB_live0 rfl (cellsM_idlt (f := V.b) (fun _ => rfl) _) rfl trivial)
    conv => whnf
    iterate 2 (refine Ari.w ?_; conv => whnf)
    refine b2sO_c H rfl rfl rfl (fun s204 H => ?_); conv => whnf
    refine cat_c H (fun s205 H => ?_); conv => whnf
    iterate 2 (refine Ari.w ?_; conv => whnf)
    refine b2sO_c H rfl rfl rfl (fun s206 H => ?_); conv => whnf
    refine cat_c H (fun s207 H => ?_); conv => whnf
    refine ask_c (p_dirs_Has_v _ _ _) H rfl rfl (fun v208 H => ?_); conv => whnf
    refine ixrow_c H (fun H => ?_); conv => whnf
    refine ix2_c (b := (Int.toNat y194 * 8)) H (fun x210 h211 H => ?_); conv => whnf
    refine ldo_c (f := V.b) (es := 1) h211 (fun _ => rfl) 0 (by first | omega | (simp only [w64] <;> omega)) (by decide) ?_; conv => whnf
    refine FootQ.mk ⟨rfl, ?_⟩; conv => whnf
    refine tst_c H (fun b212 H => ?_) (fun b212 H => ?_)
    · conv => whnf
      obtain rfl := Option.some.inj H
      have H := HQ199
      try dsimp only at H
      obtain rfl := Option.some.inj H
      have H := HQ191
      try dsimp only at H
      obtain rfl := Option.some.inj H
      have H := HQ6
      try dsimp only at H
      exact fin0_c (enc := V.b) H (.inr rfl) (.cons (.tmp rfl) (.nil)) rfl rfl
    conv => whnf
    refine ixrow_c H (fun H => ?_); conv => whnf
    refine ix2_c (b := (Int.toNat y194 * 8)) H (fun x214 h215 H => ?_); conv => whnf
    refine ldo_c (f := V.b) (es := 1) h215 (fun _ => rfl) 0 (by first | omega | (simp only [w64] <;> omega)) (by decide) ?_; conv => whnf
    refine tst_d H (fun b216 H => ?_) (fun b216 H => ?_)
    · conv => whnf
      refine Ari.w ?_; conv => whnf
      exact again_c [150, 151, 152, 153, 154, 155, 156, 157, 158, 159, 160, 161, 162, 163, 164, 165, 166, 167, 168, 169, 170, 171, 172, 173, 174, 175, 176, 177, 178, 179, 180] n200 1 [] (⟨_, _, H, rfl, rfl⟩) (Nat.lt_succ_self _) (Nat.zero_le _) rfl (by kernel_rfl) (by kernel_rfl) rfl (wkB_live0 rfl (cellsM_idlt (f := V.b) (fun _ => rfl) _) rfl trivial)
    conv => whnf
    iterate 2 (refine Ari.w ?_; conv => whnf)
    exact again_c [150, 151, 152, 153, 154, 155, 156, 157, 158, 159, 160, 161, 162, 163, 164, 165, 166, 167, 168, 169, 170, 171, 172, 173, 174, 175, 176, 177, 178, 179, 180] n200 1 [] (⟨_, _, H, rfl, rfl⟩) (Nat.lt_succ_self _) (Nat.zero_le _) rfl (by kernel_rfl) (by kernel_rfl) rfl (wkB_live0 rfl (cellsM_idlt (f := V.b) (fun _ => rfl) _) rfl trivial)
  conv => whnf
  obtain rfl := Option.some.inj H
  have H := HQ191
  try dsimp only at H
  obtain ⟨o218, HL219, HQ220⟩ := bind_c H
  refine loop_c [20, 22] [181, 182, 183, 184, 185, 186, 187, 188, 189, 190, 191, 192, 193, 194, 195] [181, 182, 183, 184, 185, 186, 187, 188, 189, 190, 191, 192, 193, 194, 195] (fun n vals st => (∃ y222 y223, p_law29_DirsKeeps_l4  y147 n y222 y223 = some o218 ∧ vals = [.i y222, .i y223] ∧ st = [.live (cellsM V.b y148) 0])) fuel 1 [] (⟨_, _, HL219, rfl, rfl⟩) (Nat.zero_le _) rfl (by kernel_rfl) (by kernel_rfl) rfl (wkB_live0 rfl (cellsM_idlt (f := V.b) (fun _ => rfl) _) rfl trivial) ?_
  rintro (_ | n221) _ _ (⟨y222, y223, H, rfl, rfl⟩)
  · rw [p_law29_DirsKeeps_l4] at H; cases H
  rw [p_law29_DirsKeeps_l4] at H
  conv => whnf
  refine tst_c H (fun b224 H => ?_) (fun b224 H => ?_)
  · conv => whnf
    iterate 2 (refine Ari.w ?_; conv => whnf)
    refine b2sO_c H rfl rfl rfl (fun s225 H => ?_); conv => whnf
    refine cat_c H (fun s226 H => ?_); conv => whnf
    refine ask_c (p_dirs_Of_v _ _) H rfl rfl (fun v227 H => ?_); conv => whnf
    refine LenQ.M ?_; conv => whnf
    iterate 2 (refine Ari.w ?_; conv => whnf)
    exact again_c [181, 182, 183, 184, 185, 186, 187, 188, 189, 190, 191, 192, 193, 194, 195] n221 1 [] (⟨_, _, H, rfl, rfl⟩) (Nat.lt_succ_self _) (Nat.zero_le _) rfl (by kernel_rfl) (by kernel_rfl) rfl (wkB_live0 rfl (cellsM_idlt (f := V.b) (fun _ => rfl) _) rfl trivial)
  conv => whnf
  obtain rfl := Option.some.inj H
  have H := HQ220
  try dsimp only at H
  obtain ⟨o229, HL230, HQ231⟩ := bind_c H
  refine loop_c [21, 23] [196, 197, 198, 199, 200, 201, 202, 203, 204, 205, 206, 207, 208, 209, 210] [196, 197, 198, 199, 200, 201, 202, 203, 204, 205, 206, 207, 208, 209, 210] (fun n vals st => (∃ y233 y234, p_law29_DirsKeeps_l5  y147 n y233 y234 = some o229 ∧ vals = [.i y233, .i y234] ∧ st = [.live (cellsM V.b y148) 0])) fuel 1 [] (⟨_, _, HL230, rfl, rfl⟩) (Nat.zero_le _) rfl (by kernel_rfl) (by kernel_rfl) rfl (wkB_live0 rfl (cellsM_idlt (f := V.b) (fun _ => rfl) _) rfl trivial) ?_
  rintro (_ | n232) _ _ (⟨y233, y234, H, rfl, rfl⟩)
  · rw [p_law29_DirsKeeps_l5] at H; cases H
  rw [p_law29_DirsKeeps_l5] at H
  conv => whnf
  refine tst_c H (fun b235 H => ?_) (fun b235 H => ?_)
  · conv => whnf
    iterate 2 (refine Ari.w ?_; conv => whnf)
    refine b2sO_c H rfl rfl rfl (fun s236 H => ?_); conv => whnf
    refine cat_c H (fun s237 H => ?_); conv => whnf
    refine ask_c (p_dirs_Keys_v _ _) H rfl rfl (fun v238 H => ?_); conv => whnf
    refine LenQ.M ?_; conv => whnf
    iterate 2 (refine Ari.w ?_; conv => whnf)
    exact again_c [196, 197, 198, 199, 200, 201, 202, 203, 204, 205, 206, 207, 208, 209, 210] n232 1 [] (⟨_, _, H, rfl, rfl⟩) (Nat.lt_succ_self _) (Nat.zero_le _) rfl (by kernel_rfl) (by kernel_rfl) rfl (wkB_live0 rfl (cellsM_idlt (f := V.b) (fun _ => rfl) _) rfl trivial)
  conv => whnf
  obtain rfl := Option.some.inj H
  have H := HQ231
  try dsimp only at H
  refine LenQ.M ?_; conv => whnf
  refine tst_c H (fun b239 H => ?_) (fun b239 H => ?_)
  · conv => whnf
    iterate 8 (refine Tst.T ?_; conv => whnf)
    obtain rfl := Option.some.inj H
    have H := HQ6
    try dsimp only at H
    exact fin0_c (enc := V.b) H (.inr rfl) (.cons (.tmp rfl) (.nil)) rfl rfl
  conv => whnf
  iterate 3 (refine Tst.F ?_; conv => whnf)
  refine tst_c H (fun b240 H => ?_) (fun b240 H => ?_)
  · conv => whnf
    iterate 4 (refine Tst.T ?_; conv => whnf)
    obtain rfl := Option.some.inj H
    have H := HQ6
    try dsimp only at H
    exact fin0_c (enc := V.b) H (.inr rfl) (.cons (.tmp rfl) (.nil)) rfl rfl
  conv => whnf
  iterate 3 (refine Tst.F ?_; conv => whnf)
  refine tst_c H (fun b241 H => ?_) (fun b241 H => ?_)
  · conv => whnf
    obtain rfl := Option.some.inj H
    have H := HQ6
    try dsimp only at H
    exact fin0_c (enc := V.b) H (.inr rfl) (.cons (.tmp rfl) (.nil)) rfl rfl
  conv => whnf
  refine Ari.w ?_; conv => whnf
  exact again_c [6, 7, 8, 9, 10, 11, 12, 13, 14, 15, 16, 17, 18, 19, 20, 21, 22, 23, 28, 29, 30, 31, 32, 33, 34, 35, 36, 37, 38, 39, 40, 41, 42, 43, 44, 45, 46, 47, 48, 49, 50, 51, 52, 53, 54, 55, 56, 57, 58, 59, 60, 61, 62, 63, 64, 65, 66, 67, 68, 69, 70, 71, 72, 73, 74, 75, 76, 77, 78, 79, 80, 81, 82, 83, 84, 85, 86, 87, 88, 89, 90, 91, 92, 93, 94, 95, 96, 97, 98, 99, 100, 101, 102, 103, 104, 105, 106, 107, 108, 109, 110, 111, 112, 113, 114, 115, 116, 117, 118, 119, 120, 121, 122, 123, 124, 125, 126, 127, 128, 129, 130, 131, 132, 133, 134, 135, 136, 137, 138, 139, 140, 141, 142, 143, 144, 145, 146, 147, 148, 149, 150, 151, 152, 153, 154, 155, 156, 157, 158, 159, 160, 161, 162, 163, 164, 165, 166, 167, 168, 169, 170, 171, 172, 173, 174, 175, 176, 177, 178, 179, 180, 181, 182, 183, 184, 185, 186, 187, 188, 189, 190, 191, 192, 193, 194, 195, 196, 197, 198, 199, 200, 201, 202, 203, 204, 205, 206, 207, 208, 209, 210, 211, 212, 213, 214, 215, 216, 217, 218, 219, 220, 221, 222, 223, 224] n7 1 [] (.inr (⟨_, _, _, H, rfl, rfl⟩)) (Nat.lt_succ_self _) (Nat.zero_le _) rfl (by kernel_rfl) (by kernel_rfl) rfl (wkB_live0 rfl (cellsM_idlt (f := V.b) (fun _ => rfl) _) rfl trivial)
end Go.Proofs.Ythmgficajgedlaa
/- Plain laws of no program: what loops and questions come to. -/
namespace Go.Proofs.Ythmgficajgedlaa
open Go.RowKit
theorem at_nat {α : Type} (l : List α) (k : Nat) : at? l (k : Int) = l[k]? := by
  unfold at?; rw [if_pos (Int.natCast_nonneg k)]; rfl
theorem at_lt {α : Type} {l : List α} {k : Nat} (h : k < l.length) : at? l (k : Int) = some l[k] := by rw [at_nat, List.getElem?_eq_getElem h]
theorem w64_id {r : Int} (h : -9223372036854775808 ≤ r ∧ r ≤ 9223372036854775807) : w64 r = r := wrap_ok h
theorem w64_succ {k : Nat} (h : k ≤ 1000000) : w64 ((k : Int) + 1) = ((k + 1 : Nat) : Int) := by rw [w64_id (by omega)]; rfl
theorem lt_tt {a b : Nat} (h : a < b) : decide ((a : Int) < (b : Int)) = true := by simpa using h
theorem lt_ff {a b : Nat} (h : b ≤ a) : decide ((a : Int) < (b : Int)) = false := by simpa using h
theorem drop_at {α : Type} {l : List α} {k : Nat} (h : k < l.length) : l.drop k = l[k] :: l.drop (k + 1) := List.drop_eq_getElem_cons h
theorem fuel_pos : (1000000 : Nat) < fuel := by decide
theorem cutTo {α : Type} {l : List α} {k : Nat} (h : k ≤ l.length) : cut? l none (some (k : Int)) = some (l.take k) := by
  unfold cut?
  simp only [Option.getD_none, Option.getD_some]
  rw [if_pos (by omega)]
  simp
theorem cutFrom {α : Type} {l : List α} {k : Nat} (h : k ≤ l.length) : cut? l (some (k : Int)) none = some (l.drop k) := by
  unfold cut?
  simp only [Option.getD_none, Option.getD_some]
  rw [if_pos (by omega)]
  rw [List.take_of_length_le (by simp)]; rfl
theorem u64_id {r : Int} (hr : 0 ≤ r ∧ r ≤ 9223372036854775807) : IntKind.u64.wrap r = r := by
  simp only [IntKind.wrap, IntKind.signed, IntKind.bits]
  first | omega | (simp; omega)
theorem fdivN (m p : Nat) : (m : Int).fdiv (2 ^ p) = ((m / 2 ^ p : Nat) : Int) := by
  rw [show ((2 : Int) ^ p) = ((2 ^ p : Nat) : Int) by simp, Int.fdiv_eq_ediv_of_nonneg _ (Int.natCast_nonneg _)]; rfl
theorem half_p {i j : Nat} (h : i + j ≤ 100000) : w64 (shrI .u64 (IntKind.wrap .u64 (w64 ((i : Int) + (j : Int)))) (1 : Int)) = (((i + j) / 2 : Nat) : Int) := by
  have e1 : w64 ((i : Int) + (j : Int)) = ((i + j : Nat) : Int) := by rw [w64_id (by omega)]; omega
  have e2 : IntKind.wrap .u64 ((i + j : Nat) : Int) = ((i + j : Nat) : Int) := u64_id (by omega)
  have e : (min (1 : Int).toNat IntKind.u64.bits) = 1 := rfl
  have e3 : shrI .u64 ((i + j : Nat) : Int) 1 = (((i + j) / 2 : Nat) : Int) := by
    unfold shrI
    rw [e, fdivN]
  rw [e1, e2, e3]
  exact w64_id (by omega)
theorem app_ok {α : Type} {a b : List α} (h : a.length + b.length ≤ 1000000) : app? a b = some (a ++ b) := if_pos h
theorem at_cons {α : Type} {l : List α} {k : Nat} (h : k < l.length) : at? l (k : Int) = some l[k] := at_lt h
theorem byte_at {s : ByteArray} {k : Nat} (h : k < s.size) : byte? s (k : Int) = some (s[k].toNat : Int) := by
  unfold byte?
  rw [dif_pos ⟨Int.natCast_nonneg k, h⟩]; rfl
theorem len0 {α : Type} {l : List α} {n : Nat} (h : n = l.length) : l.drop n = [] := List.drop_of_length_le (by omega)
theorem byte_ne (a b : UInt8) : ((a.toNat : Int) != (b.toNat : Int)) = !(a == b) := by
  by_cases h : a = b
  · subst h; simp
  · have h1 : (a == b) = false := by simpa using h
    have h2 : ¬ ((a.toNat : Int) = (b.toNat : Int)) := fun e => h (UInt8.toNat_inj.1 (Int.natCast_inj.1 e))
    rw [h1]; simpa using h2
theorem tl_data (s : ByteArray) : s.toList = s.data.toList := by rw [ByteArray.toList_eq]
/-- texts, compared as the code does. -/
def eqT (a b : ByteArray) : Bool := a.toList == b.toList
theorem eqT_refl (a : ByteArray) : (a.toList == a.toList) = true := by simp
theorem eqT_iff {a b : ByteArray} : (a.toList == b.toList) = true ↔ a = b := by
  rw [beq_iff_eq, tl_data, tl_data]
  exact ⟨fun h => by cases a; cases b; congr 1; exact Array.ext' h, fun h => by rw [h]⟩
theorem cmp_less : ∀ (a b : List UInt8), Op.bytesLess a b = decide (Lib.compareBytes a b < 0)
  | [], [] => by simp [Op.bytesLess, Lib.compareBytes]
  | [], _ :: _ => by simp [Op.bytesLess, Lib.compareBytes]
  | _ :: _, [] => by simp [Op.bytesLess, Lib.compareBytes]
  | a :: xs, b :: ys => by
    unfold Op.bytesLess Lib.compareBytes
    rw [cmp_less xs ys]
    by_cases h : a < b
    · simp [h]
    · by_cases h2 : b < a
      · have hne : a ≠ b := fun e => by subst e; exact UInt8.lt_irrefl _ h2
        simp [h, h2, hne]
      · have e : a = b := by
          apply UInt8.toNat_inj.1
          rw [UInt8.lt_iff_toNat_lt] at h h2; omega
        subst e; simp [h]
theorem cmp_refl : ∀ a : List UInt8, Lib.compareBytes a a = 0
  | [] => by simp [Lib.compareBytes]
  | a :: xs => by unfold Lib.compareBytes; rw [if_neg (UInt8.lt_irrefl _), if_neg (UInt8.lt_irrefl _)]; exact cmp_refl xs
theorem cmp_eq0 : ∀ {a b : List UInt8}, Lib.compareBytes a b = 0 → a = b
  | [], [], _ => rfl
  | [], _ :: _, h => by simp [Lib.compareBytes] at h
  | _ :: _, [], h => by simp [Lib.compareBytes] at h
  | a :: xs, b :: ys, h => by
    unfold Lib.compareBytes at h
    split at h
    · omega
    · split at h
      · omega
      · rename_i h1 h2
        have e : a = b := by
          apply UInt8.toNat_inj.1
          rw [UInt8.lt_iff_toNat_lt] at h1 h2; omega
        rw [e, cmp_eq0 h]
theorem cmp_anti : ∀ (a b : List UInt8), Lib.compareBytes b a = - Lib.compareBytes a b
  | [], [] => by simp [Lib.compareBytes]
  | [], _ :: _ => by simp [Lib.compareBytes]
  | _ :: _, [] => by simp [Lib.compareBytes]
  | a :: xs, b :: ys => by
    unfold Lib.compareBytes
    rw [cmp_anti xs ys]
    by_cases h : a < b
    · have h2 : ¬ b < a := by rw [UInt8.lt_iff_toNat_lt] at h ⊢; omega
      simp [h, h2]
    · by_cases h2 : b < a
      · simp [h, h2]
      · simp [h, h2]
theorem cmp_trans : ∀ {a b c : List UInt8}, Lib.compareBytes a b < 0 → Lib.compareBytes b c < 0 → Lib.compareBytes a c < 0
  | [], [], _, h, _ => by simp [Lib.compareBytes] at h
  | _ :: _, [], _, h, _ => by simp [Lib.compareBytes] at h
  | _, _ :: _, [], _, h => by simp [Lib.compareBytes] at h
  | [], _ :: _, _ :: _, _, _ => by simp [Lib.compareBytes]
  | a :: xs, b :: ys, c :: cs, h1, h2 => by
    unfold Lib.compareBytes at h1 h2 ⊢
    by_cases x : a < b
    · by_cases y : b < c
      · rw [if_pos (UInt8.lt_trans x y)]; omega
      · rw [if_neg y] at h2
        by_cases z : c < b
        · rw [if_pos z] at h2; omega
        · have e : b = c := by
            apply UInt8.toNat_inj.1
            rw [UInt8.lt_iff_toNat_lt] at y z; omega
          subst e
          rw [if_pos x]; omega
    · rw [if_neg x] at h1
      by_cases x2 : b < a
      · rw [if_pos x2] at h1; omega
      · rw [if_neg x2] at h1
        have e : a = b := by
          apply UInt8.toNat_inj.1
          rw [UInt8.lt_iff_toNat_lt] at x x2; omega
        subst e
        by_cases y : a < c
        · rw [if_pos y]; omega
        · rw [if_neg y] at h2 ⊢
          by_cases z : c < a
          · rw [if_pos z] at h2; omega
          · rw [if_neg z] at h2 ⊢
            exact cmp_trans h1 h2
end Go.Proofs.Ythmgficajgedlaa
/- The arrows of the program and of the document, in plain words: checks. -/
namespace Go.Proofs.Ythmgficajgedlaa
open Go.RowKit
abbrev AR := Ref29Arrow
def frontB (s : ByteArray) : ByteArray := ba (s.data.toList.take (findL s.data.toList 32))
def backB (s : ByteArray) : ByteArray := ba (s.data.toList.drop (findL s.data.toList 32 + 1))
def splitE (s : ByteArray) : ByteArray × ByteArray × Int :=
  if findL s.data.toList 32 < s.data.toList.length then
    if isBareL (frontB s).data.toList = true then
      if resL (backB s).data.toList = 0 then (frontB s, backB s, 0) else (⟨#[]⟩, ⟨#[]⟩, resL (backB s).data.toList)
    else (⟨#[]⟩, ⟨#[]⟩, 11)
  else (⟨#[]⟩, ⟨#[]⟩, 4)
theorem ba_sz (l : List UInt8) : (ba l).size = l.length := by unfold ba; simp [ByteArray.size]
theorem front_sz (s : ByteArray) : (frontB s).size ≤ s.size := by
  unfold frontB; rw [ba_sz, List.length_take]; simp; omega
theorem back_sz (s : ByteArray) : (backB s).size ≤ s.size := by
  unfold backB; rw [ba_sz, List.length_drop]; simp
theorem split_p {s : ByteArray} (h : s.size ≤ 100000) : p_pres_Split s = some (splitE s) := by
  unfold p_pres_Split p_strings_Cut splitE
  have e : (⟨#[32]⟩ : ByteArray).data.toList = [32] := rfl
  have h1 := front_sz s
  have h2 := back_sz s
  simp only [e, if_pos h, Option.bind_some]
  by_cases hf : findL s.data.toList 32 < s.data.toList.length
  · rw [decide_eq_true hf, if_pos hf, cond_true]
    have f1 : ba (List.take (findL s.data.toList 32) s.data.toList) = frontB s := rfl
    have f2 : ba (List.drop (findL s.data.toList 32 + 1) s.data.toList) = backB s := rfl
    rw [f1, f2]
    unfold p_addr_IsBare p_addr_Resource
    rw [if_pos (show (frontB s).size ≤ 100000 by omega), if_pos (show (backB s).size ≤ 100000 by omega)]
    simp only [Option.bind_some]
    change (bif isBareL (frontB s).data.toList then _ else _) = _
    cases isBareL (frontB s).data.toList with
    | true =>
      simp only [cond_true, if_true]
      change (bif resL (backB s).data.toList != 0 then _ else _) = _
      by_cases hr : resL (backB s).data.toList = 0
      · rw [if_pos hr, hr]; rfl
      · have : (resL (backB s).data.toList != 0) = true := by simpa using hr
        rw [if_neg hr, this]; rfl
    | false => rfl
  · rw [decide_eq_false hf, if_neg hf]; rfl
theorem rsplit_l (s : ByteArray) (hs : s.size ≤ 100000) : ∀ (n k F : Nat), k + n = s.size → n < F → p_ref23_Split_l1 s F k = some ((k + findL (s.data.toList.drop k) 32 : Nat) : Int)
  | 0, k, F + 1, hk, hF => by
    have e : s.data.toList.drop k = [] := List.drop_of_length_le (by simp; have : s.data.size = s.size := rfl; omega)
    rw [p_ref23_Split_l1, lt_ff (by omega), e]; rfl
  | n + 1, k, F + 1, hk, hF => by
    have hlt : k < s.size := by omega
    have hd : s.data.toList.drop k = s[k] :: s.data.toList.drop (k + 1) := by
      rw [List.drop_eq_getElem_cons (by rw [bl_len]; exact hlt), bl_get s k hlt]
    rw [p_ref23_Split_l1, lt_tt hlt, byte_at hlt, hd, findL_cons]
    simp only [cond_true, Option.bind_some]
    have hb := byte_ne s[k] 32
    have e32 : (((32 : UInt8).toNat : Nat) : Int) = 32 := rfl
    rw [e32] at hb
    rw [hb]
    cases hc : (s[k] == 32) with
    | true => simp
    | false =>
      simp only [Bool.not_false, cond_true]
      rw [w64_succ (by omega), rsplit_l s hs n (k + 1) F (by omega) (by omega)]
      simp
      omega
theorem rsplit_p {s : ByteArray} (h : s.size ≤ 100000) : p_ref23_Split s = some (splitE s) := by
  have h1 := front_sz s
  have h2 := back_sz s
  have hl := rsplit_l s h s.size 0 fuel (by omega) (by have := fuel_pos; omega)
  have z0 : ((0 : Nat) : Int) = 0 := rfl
  rw [z0, List.drop_zero, Nat.zero_add] at hl
  unfold p_ref23_Split splitE
  rw [hl]
  simp only [Option.bind_some]
  have hle := findL_le s.data.toList 32
  have hbl : s.data.toList.length = s.size := bl_len s
  by_cases hf : findL s.data.toList 32 < s.data.toList.length
  · have hne : ((findL s.data.toList 32 : Int) == (s.size : Int)) = false := by
      simp; omega
    rw [hne, if_pos hf, cond_false]
    have s1 : sub? s none (some (findL s.data.toList 32 : Int)) = some (frontB s) := by
      unfold sub?
      simp only [Option.getD_none, Option.getD_some]
      rw [if_pos (by omega)]
      congr 1
      rw [show ((0 : Int).toNat) = 0 from rfl, Int.toNat_natCast, cut_take]; rfl
    have s2 : sub? s (some (w64 ((findL s.data.toList 32 : Int) + 1))) none = some (backB s) := by
      rw [w64_succ (by omega)]
      unfold sub?
      simp only [Option.getD_none, Option.getD_some]
      rw [if_pos (by omega)]
      congr 1
      rw [Int.toNat_natCast, Int.toNat_natCast, cut_drop]; rfl
    rw [s1, s2]
    simp only [Option.bind_some]
    unfold p_ref09_IsBare p_ref09_Resource
    rw [if_pos (show (frontB s).size ≤ 100000 by omega), if_pos (show (backB s).size ≤ 100000 by omega)]
    simp only [Option.bind_some]
    cases isBareL (frontB s).data.toList with
    | true =>
      simp only [cond_true, if_true]
      by_cases hr : resL (backB s).data.toList = 0
      · rw [if_pos hr, hr]; rfl
      · have : (resL (backB s).data.toList != 0) = true := by simpa using hr
        rw [if_neg hr, this]; rfl
    | false => rfl
  · have hne : ((findL s.data.toList 32 : Int) == (s.size : Int)) = true := by
      simp; omega
    rw [hne, if_neg hf]; rfl
/-- an arrow of texts that are not too long. -/
def smallA (a : AR) : Prop := a.From.size ≤ 100000 ∧ a.To.size ≤ 100000
def fineA (a : AR) : Bool := ((splitE a.From).2.2 == 0) && isBareL a.To.data.toList
theorem wrong_p {a : AR} (h : smallA a) : p_dirs_Arrow_wrong a = some (!fineA a) := by
  unfold p_dirs_Arrow_wrong p_dirs_Arrow_user fineA
  rw [split_p h.1]
  simp only [Option.bind_some]
  cases ((splitE a.From).2.2 == 0) with
  | false => rfl
  | true =>
    simp only [cond_true, Bool.true_and]
    unfold p_addr_IsBare
    rw [if_pos h.2]; rfl
theorem fine_p {a : AR} (h : smallA a) : p_ref29_fine a = some (fineA a) := by
  unfold p_ref29_fine fineA
  rw [rsplit_p h.1]
  simp only [Option.bind_some]
  cases ((splitE a.From).2.2 == 0) with
  | false => rfl
  | true =>
    simp only [cond_true, Bool.true_and]
    unfold p_ref09_IsBare
    rw [if_pos h.2]; rfl
def ordA (a b : AR) : Int := if Lib.compareBytes a.From.data.toList b.From.data.toList ≠ 0 then Lib.compareBytes a.From.data.toList b.From.data.toList else Lib.compareBytes a.To.data.toList b.To.data.toList
def lessA (a b : AR) : Bool := decide (ordA a b < 0)
theorem or2 (x y : Int) : p_cmp_Or_int_ [x, y] = some (if x ≠ 0 then x else y) := by
  have e : fuel = 99999997 + 1 + 1 + 1 := by decide
  unfold p_cmp_Or_int_
  rw [e]
  have e2 : (([x, y].length : Nat) : Int) = 2 := rfl
  rw [e2]
  unfold p_cmp_Or_int__l1
  by_cases hx : x = 0
  · subst hx
    have w1 : w64 (0 + 1) = 1 := by decide
    have a0 : at? [(0 : Int), y] 0 = some 0 := rfl
    have a1 : at? [(0 : Int), y] 1 = some y := rfl
    simp only [w1, a0, show decide ((0 : Int) < 2) = true from rfl, cond_true, Option.bind_some, bne_self_eq_false, cond_false]
    unfold p_cmp_Or_int__l1
    simp only [a1, show decide ((1 : Int) < 2) = true from rfl, cond_true, Option.bind_some]
    by_cases hy : y = 0
    · subst hy
      have w2 : w64 (1 + 1) = 2 := by decide
      simp only [bne_self_eq_false, cond_false, w2]
      unfold p_cmp_Or_int__l1
      simp
    · have : (y != 0) = true := by simpa using hy
      simp [this]
  · have h1 : (x != 0) = true := by simpa using hx
    have a0 : at? [x, y] 0 = some x := rfl
    simp only [a0, show decide ((0 : Int) < 2) = true from rfl, cond_true, Option.bind_some, h1]
    simp [hx]
theorem order_p (a b : AR) : p_dirs_order a b = some (ordA a b) := by
  unfold p_dirs_order p_strings_Compare ordA
  simp only [Option.bind_some, or2]
theorem eqb_cmp (a b : ByteArray) : (a.toList == b.toList) = decide (Lib.compareBytes a.data.toList b.data.toList = 0) := by
  rw [tl_data, tl_data]
  by_cases h : a.data.toList = b.data.toList
  · rw [h, cmp_refl]; simp
  · have : ¬ Lib.compareBytes a.data.toList b.data.toList = 0 := fun e => h (cmp_eq0 e)
    rw [decide_eq_false this]; simpa using h
theorem less_p (a b : AR) : p_ref29_less a b = some (lessA a b) := by
  unfold p_ref29_less lessA ordA
  rw [eqb_cmp, tl_data, tl_data, tl_data, tl_data, cmp_less, cmp_less]
  by_cases h : Lib.compareBytes a.From.data.toList b.From.data.toList < 0
  · rw [decide_eq_true h, if_pos (by omega), decide_eq_true h]; rfl
  · rw [decide_eq_false h]
    by_cases h2 : Lib.compareBytes a.From.data.toList b.From.data.toList = 0
    · rw [decide_eq_true h2, if_neg (by omega)]; rfl
    · rw [decide_eq_false h2, if_pos h2, decide_eq_false h]; rfl
def risL : List AR → Bool
  | [] => true
  | [_] => true
  | a :: b :: l => lessA a b && risL (b :: l)
def chkA (l : List AR) : Int := if 32 < l.length then 5 else if l.any (fun a => !fineA a) = true then 11 else if risL l = true then 0 else 10
theorem idxA_l (f : AR → Option Bool) (p : AR → Bool) (rows : List AR) (hn : rows.length ≤ 1000) (hf : ∀ x ∈ rows, f x = some (p x)) : ∀ (n k F : Nat), k + n = rows.length → n < F →
    p_slices_IndexFunc_dirs_State_dirs_Arrow__l1 f rows rows.length F k = some (if (rows.drop k).any p = true then .inl ((k + (rows.drop k).findIdx p : Nat) : Int) else .inr (rows.length : Int))
  | 0, k, F + 1, hk, hF => by
    have e : rows.drop k = [] := List.drop_of_length_le (by omega)
    have : k = rows.length := by omega
    rw [p_slices_IndexFunc_dirs_State_dirs_Arrow__l1, lt_ff (by omega), e, this]; rfl
  | n + 1, k, F + 1, hk, hF => by
    have hlt : k < rows.length := by omega
    rw [p_slices_IndexFunc_dirs_State_dirs_Arrow__l1, lt_tt hlt, at_lt hlt, drop_at hlt]
    simp only [cond_true, Option.bind_some, hf _ (List.getElem_mem hlt)]
    cases hp : p rows[k] with
    | true => rw [List.any_cons, hp, List.findIdx_cons, hp]; rfl
    | false =>
      simp only [cond_false]
      rw [w64_succ (by omega), idxA_l f p rows hn hf n (k + 1) F (by omega) (by omega)]
      simp only [List.any_cons, hp, Bool.false_or, List.findIdx_cons, cond_false]
      split
      · congr 3; omega
      · rfl
theorem hasA_p {f : AR → Option Bool} (p : AR → Bool) {rows : List AR} (hn : rows.length ≤ 1000) (hf : ∀ x ∈ rows, f x = some (p x)) : p_slices_ContainsFunc_dirs_State_dirs_Arrow_ rows f = some (rows.any p) := by
  unfold p_slices_ContainsFunc_dirs_State_dirs_Arrow_ p_slices_IndexFunc_dirs_State_dirs_Arrow_
  have := idxA_l f p rows hn hf rows.length 0 fuel (by omega) (by have := fuel_pos; omega)
  rw [show ((0 : Int)) = ((0 : Nat) : Int) from rfl, this, List.drop_zero]
  cases rows.any p <;> simp
theorem check_l (l : List AR) (hn : l.length ≤ 1000) : ∀ (n k F : Nat), k + 1 + n = l.length → n < F → ∃ q, p_dirs_Check_l1 l F ((k + 1 : Nat) : Int) = some (if risL (l.drop k) = true then .inr q else .inl 10)
  | 0, k, F + 1, hk, hF => by
    have e : l.drop k = [l[k]] := by rw [drop_at (by omega), List.drop_of_length_le (by omega)]
    refine ⟨((k + 1 : Nat) : Int), ?_⟩
    rw [p_dirs_Check_l1, lt_ff (by omega), e]; rfl
  | n + 1, k, F + 1, hk, hF => by
    have hlt : k + 1 < l.length := by omega
    obtain ⟨q, ih⟩ := check_l l hn n (k + 1) F (by omega) (by omega)
    refine ⟨q, ?_⟩
    have wm : w64 (((k + 1 : Nat) : Int) - 1) = (k : Int) := by rw [w64_id (by omega)]; omega
    have er : risL (l.drop k) = (lessA l[k] l[k + 1] && risL (l.drop (k + 1))) := by rw [drop_at (show k < l.length by omega), drop_at hlt]; rfl
    rw [p_dirs_Check_l1, lt_tt hlt, wm, at_lt hlt, at_lt (show k < l.length by omega), er]
    simp only [cond_true, Option.bind_some, order_p]
    rw [w64_succ (by omega), ih]
    unfold lessA
    by_cases h : ordA l[k] l[k + 1] < 0
    · rw [decide_eq_false (show ¬ 0 ≤ ordA l[k] l[k + 1] by omega), decide_eq_true h]; simp
    · rw [decide_eq_true (show 0 ≤ ordA l[k] l[k + 1] by omega), decide_eq_false h]; simp
theorem check_p {l : List AR} (hn : l.length ≤ 1000) (hs : ∀ a ∈ l, smallA a) : p_dirs_Check l = some (chkA l) := by
  unfold p_dirs_Check chkA
  by_cases h1 : 32 < l.length
  · rw [decide_eq_true (by omega), if_pos h1]; rfl
  · rw [decide_eq_false (by omega), if_neg h1, cond_false, hasA_p (fun a => !fineA a) hn (fun x hx => wrong_p (hs x hx))]
    simp only [Option.bind_some]
    cases l.any (fun a => !fineA a) with
    | true => rfl
    | false =>
      simp only [cond_false, Bool.false_eq_true, if_false]
      cases l with
      | nil => rfl
      | cons a l =>
        obtain ⟨q, h⟩ := check_l (a :: l) hn l.length 0 fuel (by simp; omega) (by have := fuel_pos; simp at hn; omega)
        have z1 : ((0 + 1 : Nat) : Int) = 1 := rfl
        rw [z1, List.drop_zero] at h
        rw [h]
        cases risL (a :: l) <;> simp
theorem rcheck1_l (l : List AR) (hn : l.length ≤ 1000) (hs : ∀ a ∈ l, smallA a) : ∀ (n k F : Nat), k + n = l.length → n < F → p_ref29_Check_l1 l F k = some (if (l.drop k).any (fun a => !fineA a) = true then .inl 11 else .inr (l.length : Int))
  | 0, k, F + 1, hk, hF => by
    have e : l.drop k = [] := List.drop_of_length_le (by omega)
    have : k = l.length := by omega
    rw [p_ref29_Check_l1, lt_ff (by omega), e, this]; rfl
  | n + 1, k, F + 1, hk, hF => by
    have hlt : k < l.length := by omega
    rw [p_ref29_Check_l1, lt_tt hlt, at_lt hlt, drop_at hlt]
    simp only [cond_true, Option.bind_some, fine_p (hs _ (List.getElem_mem hlt)), List.any_cons]
    by_cases h : fineA l[k] = true
    · simp only [h, cond_true, Bool.not_true, Bool.false_or]
      rw [w64_succ (by omega), rcheck1_l l hn hs n (k + 1) F (by omega) (by omega)]
    · have h : fineA l[k] = false := by simpa using h
      simp [h]
theorem rcheck2_l (l : List AR) (hn : l.length ≤ 1000) : ∀ (n k F : Nat), k + 1 + n = l.length → n < F → ∃ q, p_ref29_Check_l2 l F ((k + 1 : Nat) : Int) = some (if risL (l.drop k) = true then .inr q else .inl 10)
  | 0, k, F + 1, hk, hF => by
    have e : l.drop k = [l[k]] := by rw [drop_at (by omega), List.drop_of_length_le (by omega)]
    refine ⟨((k + 1 : Nat) : Int), ?_⟩
    rw [p_ref29_Check_l2, lt_ff (by omega), e]; rfl
  | n + 1, k, F + 1, hk, hF => by
    have hlt : k + 1 < l.length := by omega
    obtain ⟨q, ih⟩ := rcheck2_l l hn n (k + 1) F (by omega) (by omega)
    refine ⟨q, ?_⟩
    have wm : w64 (((k + 1 : Nat) : Int) - 1) = (k : Int) := by rw [w64_id (by omega)]; omega
    have er : risL (l.drop k) = (lessA l[k] l[k + 1] && risL (l.drop (k + 1))) := by rw [drop_at (show k < l.length by omega), drop_at hlt]; rfl
    rw [p_ref29_Check_l2, lt_tt hlt, wm, at_lt hlt, at_lt (show k < l.length by omega), er]
    simp only [cond_true, Option.bind_some, less_p]
    rw [w64_succ (by omega), ih]
    cases h : lessA l[k] l[k + 1] <;> simp
theorem rcheck_p {l : List AR} (hn : l.length ≤ 1000) (hs : ∀ a ∈ l, smallA a) : p_ref29_Check l = some (chkA l) := by
  unfold p_ref29_Check chkA
  by_cases h1 : 32 < l.length
  · rw [decide_eq_true (by omega), if_pos h1]; rfl
  · rw [decide_eq_false (by omega), if_neg h1, cond_false]
    have h := rcheck1_l l hn hs l.length 0 fuel (by omega) (by have := fuel_pos; omega)
    have z0 : ((0 : Nat) : Int) = 0 := rfl
    rw [z0, List.drop_zero] at h
    rw [h]
    cases l.any (fun a => !fineA a) with
    | true => rfl
    | false =>
      simp only [Bool.false_eq_true, if_false, Option.bind_some]
      cases l with
      | nil => rfl
      | cons a l =>
        obtain ⟨q, h⟩ := rcheck2_l (a :: l) hn l.length 0 fuel (by simp; omega) (by have := fuel_pos; simp at hn; omega)
        have z1 : ((0 + 1 : Nat) : Int) = 1 := rfl
        rw [z1, List.drop_zero] at h
        rw [h]
        cases risL (a :: l) <;> simp
end Go.Proofs.Ythmgficajgedlaa
