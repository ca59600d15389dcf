/- A part of the proof: 1 texts joined. -/
import Derived.Test.YthlhbgedidipkaaUaA15
import Derived.Test.YthlhbgedidipkaaUaA14
import Derived.Test.YthlhbgedidipkaaUaA17
import Derived.Test.YthlhbgedidipkaaUaA8
import Derived.KernelRfl
set_option linter.all false
/- That the program's functions yield what the plain ones tell (written by a program of mine). -/
namespace Go.Proofs.Ythlhbgedidipkaa
open Go.RowKit
def gc3 : BCode := (.seq (.reg 0 [⟨(some 4), .mv (.const (.bool false)), none, 0⟩] none 0 []) (.seq (.seq (.reg 0 [⟨(some 13), .mv (.tmp 0), none, 0⟩, ⟨(some 14), .lens (.tmp 13), none, 0⟩, ⟨(some 15), .bin .gtr (.tmp 14) (.const (.int .i64 40)), none, 0⟩] none 0 []) (.cond (.tmp 15) (.seq (.reg 0 [⟨(some 16), .cl 9 [], none, 0⟩, ⟨(some 4), .mv (.tmp 16), none, 0⟩] none 0 []) .ret) .skip)) (.seq (.reg 1 [⟨(some 5), .al (.agg [(.sl [] true), (.sl [] true)]), none, 0⟩] none 0 []) (.seq (.seq (.reg 0 [⟨(some 6), .mv (.const (.int .i64 0)), none, 0⟩] none 0 []) (.block 0 (.loop (.seq (.seq (.reg 0 [⟨(some 17), .mv (.tmp 6), none, 0⟩, ⟨(some 18), .bin .lss (.tmp 17) (.const (.int .i64 8)), none, 0⟩] none 0 []) (.cond (.tmp 18) .skip (.exit 0))) (.seq (.block 1 (.seq (.reg 0 [⟨(some 21), .mv (.tmp 1), none, 0⟩, ⟨(some 22), .mv (.tmp 6), none, 0⟩, ⟨(some 23), .bin .shr (.tmp 21) (.tmp 22), none, 0⟩, ⟨(some 24), .bin .and (.tmp 23) (.const (.int .u8 1)), none, 0⟩, ⟨(some 25), .bin .eql (.tmp 24) (.const (.int .u8 1)), none, 0⟩] none 0 []) (.cond (.tmp 25) (.reg 2 [⟨(some 26), .fa 1 (.tmp 5), none, 0⟩, ⟨(some 27), .ld 1 false (.tmp 26), none, 0⟩, ⟨(some 28), .mv (.tmp 6), none, 0⟩, ⟨(some 29), .cvi .u8 (.tmp 28), none, 0⟩, ⟨(some 30), .cl 11 [(.tmp 29)], none, 0⟩, ⟨(some 31), .cl 10 [(.tmp 30), (.const (.string ⟨#[]⟩))], none, 0⟩, ⟨(some 32), .bs 1 1 [(.lit (.string ⟨#[]⟩))] [(0, (.tmp 31))], none, 0⟩, ⟨(some 33), .ap 1 16 (.tmp 27) (.tmp 32), none, 1⟩, ⟨(some 34), .fa 1 (.tmp 5), none, 2⟩, ⟨none, .st 1 (.tmp 34) (.tmp 33), none, 2⟩] (some [[], [0], [], [2], [2, 3], [3, 2, 4], [4, 2, 3, 5], [5, 3, 2, 4, 6, 0, 1], [7, 6, 5, 4, 3, 2, 1, 0], [0, 1, 2, 3, 4, 5, 6, 7, 8]]) 0 []) .skip))) (.reg 0 [⟨(some 19), .mv (.tmp 6), none, 0⟩, ⟨(some 20), .bin .add (.tmp 19) (.const (.int .i64 1)), none, 0⟩, ⟨(some 6), .mv (.tmp 20), none, 0⟩] none 0 [])))))) (.seq (.reg 1 [⟨(some 7), .al (.agg [(.lit (.int .i64 0)), (.sl [] true)]), none, 0⟩] none 0 []) (.seq (.seq (.reg 0 [⟨(some 8), .mv (.const (.int .i64 0)), none, 0⟩] none 0 []) (.block 2 (.loop (.seq (.seq (.reg 0 [⟨(some 35), .mv (.tmp 8), none, 0⟩, ⟨(some 36), .mv (.tmp 0), none, 0⟩, ⟨(some 37), .lens (.tmp 36), none, 0⟩, ⟨(some 38), .bin .lss (.tmp 35) (.tmp 37), none, 0⟩] none 0 []) (.cond (.tmp 38) .skip (.exit 2))) (.seq (.block 3 (.seq (.reg 0 [⟨(some 41), .mv (.tmp 0), none, 0⟩, ⟨(some 42), .mv (.tmp 8), none, 0⟩, ⟨(some 43), .ixs 4 (.tmp 41) (.tmp 42), none, 0⟩, ⟨(some 44), .fa 2 (.tmp 43), none, 0⟩, ⟨(some 45), .ld 1 false (.tmp 44), none, 0⟩] none 0 []) (.cond (.tmp 45) (.reg 0 [⟨(some 47), .ld 2 true (.tmp 7), none, 0⟩, ⟨(some 48), .mv (.tmp 0), none, 0⟩, ⟨(some 49), .mv (.tmp 8), none, 0⟩, ⟨(some 50), .ixs 4 (.tmp 48) (.tmp 49), none, 0⟩, ⟨(some 51), .fa 0 (.tmp 50), none, 0⟩, ⟨(some 52), .ld 1 false (.tmp 51), none, 0⟩, ⟨(some 53), .cl 11 [(.tmp 52)], none, 0⟩, ⟨(some 54), .cl 12 [(.tmp 47), (.tmp 53), (.const (.string ⟨#[]⟩))], none, 0⟩, ⟨(some 46), .mv (.tmp 54), none, 0⟩, ⟨(some 55), .ex (.tmp 46) 0, none, 0⟩, ⟨(some 56), .ex (.tmp 46) 1, none, 0⟩, ⟨(some 57), .ex (.tmp 46) 2, none, 0⟩, ⟨none, .st 2 (.tmp 7) (.tmp 55), none, 0⟩] (some [[], [], [], [2, 1], [1, 2, 3], [3, 2, 1, 4], [4, 1, 2, 3, 5], [5, 3, 2, 1, 4, 6, 0], [0, 6, 4, 1, 2, 3, 5, 7], [7, 5, 3, 2, 1, 4, 6, 0, 8], [7, 5, 3, 2, 1, 4, 6, 0, 8], [7, 5, 3, 2, 1, 4, 6, 0, 8], [8, 0, 6, 4, 1, 2, 3, 5, 7, 9]]) 0 []) (.reg 0 [⟨(some 59), .ld 2 true (.tmp 7), none, 0⟩, ⟨(some 60), .mv (.tmp 0), none, 0⟩, ⟨(some 61), .mv (.tmp 8), none, 0⟩, ⟨(some 62), .ixs 4 (.tmp 60) (.tmp 61), none, 0⟩, ⟨(some 63), .fa 0 (.tmp 62), none, 0⟩, ⟨(some 64), .ld 1 false (.tmp 63), none, 0⟩, ⟨(some 65), .cl 11 [(.tmp 64)], none, 0⟩, ⟨(some 66), .mv (.tmp 0), none, 0⟩, ⟨(some 67), .mv (.tmp 8), none, 0⟩, ⟨(some 68), .ixs 4 (.tmp 66) (.tmp 67), none, 0⟩, ⟨(some 69), .fa 1 (.tmp 68), none, 0⟩, ⟨(some 70), .ld 1 false (.tmp 69), none, 0⟩, ⟨(some 71), .bin .rem (.tmp 70) (.const (.int .u8 5)), none, 0⟩, ⟨(some 72), .cvi .i64 (.tmp 71), none, 0⟩, ⟨(some 73), .cl 13 [(.tmp 59), (.tmp 65), (.const (.string ⟨#[]⟩)), (.tmp 72), (.const (.int .i64 0))], none, 0⟩, ⟨(some 58), .mv (.tmp 73), none, 0⟩, ⟨(some 74), .ex (.tmp 58) 0, none, 0⟩, ⟨(some 75), .ex (.tmp 58) 1, none, 0⟩, ⟨(some 76), .ex (.tmp 58) 2, none, 0⟩, ⟨none, .st 2 (.tmp 7) (.tmp 74), none, 0⟩] (some [[], [], [], [2, 1], [1, 2, 3], [3, 2, 1, 4], [4, 1, 2, 3, 5], [], [], [8, 7], [7, 8, 9], [9, 8, 7, 10], [10, 7, 8, 9, 11], [11, 9, 8, 7, 10, 12], [12, 10, 7, 8, 9, 11, 13, 5, 3, 2, 1, 4, 6, 0], [0, 6, 4, 1, 2, 3, 5, 13, 11, 9, 8, 7, 10, 12, 14], [14, 12, 10, 7, 8, 9, 11, 13, 5, 3, 2, 1, 4, 6, 0, 15], [14, 12, 10, 7, 8, 9, 11, 13, 5, 3, 2, 1, 4, 6, 0, 15], [14, 12, 10, 7, 8, 9, 11, 13, 5, 3, 2, 1, 4, 6, 0, 15], [15, 0, 6, 4, 1, 2, 3, 5, 13, 11, 9, 8, 7, 10, 12, 14, 16]]) 0 [])))) (.reg 0 [⟨(some 39), .mv (.tmp 8), none, 0⟩, ⟨(some 40), .bin .add (.tmp 39) (.const (.int .i64 1)), none, 0⟩, ⟨(some 8), .mv (.tmp 40), none, 0⟩] none 0 [])))))) (.seq (.reg 0 [⟨(some 77), .ld 2 true (.tmp 5), none, 0⟩, ⟨(some 78), .ld 2 true (.tmp 7), none, 0⟩, ⟨(some 79), .cl 14 [(.tmp 77), (.tmp 78)], none, 0⟩, ⟨(some 9), .mv (.tmp 79), none, 0⟩] none 0 []) (.seq (.reg 0 [⟨(some 80), .ld 2 true (.tmp 5), none, 0⟩, ⟨(some 81), .ld 2 true (.tmp 7), none, 0⟩, ⟨(some 82), .cl 15 [(.tmp 80), (.tmp 81)], none, 0⟩, ⟨(some 10), .mv (.tmp 82), none, 0⟩] none 0 []) (.seq (.reg 0 [⟨(some 83), .mv (.tmp 10), none, 0⟩, ⟨(some 84), .lens (.tmp 83), none, 0⟩, ⟨(some 11), .mv (.tmp 84), none, 0⟩] none 0 []) (.seq (.seq (.reg 0 [⟨(some 85), .mv (.tmp 9), none, 0⟩, ⟨(some 86), .lens (.tmp 85), none, 0⟩, ⟨(some 87), .mv (.tmp 11), none, 0⟩, ⟨(some 88), .bin .add (.tmp 87) (.const (.int .i64 2)), none, 0⟩, ⟨(some 89), .bin .neq (.tmp 86) (.tmp 88), none, 0⟩, ⟨(some 90), .mv (.tmp 89), none, 0⟩, ⟨(some 91), .mv (.tmp 9), (some (90, false)), 0⟩, ⟨(some 92), .ixs 8 (.tmp 91) (.const (.int .i64 0)), (some (90, false)), 0⟩, ⟨(some 93), .fa 0 (.tmp 92), (some (90, false)), 0⟩, ⟨(some 94), .ld 1 false (.tmp 93), (some (90, false)), 0⟩, ⟨(some 95), .bin .neq (.tmp 94) (.const (.int .u8 36)), (some (90, false)), 0⟩, ⟨(some 96), .pick (.tmp 90) (.const (.bool true)) (.tmp 95), none, 0⟩, ⟨(some 97), .mv (.tmp 96), none, 0⟩, ⟨(some 98), .mv (.tmp 9), (some (97, false)), 0⟩, ⟨(some 99), .ixs 8 (.tmp 98) (.const (.int .i64 0)), (some (97, false)), 0⟩, ⟨(some 100), .fa 7 (.tmp 99), (some (97, false)), 0⟩, ⟨(some 101), .ld 1 false (.tmp 100), (some (97, false)), 0⟩, ⟨(some 102), .mv (.tmp 11), (some (97, false)), 0⟩, ⟨(some 103), .bin .neq (.tmp 101) (.tmp 102), (some (97, false)), 0⟩, ⟨(some 104), .pick (.tmp 97) (.const (.bool true)) (.tmp 103), none, 0⟩, ⟨(some 105), .mv (.tmp 104), none, 0⟩, ⟨(some 106), .mv (.tmp 9), (some (105, false)), 0⟩, ⟨(some 107), .mv (.tmp 11), (some (105, false)), 0⟩, ⟨(some 108), .bin .add (.tmp 107) (.const (.int .i64 1)), (some (105, false)), 0⟩, ⟨(some 109), .ixs 8 (.tmp 106) (.tmp 108), (some (105, false)), 0⟩, ⟨(some 110), .fa 0 (.tmp 109), (some (105, false)), 0⟩, ⟨(some 111), .ld 1 false (.tmp 110), (some (105, false)), 0⟩, ⟨(some 112), .bin .neq (.tmp 111) (.const (.int .u8 37)), (some (105, false)), 0⟩, ⟨(some 113), .pick (.tmp 105) (.const (.bool true)) (.tmp 112), none, 0⟩] none 0 []) (.cond (.tmp 113) (.seq (.reg 0 [⟨(some 4), .mv (.const (.bool false)), none, 0⟩] none 0 []) .ret) .skip)) (.seq (.seq (.reg 0 [⟨(some 12), .mv (.const (.int .i64 0)), none, 0⟩] none 0 []) (.block 4 (.loop (.seq (.seq (.reg 0 [⟨(some 114), .mv (.tmp 12), none, 0⟩, ⟨(some 115), .mv (.tmp 11), none, 0⟩, ⟨(some 116), .bin .lss (.tmp 114) (.tmp 115), none, 0⟩] none 0 []) (.cond (.tmp 116) .skip (.exit 4))) (.seq (.block 5 (.seq (.reg 0 [⟨(some 119), .mv (.tmp 9), none, 0⟩, ⟨(some 120), .mv (.tmp 12), none, 0⟩, ⟨(some 121), .bin .add (.tmp 120) (.const (.int .i64 1)), none, 0⟩, ⟨(some 122), .ixs 8 (.tmp 119) (.tmp 121), none, 0⟩, ⟨(some 123), .ld 8 true (.tmp 122), none, 0⟩, ⟨(some 124), .mv (.tmp 10), none, 0⟩, ⟨(some 125), .mv (.tmp 12), none, 0⟩, ⟨(some 126), .ixs 6 (.tmp 124) (.tmp 125), none, 0⟩, ⟨(some 127), .fa 0 (.tmp 126), none, 0⟩, ⟨(some 128), .ld 1 false (.tmp 127), none, 0⟩, ⟨(some 129), .mv (.tmp 10), none, 0⟩, ⟨(some 130), .mv (.tmp 12), none, 0⟩, ⟨(some 131), .ixs 6 (.tmp 129) (.tmp 130), none, 0⟩, ⟨(some 132), .fa 1 (.tmp 131), none, 0⟩, ⟨(some 133), .ld 1 false (.tmp 132), none, 0⟩, ⟨(some 134), .mv (.tmp 10), none, 0⟩, ⟨(some 135), .mv (.tmp 12), none, 0⟩, ⟨(some 136), .ixs 6 (.tmp 134) (.tmp 135), none, 0⟩, ⟨(some 137), .fa 2 (.tmp 136), none, 0⟩, ⟨(some 138), .ld 4 true (.tmp 137), none, 0⟩, ⟨(some 139), .cl 16 [(.tmp 128), (.tmp 133), (.tmp 138)], none, 0⟩, ⟨(some 140), .eqa true [1, 2, 2, 2, 1, 1, 1, 1] (.tmp 123) (.tmp 139), none, 0⟩, ⟨(some 141), .mv (.tmp 140), none, 0⟩, ⟨(some 142), .ld 2 true (.tmp 5), (some (141, false)), 0⟩, ⟨(some 143), .mv (.tmp 10), (some (141, false)), 0⟩, ⟨(some 144), .mv (.tmp 12), (some (141, false)), 0⟩, ⟨(some 145), .ixs 6 (.tmp 143) (.tmp 144), (some (141, false)), 0⟩, ⟨(some 146), .ld 6 true (.tmp 145), (some (141, false)), 0⟩, ⟨(some 147), .cl 17 [(.tmp 142), (.tmp 146)], (some (141, false)), 0⟩, ⟨(some 148), .un .not (.tmp 147), (some (141, false)), 0⟩, ⟨(some 149), .pick (.tmp 141) (.const (.bool true)) (.tmp 148), none, 0⟩, ⟨(some 150), .mv (.tmp 149), none, 0⟩, ⟨(some 151), .mv (.tmp 12), (some (150, false)), 0⟩, ⟨(some 152), .bin .gtr (.tmp 151) (.const (.int .i64 0)), (some (150, false)), 0⟩, ⟨(some 153), .mv (.tmp 152), (some (150, false)), 0⟩, ⟨(some 154), .mv (.tmp 9), (some (153, true)), 0⟩, ⟨(some 155), .mv (.tmp 12), (some (153, true)), 0⟩, ⟨(some 156), .ixs 8 (.tmp 154) (.tmp 155), (some (153, true)), 0⟩, ⟨(some 157), .fa 1 (.tmp 156), (some (153, true)), 0⟩, ⟨(some 158), .ld 1 false (.tmp 157), (some (153, true)), 0⟩, ⟨(some 159), .mv (.tmp 9), (some (153, true)), 0⟩, ⟨(some 160), .mv (.tmp 12), (some (153, true)), 0⟩, ⟨(some 161), .bin .add (.tmp 160) (.const (.int .i64 1)), (some (153, true)), 0⟩, ⟨(some 162), .ixs 8 (.tmp 159) (.tmp 161), (some (153, true)), 0⟩, ⟨(some 163), .fa 1 (.tmp 162), (some (153, true)), 0⟩, ⟨(some 164), .ld 1 false (.tmp 163), (some (153, true)), 0⟩, ⟨(some 165), .bin .geq (.tmp 158) (.tmp 164), (some (153, true)), 0⟩, ⟨(some 166), .pick (.tmp 153) (.tmp 165) (.const (.bool false)), (some (150, false)), 0⟩, ⟨(some 167), .pick (.tmp 150) (.const (.bool true)) (.tmp 166), none, 0⟩] (some [[], [], [1], [1, 2, 0], [0, 2, 1, 3], [], [], [6, 5], [5, 6, 7], [7, 6, 5, 8], [], [], [11, 10], [10, 11, 12], [12, 11, 10, 13], [], [], [16, 15], [15, 16, 17], [17, 16, 15, 18], [18, 15, 16, 17, 19, 13, 10, 11, 12, 14, 8, 5, 6, 7, 9], [9, 7, 6, 5, 8, 14, 12, 11, 10, 13, 19, 17, 16, 15, 18, 20, 3, 1, 2, 0, 4], [4, 0, 2, 1, 3, 20, 18, 15, 16, 17, 19, 13, 10, 11, 12, 14, 8, 5, 6, 7, 9, 21], [21, 9, 7, 6, 5, 8, 14, 12, 11, 10, 13, 19, 17, 16, 15, 18, 20, 3, 1, 2, 0, 4, 22], [21, 9, 7, 6, 5, 8, 14, 12, 11, 10, 13, 19, 17, 16, 15, 18, 20, 3, 1, 2, 0, 4, 22], [21, 9, 7, 6, 5, 8, 14, 12, 11, 10, 13, 19, 17, 16, 15, 18, 20, 3, 1, 2, 0, 4, 22], [25, 22, 4, 0, 2, 1, 3, 20, 18, 15, 16, 17, 19, 13, 10, 11, 12, 14, 8, 5, 6, 7, 9, 21, 24], [24, 21, 9, 7, 6, 5, 8, 14, 12, 11, 10, 13, 19, 17, 16, 15, 18, 20, 3, 1, 2, 0, 4, 22, 25, 26], [26, 25, 24, 27, 22, 4, 0, 2, 1, 3, 20, 18, 15, 16, 17, 19, 13, 10, 11, 12, 14, 8, 5, 6, 7, 9, 21, 23], [23, 21, 9, 7, 6, 5, 8, 14, 12, 11, 10, 13, 19, 17, 16, 15, 18, 20, 3, 1, 2, 0, 4, 22, 27, 24, 25, 26, 28], [28, 26, 25, 24, 27, 23, 29, 21, 9, 7, 6, 5, 8, 14, 12, 11, 10, 13, 19, 17, 16, 15, 18, 20, 3, 1, 2, 0, 4, 22], [22, 4, 0, 2, 1, 3, 20, 18, 15, 16, 17, 19, 13, 10, 11, 12, 14, 8, 5, 6, 7, 9, 21, 29, 23, 27, 24, 25, 26, 28, 30], [30, 28, 26, 25, 24, 27, 23, 29, 21, 9, 7, 6, 5, 8, 14, 12, 11, 10, 13, 19, 17, 16, 15, 18, 20, 3, 1, 2, 0, 4, 22, 31], [31, 22, 4, 0, 2, 1, 3, 20, 18, 15, 16, 17, 19, 13, 10, 11, 12, 14, 8, 5, 6, 7, 9, 21, 29, 23, 27, 24, 25, 26, 28, 30, 32], [32, 30, 28, 26, 25, 24, 27, 23, 29, 21, 9, 7, 6, 5, 8, 14, 12, 11, 10, 13, 19, 17, 16, 15, 18, 20, 3, 1, 2, 0, 4, 22, 31, 33], [33, 31, 22, 4, 0, 2, 1, 3, 20, 18, 15, 16, 17, 19, 13, 10, 11, 12, 14, 8, 5, 6, 7, 9, 21, 29, 23, 27, 24, 25, 26, 28, 30, 32, 34], [33, 31, 22, 4, 0, 2, 1, 3, 20, 18, 15, 16, 17, 19, 13, 10, 11, 12, 14, 8, 5, 6, 7, 9, 21, 29, 23, 27, 24, 25, 26, 28, 30, 32, 34], [36, 34, 32, 30, 28, 26, 25, 24, 27, 23, 29, 21, 9, 7, 6, 5, 8, 14, 12, 11, 10, 13, 19, 17, 16, 15, 18, 20, 3, 1, 2, 0, 4, 22, 31, 33, 35], [35, 33, 31, 22, 4, 0, 2, 1, 3, 20, 18, 15, 16, 17, 19, 13, 10, 11, 12, 14, 8, 5, 6, 7, 9, 21, 29, 23, 27, 24, 25, 26, 28, 30, 32, 34, 36, 37], [37, 36, 34, 32, 30, 28, 26, 25, 24, 27, 23, 29, 21, 9, 7, 6, 5, 8, 14, 12, 11, 10, 13, 19, 17, 16, 15, 18, 20, 3, 1, 2, 0, 4, 22, 31, 33, 35, 38], [33, 31, 22, 4, 0, 2, 1, 3, 20, 18, 15, 16, 17, 19, 13, 10, 11, 12, 14, 8, 5, 6, 7, 9, 21, 29, 23, 27, 24, 25, 26, 28, 30, 32, 34], [33, 31, 22, 4, 0, 2, 1, 3, 20, 18, 15, 16, 17, 19, 13, 10, 11, 12, 14, 8, 5, 6, 7, 9, 21, 29, 23, 27, 24, 25, 26, 28, 30, 32, 34], [34, 32, 30, 28, 26, 25, 24, 27, 23, 29, 21, 9, 7, 6, 5, 8, 14, 12, 11, 10, 13, 19, 17, 16, 15, 18, 20, 3, 1, 2, 0, 4, 22, 31, 33, 41], [41, 42, 34, 32, 30, 28, 26, 25, 24, 27, 23, 29, 21, 9, 7, 6, 5, 8, 14, 12, 11, 10, 13, 19, 17, 16, 15, 18, 20, 3, 1, 2, 0, 4, 22, 31, 33, 40], [40, 33, 31, 22, 4, 0, 2, 1, 3, 20, 18, 15, 16, 17, 19, 13, 10, 11, 12, 14, 8, 5, 6, 7, 9, 21, 29, 23, 27, 24, 25, 26, 28, 30, 32, 34, 42, 41, 43], [43, 41, 42, 34, 32, 30, 28, 26, 25, 24, 27, 23, 29, 21, 9, 7, 6, 5, 8, 14, 12, 11, 10, 13, 19, 17, 16, 15, 18, 20, 3, 1, 2, 0, 4, 22, 31, 33, 40, 44], [44, 40, 42, 41, 43, 45, 38, 35, 33, 31, 22, 4, 0, 2, 1, 3, 20, 18, 15, 16, 17, 19, 13, 10, 11, 12, 14, 8, 5, 6, 7, 9, 21, 29, 23, 27, 24, 25, 26, 28, 30, 32, 34, 36, 37, 39], [39, 37, 36, 35, 38, 45, 43, 41, 42, 40, 44, 46, 33, 31, 22, 4, 0, 2, 1, 3, 20, 18, 15, 16, 17, 19, 13, 10, 11, 12, 14, 8, 5, 6, 7, 9, 21, 29, 23, 27, 24, 25, 26, 28, 30, 32, 34], [34, 32, 33, 46, 44, 40, 42, 41, 43, 45, 38, 35, 36, 37, 39, 47, 30, 28, 26, 25, 24, 27, 23, 29, 21, 9, 7, 6, 5, 8, 14, 12, 11, 10, 13, 19, 17, 16, 15, 18, 20, 3, 1, 2, 0, 4, 22, 31]]) 0 []) (.cond (.tmp 167) (.seq (.reg 0 [⟨(some 4), .mv (.const (.bool false)), none, 0⟩] none 0 []) .ret) .skip))) (.reg 0 [⟨(some 117), .mv (.tmp 12), none, 0⟩, ⟨(some 118), .bin .add (.tmp 117) (.const (.int .i64 1)), none, 0⟩, ⟨(some 12), .mv (.tmp 118), none, 0⟩] none 0 [])))))) (.seq (.reg 0 [⟨(some 168), .mv (.tmp 11), none, 0⟩, ⟨(some 169), .ld 2 true (.tmp 5), none, 0⟩, ⟨(some 170), .ld 2 true (.tmp 7), none, 0⟩, ⟨(some 171), .cl 18 [(.tmp 169), (.tmp 170)], none, 0⟩, ⟨(some 172), .bin .eql (.tmp 168) (.tmp 171), none, 0⟩, ⟨(some 173), .mv (.tmp 172), none, 0⟩, ⟨(some 174), .cl 9 [], (some (173, true)), 0⟩, ⟨(some 175), .pick (.tmp 173) (.tmp 174) (.const (.bool false)), none, 0⟩, ⟨(some 4), .mv (.tmp 175), none, 0⟩] none 0 []) .ret))))))))))))
set_option maxRecDepth 1000000 in
theorem gc3_ok : compF Try.prog Try.f3 = some (gc3.er, 176, [.tmp 4]) := by unfold gc3; kernel_rfl
set_option maxRecDepth 100000 in
set_option maxHeartbeats 4000000 in
theorem p_law26_SnapWhole_v {u1 : Bool} (a0 : List Law26Deed) (a1 : Int) : CallsO Try.prog 3 [.sl (List.map Law26Deed.v a0) u1, .y8 a1] V.b (p_law26_SnapWhole a0 a1) := by
  refine callsO_comp mix Try.func3 gc3_ok fun r H => ?_
  rw [p_law26_SnapWhole] at H
  conv => whnf
  refine LenQ.M ?_; conv => whnf
  refine tst_c H (fun b1 H => ?_) (fun b1 H => ?_)
  · conv => whnf
    refine ask_c (p_law26_awake_v) H rfl rfl (fun v2 H => ?_); conv => whnf
    exact fin0_c (enc := V.b) H (.inr rfl) (.cons (.tmp rfl) (.nil)) rfl rfl
  conv => whnf
  obtain ⟨o4, HL5, HQ6⟩ := bind_c H
  refine loop_c [6] [17, 18, 19, 20, 21, 22, 23, 24, 25, 26, 27, 28, 29, 30, 31, 32, 33, 34] [17, 18, 19, 20, 21, 22, 23, 24, 25, 26, 27, 28, 29, 30, 31, 32, 33, 34] (fun n vals st => (∃ y8 y9, p_law26_SnapWhole_l1  a1 n y8 y9 = some o4 ∧ vals = [.i y8] ∧ st = [.live [.sl (List.map V.s y9.Users) true, .sl (List.map V.s y9.Keys) true] 0]) ∨ (∃ y16 y17, p_law26_SnapWhole_l1  a1 n y16 y17 = some o4 ∧ vals = [.i y16] ∧ st = [.live [.sl (List.map V.s y17.Users) true, .osl 1 0 (List.length y17.Keys) 1 false] 0, .live (cellsM V.s y17.Keys) (cellsM V.s y17.Keys).length]) ∨ (∃ y18 y19, p_law26_SnapWhole_l1  a1 n y18 y19 = some o4 ∧ vals = [.i y18] ∧ st = [.live [.sl (List.map V.s y19.Users) true, .sl (List.map V.s y19.Keys) true] 0])) fuel 1 [] (.inl (⟨_, _, HL5, rfl, rfl⟩)) (Nat.zero_le _) rfl (by kernel_rfl) (by kernel_rfl) rfl ⟨⟨rfl, rfl, rfl⟩, trivial⟩ ?_
  rintro (_ | n7) _ _ (⟨y8, y9, H, rfl, rfl⟩ | ⟨y16, y17, H, rfl, rfl⟩ | ⟨y18, y19, H, rfl, rfl⟩)
  · rw [p_law26_SnapWhole_l1] at H; cases H
  · rw [p_law26_SnapWhole_l1] at H; cases H
  · rw [p_law26_SnapWhole_l1] at H; cases H
  · rw [p_law26_SnapWhole_l1] at H
    conv => whnf
    refine tst_c H (fun b10 H => ?_) (fun b10 H => ?_)
    · conv => whnf
      refine Shr.ok (pos_c H).1 ((fun H => ?_) (pos_c H).2); conv => whnf
      refine tst_d H (fun b12 H => ?_) (fun b12 H => ?_)
      · conv => whnf
        refine Ari.w ?_; conv => whnf
        exact again_c [17, 18, 19, 20, 21, 22, 23, 24, 25, 26, 27, 28, 29, 30, 31, 32, 33, 34] n7 1 [] (.inr (.inr (⟨_, _, H, rfl, rfl⟩))) (Nat.lt_succ_self _) (Nat.zero_le _) rfl (by kernel_rfl) (by kernel_rfl) rfl ⟨⟨rfl, rfl, rfl⟩, trivial⟩
      conv => whnf
      refine Ari.w ?_; conv => whnf
      refine ask_c (p_law26_who_v _) H rfl rfl (fun v13 H => ?_); conv => whnf
      refine ask_c (p_pres_Key_v _ _) H rfl rfl (fun v14 H => ?_); conv => whnf
      refine appN_c (f := V.s) H (fun _ => rfl) (srcM (f := V.s) (fun _ => rfl) _ _) rfl (.v (srcOwn (f := V.s) (l := [v14]) (fun _ => rfl) rfl rfl rfl)) (by decide) rfl (by simp) (fun l15 H => ?_); conv => whnf
      refine ⟨Nat.le_of_ble_eq_true rfl, ?_⟩; conv => whnf
      refine FootQ.mk ⟨rfl, ?_⟩; conv => whnf
      refine Ari.w ?_; conv => whnf
      exact again_c [17, 18, 19, 20, 21, 22, 23, 24, 25, 26, 27, 28, 29, 30, 31, 32, 33, 34] n7 2 [0, 2] (.inr (.inl (⟨_, _, H, rfl, rfl⟩))) (Nat.lt_succ_self _) (Nat.zero_le _) rfl (by kernel_rfl) (by kernel_rfl) rfl ⟨⟨rfl, rfl, rfl⟩, wkB_live0 rfl (cellsM_idlt (f := V.s) (fun _ => rfl) _) rfl trivial⟩
    conv => whnf
    obtain rfl := Option.some.inj H
    have H := HQ6
    try dsimp only at H
    obtain ⟨o21, HL22, HQ23⟩ := bind_c H
    refine loop_c [8] [35, 36, 37, 38, 39, 40, 41, 42, 43, 44, 45, 46, 47, 48, 49, 50, 51, 52, 53, 54, 55, 56, 57, 58, 59, 60, 61, 62, 63, 64, 65, 66, 67, 68, 69, 70, 71, 72, 73, 74, 75, 76] [35, 36, 37, 38, 39, 40, 41, 42, 43, 44, 45, 46, 47, 48, 49, 50, 51, 52, 53, 54, 55, 56, 57, 58, 59, 60, 61, 62, 63, 64, 65, 66, 67, 68, 69, 70, 71, 72, 73, 74, 75, 76] (fun n vals st => (∃ y25 y26, p_law26_SnapWhole_l2  a0 n y25 y26 = some o21 ∧ vals = [.i y25] ∧ st = [.live [.sl (List.map V.s y9.Users) true, .sl (List.map V.s y9.Keys) true] 0, .live [.i y26.Seq, .sl (List.map BookRow.v y26.Rows) true] 0]) ∨ (∃ y33 y34, p_law26_SnapWhole_l2  a0 n y33 y34 = some o21 ∧ vals = [.i y33] ∧ st = [.live [.sl (List.map V.s y9.Users) true, .sl (List.map V.s y9.Keys) true] 0, .live [.i y34.Seq, .sl (List.map BookRow.v y34.Rows) false] 0])) fuel 2 [] (.inl (⟨_, _, HL22, rfl, rfl⟩)) (Nat.zero_le _) rfl (by kernel_rfl) (by kernel_rfl) rfl ⟨⟨rfl, rfl, rfl⟩, ⟨⟨rfl, rfl, rfl⟩, trivial⟩⟩ ?_
    rintro (_ | n24) _ _ (⟨y25, y26, H, rfl, rfl⟩ | ⟨y33, y34, H, rfl, rfl⟩)
    · rw [p_law26_SnapWhole_l2] at H; cases H
    · rw [p_law26_SnapWhole_l2] at H; cases H
    · rw [p_law26_SnapWhole_l2] at H
      conv => whnf
      refine LenQ.M ?_; conv => whnf
      refine tst_c H (fun b27 H => ?_) (fun b27 H => ?_)
      · conv => whnf
        refine ixs_c (f := Law26Deed.v) H (fun _ => rfl) (fun x28 H => ?_); conv => whnf
        refine ⟨Nat.le_of_ble_eq_true rfl, ?_⟩; conv => whnf
        refine tst_c H (fun b29 H => ?_) (fun b29 H => ?_)
        · conv => whnf
          refine ixs_c (f := Law26Deed.v) H (fun _ => rfl) (fun x30 H => ?_); conv => whnf
          refine ⟨Nat.le_of_ble_eq_true rfl, ?_⟩; conv => whnf
          refine ask_c (p_law26_who_v _) H rfl rfl (fun v31 H => ?_); conv => whnf
          refine ask_c (p_book_Off_v _ _ _) H rfl rfl (fun v32 H => ?_); conv => whnf
          refine ⟨Nat.le_of_ble_eq_true rfl, ?_⟩; conv => whnf
          refine FootQ.mk ⟨rfl, ?_⟩; conv => whnf
          refine Ari.w ?_; conv => whnf
          exact again_c [35, 36, 37, 38, 39, 40, 41, 42, 43, 44, 45, 46, 47, 48, 49, 50, 51, 52, 53, 54, 55, 56, 57, 58, 59, 60, 61, 62, 63, 64, 65, 66, 67, 68, 69, 70, 71, 72, 73, 74, 75, 76] n24 2 [] (.inr (⟨_, _, H, rfl, rfl⟩)) (Nat.lt_succ_self _) (Nat.zero_le _) rfl (by kernel_rfl) (by kernel_rfl) rfl ⟨⟨rfl, rfl, rfl⟩, ⟨⟨rfl, rfl, rfl⟩, trivial⟩⟩
        conv => whnf
        refine ixs_c (f := Law26Deed.v) H (fun _ => rfl) (fun x35 H => ?_); conv => whnf
        refine ⟨Nat.le_of_ble_eq_true rfl, ?_⟩; conv => whnf
        refine ask_c (p_law26_who_v _) H rfl rfl (fun v36 H => ?_); conv => whnf
        refine ixs_c (f := Law26Deed.v) H (fun _ => rfl) (fun x37 H => ?_); conv => whnf
        refine ⟨Nat.le_of_ble_eq_true rfl, ?_⟩; conv => whnf
        refine ⟨by decide, ?_⟩; conv => whnf
        refine Ari.w ?_; conv => whnf
        refine ask_c (p_book_Set_v _ _ _ _ _) H rfl rfl (fun v38 H => ?_); conv => whnf
        refine ⟨Nat.le_of_ble_eq_true rfl, ?_⟩; conv => whnf
        refine FootQ.mk ⟨rfl, ?_⟩; conv => whnf
        refine Ari.w ?_; conv => whnf
        exact again_c [35, 36, 37, 38, 39, 40, 41, 42, 43, 44, 45, 46, 47, 48, 49, 50, 51, 52, 53, 54, 55, 56, 57, 58, 59, 60, 61, 62, 63, 64, 65, 66, 67, 68, 69, 70, 71, 72, 73, 74, 75, 76] n24 2 [] (.inr (⟨_, _, H, rfl, rfl⟩)) (Nat.lt_succ_self _) (Nat.zero_le _) rfl (by kernel_rfl) (by kernel_rfl) rfl ⟨⟨rfl, rfl, rfl⟩, ⟨⟨rfl, rfl, rfl⟩, trivial⟩⟩
      conv => whnf
      obtain rfl := Option.some.inj H
      have H := HQ23
      try dsimp only at H
      refine ask_c (p_snap_All_v _ _) H rfl rfl (fun v39 H => ?_); conv => whnf
      refine ask_c (p_snap_View_v _ _) H rfl rfl (fun v40 H => ?_); conv => whnf
      iterate 2 (refine LenQ.M ?_; conv => whnf)
      refine Ari.w ?_; conv => whnf
      refine tst_c H (fun b41 H => ?_) (fun b41 H => ?_)
      · conv => whnf
        iterate 21 (refine Tst.T ?_; conv => whnf)
        exact fin0_c (enc := V.b) H (.inr rfl) (.cons (.tmp rfl) (.nil)) rfl rfl
      conv => whnf
      refine Tst.F ?_; conv => whnf
      refine ixs_c (f := StanzaStanza.v) H (fun _ => rfl) (fun x42 H => ?_); conv => whnf
      refine Tst.F ?_; conv => whnf
      refine ⟨Nat.le_of_ble_eq_true rfl, ?_⟩; conv => whnf
      iterate 3 (refine Tst.F ?_; conv => whnf)
      refine tst_c H (fun b43 H => ?_) (fun b43 H => ?_)
      · conv => whnf
        iterate 15 (refine Tst.T ?_; conv => whnf)
        exact fin0_c (enc := V.b) H (.inr rfl) (.cons (.tmp rfl) (.nil)) rfl rfl
      conv => whnf
      refine Tst.F ?_; conv => whnf
      refine ixs_c (f := StanzaStanza.v) H (fun _ => rfl) (fun x44 H => ?_); conv => whnf
      refine Tst.F ?_; conv => whnf
      refine ⟨Nat.le_of_ble_eq_true rfl, ?_⟩; conv => whnf
      iterate 4 (refine Tst.F ?_; conv => whnf)
      refine tst_c H (fun b45 H => ?_) (fun b45 H => ?_)
      · conv => whnf
        iterate 8 (refine Tst.T ?_; conv => whnf)
        exact fin0_c (enc := V.b) H (.inr rfl) (.cons (.tmp rfl) (.nil)) rfl rfl
      conv => whnf
      iterate 2 (refine Tst.F ?_; conv => whnf)
      refine Ari.w ?_; conv => whnf
      refine Tst.F ?_; conv => whnf
      refine ixs_c (f := StanzaStanza.v) H (fun _ => rfl) (fun x46 H => ?_); conv => whnf
      refine Tst.F ?_; conv => whnf
      refine ⟨Nat.le_of_ble_eq_true rfl, ?_⟩; conv => whnf
      iterate 3 (refine Tst.F ?_; conv => whnf)
      refine tst_c H (fun b47 H => ?_) (fun b47 H => ?_)
      · conv => whnf
        exact fin0_c (enc := V.b) H (.inr rfl) (.cons (.tmp rfl) (.nil)) rfl rfl
      conv => whnf
      obtain ⟨o49, HL50, HQ51⟩ := bind_c H
      refine loop_c [4, 12] [114, 115, 116, 117, 118, 119, 120, 121, 122, 123, 124, 125, 126, 127, 128, 129, 130, 131, 132, 133, 134, 135, 136, 137, 138, 139, 140, 141, 142, 143, 144, 145, 146, 147, 148, 149, 150, 151, 152, 153, 154, 155, 156, 157, 158, 159, 160, 161, 162, 163, 164, 165, 166, 167] [114, 115, 116, 117, 118, 119, 120, 121, 122, 123, 124, 125, 126, 127, 128, 129, 130, 131, 132, 133, 134, 135, 136, 137, 138, 139, 140, 141, 142, 143, 144, 145, 146, 147, 148, 149, 150, 151, 152, 153, 154, 155, 156, 157, 158, 159, 160, 161, 162, 163, 164, 165, 166, 167] (fun n vals st => (∃ y53, p_law26_SnapWhole_l3  v39 v40 (v40.length : Int) y9 n y53 = some o49 ∧ vals = [.b false, .i y53] ∧ st = [.live [.sl (List.map V.s y9.Users) true, .sl (List.map V.s y9.Keys) true] 0, .live [.i y26.Seq, .sl (List.map BookRow.v y26.Rows) true] 0])) fuel 2 [] (⟨_, HL50, rfl, rfl⟩) (Nat.zero_le _) rfl (by kernel_rfl) (by kernel_rfl) rfl ⟨⟨rfl, rfl, rfl⟩, ⟨⟨rfl, rfl, rfl⟩, trivial⟩⟩ ?_
      rintro (_ | n52) _ _ (⟨y53, H, rfl, rfl⟩)
      · rw [p_law26_SnapWhole_l3] at H; cases H
      rw [p_law26_SnapWhole_l3] at H
      conv => whnf
      refine tst_d H (fun b54 H => ?_) (fun b54 H => ?_)
      · conv => whnf
        obtain rfl := Option.some.inj H
        have H := HQ51
        try dsimp only at H
        refine ask_c (p_snap_Count_v _ _) H rfl rfl (fun v68 H => ?_); conv => whnf
        refine tst_d H (fun b69 H => ?_) (fun b69 H => ?_)
        · conv => whnf
          refine Tst.F ?_; conv => whnf
          exact fin0_c (enc := V.b) H (.inr rfl) (.cons (.tmp rfl) (.nil)) rfl rfl
        conv => whnf
        refine ask_c (p_law26_awake_v) H rfl rfl (fun v70 H => ?_); conv => whnf
        refine Tst.T ?_; conv => whnf
        exact fin0_c (enc := V.b) H (.inr rfl) (.cons (.tmp rfl) (.nil)) rfl rfl
      conv => whnf
      refine Ari.w ?_; conv => whnf
      refine ixs_c (f := StanzaStanza.v) H (fun _ => rfl) (fun x55 H => ?_); conv => whnf
      refine ixs_c (f := BookRow.v) H (fun _ => rfl) (fun x56 H => ?_); conv => whnf
      refine ⟨Nat.le_of_ble_eq_true rfl, ?_⟩; conv => whnf
      refine ixs_c (f := BookRow.v) H (fun _ => rfl) (fun x57 H => ?_); conv => whnf
      refine ⟨Nat.le_of_ble_eq_true rfl, ?_⟩; conv => whnf
      refine ixs_c (f := BookRow.v) H (fun _ => rfl) (fun x58 H => ?_); conv => whnf
      refine ⟨Nat.le_of_ble_eq_true rfl, ?_⟩; conv => whnf
      refine ask_c (p_pres_Say_v _ _ _) H rfl rfl (fun v59 H => ?_); conv => whnf
      refine Tst.not ?_
      refine tst_d H (fun b60 H => ?_) (fun b60 H => ?_)
      · conv => whnf
        iterate 12 (refine Tst.T ?_; conv => whnf)
        refine FootQ.mk ⟨rfl, ?_⟩; conv => whnf
        refine Tst.T ?_; conv => whnf
        obtain rfl := Option.some.inj H
        have H := HQ51
        try dsimp only at H
        exact fin0_c (enc := V.b) H (.inr rfl) (.cons (.tmp rfl) (.nil)) rfl rfl
      conv => whnf
      iterate 3 (refine Tst.F ?_; conv => whnf)
      refine ixs_c (f := BookRow.v) H (fun _ => rfl) (fun x61 H => ?_); conv => whnf
      iterate 2 (refine Tst.F ?_; conv => whnf)
      refine ask_c (p_snap_Sees_v _ _) H rfl rfl (fun v62 H => ?_); conv => whnf
      iterate 2 (refine Tst.F ?_; conv => whnf)
      refine Tst.not ?_
      refine tst_d H (fun b63 H => ?_) (fun b63 H => ?_)
      · conv => whnf
        iterate 4 (refine Tst.T ?_; conv => whnf)
        refine FootQ.mk ⟨rfl, ?_⟩; conv => whnf
        refine Tst.T ?_; conv => whnf
        obtain rfl := Option.some.inj H
        have H := HQ51
        try dsimp only at H
        exact fin0_c (enc := V.b) H (.inr rfl) (.cons (.tmp rfl) (.nil)) rfl rfl
      conv => whnf
      iterate 2 (refine Tst.F ?_; conv => whnf)
      refine tst_d H (fun b64 H => ?_) (fun b64 H => ?_)
      · conv => whnf
        iterate 14 (refine Tst.F ?_; conv => whnf)
        refine FootQ.mk ⟨rfl, ?_⟩; conv => whnf
        refine Tst.F ?_; conv => whnf
        refine Ari.w ?_; conv => whnf
        exact again_c [114, 115, 116, 117, 118, 119, 120, 121, 122, 123, 124, 125, 126, 127, 128, 129, 130, 131, 132, 133, 134, 135, 136, 137, 138, 139, 140, 141, 142, 143, 144, 145, 146, 147, 148, 149, 150, 151, 152, 153, 154, 155, 156, 157, 158, 159, 160, 161, 162, 163, 164, 165, 166, 167] n52 2 [] (⟨_, H, rfl, rfl⟩) (Nat.lt_succ_self _) (Nat.zero_le _) rfl (by kernel_rfl) (by kernel_rfl) rfl ⟨⟨rfl, rfl, rfl⟩, ⟨⟨rfl, rfl, rfl⟩, trivial⟩⟩
      conv => whnf
      iterate 2 (refine Tst.T ?_; conv => whnf)
      refine ixs_c (f := StanzaStanza.v) H (fun _ => rfl) (fun x65 H => ?_); conv => whnf
      refine Tst.T ?_; conv => whnf
      refine ⟨Nat.le_of_ble_eq_true rfl, ?_⟩; conv => whnf
      iterate 4 (refine Tst.T ?_; conv => whnf)
      refine Ari.w ?_; conv => whnf
      refine Tst.T ?_; conv => whnf
      refine ixs_c (f := StanzaStanza.v) H (fun _ => rfl) (fun x66 H => ?_); conv => whnf
      refine Tst.T ?_; conv => whnf
      refine ⟨Nat.le_of_ble_eq_true rfl, ?_⟩; conv => whnf
      iterate 2 (refine Tst.T ?_; conv => whnf)
      refine Tst.F ?_; conv => whnf
      refine Tst.T ?_; conv => whnf
      refine Tst.F ?_; conv => whnf
      refine FootQ.mk ⟨rfl, ?_⟩; conv => whnf
      refine Tst.not ?_
      refine tst_d H (fun b67 H => ?_) (fun b67 H => ?_)
      · conv => whnf
        obtain rfl := Option.some.inj H
        have H := HQ51
        try dsimp only at H
        exact fin0_c (enc := V.b) H (.inr rfl) (.cons (.tmp rfl) (.nil)) rfl rfl
      conv => whnf
      refine Ari.w ?_; conv => whnf
      exact again_c [114, 115, 116, 117, 118, 119, 120, 121, 122, 123, 124, 125, 126, 127, 128, 129, 130, 131, 132, 133, 134, 135, 136, 137, 138, 139, 140, 141, 142, 143, 144, 145, 146, 147, 148, 149, 150, 151, 152, 153, 154, 155, 156, 157, 158, 159, 160, 161, 162, 163, 164, 165, 166, 167] n52 2 [] (⟨_, H, rfl, rfl⟩) (Nat.lt_succ_self _) (Nat.zero_le _) rfl (by kernel_rfl) (by kernel_rfl) rfl ⟨⟨rfl, rfl, rfl⟩, ⟨⟨rfl, rfl, rfl⟩, trivial⟩⟩
    rw [p_law26_SnapWhole_l2] at H
    conv => whnf
    refine LenQ.M ?_; conv => whnf
    refine tst_c H (fun b71 H => ?_) (fun b71 H => ?_)
    · conv => whnf
      refine ixs_c (f := Law26Deed.v) H (fun _ => rfl) (fun x72 H => ?_); conv => whnf
      refine ⟨Nat.le_of_ble_eq_true rfl, ?_⟩; conv => whnf
      refine tst_c H (fun b73 H => ?_) (fun b73 H => ?_)
      · conv => whnf
        refine ixs_c (f := Law26Deed.v) H (fun _ => rfl) (fun x74 H => ?_); conv => whnf
        refine ⟨Nat.le_of_ble_eq_true rfl, ?_⟩; conv => whnf
        refine ask_c (p_law26_who_v _) H rfl rfl (fun v75 H => ?_); conv => whnf
        refine ask_c (p_book_Off_v _ _ _) H rfl rfl (fun v76 H => ?_); conv => whnf
        refine ⟨Nat.le_of_ble_eq_true rfl, ?_⟩; conv => whnf
        refine FootQ.mk ⟨rfl, ?_⟩; conv => whnf
        refine Ari.w ?_; conv => whnf
        exact again_c [35, 36, 37, 38, 39, 40, 41, 42, 43, 44, 45, 46, 47, 48, 49, 50, 51, 52, 53, 54, 55, 56, 57, 58, 59, 60, 61, 62, 63, 64, 65, 66, 67, 68, 69, 70, 71, 72, 73, 74, 75, 76] n24 2 [] (.inr (⟨_, _, H, rfl, rfl⟩)) (Nat.lt_succ_self _) (Nat.zero_le _) rfl (by kernel_rfl) (by kernel_rfl) rfl ⟨⟨rfl, rfl, rfl⟩, ⟨⟨rfl, rfl, rfl⟩, trivial⟩⟩
      conv => whnf
      refine ixs_c (f := Law26Deed.v) H (fun _ => rfl) (fun x77 H => ?_); conv => whnf
      refine ⟨Nat.le_of_ble_eq_true rfl, ?_⟩; conv => whnf
      refine ask_c (p_law26_who_v _) H rfl rfl (fun v78 H => ?_); conv => whnf
      refine ixs_c (f := Law26Deed.v) H (fun _ => rfl) (fun x79 H => ?_); conv => whnf
      refine ⟨Nat.le_of_ble_eq_true rfl, ?_⟩; conv => whnf
      refine ⟨by decide, ?_⟩; conv => whnf
      refine Ari.w ?_; conv => whnf
      refine ask_c (p_book_Set_v _ _ _ _ _) H rfl rfl (fun v80 H => ?_); conv => whnf
      refine ⟨Nat.le_of_ble_eq_true rfl, ?_⟩; conv => whnf
      refine FootQ.mk ⟨rfl, ?_⟩; conv => whnf
      refine Ari.w ?_; conv => whnf
      exact again_c [35, 36, 37, 38, 39, 40, 41, 42, 43, 44, 45, 46, 47, 48, 49, 50, 51, 52, 53, 54, 55, 56, 57, 58, 59, 60, 61, 62, 63, 64, 65, 66, 67, 68, 69, 70, 71, 72, 73, 74, 75, 76] n24 2 [] (.inr (⟨_, _, H, rfl, rfl⟩)) (Nat.lt_succ_self _) (Nat.zero_le _) rfl (by kernel_rfl) (by kernel_rfl) rfl ⟨⟨rfl, rfl, rfl⟩, ⟨⟨rfl, rfl, rfl⟩, trivial⟩⟩
    conv => whnf
    obtain rfl := Option.some.inj H
    have H := HQ23
    try dsimp only at H
    refine ask_c (p_snap_All_v _ _) H rfl rfl (fun v81 H => ?_); conv => whnf
    refine ask_c (p_snap_View_v _ _) H rfl rfl (fun v82 H => ?_); conv => whnf
    iterate 2 (refine LenQ.M ?_; conv => whnf)
    refine Ari.w ?_; conv => whnf
    refine tst_c H (fun b83 H => ?_) (fun b83 H => ?_)
    · conv => whnf
      iterate 21 (refine Tst.T ?_; conv => whnf)
      exact fin0_c (enc := V.b) H (.inr rfl) (.cons (.tmp rfl) (.nil)) rfl rfl
    conv => whnf
    refine Tst.F ?_; conv => whnf
    refine ixs_c (f := StanzaStanza.v) H (fun _ => rfl) (fun x84 H => ?_); conv => whnf
    refine Tst.F ?_; conv => whnf
    refine ⟨Nat.le_of_ble_eq_true rfl, ?_⟩; conv => whnf
    iterate 3 (refine Tst.F ?_; conv => whnf)
    refine tst_c H (fun b85 H => ?_) (fun b85 H => ?_)
    · conv => whnf
      iterate 15 (refine Tst.T ?_; conv => whnf)
      exact fin0_c (enc := V.b) H (.inr rfl) (.cons (.tmp rfl) (.nil)) rfl rfl
    conv => whnf
    refine Tst.F ?_; conv => whnf
    refine ixs_c (f := StanzaStanza.v) H (fun _ => rfl) (fun x86 H => ?_); conv => whnf
    refine Tst.F ?_; conv => whnf
    refine ⟨Nat.le_of_ble_eq_true rfl, ?_⟩; conv => whnf
    iterate 4 (refine Tst.F ?_; conv => whnf)
    refine tst_c H (fun b87 H => ?_) (fun b87 H => ?_)
    · conv => whnf
      iterate 8 (refine Tst.T ?_; conv => whnf)
      exact fin0_c (enc := V.b) H (.inr rfl) (.cons (.tmp rfl) (.nil)) rfl rfl
    conv => whnf
    iterate 2 (refine Tst.F ?_; conv => whnf)
    refine Ari.w ?_; conv => whnf
    refine Tst.F ?_; conv => whnf
    refine ixs_c (f := StanzaStanza.v) H (fun _ => rfl) (fun x88 H => ?_); conv => whnf
    refine Tst.F ?_; conv => whnf
    refine ⟨Nat.le_of_ble_eq_true rfl, ?_⟩; conv => whnf
    iterate 3 (refine Tst.F ?_; conv => whnf)
    refine tst_c H (fun b89 H => ?_) (fun b89 H => ?_)
    · conv => whnf
      exact fin0_c (enc := V.b) H (.inr rfl) (.cons (.tmp rfl) (.nil)) rfl rfl
    conv => whnf
    obtain ⟨o91, HL92, HQ93⟩ := bind_c H
    refine loop_c [4, 12] [114, 115, 116, 117, 118, 119, 120, 121, 122, 123, 124, 125, 126, 127, 128, 129, 130, 131, 132, 133, 134, 135, 136, 137, 138, 139, 140, 141, 142, 143, 144, 145, 146, 147, 148, 149, 150, 151, 152, 153, 154, 155, 156, 157, 158, 159, 160, 161, 162, 163, 164, 165, 166, 167] [114, 115, 116, 117, 118, 119, 120, 121, 122, 123, 124, 125, 126, 127, 128, 129, 130, 131, 132, 133, 134, 135, 136, 137, 138, 139, 140, 141, 142, 143, 144, 145, 146, 147, 148, 149, 150, 151, 152, 153, 154, 155, 156, 157, 158, 159, 160, 161, 162, 163, 164, 165, 166, 167] (fun n vals st => (∃ y95, p_law26_SnapWhole_l3  v81 v82 (v82.length : Int) y9 n y95 = some o91 ∧ vals = [.b false, .i y95] ∧ st = [.live [.sl (List.map V.s y9.Users) true, .sl (List.map V.s y9.Keys) true] 0, .live [.i y34.Seq, .sl (List.map BookRow.v y34.Rows) false] 0])) fuel 2 [] (⟨_, HL92, rfl, rfl⟩) (Nat.zero_le _) rfl (by kernel_rfl) (by kernel_rfl) rfl ⟨⟨rfl, rfl, rfl⟩, ⟨⟨rfl, rfl, rfl⟩, trivial⟩⟩ ?_
    rintro (_ | n94) _ _ (⟨y95, H, rfl, rfl⟩)
    · rw [p_law26_SnapWhole_l3] at H; cases H
    rw [p_law26_SnapWhole_l3] at H
    conv => whnf
    refine tst_d H (fun b96 H => ?_) (fun b96 H => ?_)
    · conv => whnf
      obtain rfl := Option.some.inj H
      have H := HQ93
      try dsimp only at H
      refine ask_c (p_snap_Count_v _ _) H rfl rfl (fun v110 H => ?_); conv => whnf
      refine tst_d H (fun b111 H => ?_) (fun b111 H => ?_)
      · conv => whnf
        refine Tst.F ?_; conv => whnf
        exact fin0_c (enc := V.b) H (.inr rfl) (.cons (.tmp rfl) (.nil)) rfl rfl
      conv => whnf
      refine ask_c (p_law26_awake_v) H rfl rfl (fun v112 H => ?_); conv => whnf
      refine Tst.T ?_; conv => whnf
      exact fin0_c (enc := V.b) H (.inr rfl) (.cons (.tmp rfl) (.nil)) rfl rfl
    conv => whnf
    refine Ari.w ?_; conv => whnf
    refine ixs_c (f := StanzaStanza.v) H (fun _ => rfl) (fun x97 H => ?_); conv => whnf
    refine ixs_c (f := BookRow.v) H (fun _ => rfl) (fun x98 H => ?_); conv => whnf
    refine ⟨Nat.le_of_ble_eq_true rfl, ?_⟩; conv => whnf
    refine ixs_c (f := BookRow.v) H (fun _ => rfl) (fun x99 H => ?_); conv => whnf
    refine ⟨Nat.le_of_ble_eq_true rfl, ?_⟩; conv => whnf
    refine ixs_c (f := BookRow.v) H (fun _ => rfl) (fun x100 H => ?_); conv => whnf
    refine ⟨Nat.le_of_ble_eq_true rfl, ?_⟩; conv => whnf
    refine ask_c (p_pres_Say_v _ _ _) H rfl rfl (fun v101 H => ?_); conv => whnf
    refine Tst.not ?_
    refine tst_d H (fun b102 H => ?_) (fun b102 H => ?_)
    · conv => whnf
      iterate 12 (refine Tst.T ?_; conv => whnf)
      refine FootQ.mk ⟨rfl, ?_⟩; conv => whnf
      refine Tst.T ?_; conv => whnf
      obtain rfl := Option.some.inj H
      have H := HQ93
      try dsimp only at H
      exact fin0_c (enc := V.b) H (.inr rfl) (.cons (.tmp rfl) (.nil)) rfl rfl
    conv => whnf
    iterate 3 (refine Tst.F ?_; conv => whnf)
    refine ixs_c (f := BookRow.v) H (fun _ => rfl) (fun x103 H => ?_); conv => whnf
    iterate 2 (refine Tst.F ?_; conv => whnf)
    refine ask_c (p_snap_Sees_v _ _) H rfl rfl (fun v104 H => ?_); conv => whnf
    iterate 2 (refine Tst.F ?_; conv => whnf)
    refine Tst.not ?_
    refine tst_d H (fun b105 H => ?_) (fun b105 H => ?_)
    · conv => whnf
      iterate 4 (refine Tst.T ?_; conv => whnf)
      refine FootQ.mk ⟨rfl, ?_⟩; conv => whnf
      refine Tst.T ?_; conv => whnf
      obtain rfl := Option.some.inj H
      have H := HQ93
      try dsimp only at H
      exact fin0_c (enc := V.b) H (.inr rfl) (.cons (.tmp rfl) (.nil)) rfl rfl
    conv => whnf
    iterate 2 (refine Tst.F ?_; conv => whnf)
    refine tst_d H (fun b106 H => ?_) (fun b106 H => ?_)
    · conv => whnf
      iterate 14 (refine Tst.F ?_; conv => whnf)
      refine FootQ.mk ⟨rfl, ?_⟩; conv => whnf
      refine Tst.F ?_; conv => whnf
      refine Ari.w ?_; conv => whnf
      exact again_c [114, 115, 116, 117, 118, 119, 120, 121, 122, 123, 124, 125, 126, 127, 128, 129, 130, 131, 132, 133, 134, 135, 136, 137, 138, 139, 140, 141, 142, 143, 144, 145, 146, 147, 148, 149, 150, 151, 152, 153, 154, 155, 156, 157, 158, 159, 160, 161, 162, 163, 164, 165, 166, 167] n94 2 [] (⟨_, H, rfl, rfl⟩) (Nat.lt_succ_self _) (Nat.zero_le _) rfl (by kernel_rfl) (by kernel_rfl) rfl ⟨⟨rfl, rfl, rfl⟩, ⟨⟨rfl, rfl, rfl⟩, trivial⟩⟩
    conv => whnf
    iterate 2 (refine Tst.T ?_; conv => whnf)
    refine ixs_c (f := StanzaStanza.v) H (fun _ => rfl) (fun x107 H => ?_); conv => whnf
    refine Tst.T ?_; conv => whnf
    refine ⟨Nat.le_of_ble_eq_true rfl, ?_⟩; conv => whnf
    iterate 4 (refine Tst.T ?_; conv => whnf)
    refine Ari.w ?_; conv => whnf
    refine Tst.T ?_; conv => whnf
    refine ixs_c (f := StanzaStanza.v) H (fun _ => rfl) (fun x108 H => ?_); conv => whnf
    refine Tst.T ?_; conv => whnf
    refine ⟨Nat.le_of_ble_eq_true rfl, ?_⟩; conv => whnf
    iterate 2 (refine Tst.T ?_; conv => whnf)
    refine Tst.F ?_; conv => whnf
    refine Tst.T ?_; conv => whnf
    refine Tst.F ?_; conv => whnf
    refine FootQ.mk ⟨rfl, ?_⟩; conv => whnf
    refine Tst.not ?_
    refine tst_d H (fun b109 H => ?_) (fun b109 H => ?_)
    · conv => whnf
      obtain rfl := Option.some.inj H
      have H := HQ93
      try dsimp only at H
      exact fin0_c (enc := V.b) H (.inr rfl) (.cons (.tmp rfl) (.nil)) rfl rfl
    conv => whnf
    refine Ari.w ?_; conv => whnf
    exact again_c [114, 115, 116, 117, 118, 119, 120, 121, 122, 123, 124, 125, 126, 127, 128, 129, 130, 131, 132, 133, 134, 135, 136, 137, 138, 139, 140, 141, 142, 143, 144, 145, 146, 147, 148, 149, 150, 151, 152, 153, 154, 155, 156, 157, 158, 159, 160, 161, 162, 163, 164, 165, 166, 167] n94 2 [] (⟨_, H, rfl, rfl⟩) (Nat.lt_succ_self _) (Nat.zero_le _) rfl (by kernel_rfl) (by kernel_rfl) rfl ⟨⟨rfl, rfl, rfl⟩, ⟨⟨rfl, rfl, rfl⟩, trivial⟩⟩
  · rw [p_law26_SnapWhole_l1] at H
    conv => whnf
    refine tst_c H (fun b113 H => ?_) (fun b113 H => ?_)
    · conv => whnf
      refine Shr.ok (pos_c H).1 ((fun H => ?_) (pos_c H).2); conv => whnf
      refine tst_d H (fun b115 H => ?_) (fun b115 H => ?_)
      · conv => whnf
        refine Ari.w ?_; conv => whnf
        exact again_c [17, 18, 19, 20, 21, 22, 23, 24, 25, 26, 27, 28, 29, 30, 31, 32, 33, 34] n7 2 [] (.inr (.inl (⟨_, _, H, rfl, rfl⟩))) (Nat.lt_succ_self _) (Nat.zero_le _) rfl (by kernel_rfl) (by kernel_rfl) rfl ⟨⟨rfl, rfl, rfl⟩, wkB_live0 rfl (cellsM_idlt (f := V.s) (fun _ => rfl) _) rfl trivial⟩
      conv => whnf
      refine Ari.w ?_; conv => whnf
      refine ask_c (p_law26_who_v _) H rfl rfl (fun v116 H => ?_); conv => whnf
      refine ask_c (p_pres_Key_v _ _) H rfl rfl (fun v117 H => ?_); conv => whnf
      refine appO_c (f := V.s) H (fun _ => rfl) rfl (Nat.le_refl _) (.v (srcOwn (f := V.s) (l := [v117]) (fun _ => rfl) rfl rfl rfl)) (by decide) rfl (by simp) (fun l118 H => ?_); conv => whnf
      refine ⟨Nat.le_of_ble_eq_true rfl, ?_⟩; conv => whnf
      refine FootQ.mk ⟨rfl, ?_⟩; conv => whnf
      refine Ari.w ?_; conv => whnf
      exact again_c [17, 18, 19, 20, 21, 22, 23, 24, 25, 26, 27, 28, 29, 30, 31, 32, 33, 34] n7 2 [0, 3] (.inr (.inl (⟨_, _, H, rfl, rfl⟩))) (Nat.lt_succ_self _) (Nat.zero_le _) rfl (by kernel_rfl) (by kernel_rfl) rfl ⟨⟨rfl, rfl, rfl⟩, wkB_live0 rfl (cellsM_idlt (f := V.s) (fun _ => rfl) _) rfl trivial⟩
    conv => whnf
    obtain rfl := Option.some.inj H
    have H := HQ6
    try dsimp only at H
    obtain ⟨o120, HL121, HQ122⟩ := bind_c H
    refine loop_c [8] [35, 36, 37, 38, 39, 40, 41, 42, 43, 44, 45, 46, 47, 48, 49, 50, 51, 52, 53, 54, 55, 56, 57, 58, 59, 60, 61, 62, 63, 64, 65, 66, 67, 68, 69, 70, 71, 72, 73, 74, 75, 76] [35, 36, 37, 38, 39, 40, 41, 42, 43, 44, 45, 46, 47, 48, 49, 50, 51, 52, 53, 54, 55, 56, 57, 58, 59, 60, 61, 62, 63, 64, 65, 66, 67, 68, 69, 70, 71, 72, 73, 74, 75, 76] (fun n vals st => (∃ y124 y125, p_law26_SnapWhole_l2  a0 n y124 y125 = some o120 ∧ vals = [.i y124] ∧ st = [.live [.sl (List.map V.s y17.Users) true, .osl 1 0 (List.length y17.Keys) 1 false] 0, .live (cellsM V.s y17.Keys) (cellsM V.s y17.Keys).length, .live [.i y125.Seq, .sl (List.map BookRow.v y125.Rows) true] 0]) ∨ (∃ y132 y133, p_law26_SnapWhole_l2  a0 n y132 y133 = some o120 ∧ vals = [.i y132] ∧ st = [.live [.sl (List.map V.s y17.Users) true, .osl 1 0 (List.length y17.Keys) 1 false] 0, .live (cellsM V.s y17.Keys) (cellsM V.s y17.Keys).length, .live [.i y133.Seq, .sl (List.map BookRow.v y133.Rows) false] 0])) fuel 3 [] (.inl (⟨_, _, HL121, rfl, rfl⟩)) (Nat.zero_le _) rfl (by kernel_rfl) (by kernel_rfl) rfl ⟨⟨rfl, rfl, rfl⟩, wkB_live0 rfl (cellsM_idlt (f := V.s) (fun _ => rfl) _) rfl ⟨⟨rfl, rfl, rfl⟩, trivial⟩⟩ ?_
    rintro (_ | n123) _ _ (⟨y124, y125, H, rfl, rfl⟩ | ⟨y132, y133, H, rfl, rfl⟩)
    · rw [p_law26_SnapWhole_l2] at H; cases H
    · rw [p_law26_SnapWhole_l2] at H; cases H
    · rw [p_law26_SnapWhole_l2] at H
      conv => whnf
      refine LenQ.M ?_; conv => whnf
      refine tst_c H (fun b126 H => ?_) (fun b126 H => ?_)
      · conv => whnf
        refine ixs_c (f := Law26Deed.v) H (fun _ => rfl) (fun x127 H => ?_); conv => whnf
        refine ⟨Nat.le_of_ble_eq_true rfl, ?_⟩; conv => whnf
        refine tst_c H (fun b128 H => ?_) (fun b128 H => ?_)
        · conv => whnf
          refine ixs_c (f := Law26Deed.v) H (fun _ => rfl) (fun x129 H => ?_); conv => whnf
          refine ⟨Nat.le_of_ble_eq_true rfl, ?_⟩; conv => whnf
          refine ask_c (p_law26_who_v _) H rfl rfl (fun v130 H => ?_); conv => whnf
          refine ask_c (p_book_Off_v _ _ _) H rfl rfl (fun v131 H => ?_); conv => whnf
          refine ⟨Nat.le_of_ble_eq_true rfl, ?_⟩; conv => whnf
          refine FootQ.mk ⟨rfl, ?_⟩; conv => whnf
          refine Ari.w ?_; conv => whnf
          exact again_c [35, 36, 37, 38, 39, 40, 41, 42, 43, 44, 45, 46, 47, 48, 49, 50, 51, 52, 53, 54, 55, 56, 57, 58, 59, 60, 61, 62, 63, 64, 65, 66, 67, 68, 69, 70, 71, 72, 73, 74, 75, 76] n123 3 [] (.inr (⟨_, _, H, rfl, rfl⟩)) (Nat.lt_succ_self _) (Nat.zero_le _) rfl (by kernel_rfl) (by kernel_rfl) rfl ⟨⟨rfl, rfl, rfl⟩, wkB_live0 rfl (cellsM_idlt (f := V.s) (fun _ => rfl) _) rfl ⟨⟨rfl, rfl, rfl⟩, trivial⟩⟩
        conv => whnf
        refine ixs_c (f := Law26Deed.v) H (fun _ => rfl) (fun x134 H => ?_); conv => whnf
        refine ⟨Nat.le_of_ble_eq_true rfl, ?_⟩; conv => whnf
        refine ask_c (p_law26_who_v _) H rfl rfl (fun v135 H => ?_); conv => whnf
        refine ixs_c (f := Law26Deed.v) H (fun _ => rfl) (fun x136 H => ?_); conv => whnf
        refine ⟨Nat.le_of_ble_eq_true rfl, ?_⟩; conv => whnf
        refine ⟨by decide, ?_⟩; conv => whnf
        refine Ari.w ?_; conv => whnf
        refine ask_c (p_book_Set_v _ _ _ _ _) H rfl rfl (fun v137 H => ?_); conv => whnf
        refine ⟨Nat.le_of_ble_eq_true rfl, ?_⟩; conv => whnf
        refine FootQ.mk ⟨rfl, ?_⟩; conv => whnf
        refine Ari.w ?_; conv => whnf
        exact again_c [35, 36, 37, 38, 39, 40, 41, 42, 43, 44, 45, 46, 47, 48, 49, 50, 51, 52, 53, 54, 55, 56, 57, 58, 59, 60, 61, 62, 63, 64, 65, 66, 67, 68, 69, 70, 71, 72, 73, 74, 75, 76] n123 3 [] (.inr (⟨_, _, H, rfl, rfl⟩)) (Nat.lt_succ_self _) (Nat.zero_le _) rfl (by kernel_rfl) (by kernel_rfl) rfl ⟨⟨rfl, rfl, rfl⟩, wkB_live0 rfl (cellsM_idlt (f := V.s) (fun _ => rfl) _) rfl ⟨⟨rfl, rfl, rfl⟩, trivial⟩⟩
      conv => whnf
      obtain rfl := Option.some.inj H
      have H := HQ122
      try dsimp only at H
      refine askF_c (p_snap_All_v _ _) H (.cons (fzagg (.cons (.slw) (.cons (fzown (f := V.s) (l := y17.Keys) rfl rfl (fun _ => rfl) (fun _ => rfl)) (.nil))) rfl) (.cons (fzagg (.cons (.id rfl) (.cons (.slw) (.nil))) rfl) (.nil))) (fun v138 H => ?_); conv => whnf
      refine askF_c (p_snap_View_v _ _) H (.cons (fzagg (.cons (.slw) (.cons (fzown (f := V.s) (l := y17.Keys) rfl rfl (fun _ => rfl) (fun _ => rfl)) (.nil))) rfl) (.cons (fzagg (.cons (.id rfl) (.cons (.slw) (.nil))) rfl) (.nil))) (fun v139 H => ?_); conv => whnf
      iterate 2 (refine LenQ.M ?_; conv => whnf)
      refine Ari.w ?_; conv => whnf
      refine tst_c H (fun b140 H => ?_) (fun b140 H => ?_)
      · conv => whnf
        iterate 21 (refine Tst.T ?_; conv => whnf)
        exact fin0_c (enc := V.b) H (.inr rfl) (.cons (.tmp rfl) (.nil)) rfl rfl
      conv => whnf
      refine Tst.F ?_; conv => whnf
      refine ixs_c (f := StanzaStanza.v) H (fun _ => rfl) (fun x141 H => ?_); conv => whnf
      refine Tst.F ?_; conv => whnf
      refine ⟨Nat.le_of_ble_eq_true rfl, ?_⟩; conv => whnf
      iterate 3 (refine Tst.F ?_; conv => whnf)
      refine tst_c H (fun b142 H => ?_) (fun b142 H => ?_)
      · conv => whnf
        iterate 15 (refine Tst.T ?_; conv => whnf)
        exact fin0_c (enc := V.b) H (.inr rfl) (.cons (.tmp rfl) (.nil)) rfl rfl
      conv => whnf
      refine Tst.F ?_; conv => whnf
      refine ixs_c (f := StanzaStanza.v) H (fun _ => rfl) (fun x143 H => ?_); conv => whnf
      refine Tst.F ?_; conv => whnf
      refine ⟨Nat.le_of_ble_eq_true rfl, ?_⟩; conv => whnf
      iterate 4 (refine Tst.F ?_; conv => whnf)
      refine tst_c H (fun b144 H => ?_) (fun b144 H => ?_)
      · conv => whnf
        iterate 8 (refine Tst.T ?_; conv => whnf)
        exact fin0_c (enc := V.b) H (.inr rfl) (.cons (.tmp rfl) (.nil)) rfl rfl
      conv => whnf
      iterate 2 (refine Tst.F ?_; conv => whnf)
      refine Ari.w ?_; conv => whnf
      refine Tst.F ?_; conv => whnf
      refine ixs_c (f := StanzaStanza.v) H (fun _ => rfl) (fun x145 H => ?_); conv => whnf
      refine Tst.F ?_; conv => whnf
      refine ⟨Nat.le_of_ble_eq_true rfl, ?_⟩; conv => whnf
      iterate 3 (refine Tst.F ?_; conv => whnf)
      refine tst_c H (fun b146 H => ?_) (fun b146 H => ?_)
      · conv => whnf
        exact fin0_c (enc := V.b) H (.inr rfl) (.cons (.tmp rfl) (.nil)) rfl rfl
      conv => whnf
      obtain ⟨o148, HL149, HQ150⟩ := bind_c H
      refine loop_c [4, 12] [114, 115, 116, 117, 118, 119, 120, 121, 122, 123, 124, 125, 126, 127, 128, 129, 130, 131, 132, 133, 134, 135, 136, 137, 138, 139, 140, 141, 142, 143, 144, 145, 146, 147, 148, 149, 150, 151, 152, 153, 154, 155, 156, 157, 158, 159, 160, 161, 162, 163, 164, 165, 166, 167, 77, 80] [114, 115, 116, 117, 118, 119, 120, 121, 122, 123, 124, 125, 126, 127, 128, 129, 130, 131, 132, 133, 134, 135, 136, 137, 138, 139, 140, 141, 142, 143, 144, 145, 146, 147, 148, 149, 150, 151, 152, 153, 154, 155, 156, 157, 158, 159, 160, 161, 162, 163, 164, 165, 166, 167, 77, 80] (fun n vals st => (∃ y152, p_law26_SnapWhole_l3  v138 v139 (v139.length : Int) y17 n y152 = some o148 ∧ vals = [.b false, .i y152] ∧ st = [.live [.sl (List.map V.s y17.Users) true, .osl 1 0 (List.length y17.Keys) 1 false] 0, .live (cellsM V.s y17.Keys) (cellsM V.s y17.Keys).length, .live [.i y125.Seq, .sl (List.map BookRow.v y125.Rows) true] 0])) fuel 3 [] (⟨_, HL149, rfl, rfl⟩) (Nat.zero_le _) rfl (by kernel_rfl) (by kernel_rfl) rfl ⟨⟨rfl, rfl, rfl⟩, wkB_live0 rfl (cellsM_idlt (f := V.s) (fun _ => rfl) _) rfl ⟨⟨rfl, rfl, rfl⟩, trivial⟩⟩ ?_
      rintro (_ | n151) _ _ (⟨y152, H, rfl, rfl⟩)
      · rw [p_law26_SnapWhole_l3] at H; cases H
      rw [p_law26_SnapWhole_l3] at H
      conv => whnf
      refine tst_d H (fun b153 H => ?_) (fun b153 H => ?_)
      · conv => whnf
        obtain rfl := Option.some.inj H
        have H := HQ150
        try dsimp only at H
        refine askF_c (p_snap_Count_v _ _) H (.cons (fzagg (.cons (.slw) (.cons (fzown (f := V.s) (l := y17.Keys) rfl rfl (fun _ => rfl) (fun _ => rfl)) (.nil))) rfl) (.cons (fzagg (.cons (.id rfl) (.cons (.slw) (.nil))) rfl) (.nil))) (fun v167 H => ?_); conv => whnf
        refine tst_d H (fun b168 H => ?_) (fun b168 H => ?_)
        · conv => whnf
          refine Tst.F ?_; conv => whnf
          exact fin0_c (enc := V.b) H (.inr rfl) (.cons (.tmp rfl) (.nil)) rfl rfl
        conv => whnf
        refine ask_c (p_law26_awake_v) H rfl rfl (fun v169 H => ?_); conv => whnf
        refine Tst.T ?_; conv => whnf
        exact fin0_c (enc := V.b) H (.inr rfl) (.cons (.tmp rfl) (.nil)) rfl rfl
      conv => whnf
      refine Ari.w ?_; conv => whnf
      refine ixs_c (f := StanzaStanza.v) H (fun _ => rfl) (fun x154 H => ?_); conv => whnf
      refine ixs_c (f := BookRow.v) H (fun _ => rfl) (fun x155 H => ?_); conv => whnf
      refine ⟨Nat.le_of_ble_eq_true rfl, ?_⟩; conv => whnf
      refine ixs_c (f := BookRow.v) H (fun _ => rfl) (fun x156 H => ?_); conv => whnf
      refine ⟨Nat.le_of_ble_eq_true rfl, ?_⟩; conv => whnf
      refine ixs_c (f := BookRow.v) H (fun _ => rfl) (fun x157 H => ?_); conv => whnf
      refine ⟨Nat.le_of_ble_eq_true rfl, ?_⟩; conv => whnf
      refine ask_c (p_pres_Say_v _ _ _) H rfl rfl (fun v158 H => ?_); conv => whnf
      refine Tst.not ?_
      refine tst_d H (fun b159 H => ?_) (fun b159 H => ?_)
      · conv => whnf
        iterate 12 (refine Tst.T ?_; conv => whnf)
        refine FootQ.mk ⟨rfl, ?_⟩; conv => whnf
        refine Tst.T ?_; conv => whnf
        obtain rfl := Option.some.inj H
        have H := HQ150
        try dsimp only at H
        exact fin0_c (enc := V.b) H (.inr rfl) (.cons (.tmp rfl) (.nil)) rfl rfl
      conv => whnf
      iterate 3 (refine Tst.F ?_; conv => whnf)
      refine ixs_c (f := BookRow.v) H (fun _ => rfl) (fun x160 H => ?_); conv => whnf
      iterate 2 (refine Tst.F ?_; conv => whnf)
      refine askF_c (p_snap_Sees_v _ _) H (.cons (fzagg (.cons (.slw) (.cons (fzown (f := V.s) (l := y17.Keys) rfl rfl (fun _ => rfl) (fun _ => rfl)) (.nil))) rfl) (.cons (fzagg (.cons (.id rfl) (.cons (.id rfl) (.cons (.id rfl) (.cons (.id rfl) (.cons (.id rfl) (.cons (.id rfl) (.nil))))))) rfl) (.nil))) (fun v161 H => ?_); conv => whnf
      iterate 2 (refine Tst.F ?_; conv => whnf)
      refine Tst.not ?_
      refine tst_d H (fun b162 H => ?_) (fun b162 H => ?_)
      · conv => whnf
        iterate 4 (refine Tst.T ?_; conv => whnf)
        refine FootQ.mk ⟨rfl, ?_⟩; conv => whnf
        refine Tst.T ?_; conv => whnf
        obtain rfl := Option.some.inj H
        have H := HQ150
        try dsimp only at H
        exact fin0_c (enc := V.b) H (.inr rfl) (.cons (.tmp rfl) (.nil)) rfl rfl
      conv => whnf
      iterate 2 (refine Tst.F ?_; conv => whnf)
      refine tst_d H (fun b163 H => ?_) (fun b163 H => ?_)
      · conv => whnf
        iterate 14 (refine Tst.F ?_; conv => whnf)
        refine FootQ.mk ⟨rfl, ?_⟩; conv => whnf
        refine Tst.F ?_; conv => whnf
        refine Ari.w ?_; conv => whnf
        exact again_c [114, 115, 116, 117, 118, 119, 120, 121, 122, 123, 124, 125, 126, 127, 128, 129, 130, 131, 132, 133, 134, 135, 136, 137, 138, 139, 140, 141, 142, 143, 144, 145, 146, 147, 148, 149, 150, 151, 152, 153, 154, 155, 156, 157, 158, 159, 160, 161, 162, 163, 164, 165, 166, 167, 77, 80] n151 3 [] (⟨_, H, rfl, rfl⟩) (Nat.lt_succ_self _) (Nat.zero_le _) rfl (by kernel_rfl) (by kernel_rfl) rfl ⟨⟨rfl, rfl, rfl⟩, wkB_live0 rfl (cellsM_idlt (f := V.s) (fun _ => rfl) _) rfl ⟨⟨rfl, rfl, rfl⟩, trivial⟩⟩
      conv => whnf
      iterate 2 (refine Tst.T ?_; conv => whnf)
      refine ixs_c (f := StanzaStanza.v) H (fun _ => rfl) (fun x164 H => ?_); conv => whnf
      refine Tst.T ?_; conv => whnf
      refine ⟨Nat.le_of_ble_eq_true rfl, ?_⟩; conv => whnf
      iterate 4 (refine Tst.T ?_; conv => whnf)
      refine Ari.w ?_; conv => whnf
      refine Tst.T ?_; conv => whnf
      refine ixs_c (f := StanzaStanza.v) H (fun _ => rfl) (fun x165 H => ?_); conv => whnf
      refine Tst.T ?_; conv => whnf
      refine ⟨Nat.le_of_ble_eq_true rfl, ?_⟩; conv => whnf
      iterate 2 (refine Tst.T ?_; conv => whnf)
      refine Tst.F ?_; conv => whnf
      refine Tst.T ?_; conv => whnf
      refine Tst.F ?_; conv => whnf
      refine FootQ.mk ⟨rfl, ?_⟩; conv => whnf
      refine Tst.not ?_
      refine tst_d H (fun b166 H => ?_) (fun b166 H => ?_)
      · conv => whnf
        obtain rfl := Option.some.inj H
        have H := HQ150
        try dsimp only at H
        exact fin0_c (enc := V.b) H (.inr rfl) (.cons (.tmp rfl) (.nil)) rfl rfl
      conv => whnf
      refine Ari.w ?_; conv => whnf
      exact again_c [114, 115, 116, 117, 118, 119, 120, 121, 122, 123, 124, 125, 126, 127, 128, 129, 130, 131, 132, 133, 134, 135, 136, 137, 138, 139, 140, 141, 142, 143, 144, 145, 146, 147, 148, 149, 150, 151, 152, 153, 154, 155, 156, 157, 158, 159, 160, 161, 162, 163, 164, 165, 166, 167, 77, 80] n151 3 [] (⟨_, H, rfl, rfl⟩) (Nat.lt_succ_self _) (Nat.zero_le _) rfl (by kernel_rfl) (by kernel_rfl) rfl ⟨⟨rfl, rfl, rfl⟩, wkB_live0 rfl (cellsM_idlt (f := V.s) (fun _ => rfl) _) rfl ⟨⟨rfl, rfl, rfl⟩, trivial⟩⟩
    rw [p_law26_SnapWhole_l2] at H
    conv => whnf
    refine LenQ.M ?_; conv => whnf
    refine tst_c H (fun b170 H => ?_) (fun b170 H => ?_)
    · conv => whnf
      refine ixs_c (f := Law26Deed.v) H (fun _ => rfl) (fun x171 H => ?_); conv => whnf
      refine ⟨Nat.le_of_ble_eq_true rfl, ?_⟩; conv => whnf
      refine tst_c H (fun b172 H => ?_) (fun b172 H => ?_)
      · conv => whnf
        refine ixs_c (f := Law26Deed.v) H (fun _ => rfl) (fun x173 H => ?_); conv => whnf
        refine ⟨Nat.le_of_ble_eq_true rfl, ?_⟩; conv => whnf
        refine ask_c (p_law26_who_v _) H rfl rfl (fun v174 H => ?_); conv => whnf
        refine ask_c (p_book_Off_v _ _ _) H rfl rfl (fun v175 H => ?_); conv => whnf
        refine ⟨Nat.le_of_ble_eq_true rfl, ?_⟩; conv => whnf
        refine FootQ.mk ⟨rfl, ?_⟩; conv => whnf
        refine Ari.w ?_; conv => whnf
        exact again_c [35, 36, 37, 38, 39, 40, 41, 42, 43, 44, 45, 46, 47, 48, 49, 50, 51, 52, 53, 54, 55, 56, 57, 58, 59, 60, 61, 62, 63, 64, 65, 66, 67, 68, 69, 70, 71, 72, 73, 74, 75, 76] n123 3 [] (.inr (⟨_, _, H, rfl, rfl⟩)) (Nat.lt_succ_self _) (Nat.zero_le _) rfl (by kernel_rfl) (by kernel_rfl) rfl ⟨⟨rfl, rfl, rfl⟩, wkB_live0 rfl (cellsM_idlt (f := V.s) (fun _ => rfl) _) rfl ⟨⟨rfl, rfl, rfl⟩, trivial⟩⟩
      conv => whnf
      refine ixs_c (f := Law26Deed.v) H (fun _ => rfl) (fun x176 H => ?_); conv => whnf
      refine ⟨Nat.le_of_ble_eq_true rfl, ?_⟩; conv => whnf
      refine ask_c (p_law26_who_v _) H rfl rfl (fun v177 H => ?_); conv => whnf
      refine ixs_c (f := Law26Deed.v) H (fun _ => rfl) (fun x178 H => ?_); conv => whnf
      refine ⟨Nat.le_of_ble_eq_true rfl, ?_⟩; conv => whnf
      refine ⟨by decide, ?_⟩; conv => whnf
      refine Ari.w ?_; conv => whnf
      refine ask_c (p_book_Set_v _ _ _ _ _) H rfl rfl (fun v179 H => ?_); conv => whnf
      refine ⟨Nat.le_of_ble_eq_true rfl, ?_⟩; conv => whnf
      refine FootQ.mk ⟨rfl, ?_⟩; conv => whnf
      refine Ari.w ?_; conv => whnf
      exact again_c [35, 36, 37, 38, 39, 40, 41, 42, 43, 44, 45, 46, 47, 48, 49, 50, 51, 52, 53, 54, 55, 56, 57, 58, 59, 60, 61, 62, 63, 64, 65, 66, 67, 68, 69, 70, 71, 72, 73, 74, 75, 76] n123 3 [] (.inr (⟨_, _, H, rfl, rfl⟩)) (Nat.lt_succ_self _) (Nat.zero_le _) rfl (by kernel_rfl) (by kernel_rfl) rfl ⟨⟨rfl, rfl, rfl⟩, wkB_live0 rfl (cellsM_idlt (f := V.s) (fun _ => rfl) _) rfl ⟨⟨rfl, rfl, rfl⟩, trivial⟩⟩
    conv => whnf
    obtain rfl := Option.some.inj H
    have H := HQ122
    try dsimp only at H
    refine askF_c (p_snap_All_v _ _) H (.cons (fzagg (.cons (.slw) (.cons (fzown (f := V.s) (l := y17.Keys) rfl rfl (fun _ => rfl) (fun _ => rfl)) (.nil))) rfl) (.cons (fzagg (.cons (.id rfl) (.cons (.id rfl) (.nil))) rfl) (.nil))) (fun v180 H => ?_); conv => whnf
    refine askF_c (p_snap_View_v _ _) H (.cons (fzagg (.cons (.slw) (.cons (fzown (f := V.s) (l := y17.Keys) rfl rfl (fun _ => rfl) (fun _ => rfl)) (.nil))) rfl) (.cons (fzagg (.cons (.id rfl) (.cons (.id rfl) (.nil))) rfl) (.nil))) (fun v181 H => ?_); conv => whnf
    iterate 2 (refine LenQ.M ?_; conv => whnf)
    refine Ari.w ?_; conv => whnf
    refine tst_c H (fun b182 H => ?_) (fun b182 H => ?_)
    · conv => whnf
      iterate 21 (refine Tst.T ?_; conv => whnf)
      exact fin0_c (enc := V.b) H (.inr rfl) (.cons (.tmp rfl) (.nil)) rfl rfl
    conv => whnf
    refine Tst.F ?_; conv => whnf
    refine ixs_c (f := StanzaStanza.v) H (fun _ => rfl) (fun x183 H => ?_); conv => whnf
    refine Tst.F ?_; conv => whnf
    refine ⟨Nat.le_of_ble_eq_true rfl, ?_⟩; conv => whnf
    iterate 3 (refine Tst.F ?_; conv => whnf)
    refine tst_c H (fun b184 H => ?_) (fun b184 H => ?_)
    · conv => whnf
      iterate 15 (refine Tst.T ?_; conv => whnf)
      exact fin0_c (enc := V.b) H (.inr rfl) (.cons (.tmp rfl) (.nil)) rfl rfl
    conv => whnf
    refine Tst.F ?_; conv => whnf
    refine ixs_c (f := StanzaStanza.v) H (fun _ => rfl) (fun x185 H => ?_); conv => whnf
    refine Tst.F ?_; conv => whnf
    refine ⟨Nat.le_of_ble_eq_true rfl, ?_⟩; conv => whnf
    iterate 4 (refine Tst.F ?_; conv => whnf)
    refine tst_c H (fun b186 H => ?_) (fun b186 H => ?_)
    · conv => whnf
      iterate 8 (refine Tst.T ?_; conv => whnf)
      exact fin0_c (enc := V.b) H (.inr rfl) (.cons (.tmp rfl) (.nil)) rfl rfl
    conv => whnf
    iterate 2 (refine Tst.F ?_; conv => whnf)
    refine Ari.w ?_; conv => whnf
    refine Tst.F ?_; conv => whnf
    refine ixs_c (f := StanzaStanza.v) H (fun _ => rfl) (fun x187 H => ?_); conv => whnf
    refine Tst.F ?_; conv => whnf
    refine ⟨Nat.le_of_ble_eq_true rfl, ?_⟩; conv => whnf
    iterate 3 (refine Tst.F ?_; conv => whnf)
    refine tst_c H (fun b188 H => ?_) (fun b188 H => ?_)
    · conv => whnf
      exact fin0_c (enc := V.b) H (.inr rfl) (.cons (.tmp rfl) (.nil)) rfl rfl
    conv => whnf
    obtain ⟨o190, HL191, HQ192⟩ := bind_c H
    refine loop_c [4, 12] [114, 115, 116, 117, 118, 119, 120, 121, 122, 123, 124, 125, 126, 127, 128, 129, 130, 131, 132, 133, 134, 135, 136, 137, 138, 139, 140, 141, 142, 143, 144, 145, 146, 147, 148, 149, 150, 151, 152, 153, 154, 155, 156, 157, 158, 159, 160, 161, 162, 163, 164, 165, 166, 167, 77, 80] [114, 115, 116, 117, 118, 119, 120, 121, 122, 123, 124, 125, 126, 127, 128, 129, 130, 131, 132, 133, 134, 135, 136, 137, 138, 139, 140, 141, 142, 143, 144, 145, 146, 147, 148, 149, 150, 151, 152, 153, 154, 155, 156, 157, 158, 159, 160, 161, 162, 163, 164, 165, 166, 167, 77, 80] (fun n vals st => (∃ y194, p_law26_SnapWhole_l3  v180 v181 (v181.length : Int) y17 n y194 = some o190 ∧ vals = [.b false, .i y194] ∧ st = [.live [.sl (List.map V.s y17.Users) true, .osl 1 0 (List.length y17.Keys) 1 false] 0, .live (cellsM V.s y17.Keys) (cellsM V.s y17.Keys).length, .live [.i y133.Seq, .sl (List.map BookRow.v y133.Rows) false] 0])) fuel 3 [] (⟨_, HL191, rfl, rfl⟩) (Nat.zero_le _) rfl (by kernel_rfl) (by kernel_rfl) rfl ⟨⟨rfl, rfl, rfl⟩, wkB_live0 rfl (cellsM_idlt (f := V.s) (fun _ => rfl) _) rfl ⟨⟨rfl, rfl, rfl⟩, trivial⟩⟩ ?_
    rintro (_ | n193) _ _ (⟨y194, H, rfl, rfl⟩)
    · rw [p_law26_SnapWhole_l3] at H; cases H
    rw [p_law26_SnapWhole_l3] at H
    conv => whnf
    refine tst_d H (fun b195 H => ?_) (fun b195 H => ?_)
    · conv => whnf
      obtain rfl := Option.some.inj H
      have H := HQ192
      try dsimp only at H
      refine askF_c (p_snap_Count_v _ _) H (.cons (fzagg (.cons (.slw) (.cons (fzown (f := V.s) (l := y17.Keys) rfl rfl (fun _ => rfl) (fun _ => rfl)) (.nil))) rfl) (.cons (fzagg (.cons (.id rfl) (.cons (.id rfl) (.nil))) rfl) (.nil))) (fun v209 H => ?_); conv => whnf
      refine tst_d H (fun b210 H => ?_) (fun b210 H => ?_)
      · conv => whnf
        refine Tst.F ?_; conv => whnf
        exact fin0_c (enc := V.b) H (.inr rfl) (.cons (.tmp rfl) (.nil)) rfl rfl
      conv => whnf
      refine ask_c (p_law26_awake_v) H rfl rfl (fun v211 H => ?_); conv => whnf
      refine Tst.T ?_; conv => whnf
      exact fin0_c (enc := V.b) H (.inr rfl) (.cons (.tmp rfl) (.nil)) rfl rfl
    conv => whnf
    refine Ari.w ?_; conv => whnf
    refine ixs_c (f := StanzaStanza.v) H (fun _ => rfl) (fun x196 H => ?_); conv => whnf
    refine ixs_c (f := BookRow.v) H (fun _ => rfl) (fun x197 H => ?_); conv => whnf
    refine ⟨Nat.le_of_ble_eq_true rfl, ?_⟩; conv => whnf
    refine ixs_c (f := BookRow.v) H (fun _ => rfl) (fun x198 H => ?_); conv => whnf
    refine ⟨Nat.le_of_ble_eq_true rfl, ?_⟩; conv => whnf
    refine ixs_c (f := BookRow.v) H (fun _ => rfl) (fun x199 H => ?_); conv => whnf
    refine ⟨Nat.le_of_ble_eq_true rfl, ?_⟩; conv => whnf
    refine ask_c (p_pres_Say_v _ _ _) H rfl rfl (fun v200 H => ?_); conv => whnf
    refine Tst.not ?_
    refine tst_d H (fun b201 H => ?_) (fun b201 H => ?_)
    · conv => whnf
      iterate 12 (refine Tst.T ?_; conv => whnf)
      refine FootQ.mk ⟨rfl, ?_⟩; conv => whnf
      refine Tst.T ?_; conv => whnf
      obtain rfl := Option.some.inj H
      have H := HQ192
      try dsimp only at H
      exact fin0_c (enc := V.b) H (.inr rfl) (.cons (.tmp rfl) (.nil)) rfl rfl
    conv => whnf
    iterate 3 (refine Tst.F ?_; conv => whnf)
    refine ixs_c (f := BookRow.v) H (fun _ => rfl) (fun x202 H => ?_); conv => whnf
    iterate 2 (refine Tst.F ?_; conv => whnf)
    refine askF_c (p_snap_Sees_v _ _) H (.cons (fzagg (.cons (.slw) (.cons (fzown (f := V.s) (l := y17.Keys) rfl rfl (fun _ => rfl) (fun _ => rfl)) (.nil))) rfl) (.cons (fzagg (.cons (.id rfl) (.cons (.id rfl) (.cons (.id rfl) (.cons (.id rfl) (.cons (.id rfl) (.cons (.id rfl) (.nil))))))) rfl) (.nil))) (fun v203 H => ?_); conv => whnf
    iterate 2 (refine Tst.F ?_; conv => whnf)
    refine Tst.not ?_
    refine tst_d H (fun b204 H => ?_) (fun b204 H => ?_)
    · conv => whnf
      iterate 4 (refine Tst.T ?_; conv => whnf)
      refine FootQ.mk ⟨rfl, ?_⟩; conv => whnf
      refine Tst.T ?_; conv => whnf
      obtain rfl := Option.some.inj H
      have H := HQ192
      try dsimp only at H
      exact fin0_c (enc := V.b) H (.inr rfl) (.cons (.tmp rfl) (.nil)) rfl rfl
    conv => whnf
    iterate 2 (refine Tst.F ?_; conv => whnf)
    refine tst_d H (fun b205 H => ?_) (fun b205 H => ?_)
    · conv => whnf
      iterate 14 (refine Tst.F ?_; conv => whnf)
      refine FootQ.mk ⟨rfl, ?_⟩; conv => whnf
      refine Tst.F ?_; conv => whnf
      refine Ari.w ?_; conv => whnf
      exact again_c [114, 115, 116, 117, 118, 119, 120, 121, 122, 123, 124, 125, 126, 127, 128, 129, 130, 131, 132, 133, 134, 135, 136, 137, 138, 139, 140, 141, 142, 143, 144, 145, 146, 147, 148, 149, 150, 151, 152, 153, 154, 155, 156, 157, 158, 159, 160, 161, 162, 163, 164, 165, 166, 167, 77, 80] n193 3 [] (⟨_, H, rfl, rfl⟩) (Nat.lt_succ_self _) (Nat.zero_le _) rfl (by kernel_rfl) (by kernel_rfl) rfl ⟨⟨rfl, rfl, rfl⟩, wkB_live0 rfl (cellsM_idlt (f := V.s) (fun _ => rfl) _) rfl ⟨⟨rfl, rfl, rfl⟩, trivial⟩⟩
    conv => whnf
    iterate 2 (refine Tst.T ?_; conv => whnf)
    refine ixs_c (f := StanzaStanza.v) H (fun _ => rfl) (fun x206 H => ?_); conv => whnf
    refine Tst.T ?_; conv => whnf
    refine ⟨Nat.le_of_ble_eq_true rfl, ?_⟩; conv => whnf
    iterate 4 (refine Tst.T ?_; conv => whnf)
    refine Ari.w ?_; conv => whnf
    refine Tst.T ?_; conv => whnf
    refine ixs_c (f := StanzaStanza.v) H (fun _ => rfl) (fun x207 H => ?_); conv => whnf
    refine Tst.T ?_; conv => whnf
    refine ⟨Nat.le_of_ble_eq_true rfl, ?_⟩; conv => whnf
    iterate 2 (refine Tst.T ?_; conv => whnf)
    refine Tst.F ?_; conv => whnf
    refine Tst.T ?_; conv => whnf
    refine Tst.F ?_; conv => whnf
    refine FootQ.mk ⟨rfl, ?_⟩; conv => whnf
    refine Tst.not ?_
    refine tst_d H (fun b208 H => ?_) (fun b208 H => ?_)
    · conv => whnf
      obtain rfl := Option.some.inj H
      have H := HQ192
      try dsimp only at H
      exact fin0_c (enc := V.b) H (.inr rfl) (.cons (.tmp rfl) (.nil)) rfl rfl
    conv => whnf
    refine Ari.w ?_; conv => whnf
    exact again_c [114, 115, 116, 117, 118, 119, 120, 121, 122, 123, 124, 125, 126, 127, 128, 129, 130, 131, 132, 133, 134, 135, 136, 137, 138, 139, 140, 141, 142, 143, 144, 145, 146, 147, 148, 149, 150, 151, 152, 153, 154, 155, 156, 157, 158, 159, 160, 161, 162, 163, 164, 165, 166, 167, 77, 80] n193 3 [] (⟨_, H, rfl, rfl⟩) (Nat.lt_succ_self _) (Nat.zero_le _) rfl (by kernel_rfl) (by kernel_rfl) rfl ⟨⟨rfl, rfl, rfl⟩, wkB_live0 rfl (cellsM_idlt (f := V.s) (fun _ => rfl) _) rfl ⟨⟨rfl, rfl, rfl⟩, trivial⟩⟩
  rw [p_law26_SnapWhole_l1] at H
  conv => whnf
  refine tst_c H (fun b212 H => ?_) (fun b212 H => ?_)
  · conv => whnf
    refine Shr.ok (pos_c H).1 ((fun H => ?_) (pos_c H).2); conv => whnf
    refine tst_d H (fun b214 H => ?_) (fun b214 H => ?_)
    · conv => whnf
      refine Ari.w ?_; conv => whnf
      exact again_c [17, 18, 19, 20, 21, 22, 23, 24, 25, 26, 27, 28, 29, 30, 31, 32, 33, 34] n7 1 [] (.inr (.inr (⟨_, _, H, rfl, rfl⟩))) (Nat.lt_succ_self _) (Nat.zero_le _) rfl (by kernel_rfl) (by kernel_rfl) rfl ⟨⟨rfl, rfl, rfl⟩, trivial⟩
    conv => whnf
    refine Ari.w ?_; conv => whnf
    refine ask_c (p_law26_who_v _) H rfl rfl (fun v215 H => ?_); conv => whnf
    refine ask_c (p_pres_Key_v _ _) H rfl rfl (fun v216 H => ?_); conv => whnf
    refine appN_c (f := V.s) H (fun _ => rfl) (srcM (f := V.s) (fun _ => rfl) _ _) rfl (.v (srcOwn (f := V.s) (l := [v216]) (fun _ => rfl) rfl rfl rfl)) (by decide) rfl (by simp) (fun l217 H => ?_); conv => whnf
    refine ⟨Nat.le_of_ble_eq_true rfl, ?_⟩; conv => whnf
    refine FootQ.mk ⟨rfl, ?_⟩; conv => whnf
    refine Ari.w ?_; conv => whnf
    exact again_c [17, 18, 19, 20, 21, 22, 23, 24, 25, 26, 27, 28, 29, 30, 31, 32, 33, 34] n7 2 [0, 2] (.inr (.inl (⟨_, _, H, rfl, rfl⟩))) (Nat.lt_succ_self _) (Nat.zero_le _) rfl (by kernel_rfl) (by kernel_rfl) rfl ⟨⟨rfl, rfl, rfl⟩, wkB_live0 rfl (cellsM_idlt (f := V.s) (fun _ => rfl) _) rfl trivial⟩
  conv => whnf
  obtain rfl := Option.some.inj H
  have H := HQ6
  try dsimp only at H
  obtain ⟨o219, HL220, HQ221⟩ := bind_c H
  refine loop_c [8] [35, 36, 37, 38, 39, 40, 41, 42, 43, 44, 45, 46, 47, 48, 49, 50, 51, 52, 53, 54, 55, 56, 57, 58, 59, 60, 61, 62, 63, 64, 65, 66, 67, 68, 69, 70, 71, 72, 73, 74, 75, 76] [35, 36, 37, 38, 39, 40, 41, 42, 43, 44, 45, 46, 47, 48, 49, 50, 51, 52, 53, 54, 55, 56, 57, 58, 59, 60, 61, 62, 63, 64, 65, 66, 67, 68, 69, 70, 71, 72, 73, 74, 75, 76] (fun n vals st => (∃ y223 y224, p_law26_SnapWhole_l2  a0 n y223 y224 = some o219 ∧ vals = [.i y223] ∧ st = [.live [.sl (List.map V.s y19.Users) true, .sl (List.map V.s y19.Keys) true] 0, .live [.i y224.Seq, .sl (List.map BookRow.v y224.Rows) true] 0]) ∨ (∃ y231 y232, p_law26_SnapWhole_l2  a0 n y231 y232 = some o219 ∧ vals = [.i y231] ∧ st = [.live [.sl (List.map V.s y19.Users) true, .sl (List.map V.s y19.Keys) true] 0, .live [.i y232.Seq, .sl (List.map BookRow.v y232.Rows) false] 0])) fuel 2 [] (.inl (⟨_, _, HL220, rfl, rfl⟩)) (Nat.zero_le _) rfl (by kernel_rfl) (by kernel_rfl) rfl ⟨⟨rfl, rfl, rfl⟩, ⟨⟨rfl, rfl, rfl⟩, trivial⟩⟩ ?_
  rintro (_ | n222) _ _ (⟨y223, y224, H, rfl, rfl⟩ | ⟨y231, y232, H, rfl, rfl⟩)
  · rw [p_law26_SnapWhole_l2] at H; cases H
  · rw [p_law26_SnapWhole_l2] at H; cases H
  · rw [p_law26_SnapWhole_l2] at H
    conv => whnf
    refine LenQ.M ?_; conv => whnf
    refine tst_c H (fun b225 H => ?_) (fun b225 H => ?_)
    · conv => whnf
      refine ixs_c (f := Law26Deed.v) H (fun _ => rfl) (fun x226 H => ?_); conv => whnf
      refine ⟨Nat.le_of_ble_eq_true rfl, ?_⟩; conv => whnf
      refine tst_c H (fun b227 H => ?_) (fun b227 H => ?_)
      · conv => whnf
        refine ixs_c (f := Law26Deed.v) H (fun _ => rfl) (fun x228 H => ?_); conv => whnf
        refine ⟨Nat.le_of_ble_eq_true rfl, ?_⟩; conv => whnf
        refine ask_c (p_law26_who_v _) H rfl rfl (fun v229 H => ?_); conv => whnf
        refine ask_c (p_book_Off_v _ _ _) H rfl rfl (fun v230 H => ?_); conv => whnf
        refine ⟨Nat.le_of_ble_eq_true rfl, ?_⟩; conv => whnf
        refine FootQ.mk ⟨rfl, ?_⟩; conv => whnf
        refine Ari.w ?_; conv => whnf
        exact again_c [35, 36, 37, 38, 39, 40, 41, 42, 43, 44, 45, 46, 47, 48, 49, 50, 51, 52, 53, 54, 55, 56, 57, 58, 59, 60, 61, 62, 63, 64, 65, 66, 67, 68, 69, 70, 71, 72, 73, 74, 75, 76] n222 2 [] (.inr (⟨_, _, H, rfl, rfl⟩)) (Nat.lt_succ_self _) (Nat.zero_le _) rfl (by kernel_rfl) (by kernel_rfl) rfl ⟨⟨rfl, rfl, rfl⟩, ⟨⟨rfl, rfl, rfl⟩, trivial⟩⟩
      conv => whnf
      refine ixs_c (f := Law26Deed.v) H (fun _ => rfl) (fun x233 H => ?_); conv => whnf
      refine ⟨Nat.le_of_ble_eq_true rfl, ?_⟩; conv => whnf
      refine ask_c (p_law26_who_v _) H rfl rfl (fun v234 H => ?_); conv => whnf
      refine ixs_c (f := Law26Deed.v) H (fun _ => rfl) (fun x235 H => ?_); conv => whnf
      refine ⟨Nat.le_of_ble_eq_true rfl, ?_⟩; conv => whnf
      refine ⟨by decide, ?_⟩; conv => whnf
      refine Ari.w ?_; conv => whnf
      refine ask_c (p_book_Set_v _ _ _ _ _) H rfl rfl (fun v236 H => ?_); conv => whnf
      refine ⟨Nat.le_of_ble_eq_true rfl, ?_⟩; conv => whnf
      refine FootQ.mk ⟨rfl, ?_⟩; conv => whnf
      refine Ari.w ?_; conv => whnf
      exact again_c [35, 36, 37, 38, 39, 40, 41, 42, 43, 44, 45, 46, 47, 48, 49, 50, 51, 52, 53, 54, 55, 56, 57, 58, 59, 60, 61, 62, 63, 64, 65, 66, 67, 68, 69, 70, 71, 72, 73, 74, 75, 76] n222 2 [] (.inr (⟨_, _, H, rfl, rfl⟩)) (Nat.lt_succ_self _) (Nat.zero_le _) rfl (by kernel_rfl) (by kernel_rfl) rfl ⟨⟨rfl, rfl, rfl⟩, ⟨⟨rfl, rfl, rfl⟩, trivial⟩⟩
    conv => whnf
    obtain rfl := Option.some.inj H
    have H := HQ221
    try dsimp only at H
    refine ask_c (p_snap_All_v _ _) H rfl rfl (fun v237 H => ?_); conv => whnf
    refine ask_c (p_snap_View_v _ _) H rfl rfl (fun v238 H => ?_); conv => whnf
    iterate 2 (refine LenQ.M ?_; conv => whnf)
    refine Ari.w ?_; conv => whnf
    refine tst_c H (fun b239 H => ?_) (fun b239 H => ?_)
    · conv => whnf
      iterate 21 (refine Tst.T ?_; conv => whnf)
      exact fin0_c (enc := V.b) H (.inr rfl) (.cons (.tmp rfl) (.nil)) rfl rfl
    conv => whnf
    refine Tst.F ?_; conv => whnf
    refine ixs_c (f := StanzaStanza.v) H (fun _ => rfl) (fun x240 H => ?_); conv => whnf
    refine Tst.F ?_; conv => whnf
    refine ⟨Nat.le_of_ble_eq_true rfl, ?_⟩; conv => whnf
    iterate 3 (refine Tst.F ?_; conv => whnf)
    refine tst_c H (fun b241 H => ?_) (fun b241 H => ?_)
    · conv => whnf
      iterate 15 (refine Tst.T ?_; conv => whnf)
      exact fin0_c (enc := V.b) H (.inr rfl) (.cons (.tmp rfl) (.nil)) rfl rfl
    conv => whnf
    refine Tst.F ?_; conv => whnf
    refine ixs_c (f := StanzaStanza.v) H (fun _ => rfl) (fun x242 H => ?_); conv => whnf
    refine Tst.F ?_; conv => whnf
    refine ⟨Nat.le_of_ble_eq_true rfl, ?_⟩; conv => whnf
    iterate 4 (refine Tst.F ?_; conv => whnf)
    refine tst_c H (fun b243 H => ?_) (fun b243 H => ?_)
    · conv => whnf
      iterate 8 (refine Tst.T ?_; conv => whnf)
      exact fin0_c (enc := V.b) H (.inr rfl) (.cons (.tmp rfl) (.nil)) rfl rfl
    conv => whnf
    iterate 2 (refine Tst.F ?_; conv => whnf)
    refine Ari.w ?_; conv => whnf
    refine Tst.F ?_; conv => whnf
    refine ixs_c (f := StanzaStanza.v) H (fun _ => rfl) (fun x244 H => ?_); conv => whnf
    refine Tst.F ?_; conv => whnf
    refine ⟨Nat.le_of_ble_eq_true rfl, ?_⟩; conv => whnf
    iterate 3 (refine Tst.F ?_; conv => whnf)
    refine tst_c H (fun b245 H => ?_) (fun b245 H => ?_)
    · conv => whnf
      exact fin0_c (enc := V.b) H (.inr rfl) (.cons (.tmp rfl) (.nil)) rfl rfl
    conv => whnf
    obtain ⟨o247, HL248, HQ249⟩ := bind_c H
    refine loop_c [4, 12] [114, 115, 116, 117, 118, 119, 120, 121, 122, 123, 124, 125, 126, 127, 128, 129, 130, 131, 132, 133, 134, 135, 136, 137, 138, 139, 140, 141, 142, 143, 144, 145, 146, 147, 148, 149, 150, 151, 152, 153, 154, 155, 156, 157, 158, 159, 160, 161, 162, 163, 164, 165, 166, 167] [114, 115, 116, 117, 118, 119, 120, 121, 122, 123, 124, 125, 126, 127, 128, 129, 130, 131, 132, 133, 134, 135, 136, 137, 138, 139, 140, 141, 142, 143, 144, 145, 146, 147, 148, 149, 150, 151, 152, 153, 154, 155, 156, 157, 158, 159, 160, 161, 162, 163, 164, 165, 166, 167] (fun n vals st => (∃ y251, p_law26_SnapWhole_l3  v237 v238 (v238.length : Int) y19 n y251 = some o247 ∧ vals = [.b false, .i y251] ∧ st = [.live [.sl (List.map V.s y19.Users) true, .sl (List.map V.s y19.Keys) true] 0, .live [.i y224.Seq, .sl (List.map BookRow.v y224.Rows) true] 0])) fuel 2 [] (⟨_, HL248, rfl, rfl⟩) (Nat.zero_le _) rfl (by kernel_rfl) (by kernel_rfl) rfl ⟨⟨rfl, rfl, rfl⟩, ⟨⟨rfl, rfl, rfl⟩, trivial⟩⟩ ?_
    rintro (_ | n250) _ _ (⟨y251, H, rfl, rfl⟩)
    · rw [p_law26_SnapWhole_l3] at H; cases H
    rw [p_law26_SnapWhole_l3] at H
    conv => whnf
    refine tst_d H (fun b252 H => ?_) (fun b252 H => ?_)
    · conv => whnf
      obtain rfl := Option.some.inj H
      have H := HQ249
      try dsimp only at H
      refine ask_c (p_snap_Count_v _ _) H rfl rfl (fun v266 H => ?_); conv => whnf
      refine tst_d H (fun b267 H => ?_) (fun b267 H => ?_)
      · conv => whnf
        refine Tst.F ?_; conv => whnf
        exact fin0_c (enc := V.b) H (.inr rfl) (.cons (.tmp rfl) (.nil)) rfl rfl
      conv => whnf
      refine ask_c (p_law26_awake_v) H rfl rfl (fun v268 H => ?_); conv => whnf
      refine Tst.T ?_; conv => whnf
      exact fin0_c (enc := V.b) H (.inr rfl) (.cons (.tmp rfl) (.nil)) rfl rfl
    conv => whnf
    refine Ari.w ?_; conv => whnf
    refine ixs_c (f := StanzaStanza.v) H (fun _ => rfl) (fun x253 H => ?_); conv => whnf
    refine ixs_c (f := BookRow.v) H (fun _ => rfl) (fun x254 H => ?_); conv => whnf
    refine ⟨Nat.le_of_ble_eq_true rfl, ?_⟩; conv => whnf
    refine ixs_c (f := BookRow.v) H (fun _ => rfl) (fun x255 H => ?_); conv => whnf
    refine ⟨Nat.le_of_ble_eq_true rfl, ?_⟩; conv => whnf
    refine ixs_c (f := BookRow.v) H (fun _ => rfl) (fun x256 H => ?_); conv => whnf
    refine ⟨Nat.le_of_ble_eq_true rfl, ?_⟩; conv => whnf
    refine ask_c (p_pres_Say_v _ _ _) H rfl rfl (fun v257 H => ?_); conv => whnf
    refine Tst.not ?_
    refine tst_d H (fun b258 H => ?_) (fun b258 H => ?_)
    · conv => whnf
      iterate 12 (refine Tst.T ?_; conv => whnf)
      refine FootQ.mk ⟨rfl, ?_⟩; conv => whnf
      refine Tst.T ?_; conv => whnf
      obtain rfl := Option.some.inj H
      have H := HQ249
      try dsimp only at H
      exact fin0_c (enc := V.b) H (.inr rfl) (.cons (.tmp rfl) (.nil)) rfl rfl
    conv => whnf
    iterate 3 (refine Tst.F ?_; conv => whnf)
    refine ixs_c (f := BookRow.v) H (fun _ => rfl) (fun x259 H => ?_); conv => whnf
    iterate 2 (refine Tst.F ?_; conv => whnf)
    refine ask_c (p_snap_Sees_v _ _) H rfl rfl (fun v260 H => ?_); conv => whnf
    iterate 2 (refine Tst.F ?_; conv => whnf)
    refine Tst.not ?_
    refine tst_d H (fun b261 H => ?_) (fun b261 H => ?_)
    · conv => whnf
      iterate 4 (refine Tst.T ?_; conv => whnf)
      refine FootQ.mk ⟨rfl, ?_⟩; conv => whnf
      refine Tst.T ?_; conv => whnf
      obtain rfl := Option.some.inj H
      have H := HQ249
      try dsimp only at H
      exact fin0_c (enc := V.b) H (.inr rfl) (.cons (.tmp rfl) (.nil)) rfl rfl
    conv => whnf
    iterate 2 (refine Tst.F ?_; conv => whnf)
    refine tst_d H (fun b262 H => ?_) (fun b262 H => ?_)
    · conv => whnf
      iterate 14 (refine Tst.F ?_; conv => whnf)
      refine FootQ.mk ⟨rfl, ?_⟩; conv => whnf
      refine Tst.F ?_; conv => whnf
      refine Ari.w ?_; conv => whnf
      exact again_c [114, 115, 116, 117, 118, 119, 120, 121, 122, 123, 124, 125, 126, 127, 128, 129, 130, 131, 132, 133, 134, 135, 136, 137, 138, 139, 140, 141, 142, 143, 144, 145, 146, 147, 148, 149, 150, 151, 152, 153, 154, 155, 156, 157, 158, 159, 160, 161, 162, 163, 164, 165, 166, 167] n250 2 [] (⟨_, H, rfl, rfl⟩) (Nat.lt_succ_self _) (Nat.zero_le _) rfl (by kernel_rfl) (by kernel_rfl) rfl ⟨⟨rfl, rfl, rfl⟩, ⟨⟨rfl, rfl, rfl⟩, trivial⟩⟩
    conv => whnf
    iterate 2 (refine Tst.T ?_; conv => whnf)
    refine ixs_c (f := StanzaStanza.v) H (fun _ => rfl) (fun x263 H => ?_); conv => whnf
    refine Tst.T ?_; conv => whnf
    refine ⟨Nat.le_of_ble_eq_true rfl, ?_⟩; conv => whnf
    iterate 4 (refine Tst.T ?_; conv => whnf)
    refine Ari.w ?_; conv => whnf
    refine Tst.T ?_; conv => whnf
    refine ixs_c (f := StanzaStanza.v) H (fun _ => rfl) (fun x264 H => ?_); conv => whnf
    refine Tst.T ?_; conv => whnf
    refine ⟨Nat.le_of_ble_eq_true rfl, ?_⟩; conv => whnf
    iterate 2 (refine Tst.T ?_; conv => whnf)
    refine Tst.F ?_; conv => whnf
    refine Tst.T ?_; conv => whnf
    refine Tst.F ?_; conv => whnf
    refine FootQ.mk ⟨rfl, ?_⟩; conv => whnf
    refine Tst.not ?_
    refine tst_d H (fun b265 H => ?_) (fun b265 H => ?_)
    · conv => whnf
      obtain rfl := Option.some.inj H
      have H := HQ249
      try dsimp only at H
      exact fin0_c (enc := V.b) H (.inr rfl) (.cons (.tmp rfl) (.nil)) rfl rfl
    conv => whnf
    refine Ari.w ?_; conv => whnf
    exact again_c [114, 115, 116, 117, 118, 119, 120, 121, 122, 123, 124, 125, 126, 127, 128, 129, 130, 131, 132, 133, 134, 135, 136, 137, 138, 139, 140, 141, 142, 143, 144, 145, 146, 147, 148, 149, 150, 151, 152, 153, 154, 155, 156, 157, 158, 159, 160, 161, 162, 163, 164, 165, 166, 167] n250 2 [] (⟨_, H, rfl, rfl⟩) (Nat.lt_succ_self _) (Nat.zero_le _) rfl (by kernel_rfl) (by kernel_rfl) rfl ⟨⟨rfl, rfl, rfl⟩, ⟨⟨rfl, rfl, rfl⟩, trivial⟩⟩
  rw [p_law26_SnapWhole_l2] at H
  conv => whnf
  refine LenQ.M ?_; conv => whnf
  refine tst_c H (fun b269 H => ?_) (fun b269 H => ?_)
  · conv => whnf
    refine ixs_c (f := Law26Deed.v) H (fun _ => rfl) (fun x270 H => ?_); conv => whnf
    refine ⟨Nat.le_of_ble_eq_true rfl, ?_⟩; conv => whnf
    refine tst_c H (fun b271 H => ?_) (fun b271 H => ?_)
    · conv => whnf
      refine ixs_c (f := Law26Deed.v) H (fun _ => rfl) (fun x272 H => ?_); conv => whnf
      refine ⟨Nat.le_of_ble_eq_true rfl, ?_⟩; conv => whnf
      refine ask_c (p_law26_who_v _) H rfl rfl (fun v273 H => ?_); conv => whnf
      refine ask_c (p_book_Off_v _ _ _) H rfl rfl (fun v274 H => ?_); conv => whnf
      refine ⟨Nat.le_of_ble_eq_true rfl, ?_⟩; conv => whnf
      refine FootQ.mk ⟨rfl, ?_⟩; conv => whnf
      refine Ari.w ?_; conv => whnf
      exact again_c [35, 36, 37, 38, 39, 40, 41, 42, 43, 44, 45, 46, 47, 48, 49, 50, 51, 52, 53, 54, 55, 56, 57, 58, 59, 60, 61, 62, 63, 64, 65, 66, 67, 68, 69, 70, 71, 72, 73, 74, 75, 76] n222 2 [] (.inr (⟨_, _, H, rfl, rfl⟩)) (Nat.lt_succ_self _) (Nat.zero_le _) rfl (by kernel_rfl) (by kernel_rfl) rfl ⟨⟨rfl, rfl, rfl⟩, ⟨⟨rfl, rfl, rfl⟩, trivial⟩⟩
    conv => whnf
    refine ixs_c (f := Law26Deed.v) H (fun _ => rfl) (fun x275 H => ?_); conv => whnf
    refine ⟨Nat.le_of_ble_eq_true rfl, ?_⟩; conv => whnf
    refine ask_c (p_law26_who_v _) H rfl rfl (fun v276 H => ?_); conv => whnf
    refine ixs_c (f := Law26Deed.v) H (fun _ => rfl) (fun x277 H => ?_); conv => whnf
    refine ⟨Nat.le_of_ble_eq_true rfl, ?_⟩; conv => whnf
    refine ⟨by decide, ?_⟩; conv => whnf
    refine Ari.w ?_; conv => whnf
    refine ask_c (p_book_Set_v _ _ _ _ _) H rfl rfl (fun v278 H => ?_); conv => whnf
    refine ⟨Nat.le_of_ble_eq_true rfl, ?_⟩; conv => whnf
    refine FootQ.mk ⟨rfl, ?_⟩; conv => whnf
    refine Ari.w ?_; conv => whnf
    exact again_c [35, 36, 37, 38, 39, 40, 41, 42, 43, 44, 45, 46, 47, 48, 49, 50, 51, 52, 53, 54, 55, 56, 57, 58, 59, 60, 61, 62, 63, 64, 65, 66, 67, 68, 69, 70, 71, 72, 73, 74, 75, 76] n222 2 [] (.inr (⟨_, _, H, rfl, rfl⟩)) (Nat.lt_succ_self _) (Nat.zero_le _) rfl (by kernel_rfl) (by kernel_rfl) rfl ⟨⟨rfl, rfl, rfl⟩, ⟨⟨rfl, rfl, rfl⟩, trivial⟩⟩
  conv => whnf
  obtain rfl := Option.some.inj H
  have H := HQ221
  try dsimp only at H
  refine ask_c (p_snap_All_v _ _) H rfl rfl (fun v279 H => ?_); conv => whnf
  refine ask_c (p_snap_View_v _ _) H rfl rfl (fun v280 H => ?_); conv => whnf
  iterate 2 (refine LenQ.M ?_; conv => whnf)
  refine Ari.w ?_; conv => whnf
  refine tst_c H (fun b281 H => ?_) (fun b281 H => ?_)
  · conv => whnf
    iterate 21 (refine Tst.T ?_; conv => whnf)
    exact fin0_c (enc := V.b) H (.inr rfl) (.cons (.tmp rfl) (.nil)) rfl rfl
  conv => whnf
  refine Tst.F ?_; conv => whnf
  refine ixs_c (f := StanzaStanza.v) H (fun _ => rfl) (fun x282 H => ?_); conv => whnf
  refine Tst.F ?_; conv => whnf
  refine ⟨Nat.le_of_ble_eq_true rfl, ?_⟩; conv => whnf
  iterate 3 (refine Tst.F ?_; conv => whnf)
  refine tst_c H (fun b283 H => ?_) (fun b283 H => ?_)
  · conv => whnf
    iterate 15 (refine Tst.T ?_; conv => whnf)
    exact fin0_c (enc := V.b) H (.inr rfl) (.cons (.tmp rfl) (.nil)) rfl rfl
  conv => whnf
  refine Tst.F ?_; conv => whnf
  refine ixs_c (f := StanzaStanza.v) H (fun _ => rfl) (fun x284 H => ?_); conv => whnf
  refine Tst.F ?_; conv => whnf
  refine ⟨Nat.le_of_ble_eq_true rfl, ?_⟩; conv => whnf
  iterate 4 (refine Tst.F ?_; conv => whnf)
  refine tst_c H (fun b285 H => ?_) (fun b285 H => ?_)
  · conv => whnf
    iterate 8 (refine Tst.T ?_; conv => whnf)
    exact fin0_c (enc := V.b) H (.inr rfl) (.cons (.tmp rfl) (.nil)) rfl rfl
  conv => whnf
  iterate 2 (refine Tst.F ?_; conv => whnf)
  refine Ari.w ?_; conv => whnf
  refine Tst.F ?_; conv => whnf
  refine ixs_c (f := StanzaStanza.v) H (fun _ => rfl) (fun x286 H => ?_); conv => whnf
  refine Tst.F ?_; conv => whnf
  refine ⟨Nat.le_of_ble_eq_true rfl, ?_⟩; conv => whnf
  iterate 3 (refine Tst.F ?_; conv => whnf)
  refine tst_c H (fun b287 H => ?_) (fun b287 H => ?_)
  · conv => whnf
    exact fin0_c (enc := V.b) H (.inr rfl) (.cons (.tmp rfl) (.nil)) rfl rfl
  conv => whnf
  obtain ⟨o289, HL290, HQ291⟩ := bind_c H
  refine loop_c [4, 12] [114, 115, 116, 117, 118, 119, 120, 121, 122, 123, 124, 125, 126, 127, 128, 129, 130, 131, 132, 133, 134, 135, 136, 137, 138, 139, 140, 141, 142, 143, 144, 145, 146, 147, 148, 149, 150, 151, 152, 153, 154, 155, 156, 157, 158, 159, 160, 161, 162, 163, 164, 165, 166, 167] [114, 115, 116, 117, 118, 119, 120, 121, 122, 123, 124, 125, 126, 127, 128, 129, 130, 131, 132, 133, 134, 135, 136, 137, 138, 139, 140, 141, 142, 143, 144, 145, 146, 147, 148, 149, 150, 151, 152, 153, 154, 155, 156, 157, 158, 159, 160, 161, 162, 163, 164, 165, 166, 167] (fun n vals st => (∃ y293, p_law26_SnapWhole_l3  v279 v280 (v280.length : Int) y19 n y293 = some o289 ∧ vals = [.b false, .i y293] ∧ st = [.live [.sl (List.map V.s y19.Users) true, .sl (List.map V.s y19.Keys) true] 0, .live [.i y232.Seq, .sl (List.map BookRow.v y232.Rows) false] 0])) fuel 2 [] (⟨_, HL290, rfl, rfl⟩) (Nat.zero_le _) rfl (by kernel_rfl) (by kernel_rfl) rfl ⟨⟨rfl, rfl, rfl⟩, ⟨⟨rfl, rfl, rfl⟩, trivial⟩⟩ ?_
  rintro (_ | n292) _ _ (⟨y293, H, rfl, rfl⟩)
  · rw [p_law26_SnapWhole_l3] at H; cases H
  rw [p_law26_SnapWhole_l3] at H
  conv => whnf
  refine tst_d H (fun b294 H => ?_) (fun b294 H => ?_)
  · conv => whnf
    obtain rfl := Option.some.inj H
    have H := HQ291
    try dsimp only at H
    refine ask_c (p_snap_Count_v _ _) H rfl rfl (fun v308 H => ?_); conv => whnf
    refine tst_d H (fun b309 H => ?_) (fun b309 H => ?_)
    · conv => whnf
      refine Tst.F ?_; conv => whnf
      exact fin0_c (enc := V.b) H (.inr rfl) (.cons (.tmp rfl) (.nil)) rfl rfl
    conv => whnf
    refine ask_c (p_law26_awake_v) H rfl rfl (fun v310 H => ?_); conv => whnf
    refine Tst.T ?_; conv => whnf
    exact fin0_c (enc := V.b) H (.inr rfl) (.cons (.tmp rfl) (.nil)) rfl rfl
  conv => whnf
  refine Ari.w ?_; conv => whnf
  refine ixs_c (f := StanzaStanza.v) H (fun _ => rfl) (fun x295 H => ?_); conv => whnf
  refine ixs_c (f := BookRow.v) H (fun _ => rfl) (fun x296 H => ?_); conv => whnf
  refine ⟨Nat.le_of_ble_eq_true rfl, ?_⟩; conv => whnf
  refine ixs_c (f := BookRow.v) H (fun _ => rfl) (fun x297 H => ?_); conv => whnf
  refine ⟨Nat.le_of_ble_eq_true rfl, ?_⟩; conv => whnf
  refine ixs_c (f := BookRow.v) H (fun _ => rfl) (fun x298 H => ?_); conv => whnf
  refine ⟨Nat.le_of_ble_eq_true rfl, ?_⟩; conv => whnf
  refine ask_c (p_pres_Say_v _ _ _) H rfl rfl (fun v299 H => ?_); conv => whnf
  refine Tst.not ?_
  refine tst_d H (fun b300 H => ?_) (fun b300 H => ?_)
  · conv => whnf
    iterate 12 (refine Tst.T ?_; conv => whnf)
    refine FootQ.mk ⟨rfl, ?_⟩; conv => whnf
    refine Tst.T ?_; conv => whnf
    obtain rfl := Option.some.inj H
    have H := HQ291
    try dsimp only at H
    exact fin0_c (enc := V.b) H (.inr rfl) (.cons (.tmp rfl) (.nil)) rfl rfl
  conv => whnf
  iterate 3 (refine Tst.F ?_; conv => whnf)
  refine ixs_c (f := BookRow.v) H (fun _ => rfl) (fun x301 H => ?_); conv => whnf
  iterate 2 (refine Tst.F ?_; conv => whnf)
  refine ask_c (p_snap_Sees_v _ _) H rfl rfl (fun v302 H => ?_); conv => whnf
  iterate 2 (refine Tst.F ?_; conv => whnf)
  refine Tst.not ?_
  refine tst_d H (fun b303 H => ?_) (fun b303 H => ?_)
  · conv => whnf
    iterate 4 (refine Tst.T ?_; conv => whnf)
    refine FootQ.mk ⟨rfl, ?_⟩; conv => whnf
    refine Tst.T ?_; conv => whnf
    obtain rfl := Option.some.inj H
    have H := HQ291
    try dsimp only at H
    exact fin0_c (enc := V.b) H (.inr rfl) (.cons (.tmp rfl) (.nil)) rfl rfl
  conv => whnf
  iterate 2 (refine Tst.F ?_; conv => whnf)
  refine tst_d H (fun b304 H => ?_) (fun b304 H => ?_)
  · conv => whnf
    iterate 14 (refine Tst.F ?_; conv => whnf)
    refine FootQ.mk ⟨rfl, ?_⟩; conv => whnf
    refine Tst.F ?_; conv => whnf
    refine Ari.w ?_; conv => whnf
    exact again_c [114, 115, 116, 117, 118, 119, 120, 121, 122, 123, 124, 125, 126, 127, 128, 129, 130, 131, 132, 133, 134, 135, 136, 137, 138, 139, 140, 141, 142, 143, 144, 145, 146, 147, 148, 149, 150, 151, 152, 153, 154, 155, 156, 157, 158, 159, 160, 161, 162, 163, 164, 165, 166, 167] n292 2 [] (⟨_, H, rfl, rfl⟩) (Nat.lt_succ_self _) (Nat.zero_le _) rfl (by kernel_rfl) (by kernel_rfl) rfl ⟨⟨rfl, rfl, rfl⟩, ⟨⟨rfl, rfl, rfl⟩, trivial⟩⟩
  conv => whnf
  iterate 2 (refine Tst.T ?_; conv => whnf)
  refine ixs_c (f := StanzaStanza.v) H (fun _ => rfl) (fun x305 H => ?_); conv => whnf
  refine Tst.T ?_; conv => whnf
  refine ⟨Nat.le_of_ble_eq_true rfl, ?_⟩; conv => whnf
  iterate 4 (refine Tst.T ?_; conv => whnf)
  refine Ari.w ?_; conv => whnf
  refine Tst.T ?_; conv => whnf
  refine ixs_c (f := StanzaStanza.v) H (fun _ => rfl) (fun x306 H => ?_); conv => whnf
  refine Tst.T ?_; conv => whnf
  refine ⟨Nat.le_of_ble_eq_true rfl, ?_⟩; conv => whnf
  iterate 2 (refine Tst.T ?_; conv => whnf)
  refine Tst.F ?_; conv => whnf
  refine Tst.T ?_; conv => whnf
  refine Tst.F ?_; conv => whnf
  refine FootQ.mk ⟨rfl, ?_⟩; conv => whnf
  refine Tst.not ?_
  refine tst_d H (fun b307 H => ?_) (fun b307 H => ?_)
  · conv => whnf
    obtain rfl := Option.some.inj H
    have H := HQ291
    try dsimp only at H
    exact fin0_c (enc := V.b) H (.inr rfl) (.cons (.tmp rfl) (.nil)) rfl rfl
  conv => whnf
  refine Ari.w ?_; conv => whnf
  exact again_c [114, 115, 116, 117, 118, 119, 120, 121, 122, 123, 124, 125, 126, 127, 128, 129, 130, 131, 132, 133, 134, 135, 136, 137, 138, 139, 140, 141, 142, 143, 144, 145, 146, 147, 148, 149, 150, 151, 152, 153, 154, 155, 156, 157, 158, 159, 160, 161, 162, 163, 164, 165, 166, 167] n292 2 [] (⟨_, H, rfl, rfl⟩) (Nat.lt_succ_self _) (Nat.zero_le _) rfl (by kernel_rfl) (by kernel_rfl) rfl ⟨⟨rfl, rfl, rfl⟩, ⟨⟨rfl, rfl, rfl⟩, trivial⟩⟩
end Go.Proofs.Ythlhbgedidipkaa
