/- A part of the proof: 1 texts joined. -/
import Derived.Test.YtljeinlapkgjeaaQbA6
import Derived.Test.YtljeinlapkgjeaaQbA8
import Derived.Test.YtljeinlapkgjeaaQbA9
import Derived.Test.YtljeinlapkgjeaaQbA10
import Derived.Test.YtljeinlapkgjeaaQbA4
import Derived.KernelRfl
set_option linter.all false
/- That the program's functions yield what the plain ones tell (written by a program of mine). -/
namespace Go.Proofs.Ytljeinlapkgjeaa
open Go.RowKit
def gc10 : BCode := (.seq (.reg 0 [⟨(some 2), .mv (.const (.bool false)), none, 0⟩] none 0 []) (.seq (.seq (.reg 0 [⟨(some 18), .mv (.tmp 0), none, 0⟩, ⟨(some 19), .lens (.tmp 18), none, 0⟩, ⟨(some 20), .bin .gtr (.tmp 19) (.const (.int .i64 80)), none, 0⟩] none 0 []) (.cond (.tmp 20) (.seq (.reg 0 [⟨(some 21), .cl 49 [], none, 0⟩, ⟨(some 2), .mv (.tmp 21), none, 0⟩] none 0 []) .ret) .skip)) (.seq (.reg 1 [⟨(some 3), .al (.agg [(.lit (.int .i64 0)), (.sl [] true)]), none, 0⟩] none 0 []) (.seq (.reg 1 [⟨(some 4), .al (.agg [(.lit (.bool false)), (.lit (.int .i64 0)), (.lit (.int .i64 0)), (.lit (.int .i64 0)), (.lit (.bool false)), (.lit (.int .i64 0)), (.lit (.int .i64 0)), (.lit (.int .i64 0)), (.lit (.bool false)), (.lit (.int .i64 0)), (.lit (.int .i64 0)), (.lit (.int .i64 0)), (.lit (.bool false)), (.lit (.int .i64 0)), (.lit (.int .i64 0)), (.lit (.int .i64 0)), (.lit (.bool false)), (.lit (.int .i64 0)), (.lit (.int .i64 0)), (.lit (.int .i64 0)), (.lit (.bool false)), (.lit (.int .i64 0)), (.lit (.int .i64 0)), (.lit (.int .i64 0)), (.lit (.bool false)), (.lit (.int .i64 0)), (.lit (.int .i64 0)), (.lit (.int .i64 0)), (.lit (.bool false)), (.lit (.int .i64 0)), (.lit (.int .i64 0)), (.lit (.int .i64 0)), (.lit (.bool false)), (.lit (.int .i64 0)), (.lit (.int .i64 0)), (.lit (.int .i64 0)), (.lit (.bool false)), (.lit (.int .i64 0)), (.lit (.int .i64 0)), (.lit (.int .i64 0)), (.lit (.bool false)), (.lit (.int .i64 0)), (.lit (.int .i64 0)), (.lit (.int .i64 0)), (.lit (.bool false)), (.lit (.int .i64 0)), (.lit (.int .i64 0)), (.lit (.int .i64 0)), (.lit (.bool false)), (.lit (.int .i64 0)), (.lit (.int .i64 0)), (.lit (.int .i64 0)), (.lit (.bool false)), (.lit (.int .i64 0)), (.lit (.int .i64 0)), (.lit (.int .i64 0)), (.lit (.bool false)), (.lit (.int .i64 0)), (.lit (.int .i64 0)), (.lit (.int .i64 0)), (.lit (.bool false)), (.lit (.int .i64 0)), (.lit (.int .i64 0)), (.lit (.int .i64 0)), (.lit (.bool false)), (.lit (.int .i64 0)), (.lit (.int .i64 0)), (.lit (.int .i64 0)), (.lit (.bool false)), (.lit (.int .i64 0)), (.lit (.int .i64 0)), (.lit (.int .i64 0)), (.lit (.bool false)), (.lit (.int .i64 0)), (.lit (.int .i64 0)), (.lit (.int .i64 0)), (.lit (.bool false)), (.lit (.int .i64 0)), (.lit (.int .i64 0)), (.lit (.int .i64 0))]), none, 0⟩] none 0 []) (.seq (.seq (.reg 0 [⟨(some 5), .mv (.const (.int .i64 0)), none, 0⟩] none 0 []) (.block 0 (.loop (.seq (.seq (.reg 0 [⟨(some 22), .mv (.tmp 5), none, 0⟩, ⟨(some 23), .mv (.tmp 0), none, 0⟩, ⟨(some 24), .lens (.tmp 23), none, 0⟩, ⟨(some 25), .bin .lss (.tmp 22) (.tmp 24), none, 0⟩] none 0 []) (.cond (.tmp 25) .skip (.exit 0))) (.seq (.block 1 (.seq (.reg 2 [⟨(some 28), .mv (.tmp 0), none, 0⟩, ⟨(some 29), .mv (.tmp 5), none, 0⟩, ⟨(some 30), .ixs 4 (.tmp 28) (.tmp 29), none, 0⟩, ⟨(some 31), .fa 0 (.tmp 30), none, 0⟩, ⟨(some 32), .ld 1 false (.tmp 31), none, 0⟩, ⟨(some 33), .bin .rem (.tmp 32) (.const (.int .u8 5)), none, 0⟩, ⟨(some 34), .bin .add (.const (.int .u8 97)) (.tmp 33), none, 0⟩, ⟨(some 35), .bs 1 1 [(.lit (.int .u8 0))] [(0, (.tmp 34))], none, 0⟩, ⟨(some 36), .b2s (.tmp 35), none, 1⟩, ⟨(some 37), .bin .add (.tmp 36) (.const (.string ⟨#[64, 120]⟩)), none, 1⟩, ⟨(some 38), .mv (.tmp 0), none, 1⟩, ⟨(some 39), .mv (.tmp 5), none, 1⟩, ⟨(some 40), .ixs 4 (.tmp 38) (.tmp 39), none, 1⟩, ⟨(some 41), .fa 1 (.tmp 40), none, 1⟩, ⟨(some 42), .ld 1 false (.tmp 41), none, 1⟩, ⟨(some 43), .bin .rem (.tmp 42) (.const (.int .u8 4)), none, 1⟩, ⟨(some 44), .bin .add (.const (.int .u8 114)) (.tmp 43), none, 1⟩, ⟨(some 45), .bs 1 1 [(.lit (.int .u8 0))] [(0, (.tmp 44))], none, 1⟩, ⟨(some 46), .b2s (.tmp 45), none, 2⟩, ⟨(some 6), .mv (.tmp 37), none, 2⟩, ⟨(some 7), .mv (.tmp 46), none, 2⟩] (some [[], [], [1, 0], [0, 1, 2], [2, 1, 0, 3], [3, 0, 1, 2, 4], [4, 2, 1, 0, 3, 5], [5, 3, 0, 1, 2, 4, 6], [6, 4, 2, 1, 0, 3, 5, 7], [7, 5, 3, 0, 1, 2, 4, 6, 8], [], [], [11, 10], [10, 11, 12], [12, 11, 10, 13], [13, 10, 11, 12, 14], [14, 12, 11, 10, 13, 15], [15, 13, 10, 11, 12, 14, 16], [16, 14, 12, 11, 10, 13, 15, 17], [8, 6, 4, 2, 1, 0, 3, 5, 7, 9], [9, 7, 5, 3, 0, 1, 2, 4, 6, 8, 19, 17, 15, 13, 10, 11, 12, 14, 16, 18]]) 0 []) (.seq (.reg 0 [⟨(some 47), .mv (.tmp 0), none, 0⟩, ⟨(some 48), .mv (.tmp 5), none, 0⟩, ⟨(some 49), .ixs 4 (.tmp 47) (.tmp 48), none, 0⟩, ⟨(some 50), .fa 0 (.tmp 49), none, 0⟩, ⟨(some 51), .ld 1 false (.tmp 50), none, 0⟩, ⟨(some 52), .bin .rem (.tmp 51) (.const (.int .u8 5)), none, 0⟩, ⟨(some 53), .cvi .i64 (.tmp 52), none, 0⟩, ⟨(some 54), .bin .mul (.const (.int .i64 4)) (.tmp 53), none, 0⟩, ⟨(some 55), .mv (.tmp 0), none, 0⟩, ⟨(some 56), .mv (.tmp 5), none, 0⟩, ⟨(some 57), .ixs 4 (.tmp 55) (.tmp 56), none, 0⟩, ⟨(some 58), .fa 1 (.tmp 57), none, 0⟩, ⟨(some 59), .ld 1 false (.tmp 58), none, 0⟩, ⟨(some 60), .bin .rem (.tmp 59) (.const (.int .u8 4)), none, 0⟩, ⟨(some 61), .cvi .i64 (.tmp 60), none, 0⟩, ⟨(some 62), .bin .add (.tmp 54) (.tmp 61), none, 0⟩, ⟨(some 8), .mv (.tmp 62), none, 0⟩] (some [[], [], [1, 0], [0, 1, 2], [2, 1, 0, 3], [3, 0, 1, 2, 4], [4, 2, 1, 0, 3, 5], [5, 3, 0, 1, 2, 4, 6], [], [], [9, 8], [8, 9, 10], [10, 9, 8, 11], [11, 8, 9, 10, 12], [12, 10, 9, 8, 11, 13], [13, 11, 8, 9, 10, 12, 14, 6, 4, 2, 1, 0, 3, 5, 7], [7, 5, 3, 0, 1, 2, 4, 6, 14, 12, 10, 9, 8, 11, 13, 15]]) 0 []) (.seq (.reg 0 [⟨(some 9), .mv (.const (.int .i64 0)), none, 0⟩] none 0 []) (.seq (.seq (.reg 0 [⟨(some 10), .mv (.const (.int .i64 0)), none, 0⟩] none 0 []) (.block 2 (.loop (.seq (.seq (.reg 0 [⟨(some 63), .mv (.tmp 10), none, 0⟩, ⟨(some 64), .bin .lss (.tmp 63) (.const (.int .i64 4)), none, 0⟩] none 0 []) (.cond (.tmp 64) .skip (.exit 2))) (.seq (.block 3 (.seq (.reg 0 [⟨(some 67), .mv (.tmp 0), none, 0⟩, ⟨(some 68), .mv (.tmp 5), none, 0⟩, ⟨(some 69), .ixs 4 (.tmp 67) (.tmp 68), none, 0⟩, ⟨(some 70), .fa 0 (.tmp 69), none, 0⟩, ⟨(some 71), .ld 1 false (.tmp 70), none, 0⟩, ⟨(some 72), .bin .rem (.tmp 71) (.const (.int .u8 5)), none, 0⟩, ⟨(some 73), .cvi .i64 (.tmp 72), none, 0⟩, ⟨(some 74), .bin .mul (.const (.int .i64 4)) (.tmp 73), none, 0⟩, ⟨(some 75), .mv (.tmp 10), none, 0⟩, ⟨(some 76), .bin .add (.tmp 74) (.tmp 75), none, 0⟩, ⟨(some 77), .ixa 20 4 (.tmp 4) (.tmp 76), none, 0⟩, ⟨(some 78), .fa 0 (.tmp 77), none, 0⟩, ⟨(some 79), .ld 1 false (.tmp 78), none, 0⟩] none 0 []) (.cond (.tmp 79) (.reg 0 [⟨(some 80), .mv (.tmp 9), none, 0⟩, ⟨(some 81), .bin .add (.tmp 80) (.const (.int .i64 1)), none, 0⟩, ⟨(some 9), .mv (.tmp 81), none, 0⟩] none 0 []) .skip))) (.reg 0 [⟨(some 65), .mv (.tmp 10), none, 0⟩, ⟨(some 66), .bin .add (.tmp 65) (.const (.int .i64 1)), none, 0⟩, ⟨(some 10), .mv (.tmp 66), none, 0⟩] none 0 [])))))) (.seq (.reg 2 [⟨(some 82), .ld 2 true (.tmp 3), none, 0⟩, ⟨(some 83), .bd [(.lit (.bool false)), (.lit (.int .i64 0)), (.lit (.int .i64 0)), (.lit (.int .i64 0))] [], none, 0⟩, ⟨(some 11), .al (.agg [(.lit (.int .i64 0)), (.sl [] true)]), none, 0⟩, ⟨(some 12), .al (.agg [(.lit (.bool false)), (.lit (.int .i64 0)), (.lit (.int .i64 0)), (.lit (.int .i64 0))]), none, 1⟩, ⟨none, .st 2 (.tmp 11) (.tmp 82), none, 2⟩, ⟨none, .st 4 (.tmp 12) (.tmp 83), none, 2⟩, ⟨(some 13), .mv (.const (.int .i64 0)), none, 2⟩] none 0 []) (.join (.seq (.reg 0 [⟨(some 84), .mv (.tmp 0), none, 0⟩, ⟨(some 85), .mv (.tmp 5), none, 0⟩, ⟨(some 86), .ixs 4 (.tmp 84) (.tmp 85), none, 0⟩, ⟨(some 87), .fa 3 (.tmp 86), none, 0⟩, ⟨(some 88), .ld 1 false (.tmp 87), none, 0⟩] none 0 []) (.cond (.tmp 88) (.seq (.reg 0 [⟨(some 90), .ld 2 true (.tmp 3), none, 0⟩, ⟨(some 91), .mv (.tmp 6), none, 0⟩, ⟨(some 92), .mv (.tmp 7), none, 0⟩, ⟨(some 93), .cl 43 [(.tmp 90), (.tmp 91), (.tmp 92)], none, 0⟩, ⟨(some 89), .mv (.tmp 93), none, 0⟩, ⟨(some 94), .ex (.tmp 89) 0, none, 0⟩, ⟨(some 95), .ex (.tmp 89) 1, none, 0⟩, ⟨(some 96), .ex (.tmp 89) 2, none, 0⟩, ⟨none, .st 2 (.tmp 11) (.tmp 94), none, 0⟩, ⟨none, .st 4 (.tmp 12) (.tmp 95), none, 0⟩, ⟨(some 13), .mv (.tmp 96), none, 0⟩] none 0 []) (.seq (.reg 0 [⟨(some 97), .mv (.tmp 13), none, 0⟩, ⟨(some 98), .bin .eql (.tmp 97) (.const (.int .i64 0)), none, 0⟩, ⟨(some 99), .mv (.tmp 8), none, 0⟩, ⟨(some 100), .ixa 20 4 (.tmp 4) (.tmp 99), none, 0⟩, ⟨(some 101), .fa 0 (.tmp 100), none, 0⟩, ⟨(some 102), .ld 1 false (.tmp 101), none, 0⟩, ⟨(some 103), .binb true (.tmp 98) (.tmp 102), none, 0⟩, ⟨(some 104), .mv (.tmp 103), none, 0⟩, ⟨(some 105), .mv (.tmp 13), (some (104, false)), 0⟩, ⟨(some 106), .bin .eql (.tmp 105) (.const (.int .i64 0)), (some (104, false)), 0⟩, ⟨(some 107), .mv (.tmp 106), (some (104, false)), 0⟩, ⟨(some 108), .fa 0 (.tmp 12), (some (107, true)), 0⟩, ⟨(some 109), .ld 1 false (.tmp 108), (some (107, true)), 0⟩, ⟨(some 110), .pick (.tmp 107) (.tmp 109) (.const (.bool false)), (some (104, false)), 0⟩, ⟨(some 111), .pick (.tmp 104) (.const (.bool true)) (.tmp 110), none, 0⟩] none 0 []) (.cond (.tmp 111) (.seq (.reg 0 [⟨(some 2), .mv (.const (.bool false)), none, 0⟩] none 0 []) .ret) .skip))) (.seq (.reg 0 [⟨(some 113), .ld 2 true (.tmp 3), none, 0⟩, ⟨(some 114), .mv (.tmp 6), none, 0⟩, ⟨(some 115), .mv (.tmp 7), none, 0⟩, ⟨(some 116), .mv (.tmp 0), none, 0⟩, ⟨(some 117), .mv (.tmp 5), none, 0⟩, ⟨(some 118), .ixs 4 (.tmp 116) (.tmp 117), none, 0⟩, ⟨(some 119), .fa 2 (.tmp 118), none, 0⟩, ⟨(some 120), .ld 1 false (.tmp 119), none, 0⟩, ⟨(some 121), .bin .rem (.tmp 120) (.const (.int .u8 5)), none, 0⟩, ⟨(some 122), .cvi .i64 (.tmp 121), none, 0⟩, ⟨(some 123), .cl 44 [(.tmp 113), (.tmp 114), (.tmp 115), (.tmp 122), (.const (.int .i64 0))], none, 0⟩, ⟨(some 112), .mv (.tmp 123), none, 0⟩, ⟨(some 124), .ex (.tmp 112) 0, none, 0⟩, ⟨(some 125), .ex (.tmp 112) 1, none, 0⟩, ⟨(some 126), .ex (.tmp 112) 2, none, 0⟩, ⟨none, .st 2 (.tmp 11) (.tmp 124), none, 0⟩, ⟨none, .st 4 (.tmp 12) (.tmp 125), none, 0⟩, ⟨(some 13), .mv (.tmp 126), none, 0⟩] (some [[], [], [], [], [], [4, 3], [3, 4, 5], [5, 4, 3, 6], [6, 3, 4, 5, 7], [7, 5, 4, 3, 6, 8], [8, 6, 3, 4, 5, 7, 9, 2, 1, 0], [0, 1, 2, 9, 7, 5, 4, 3, 6, 8, 10], [10, 8, 6, 3, 4, 5, 7, 9, 2, 1, 0, 11], [10, 8, 6, 3, 4, 5, 7, 9, 2, 1, 0, 11], [10, 8, 6, 3, 4, 5, 7, 9, 2, 1, 0, 11], [11, 0, 1, 2, 9, 7, 5, 4, 3, 6, 8, 10, 12], [12, 15, 11, 0, 1, 2, 9, 7, 5, 4, 3, 6, 8, 10, 13], [13, 15, 12, 16, 11, 0, 1, 2, 9, 7, 5, 4, 3, 6, 8, 10, 14]]) 0 []) (.seq (.reg 0 [⟨(some 127), .mv (.tmp 13), none, 0⟩, ⟨(some 128), .bin .eql (.tmp 127) (.const (.int .i64 0)), none, 0⟩, ⟨(some 129), .mv (.tmp 8), none, 0⟩, ⟨(some 130), .ixa 20 4 (.tmp 4) (.tmp 129), none, 0⟩, ⟨(some 131), .fa 0 (.tmp 130), none, 0⟩, ⟨(some 132), .ld 1 false (.tmp 131), none, 0⟩, ⟨(some 133), .mv (.tmp 132), none, 0⟩, ⟨(some 134), .mv (.tmp 9), (some (133, false)), 0⟩, ⟨(some 135), .bin .lss (.tmp 134) (.const (.int .i64 3)), (some (133, false)), 0⟩, ⟨(some 136), .mv (.tmp 135), (some (133, false)), 0⟩, ⟨(some 137), .fa 1 (.tmp 3), (some (136, true)), 0⟩, ⟨(some 138), .ld 1 false (.tmp 137), (some (136, true)), 0⟩, ⟨(some 139), .lens (.tmp 138), (some (136, true)), 0⟩, ⟨(some 140), .bin .lss (.tmp 139) (.const (.int .i64 16)), (some (136, true)), 0⟩, ⟨(some 141), .pick (.tmp 136) (.tmp 140) (.const (.bool false)), (some (133, false)), 0⟩, ⟨(some 142), .pick (.tmp 133) (.const (.bool true)) (.tmp 141), none, 0⟩, ⟨(some 143), .binb true (.tmp 128) (.tmp 142), none, 0⟩, ⟨(some 144), .mv (.tmp 143), none, 0⟩, ⟨(some 145), .mv (.tmp 13), (some (144, false)), 0⟩, ⟨(some 146), .bin .eql (.tmp 145) (.const (.int .i64 0)), (some (144, false)), 0⟩, ⟨(some 147), .mv (.tmp 146), (some (144, false)), 0⟩, ⟨(some 148), .fa 0 (.tmp 12), (some (147, true)), 0⟩, ⟨(some 149), .ld 1 false (.tmp 148), (some (147, true)), 0⟩, ⟨(some 150), .un .not (.tmp 149), (some (147, true)), 0⟩, ⟨(some 151), .mv (.tmp 150), (some (147, true)), 0⟩, ⟨(some 152), .fa 1 (.tmp 12), (some (151, false)), 0⟩, ⟨(some 153), .ld 1 false (.tmp 152), (some (151, false)), 0⟩, ⟨(some 154), .mv (.tmp 0), (some (151, false)), 0⟩, ⟨(some 155), .mv (.tmp 5), (some (151, false)), 0⟩, ⟨(some 156), .ixs 4 (.tmp 154) (.tmp 155), (some (151, false)), 0⟩, ⟨(some 157), .fa 2 (.tmp 156), (some (151, false)), 0⟩, ⟨(some 158), .ld 1 false (.tmp 157), (some (151, false)), 0⟩, ⟨(some 159), .bin .rem (.tmp 158) (.const (.int .u8 5)), (some (151, false)), 0⟩, ⟨(some 160), .cvi .i64 (.tmp 159), (some (151, false)), 0⟩, ⟨(some 161), .bin .neq (.tmp 153) (.tmp 160), (some (151, false)), 0⟩, ⟨(some 162), .pick (.tmp 151) (.const (.bool true)) (.tmp 161), (some (147, true)), 0⟩, ⟨(some 163), .pick (.tmp 147) (.tmp 162) (.const (.bool false)), (some (144, false)), 0⟩, ⟨(some 164), .pick (.tmp 144) (.const (.bool true)) (.tmp 163), none, 0⟩] (some [[], [0], [], [2], [2, 3], [3, 2, 4], [4, 2, 3, 5], [5, 3, 2, 4, 6], [6, 4, 2, 3, 5, 7], [7, 5, 3, 2, 4, 6, 8], [8, 6, 4, 2, 3, 5, 7, 9], [9, 7, 5, 3, 2, 4, 6, 8, 10], [10, 8, 6, 4, 2, 3, 5, 7, 9, 11], [11, 9, 7, 5, 3, 2, 4, 6, 8, 10, 12], [12, 10, 11, 13, 8, 6, 4, 2, 3, 5, 7, 9], [9, 7, 8, 13, 11, 10, 12, 14, 5, 3, 2, 4, 6], [6, 4, 2, 3, 5, 14, 12, 10, 11, 13, 8, 7, 9, 15, 0, 1], [1, 0, 15, 9, 7, 8, 13, 11, 10, 12, 14, 5, 3, 2, 4, 6, 16], [16, 6, 4, 2, 3, 5, 14, 12, 10, 11, 13, 8, 7, 9, 15, 0, 1, 17], [17, 1, 0, 15, 9, 7, 8, 13, 11, 10, 12, 14, 5, 3, 2, 4, 6, 16, 18], [18, 16, 6, 4, 2, 3, 5, 14, 12, 10, 11, 13, 8, 7, 9, 15, 0, 1, 17, 19], [19, 17, 1, 0, 15, 9, 7, 8, 13, 11, 10, 12, 14, 5, 3, 2, 4, 6, 16, 18, 20], [20, 18, 16, 6, 4, 2, 3, 5, 14, 12, 10, 11, 13, 8, 7, 9, 15, 0, 1, 17, 19, 21], [21, 19, 17, 1, 0, 15, 9, 7, 8, 13, 11, 10, 12, 14, 5, 3, 2, 4, 6, 16, 18, 20, 22], [22, 20, 18, 16, 6, 4, 2, 3, 5, 14, 12, 10, 11, 13, 8, 7, 9, 15, 0, 1, 17, 19, 21, 23], [23, 21, 19, 17, 1, 0, 15, 9, 7, 8, 13, 11, 10, 12, 14, 5, 3, 2, 4, 6, 16, 18, 20, 22, 24], [24, 22, 20, 18, 16, 6, 4, 2, 3, 5, 14, 12, 10, 11, 13, 8, 7, 9, 15, 0, 1, 17, 19, 21, 23, 25], [23, 21, 19, 17, 1, 0, 15, 9, 7, 8, 13, 11, 10, 12, 14, 5, 3, 2, 4, 6, 16, 18, 20, 22, 24], [23, 21, 19, 17, 1, 0, 15, 9, 7, 8, 13, 11, 10, 12, 14, 5, 3, 2, 4, 6, 16, 18, 20, 22, 24], [28, 24, 22, 20, 18, 16, 6, 4, 2, 3, 5, 14, 12, 10, 11, 13, 8, 7, 9, 15, 0, 1, 17, 19, 21, 23, 27], [27, 23, 21, 19, 17, 1, 0, 15, 9, 7, 8, 13, 11, 10, 12, 14, 5, 3, 2, 4, 6, 16, 18, 20, 22, 24, 28, 29], [29, 28, 24, 22, 20, 18, 16, 6, 4, 2, 3, 5, 14, 12, 10, 11, 13, 8, 7, 9, 15, 0, 1, 17, 19, 21, 23, 27, 30], [30, 27, 23, 21, 19, 17, 1, 0, 15, 9, 7, 8, 13, 11, 10, 12, 14, 5, 3, 2, 4, 6, 16, 18, 20, 22, 24, 28, 29, 31], [31, 29, 28, 24, 22, 20, 18, 16, 6, 4, 2, 3, 5, 14, 12, 10, 11, 13, 8, 7, 9, 15, 0, 1, 17, 19, 21, 23, 27, 30, 32], [32, 30, 27, 28, 29, 31, 33, 25, 23, 21, 19, 17, 1, 0, 15, 9, 7, 8, 13, 11, 10, 12, 14, 5, 3, 2, 4, 6, 16, 18, 20, 22, 24, 26], [26, 25, 33, 31, 29, 28, 27, 30, 32, 34, 23, 21, 19, 17, 1, 0, 15, 9, 7, 8, 13, 11, 10, 12, 14, 5, 3, 2, 4, 6, 16, 18, 20, 22, 24], [24, 22, 21, 23, 34, 32, 30, 27, 28, 29, 31, 33, 25, 26, 35, 19, 17, 1, 0, 15, 9, 7, 8, 13, 11, 10, 12, 14, 5, 3, 2, 4, 6, 16, 18, 20], [20, 18, 19, 35, 26, 25, 33, 31, 29, 28, 27, 30, 32, 34, 23, 21, 22, 24, 36, 16, 6, 4, 2, 3, 5, 14, 12, 10, 11, 13, 8, 7, 9, 15, 0, 1, 17]]) 0 []) (.cond (.tmp 164) (.seq (.reg 0 [⟨(some 2), .mv (.const (.bool false)), none, 0⟩] none 0 []) .ret) .skip))))) (.join (.seq (.reg 0 [⟨(some 165), .mv (.tmp 13), none, 0⟩, ⟨(some 166), .bin .eql (.tmp 165) (.const (.int .i64 0)), none, 0⟩] none 0 []) (.cond (.tmp 166) (.seq (.seq (.reg 0 [⟨(some 167), .fa 3 (.tmp 12), none, 0⟩, ⟨(some 168), .ld 1 false (.tmp 167), none, 0⟩, ⟨(some 169), .fa 0 (.tmp 3), none, 0⟩, ⟨(some 170), .ld 1 false (.tmp 169), none, 0⟩, ⟨(some 171), .bin .leq (.tmp 168) (.tmp 170), none, 0⟩, ⟨(some 172), .mv (.tmp 171), none, 0⟩, ⟨(some 173), .fa 3 (.tmp 12), (some (172, false)), 0⟩, ⟨(some 174), .ld 1 false (.tmp 173), (some (172, false)), 0⟩, ⟨(some 175), .fa 0 (.tmp 11), (some (172, false)), 0⟩, ⟨(some 176), .ld 1 false (.tmp 175), (some (172, false)), 0⟩, ⟨(some 177), .bin .neq (.tmp 174) (.tmp 176), (some (172, false)), 0⟩, ⟨(some 178), .pick (.tmp 172) (.const (.bool true)) (.tmp 177), none, 0⟩] none 0 []) (.cond (.tmp 178) (.seq (.reg 0 [⟨(some 2), .mv (.const (.bool false)), none, 0⟩] none 0 []) .ret) .skip)) (.reg 0 [⟨(some 179), .mv (.tmp 8), none, 0⟩, ⟨(some 180), .ld 4 true (.tmp 12), none, 0⟩, ⟨(some 181), .ixa 20 4 (.tmp 4) (.tmp 179), none, 0⟩, ⟨none, .st 4 (.tmp 181) (.tmp 180), none, 0⟩] none 0 [])) (.seq (.reg 0 [⟨(some 182), .ld 2 true (.tmp 11), none, 0⟩, ⟨(some 183), .ld 2 true (.tmp 3), none, 0⟩, ⟨(some 184), .cl 50 [(.tmp 182), (.tmp 183)], none, 0⟩, ⟨(some 185), .un .not (.tmp 184), none, 0⟩] none 0 []) (.cond (.tmp 185) (.seq (.reg 0 [⟨(some 2), .mv (.const (.bool false)), none, 0⟩] none 0 []) .ret) .skip)))) (.seq (.seq (.reg 0 [⟨(some 186), .ld 2 true (.tmp 11), none, 0⟩, ⟨(some 187), .cl 51 [(.tmp 186)], none, 0⟩, ⟨(some 188), .bin .neq (.tmp 187) (.const (.int .i64 0)), none, 0⟩] none 0 []) (.cond (.tmp 188) (.seq (.reg 0 [⟨(some 2), .mv (.const (.bool false)), none, 0⟩] none 0 []) .ret) .skip)) (.seq (.reg 0 [⟨(some 14), .mv (.const (.int .i64 0)), none, 0⟩] none 0 []) (.seq (.seq (.reg 0 [⟨(some 15), .mv (.const (.int .i64 0)), none, 0⟩] none 0 []) (.block 4 (.loop (.seq (.seq (.reg 0 [⟨(some 189), .mv (.tmp 15), none, 0⟩, ⟨(some 190), .bin .lss (.tmp 189) (.const (.int .i64 20)), none, 0⟩] none 0 []) (.cond (.tmp 190) .skip (.exit 4))) (.seq (.block 5 (.seq (.reg 3 [⟨(some 194), .ld 2 true (.tmp 11), none, 0⟩, ⟨(some 195), .mv (.tmp 15), none, 0⟩, ⟨(some 196), .bin .quo (.tmp 195) (.const (.int .i64 4)), none, 0⟩, ⟨(some 197), .cvi .u8 (.tmp 196), none, 0⟩, ⟨(some 198), .bin .add (.const (.int .u8 97)) (.tmp 197), none, 0⟩, ⟨(some 199), .bs 1 1 [(.lit (.int .u8 0))] [(0, (.tmp 198))], none, 0⟩, ⟨(some 200), .b2s (.tmp 199), none, 1⟩, ⟨(some 201), .bin .add (.tmp 200) (.const (.string ⟨#[64, 120]⟩)), none, 1⟩, ⟨(some 202), .mv (.tmp 15), none, 1⟩, ⟨(some 203), .bin .rem (.tmp 202) (.const (.int .i64 4)), none, 1⟩, ⟨(some 204), .cvi .u8 (.tmp 203), none, 1⟩, ⟨(some 205), .bin .add (.const (.int .u8 114)) (.tmp 204), none, 1⟩, ⟨(some 206), .bs 1 1 [(.lit (.int .u8 0))] [(0, (.tmp 205))], none, 1⟩, ⟨(some 207), .b2s (.tmp 206), none, 2⟩, ⟨(some 208), .cl 52 [(.tmp 194), (.tmp 201), (.tmp 207)], none, 2⟩, ⟨(some 193), .mv (.tmp 208), none, 2⟩, ⟨(some 209), .ex (.tmp 193) 0, none, 2⟩, ⟨(some 210), .ex (.tmp 193) 1, none, 2⟩, ⟨(some 16), .al (.agg [(.lit (.bool false)), (.lit (.int .i64 0)), (.lit (.int .i64 0)), (.lit (.int .i64 0))]), none, 2⟩, ⟨none, .st 4 (.tmp 16) (.tmp 209), none, 3⟩, ⟨(some 17), .mv (.tmp 210), none, 3⟩] none 0 []) (.seq (.seq (.reg 0 [⟨(some 211), .mv (.tmp 17), none, 0⟩, ⟨(some 212), .mv (.tmp 15), none, 0⟩, ⟨(some 213), .ixa 20 4 (.tmp 4) (.tmp 212), none, 0⟩, ⟨(some 214), .fa 0 (.tmp 213), none, 0⟩, ⟨(some 215), .ld 1 false (.tmp 214), none, 0⟩, ⟨(some 216), .binb true (.tmp 211) (.tmp 215), none, 0⟩, ⟨(some 217), .mv (.tmp 216), none, 0⟩, ⟨(some 218), .mv (.tmp 17), (some (217, false)), 0⟩, ⟨(some 219), .mv (.tmp 218), (some (217, false)), 0⟩, ⟨(some 220), .ld 4 true (.tmp 16), (some (219, true)), 0⟩, ⟨(some 221), .mv (.tmp 15), (some (219, true)), 0⟩, ⟨(some 222), .ixa 20 4 (.tmp 4) (.tmp 221), (some (219, true)), 0⟩, ⟨(some 223), .ld 4 true (.tmp 222), (some (219, true)), 0⟩, ⟨(some 224), .eqa true [0, 1, 1, 1] (.tmp 220) (.tmp 223), (some (219, true)), 0⟩, ⟨(some 225), .pick (.tmp 219) (.tmp 224) (.const (.bool false)), (some (217, false)), 0⟩, ⟨(some 226), .pick (.tmp 217) (.const (.bool true)) (.tmp 225), none, 0⟩] (some [[], [], [1], [1, 2], [2, 1, 3], [3, 1, 2, 4, 0], [0, 4, 2, 1, 3, 5], [5, 3, 1, 2, 4, 0, 6], [6, 0, 4, 2, 1, 3, 5, 7], [7, 5, 3, 1, 2, 4, 0, 6, 8], [7, 5, 3, 1, 2, 4, 0, 6, 8], [8, 6, 0, 4, 2, 1, 3, 5, 7, 10], [10, 7, 5, 3, 1, 2, 4, 0, 6, 8, 11], [11, 10, 12, 8, 6, 0, 4, 2, 1, 3, 5, 7, 9], [9, 12, 10, 11, 13, 7, 5, 3, 1, 2, 4, 0, 6, 8], [8, 7, 13, 11, 10, 12, 9, 14, 5, 3, 1, 2, 4, 0, 6]]) 0 []) (.cond (.tmp 226) (.seq (.reg 0 [⟨(some 2), .mv (.const (.bool false)), none, 0⟩] none 0 []) .ret) .skip)) (.seq (.reg 0 [⟨(some 227), .mv (.tmp 17), none, 0⟩] none 0 []) (.cond (.tmp 227) (.reg 0 [⟨(some 228), .mv (.tmp 14), none, 0⟩, ⟨(some 229), .bin .add (.tmp 228) (.const (.int .i64 1)), none, 0⟩, ⟨(some 14), .mv (.tmp 229), none, 0⟩] none 0 []) .skip))))) (.reg 0 [⟨(some 191), .mv (.tmp 15), none, 0⟩, ⟨(some 192), .bin .add (.tmp 191) (.const (.int .i64 1)), none, 0⟩, ⟨(some 15), .mv (.tmp 192), none, 0⟩] none 0 [])))))) (.seq (.seq (.reg 0 [⟨(some 230), .mv (.tmp 14), none, 0⟩, ⟨(some 231), .fa 1 (.tmp 11), none, 0⟩, ⟨(some 232), .ld 1 false (.tmp 231), none, 0⟩, ⟨(some 233), .lens (.tmp 232), none, 0⟩, ⟨(some 234), .bin .neq (.tmp 230) (.tmp 233), none, 0⟩] none 0 []) (.cond (.tmp 234) (.seq (.reg 0 [⟨(some 2), .mv (.const (.bool false)), none, 0⟩] none 0 []) .ret) .skip)) (.reg 0 [⟨(some 235), .ld 2 true (.tmp 11), none, 0⟩, ⟨none, .st 2 (.tmp 3) (.tmp 235), none, 0⟩] none 0 []))))))))))))) (.reg 0 [⟨(some 26), .mv (.tmp 5), none, 0⟩, ⟨(some 27), .bin .add (.tmp 26) (.const (.int .i64 1)), none, 0⟩, ⟨(some 5), .mv (.tmp 27), none, 0⟩] none 0 [])))))) (.seq (.reg 0 [⟨(some 236), .cl 49 [], none, 0⟩, ⟨(some 2), .mv (.tmp 236), none, 0⟩] none 0 []) .ret))))))
set_option maxRecDepth 1000000 in
theorem gc10_ok : compF Try.prog Try.f10 = some (gc10.er, 237, [.tmp 2]) := by unfold gc10; kernel_rfl
set_option maxRecDepth 100000 in
set_option maxHeartbeats 4000000 in
theorem p_law24_BookKeeps_j_v {u1 : Bool} (a0 : List Law24Deed) : CallsO Try.prog 10 [.sl (List.map Law24Deed.v a0) u1] V.b (p_law24_BookKeeps_j a0) := by
  refine callsO_comp mix Try.func10 gc10_ok fun r H => ?_
  rw [p_law24_BookKeeps_j] at H
  conv => whnf
  refine LenQ.M ?_; conv => whnf
  refine tst_c H (fun b1 H => ?_) (fun b1 H => ?_)
  · conv => whnf
    refine ask_c (p_law24_awake_v) H rfl rfl (fun v2 H => ?_); conv => whnf
    exact fin0_c (enc := V.b) H (.inr rfl) (.cons (.tmp rfl) (.nil)) rfl rfl
  conv => whnf
  obtain ⟨o4, HL5, HQ6⟩ := bind_c H
  refine loop_c [2, 5] [6, 7, 8, 9, 10, 11, 12, 13, 14, 15, 16, 17, 22, 23, 24, 25, 26, 27, 28, 29, 30, 31, 32, 33, 34, 35, 36, 37, 38, 39, 40, 41, 42, 43, 44, 45, 46, 47, 48, 49, 50, 51, 52, 53, 54, 55, 56, 57, 58, 59, 60, 61, 62, 63, 64, 65, 66, 67, 68, 69, 70, 71, 72, 73, 74, 75, 76, 77, 78, 79, 80, 81, 82, 83, 84, 85, 86, 87, 88, 89, 90, 91, 92, 93, 94, 95, 96, 97, 98, 99, 100, 101, 102, 103, 104, 105, 106, 107, 108, 109, 110, 111, 112, 113, 114, 115, 116, 117, 118, 119, 120, 121, 122, 123, 124, 125, 126, 127, 128, 129, 130, 131, 132, 133, 134, 135, 136, 137, 138, 139, 140, 141, 142, 143, 144, 145, 146, 147, 148, 149, 150, 151, 152, 153, 154, 155, 156, 157, 158, 159, 160, 161, 162, 163, 164, 165, 166, 167, 168, 169, 170, 171, 172, 173, 174, 175, 176, 177, 178, 179, 180, 181, 182, 183, 184, 185, 186, 187, 188, 189, 190, 191, 192, 193, 194, 195, 196, 197, 198, 199, 200, 201, 202, 203, 204, 205, 206, 207, 208, 209, 210, 211, 212, 213, 214, 215, 216, 217, 218, 219, 220, 221, 222, 223, 224, 225, 226, 227, 228, 229, 230, 231, 232, 233, 234, 235] [6, 7, 8, 9, 10, 11, 12, 13, 14, 15, 16, 17, 22, 23, 24, 25, 26, 27, 28, 29, 30, 31, 32, 33, 34, 35, 36, 37, 38, 39, 40, 41, 42, 43, 44, 45, 46, 47, 48, 49, 50, 51, 52, 53, 54, 55, 56, 57, 58, 59, 60, 61, 62, 63, 64, 65, 66, 67, 68, 69, 70, 71, 72, 73, 74, 75, 76, 77, 78, 79, 80, 81, 82, 83, 84, 85, 86, 87, 88, 89, 90, 91, 92, 93, 94, 95, 96, 97, 98, 99, 100, 101, 102, 103, 104, 105, 106, 107, 108, 109, 110, 111, 112, 113, 114, 115, 116, 117, 118, 119, 120, 121, 122, 123, 124, 125, 126, 127, 128, 129, 130, 131, 132, 133, 134, 135, 136, 137, 138, 139, 140, 141, 142, 143, 144, 145, 146, 147, 148, 149, 150, 151, 152, 153, 154, 155, 156, 157, 158, 159, 160, 161, 162, 163, 164, 165, 166, 167, 168, 169, 170, 171, 172, 173, 174, 175, 176, 177, 178, 179, 180, 181, 182, 183, 184, 185, 186, 187, 188, 189, 190, 191, 192, 193, 194, 195, 196, 197, 198, 199, 200, 201, 202, 203, 204, 205, 206, 207, 208, 209, 210, 211, 212, 213, 214, 215, 216, 217, 218, 219, 220, 221, 222, 223, 224, 225, 226, 227, 228, 229, 230, 231, 232, 233, 234, 235] (fun n vals st => (∃ y8 y9 y10, p_law24_BookKeeps_j_l1  a0 n y8 y9 y10 = some o4 ∧ vals = [.b false, .i y8] ∧ st = [.live [.i y9.Seq, .sl (List.map BookRow.v y9.Rows) true] 0, .live (cellsM PresPres.v y10) 0]) ∨ (∃ y105 y106 y107, p_law24_BookKeeps_j_l1  a0 n y105 y106 y107 = some o4 ∧ vals = [.b false, .i y105] ∧ st = [.live [.i y106.Seq, .sl (List.map BookRow.v y106.Rows) false] 0, .live (cellsM PresPres.v y107) 0])) fuel 2 [] (.inl (⟨_, _, _, HL5, rfl, rfl⟩)) (Nat.zero_le _) rfl (by kernel_rfl) (by kernel_rfl) rfl ⟨⟨rfl, rfl, rfl⟩, wkB_live0 rfl (cellsM_idlt (f := PresPres.v) (fun _ => rfl) _) rfl trivial⟩ ?_
  rintro (_ | n7) _ _ (⟨y8, y9, y10, H, rfl, rfl⟩ | ⟨y105, y106, y107, H, rfl, rfl⟩)
  · rw [p_law24_BookKeeps_j_l1] at H; cases H
  · rw [p_law24_BookKeeps_j_l1] at H; cases H
  · rw [p_law24_BookKeeps_j_l1] at H
    conv => whnf
    refine LenQ.M ?_; conv => whnf
    refine tst_d H (fun b11 H => ?_) (fun b11 H => ?_)
    · conv => whnf
      obtain rfl := Option.some.inj H
      have H := HQ6
      dsimp only at H
      refine ask_c (p_law24_awake_v) H rfl rfl (fun v108 H => ?_); conv => whnf
      exact fin0_c (enc := V.b) H (.inr rfl) (.cons (.tmp rfl) (.nil)) rfl rfl
    conv => whnf
    refine ixs_c (f := Law24Deed.v) H (fun _ => rfl) (fun x12 H => ?_); conv => whnf
    refine ⟨Nat.le_of_ble_eq_true rfl, ?_⟩; conv => whnf
    refine ⟨by decide, ?_⟩; conv => whnf
    refine Ari.w ?_; conv => whnf
    refine b2sO_c H rfl rfl rfl (fun s13 H => ?_); conv => whnf
    refine cat_c H (fun s14 H => ?_); conv => whnf
    refine ixs_c (f := Law24Deed.v) H (fun _ => rfl) (fun x15 H => ?_); conv => whnf
    refine ⟨Nat.le_of_ble_eq_true rfl, ?_⟩; conv => whnf
    refine ⟨by decide, ?_⟩; conv => whnf
    refine Ari.w ?_; conv => whnf
    refine b2sO_c H rfl rfl rfl (fun s16 H => ?_); conv => whnf
    refine FootQ.mk ⟨rfl, ?_⟩; conv => whnf
    refine ixs_c (f := Law24Deed.v) H (fun _ => rfl) (fun x17 H => ?_); conv => whnf
    refine ⟨Nat.le_of_ble_eq_true rfl, ?_⟩; conv => whnf
    refine ⟨by decide, ?_⟩; conv => whnf
    iterate 2 (refine Ari.w ?_; conv => whnf)
    refine ixs_c (f := Law24Deed.v) H (fun _ => rfl) (fun x18 H => ?_); conv => whnf
    refine ⟨Nat.le_of_ble_eq_true rfl, ?_⟩; conv => whnf
    refine ⟨by decide, ?_⟩; conv => whnf
    iterate 2 (refine Ari.w ?_; conv => whnf)
    refine FootQ.mk ⟨rfl, ?_⟩; conv => whnf
    obtain ⟨o20, HL21, HQ22⟩ := bind_c H
    refine loop_c [9, 10] [63, 64, 65, 66, 67, 68, 69, 70, 71, 72, 73, 74, 75, 76, 77, 78, 79, 80, 81, 35, 45] [63, 64, 65, 66, 67, 68, 69, 70, 71, 72, 73, 74, 75, 76, 77, 78, 79, 80, 81, 35, 45] (fun n vals st => (∃ y24 y25, p_law24_BookKeeps_j_l2  a0 y8 y10 n y24 y25 = some o20 ∧ vals = [.i y24, .i y25] ∧ st = [.live [.i y9.Seq, .sl (List.map BookRow.v y9.Rows) true] 0, .live (cellsM PresPres.v y10) 0])) fuel 2 [] (⟨_, _, HL21, rfl, rfl⟩) (Nat.zero_le _) rfl (by kernel_rfl) (by kernel_rfl) rfl ⟨⟨rfl, rfl, rfl⟩, wkB_live0 rfl (cellsM_idlt (f := PresPres.v) (fun _ => rfl) _) rfl trivial⟩ ?_
    rintro (_ | n23) _ _ (⟨y24, y25, H, rfl, rfl⟩)
    · rw [p_law24_BookKeeps_j_l2] at H; cases H
    rw [p_law24_BookKeeps_j_l2] at H
    conv => whnf
    refine tst_c H (fun b26 H => ?_) (fun b26 H => ?_)
    · conv => whnf
      refine ixs_c (f := Law24Deed.v) H (fun _ => rfl) (fun x27 H => ?_); conv => whnf
      refine ⟨Nat.le_of_ble_eq_true rfl, ?_⟩; conv => whnf
      refine ⟨by decide, ?_⟩; conv => whnf
      iterate 3 (refine Ari.w ?_; conv => whnf)
      refine ixa_c H (fun x28 h29 H => ?_); conv => whnf
      refine ldo_c (f := PresPres.v) (es := 4) h29 (fun _ => rfl) 0 (by omega) (by decide) ?_; conv => whnf
      refine tst_d H (fun b30 H => ?_) (fun b30 H => ?_)
      · conv => whnf
        refine Ari.w ?_; conv => whnf
        exact again_c [63, 64, 65, 66, 67, 68, 69, 70, 71, 72, 73, 74, 75, 76, 77, 78, 79, 80, 81, 35, 45] n23 2 [] (⟨_, _, H, rfl, rfl⟩) (Nat.lt_succ_self _) (Nat.zero_le _) rfl (by kernel_rfl) (by kernel_rfl) rfl ⟨⟨rfl, rfl, rfl⟩, wkB_live0 rfl (cellsM_idlt (f := PresPres.v) (fun _ => rfl) _) rfl trivial⟩
      conv => whnf
      iterate 2 (refine Ari.w ?_; conv => whnf)
      exact again_c [63, 64, 65, 66, 67, 68, 69, 70, 71, 72, 73, 74, 75, 76, 77, 78, 79, 80, 81, 35, 45] n23 2 [] (⟨_, _, H, rfl, rfl⟩) (Nat.lt_succ_self _) (Nat.zero_le _) rfl (by kernel_rfl) (by kernel_rfl) rfl ⟨⟨rfl, rfl, rfl⟩, wkB_live0 rfl (cellsM_idlt (f := PresPres.v) (fun _ => rfl) _) rfl trivial⟩
    conv => whnf
    obtain rfl := Option.some.inj H
    have H := HQ22
    dsimp only at H
    refine ⟨Nat.le_of_ble_eq_true rfl, ?_⟩; conv => whnf
    refine ⟨Nat.le_of_ble_eq_true rfl, ?_⟩; conv => whnf
    obtain ⟨K31, hK32, o33, HL34, HQ35⟩ := join0_c H
    refine join_c [2, 13, 3, 4, 11, 12] [84, 85, 86, 87, 88, 89, 90, 91, 92, 93, 94, 95, 96, 97, 98, 99, 100, 101, 102, 103, 104, 105, 106, 107, 108, 109, 110, 111, 112, 113, 114, 115, 116, 117, 118, 119, 120, 121, 122, 123, 124, 125, 126, 127, 128, 129, 130, 131, 132, 133, 134, 135, 136, 137, 138, 139, 140, 141, 142, 143, 144, 145, 146, 147, 148, 149, 150, 151, 152, 153, 154, 155, 156, 157, 158, 159, 160, 161, 162, 163, 164] (fun vals st => (∃ y45 y46 y47, K31 (.inr (y45, y46, y47)) = some o4 ∧ vals = [.b false, .i y45, .ptr 0 0, .ptr 1 0, .ptr 2 0, .ptr 3 0] ∧ st = [.live [.i y9.Seq, .sl (List.map BookRow.v y9.Rows) true] 0, .live (cellsM PresPres.v y10) 0, .live [.i y46.Seq, .sl (List.map BookRow.v y46.Rows) false] 0, .live [.b y47.On, .i y47.Show, .i y47.Prio, .i y47.Seq] 0])) ?_ ?_
    · have H := HL34
      conv => whnf
      refine ixs_c (f := Law24Deed.v) H (fun _ => rfl) (fun x37 H => ?_); conv => whnf
      refine ⟨Nat.le_of_ble_eq_true rfl, ?_⟩; conv => whnf
      refine tst_c H (fun b38 H => ?_) (fun b38 H => ?_)
      · conv => whnf
        refine ask_c (p_book_Off_v _ _ _) H rfl rfl (fun v39 H => ?_); conv => whnf
        refine ⟨Nat.le_of_ble_eq_true rfl, ?_⟩; conv => whnf
        refine ⟨Nat.le_of_ble_eq_true rfl, ?_⟩; conv => whnf
        refine ixa_c H (fun x40 h41 H => ?_); conv => whnf
        refine ldo_c (f := PresPres.v) (es := 4) h41 (fun _ => rfl) 0 (by omega) (by decide) ?_; conv => whnf
        refine tst_c H (fun b42 H => ?_) (fun b42 H => ?_)
        · conv => whnf
          iterate 5 (refine Tst.T ?_; conv => whnf)
          obtain rfl := Option.some.inj H
          have H := HQ35
          rw [hK32] at H
          dsimp only at H
          obtain rfl := Option.some.inj H
          have H := HQ6
          dsimp only at H
          exact fin0_c (enc := V.b) H (.inr rfl) (.cons (.tmp rfl) (.nil)) rfl rfl
        conv => whnf
        iterate 2 (refine Tst.F ?_; conv => whnf)
        refine tst_d H (fun b43 H => ?_) (fun b43 H => ?_)
        · conv => whnf
          iterate 5 (refine Tst.F ?_; conv => whnf)
          obtain rfl := Option.some.inj H
          exact arrive_c [84, 85, 86, 87, 88, 89, 90, 91, 92, 93, 94, 95, 96, 97, 98, 99, 100, 101, 102, 103, 104, 105, 106, 107, 108, 109, 110, 111, 112, 113, 114, 115, 116, 117, 118, 119, 120, 121, 122, 123, 124, 125, 126, 127, 128, 129, 130, 131, 132, 133, 134, 135, 136, 137, 138, 139, 140, 141, 142, 143, 144, 145, 146, 147, 148, 149, 150, 151, 152, 153, 154, 155, 156, 157, 158, 159, 160, 161, 162, 163, 164] 4 [] (⟨_, _, _, HQ35, rfl, rfl⟩) (Nat.zero_le _) rfl (by kernel_rfl) (by kernel_rfl) rfl ⟨⟨rfl, rfl, rfl⟩, wkB_live0 rfl (cellsM_idlt (f := PresPres.v) (fun _ => rfl) _) rfl ⟨⟨rfl, rfl, rfl⟩, ⟨⟨rfl, rfl, rfl⟩, trivial⟩⟩⟩
        conv => whnf
        refine Tst.T ?_; conv => whnf
        refine Tst.F ?_; conv => whnf
        refine Tst.T ?_; conv => whnf
        refine Tst.F ?_; conv => whnf
        refine tst_c H (fun b44 H => ?_) (fun b44 H => ?_)
        · conv => whnf
          obtain rfl := Option.some.inj H
          have H := HQ35
          rw [hK32] at H
          dsimp only at H
          obtain rfl := Option.some.inj H
          have H := HQ6
          dsimp only at H
          exact fin0_c (enc := V.b) H (.inr rfl) (.cons (.tmp rfl) (.nil)) rfl rfl
        conv => whnf
        obtain rfl := Option.some.inj H
        exact arrive_c [84, 85, 86, 87, 88, 89, 90, 91, 92, 93, 94, 95, 96, 97, 98, 99, 100, 101, 102, 103, 104, 105, 106, 107, 108, 109, 110, 111, 112, 113, 114, 115, 116, 117, 118, 119, 120, 121, 122, 123, 124, 125, 126, 127, 128, 129, 130, 131, 132, 133, 134, 135, 136, 137, 138, 139, 140, 141, 142, 143, 144, 145, 146, 147, 148, 149, 150, 151, 152, 153, 154, 155, 156, 157, 158, 159, 160, 161, 162, 163, 164] 4 [] (⟨_, _, _, HQ35, rfl, rfl⟩) (Nat.zero_le _) rfl (by kernel_rfl) (by kernel_rfl) rfl ⟨⟨rfl, rfl, rfl⟩, wkB_live0 rfl (cellsM_idlt (f := PresPres.v) (fun _ => rfl) _) rfl ⟨⟨rfl, rfl, rfl⟩, ⟨⟨rfl, rfl, rfl⟩, trivial⟩⟩⟩
      conv => whnf
      refine ixs_c (f := Law24Deed.v) H (fun _ => rfl) (fun x48 H => ?_); conv => whnf
      refine ⟨Nat.le_of_ble_eq_true rfl, ?_⟩; conv => whnf
      refine ⟨by decide, ?_⟩; conv => whnf
      refine Ari.w ?_; conv => whnf
      refine ask_c (p_book_Set_v _ _ _ _ _) H rfl rfl (fun v49 H => ?_); conv => whnf
      refine ⟨Nat.le_of_ble_eq_true rfl, ?_⟩; conv => whnf
      refine ⟨Nat.le_of_ble_eq_true rfl, ?_⟩; conv => whnf
      refine FootQ.mk ⟨rfl, ?_⟩; conv => whnf
      refine ixa_c H (fun x50 h51 H => ?_); conv => whnf
      refine ldo_c (f := PresPres.v) (es := 4) h51 (fun _ => rfl) 0 (by omega) (by decide) ?_; conv => whnf
      refine tst_c H (fun b52 H => ?_) (fun b52 H => ?_)
      · conv => whnf
        iterate 4 (refine Tst.T ?_; conv => whnf)
        refine tst_c H (fun b53 H => ?_) (fun b53 H => ?_)
        · conv => whnf
          iterate 4 (refine Tst.T ?_; conv => whnf)
          refine FootQ.mk ⟨rfl, ?_⟩; conv => whnf
          refine Tst.T ?_; conv => whnf
          obtain rfl := Option.some.inj H
          have H := HQ35
          rw [hK32] at H
          dsimp only at H
          obtain rfl := Option.some.inj H
          have H := HQ6
          dsimp only at H
          exact fin0_c (enc := V.b) H (.inr rfl) (.cons (.tmp rfl) (.nil)) rfl rfl
        conv => whnf
        iterate 2 (refine Tst.F ?_; conv => whnf)
        refine tst_d H (fun b54 H => ?_) (fun b54 H => ?_)
        · conv => whnf
          iterate 7 (refine Tst.F ?_; conv => whnf)
          refine FootQ.mk ⟨rfl, ?_⟩; conv => whnf
          refine Tst.F ?_; conv => whnf
          obtain rfl := Option.some.inj H
          exact arrive_c [84, 85, 86, 87, 88, 89, 90, 91, 92, 93, 94, 95, 96, 97, 98, 99, 100, 101, 102, 103, 104, 105, 106, 107, 108, 109, 110, 111, 112, 113, 114, 115, 116, 117, 118, 119, 120, 121, 122, 123, 124, 125, 126, 127, 128, 129, 130, 131, 132, 133, 134, 135, 136, 137, 138, 139, 140, 141, 142, 143, 144, 145, 146, 147, 148, 149, 150, 151, 152, 153, 154, 155, 156, 157, 158, 159, 160, 161, 162, 163, 164] 4 [] (⟨_, _, _, HQ35, rfl, rfl⟩) (Nat.zero_le _) rfl (by kernel_rfl) (by kernel_rfl) rfl ⟨⟨rfl, rfl, rfl⟩, wkB_live0 rfl (cellsM_idlt (f := PresPres.v) (fun _ => rfl) _) rfl ⟨⟨rfl, rfl, rfl⟩, ⟨⟨rfl, rfl, rfl⟩, trivial⟩⟩⟩
        conv => whnf
        iterate 3 (refine Tst.T ?_; conv => whnf)
        refine Tst.not ?_
        refine tst_d H (fun b55 H => ?_) (fun b55 H => ?_)
        · conv => whnf
          iterate 11 (refine Tst.T ?_; conv => whnf)
          refine Tst.F ?_; conv => whnf
          refine Tst.T ?_; conv => whnf
          refine Tst.F ?_; conv => whnf
          refine FootQ.mk ⟨rfl, ?_⟩; conv => whnf
          refine Tst.T ?_; conv => whnf
          obtain rfl := Option.some.inj H
          have H := HQ35
          rw [hK32] at H
          dsimp only at H
          obtain rfl := Option.some.inj H
          have H := HQ6
          dsimp only at H
          exact fin0_c (enc := V.b) H (.inr rfl) (.cons (.tmp rfl) (.nil)) rfl rfl
        conv => whnf
        iterate 4 (refine Tst.F ?_; conv => whnf)
        refine ixs_c (f := Law24Deed.v) H (fun _ => rfl) (fun x56 H => ?_); conv => whnf
        refine Tst.F ?_; conv => whnf
        refine ⟨Nat.le_of_ble_eq_true rfl, ?_⟩; conv => whnf
        iterate 2 (refine Tst.F ?_; conv => whnf)
        refine ⟨by decide, ?_⟩; conv => whnf
        refine Tst.F ?_; conv => whnf
        refine Ari.w ?_; conv => whnf
        refine Tst.F ?_; conv => whnf
        refine Tst.T ?_; conv => whnf
        iterate 2 (refine Tst.F ?_; conv => whnf)
        refine Tst.T ?_; conv => whnf
        refine Tst.F ?_; conv => whnf
        refine FootQ.mk ⟨rfl, ?_⟩; conv => whnf
        refine tst_c H (fun b57 H => ?_) (fun b57 H => ?_)
        · conv => whnf
          obtain rfl := Option.some.inj H
          have H := HQ35
          rw [hK32] at H
          dsimp only at H
          obtain rfl := Option.some.inj H
          have H := HQ6
          dsimp only at H
          exact fin0_c (enc := V.b) H (.inr rfl) (.cons (.tmp rfl) (.nil)) rfl rfl
        conv => whnf
        obtain rfl := Option.some.inj H
        exact arrive_c [84, 85, 86, 87, 88, 89, 90, 91, 92, 93, 94, 95, 96, 97, 98, 99, 100, 101, 102, 103, 104, 105, 106, 107, 108, 109, 110, 111, 112, 113, 114, 115, 116, 117, 118, 119, 120, 121, 122, 123, 124, 125, 126, 127, 128, 129, 130, 131, 132, 133, 134, 135, 136, 137, 138, 139, 140, 141, 142, 143, 144, 145, 146, 147, 148, 149, 150, 151, 152, 153, 154, 155, 156, 157, 158, 159, 160, 161, 162, 163, 164] 4 [] (⟨_, _, _, HQ35, rfl, rfl⟩) (Nat.zero_le _) rfl (by kernel_rfl) (by kernel_rfl) rfl ⟨⟨rfl, rfl, rfl⟩, wkB_live0 rfl (cellsM_idlt (f := PresPres.v) (fun _ => rfl) _) rfl ⟨⟨rfl, rfl, rfl⟩, ⟨⟨rfl, rfl, rfl⟩, trivial⟩⟩⟩
      conv => whnf
      iterate 2 (refine Tst.F ?_; conv => whnf)
      refine tst_d H (fun b58 H => ?_) (fun b58 H => ?_)
      · conv => whnf
        iterate 6 (refine Tst.F ?_; conv => whnf)
        refine tst_c H (fun b64 H => ?_) (fun b64 H => ?_)
        · conv => whnf
          iterate 4 (refine Tst.T ?_; conv => whnf)
          refine FootQ.mk ⟨rfl, ?_⟩; conv => whnf
          refine Tst.T ?_; conv => whnf
          obtain rfl := Option.some.inj H
          have H := HQ35
          rw [hK32] at H
          dsimp only at H
          obtain rfl := Option.some.inj H
          have H := HQ6
          dsimp only at H
          exact fin0_c (enc := V.b) H (.inr rfl) (.cons (.tmp rfl) (.nil)) rfl rfl
        conv => whnf
        iterate 2 (refine Tst.F ?_; conv => whnf)
        refine tst_d H (fun b65 H => ?_) (fun b65 H => ?_)
        · conv => whnf
          iterate 7 (refine Tst.F ?_; conv => whnf)
          refine FootQ.mk ⟨rfl, ?_⟩; conv => whnf
          refine Tst.F ?_; conv => whnf
          obtain rfl := Option.some.inj H
          exact arrive_c [84, 85, 86, 87, 88, 89, 90, 91, 92, 93, 94, 95, 96, 97, 98, 99, 100, 101, 102, 103, 104, 105, 106, 107, 108, 109, 110, 111, 112, 113, 114, 115, 116, 117, 118, 119, 120, 121, 122, 123, 124, 125, 126, 127, 128, 129, 130, 131, 132, 133, 134, 135, 136, 137, 138, 139, 140, 141, 142, 143, 144, 145, 146, 147, 148, 149, 150, 151, 152, 153, 154, 155, 156, 157, 158, 159, 160, 161, 162, 163, 164] 4 [] (⟨_, _, _, HQ35, rfl, rfl⟩) (Nat.zero_le _) rfl (by kernel_rfl) (by kernel_rfl) rfl ⟨⟨rfl, rfl, rfl⟩, wkB_live0 rfl (cellsM_idlt (f := PresPres.v) (fun _ => rfl) _) rfl ⟨⟨rfl, rfl, rfl⟩, ⟨⟨rfl, rfl, rfl⟩, trivial⟩⟩⟩
        conv => whnf
        iterate 3 (refine Tst.T ?_; conv => whnf)
        refine Tst.not ?_
        refine tst_d H (fun b66 H => ?_) (fun b66 H => ?_)
        · conv => whnf
          iterate 11 (refine Tst.T ?_; conv => whnf)
          refine Tst.F ?_; conv => whnf
          refine Tst.T ?_; conv => whnf
          refine Tst.F ?_; conv => whnf
          refine FootQ.mk ⟨rfl, ?_⟩; conv => whnf
          refine Tst.T ?_; conv => whnf
          obtain rfl := Option.some.inj H
          have H := HQ35
          rw [hK32] at H
          dsimp only at H
          obtain rfl := Option.some.inj H
          have H := HQ6
          dsimp only at H
          exact fin0_c (enc := V.b) H (.inr rfl) (.cons (.tmp rfl) (.nil)) rfl rfl
        conv => whnf
        iterate 4 (refine Tst.F ?_; conv => whnf)
        refine ixs_c (f := Law24Deed.v) H (fun _ => rfl) (fun x67 H => ?_); conv => whnf
        refine Tst.F ?_; conv => whnf
        refine ⟨Nat.le_of_ble_eq_true rfl, ?_⟩; conv => whnf
        iterate 2 (refine Tst.F ?_; conv => whnf)
        refine ⟨by decide, ?_⟩; conv => whnf
        refine Tst.F ?_; conv => whnf
        refine Ari.w ?_; conv => whnf
        refine Tst.F ?_; conv => whnf
        refine Tst.T ?_; conv => whnf
        iterate 2 (refine Tst.F ?_; conv => whnf)
        refine Tst.T ?_; conv => whnf
        refine Tst.F ?_; conv => whnf
        refine FootQ.mk ⟨rfl, ?_⟩; conv => whnf
        refine tst_c H (fun b68 H => ?_) (fun b68 H => ?_)
        · conv => whnf
          obtain rfl := Option.some.inj H
          have H := HQ35
          rw [hK32] at H
          dsimp only at H
          obtain rfl := Option.some.inj H
          have H := HQ6
          dsimp only at H
          exact fin0_c (enc := V.b) H (.inr rfl) (.cons (.tmp rfl) (.nil)) rfl rfl
        conv => whnf
        obtain rfl := Option.some.inj H
        exact arrive_c [84, 85, 86, 87, 88, 89, 90, 91, 92, 93, 94, 95, 96, 97, 98, 99, 100, 101, 102, 103, 104, 105, 106, 107, 108, 109, 110, 111, 112, 113, 114, 115, 116, 117, 118, 119, 120, 121, 122, 123, 124, 125, 126, 127, 128, 129, 130, 131, 132, 133, 134, 135, 136, 137, 138, 139, 140, 141, 142, 143, 144, 145, 146, 147, 148, 149, 150, 151, 152, 153, 154, 155, 156, 157, 158, 159, 160, 161, 162, 163, 164] 4 [] (⟨_, _, _, HQ35, rfl, rfl⟩) (Nat.zero_le _) rfl (by kernel_rfl) (by kernel_rfl) rfl ⟨⟨rfl, rfl, rfl⟩, wkB_live0 rfl (cellsM_idlt (f := PresPres.v) (fun _ => rfl) _) rfl ⟨⟨rfl, rfl, rfl⟩, ⟨⟨rfl, rfl, rfl⟩, trivial⟩⟩⟩
      conv => whnf
      iterate 2 (refine Tst.T ?_; conv => whnf)
      refine LenQ.M ?_; conv => whnf
      refine Tst.T ?_; conv => whnf
      refine Tst.F ?_; conv => whnf
      refine Tst.T ?_; conv => whnf
      refine Tst.F ?_; conv => whnf
      refine tst_c H (fun b59 H => ?_) (fun b59 H => ?_)
      · conv => whnf
        iterate 4 (refine Tst.T ?_; conv => whnf)
        refine FootQ.mk ⟨rfl, ?_⟩; conv => whnf
        refine Tst.T ?_; conv => whnf
        obtain rfl := Option.some.inj H
        have H := HQ35
        rw [hK32] at H
        dsimp only at H
        obtain rfl := Option.some.inj H
        have H := HQ6
        dsimp only at H
        exact fin0_c (enc := V.b) H (.inr rfl) (.cons (.tmp rfl) (.nil)) rfl rfl
      conv => whnf
      iterate 2 (refine Tst.F ?_; conv => whnf)
      refine tst_d H (fun b60 H => ?_) (fun b60 H => ?_)
      · conv => whnf
        iterate 7 (refine Tst.F ?_; conv => whnf)
        refine FootQ.mk ⟨rfl, ?_⟩; conv => whnf
        refine Tst.F ?_; conv => whnf
        obtain rfl := Option.some.inj H
        exact arrive_c [84, 85, 86, 87, 88, 89, 90, 91, 92, 93, 94, 95, 96, 97, 98, 99, 100, 101, 102, 103, 104, 105, 106, 107, 108, 109, 110, 111, 112, 113, 114, 115, 116, 117, 118, 119, 120, 121, 122, 123, 124, 125, 126, 127, 128, 129, 130, 131, 132, 133, 134, 135, 136, 137, 138, 139, 140, 141, 142, 143, 144, 145, 146, 147, 148, 149, 150, 151, 152, 153, 154, 155, 156, 157, 158, 159, 160, 161, 162, 163, 164] 4 [] (⟨_, _, _, HQ35, rfl, rfl⟩) (Nat.zero_le _) rfl (by kernel_rfl) (by kernel_rfl) rfl ⟨⟨rfl, rfl, rfl⟩, wkB_live0 rfl (cellsM_idlt (f := PresPres.v) (fun _ => rfl) _) rfl ⟨⟨rfl, rfl, rfl⟩, ⟨⟨rfl, rfl, rfl⟩, trivial⟩⟩⟩
      conv => whnf
      iterate 3 (refine Tst.T ?_; conv => whnf)
      refine Tst.not ?_
      refine tst_d H (fun b61 H => ?_) (fun b61 H => ?_)
      · conv => whnf
        iterate 11 (refine Tst.T ?_; conv => whnf)
        refine Tst.F ?_; conv => whnf
        refine Tst.T ?_; conv => whnf
        refine Tst.F ?_; conv => whnf
        refine FootQ.mk ⟨rfl, ?_⟩; conv => whnf
        refine Tst.T ?_; conv => whnf
        obtain rfl := Option.some.inj H
        have H := HQ35
        rw [hK32] at H
        dsimp only at H
        obtain rfl := Option.some.inj H
        have H := HQ6
        dsimp only at H
        exact fin0_c (enc := V.b) H (.inr rfl) (.cons (.tmp rfl) (.nil)) rfl rfl
      conv => whnf
      iterate 4 (refine Tst.F ?_; conv => whnf)
      refine ixs_c (f := Law24Deed.v) H (fun _ => rfl) (fun x62 H => ?_); conv => whnf
      refine Tst.F ?_; conv => whnf
      refine ⟨Nat.le_of_ble_eq_true rfl, ?_⟩; conv => whnf
      iterate 2 (refine Tst.F ?_; conv => whnf)
      refine ⟨by decide, ?_⟩; conv => whnf
      refine Tst.F ?_; conv => whnf
      refine Ari.w ?_; conv => whnf
      refine Tst.F ?_; conv => whnf
      refine Tst.T ?_; conv => whnf
      iterate 2 (refine Tst.F ?_; conv => whnf)
      refine Tst.T ?_; conv => whnf
      refine Tst.F ?_; conv => whnf
      refine FootQ.mk ⟨rfl, ?_⟩; conv => whnf
      refine tst_c H (fun b63 H => ?_) (fun b63 H => ?_)
      · conv => whnf
        obtain rfl := Option.some.inj H
        have H := HQ35
        rw [hK32] at H
        dsimp only at H
        obtain rfl := Option.some.inj H
        have H := HQ6
        dsimp only at H
        exact fin0_c (enc := V.b) H (.inr rfl) (.cons (.tmp rfl) (.nil)) rfl rfl
      conv => whnf
      obtain rfl := Option.some.inj H
      exact arrive_c [84, 85, 86, 87, 88, 89, 90, 91, 92, 93, 94, 95, 96, 97, 98, 99, 100, 101, 102, 103, 104, 105, 106, 107, 108, 109, 110, 111, 112, 113, 114, 115, 116, 117, 118, 119, 120, 121, 122, 123, 124, 125, 126, 127, 128, 129, 130, 131, 132, 133, 134, 135, 136, 137, 138, 139, 140, 141, 142, 143, 144, 145, 146, 147, 148, 149, 150, 151, 152, 153, 154, 155, 156, 157, 158, 159, 160, 161, 162, 163, 164] 4 [] (⟨_, _, _, HQ35, rfl, rfl⟩) (Nat.zero_le _) rfl (by kernel_rfl) (by kernel_rfl) rfl ⟨⟨rfl, rfl, rfl⟩, wkB_live0 rfl (cellsM_idlt (f := PresPres.v) (fun _ => rfl) _) rfl ⟨⟨rfl, rfl, rfl⟩, ⟨⟨rfl, rfl, rfl⟩, trivial⟩⟩⟩
    rintro _ _ (⟨y45, y46, y47, H, rfl, rfl⟩)
    rw [hK32] at H
    dsimp only at H
    conv => whnf
    obtain ⟨K69, hK70, o71, HL72, HQ73⟩ := join0_c H
    refine join_c [2, 3, 4, 11] [165, 166, 167, 168, 169, 170, 171, 172, 173, 174, 175, 176, 177, 178, 179, 180, 181, 182, 183, 184, 185, 12] (fun vals st => (∃ y80, K69 (.inr y80) = some o4 ∧ vals = [.b false, .ptr 0 0, .ptr 1 0, .ptr 2 0] ∧ st = [.live [.i y9.Seq, .sl (List.map BookRow.v y9.Rows) true] 0, .live (cellsM PresPres.v y80) 0, .live [.i y46.Seq, .sl (List.map BookRow.v y46.Rows) false] 0])) ?_ ?_
    · have H := HL72
      conv => whnf
      refine tst_d H (fun b75 H => ?_) (fun b75 H => ?_)
      · conv => whnf
        refine ask_c (p_book_Same_v _ _) H rfl rfl (fun v81 H => ?_); conv => whnf
        refine Tst.not ?_
        refine tst_d H (fun b82 H => ?_) (fun b82 H => ?_)
        · conv => whnf
          obtain rfl := Option.some.inj H
          have H := HQ73
          rw [hK70] at H
          dsimp only at H
          obtain rfl := Option.some.inj H
          have H := HQ6
          dsimp only at H
          exact fin0_c (enc := V.b) H (.inr rfl) (.cons (.tmp rfl) (.nil)) rfl rfl
        conv => whnf
        obtain rfl := Option.some.inj H
        exact arrive_c [165, 166, 167, 168, 169, 170, 171, 172, 173, 174, 175, 176, 177, 178, 179, 180, 181, 182, 183, 184, 185, 12] 3 [] (⟨_, HQ73, rfl, rfl⟩) (Nat.zero_le _) rfl (by kernel_rfl) (by kernel_rfl) rfl ⟨⟨rfl, rfl, rfl⟩, wkB_live0 rfl (cellsM_idlt (f := PresPres.v) (fun _ => rfl) _) rfl ⟨⟨rfl, rfl, rfl⟩, trivial⟩⟩
      conv => whnf
      refine tst_c H (fun b76 H => ?_) (fun b76 H => ?_)
      · conv => whnf
        iterate 6 (refine Tst.T ?_; conv => whnf)
        obtain rfl := Option.some.inj H
        have H := HQ73
        rw [hK70] at H
        dsimp only at H
        obtain rfl := Option.some.inj H
        have H := HQ6
        dsimp only at H
        exact fin0_c (enc := V.b) H (.inr rfl) (.cons (.tmp rfl) (.nil)) rfl rfl
      conv => whnf
      iterate 5 (refine Tst.F ?_; conv => whnf)
      refine tst_c H (fun b77 H => ?_) (fun b77 H => ?_)
      · conv => whnf
        obtain rfl := Option.some.inj H
        have H := HQ73
        rw [hK70] at H
        dsimp only at H
        obtain rfl := Option.some.inj H
        have H := HQ6
        dsimp only at H
        exact fin0_c (enc := V.b) H (.inr rfl) (.cons (.tmp rfl) (.nil)) rfl rfl
      conv => whnf
      refine ixa_c H (fun x78 h79 H => ?_); conv => whnf
      refine ⟨Nat.zero_le _, sto_c (f := PresPres.v) (es := 4) h79 (x' := y47) (fun _ => rfl) 0 (by omega) (Nat.le_of_ble_eq_true rfl) (by rfl) ?_⟩; conv => whnf
      obtain rfl := Option.some.inj H
      exact arrive_c [165, 166, 167, 168, 169, 170, 171, 172, 173, 174, 175, 176, 177, 178, 179, 180, 181, 182, 183, 184, 185, 12] 3 [] (⟨_, HQ73, rfl, rfl⟩) (Nat.zero_le _) rfl (by kernel_rfl) (by kernel_rfl) rfl ⟨⟨rfl, rfl, rfl⟩, wkB_live0 rfl (cellsM_idlt (f := PresPres.v) (fun _ => rfl) _) rfl ⟨⟨rfl, rfl, rfl⟩, trivial⟩⟩
    rintro _ _ (⟨y80, H, rfl, rfl⟩)
    rw [hK70] at H
    dsimp only at H
    conv => whnf
    refine ask_c (p_book_Check_v _) H rfl rfl (fun v83 H => ?_); conv => whnf
    refine tst_c H (fun b84 H => ?_) (fun b84 H => ?_)
    · conv => whnf
      obtain rfl := Option.some.inj H
      have H := HQ6
      dsimp only at H
      exact fin0_c (enc := V.b) H (.inr rfl) (.cons (.tmp rfl) (.nil)) rfl rfl
    conv => whnf
    obtain ⟨o86, HL87, HQ88⟩ := bind_c H
    refine loop_c [2, 14, 15] [16, 17, 189, 190, 191, 192, 193, 194, 195, 196, 197, 198, 199, 200, 201, 202, 203, 204, 205, 206, 207, 208, 209, 210, 211, 212, 213, 214, 215, 216, 217, 218, 219, 220, 221, 222, 223, 224, 225, 226, 227, 228, 229] [16, 17, 189, 190, 191, 192, 193, 194, 195, 196, 197, 198, 199, 200, 201, 202, 203, 204, 205, 206, 207, 208, 209, 210, 211, 212, 213, 214, 215, 216, 217, 218, 219, 220, 221, 222, 223, 224, 225, 226, 227, 228, 229] (fun n vals st => (∃ y90 y91, p_law24_BookKeeps_j_l3  y46 y80 n y90 y91 = some o86 ∧ vals = [.b false, .i y90, .i y91] ∧ st = [.live [.i y9.Seq, .sl (List.map BookRow.v y9.Rows) true] 0, .live (cellsM PresPres.v y80) 0, .live [.i y46.Seq, .sl (List.map BookRow.v y46.Rows) false] 0])) fuel 3 [] (⟨_, _, HL87, rfl, rfl⟩) (Nat.zero_le _) rfl (by kernel_rfl) (by kernel_rfl) rfl ⟨⟨rfl, rfl, rfl⟩, wkB_live0 rfl (cellsM_idlt (f := PresPres.v) (fun _ => rfl) _) rfl ⟨⟨rfl, rfl, rfl⟩, trivial⟩⟩ ?_
    rintro (_ | n89) _ _ (⟨y90, y91, H, rfl, rfl⟩)
    · rw [p_law24_BookKeeps_j_l3] at H; cases H
    rw [p_law24_BookKeeps_j_l3] at H
    conv => whnf
    refine tst_d H (fun b92 H => ?_) (fun b92 H => ?_)
    · conv => whnf
      obtain rfl := Option.some.inj H
      have H := HQ88
      dsimp only at H
      refine LenQ.M ?_; conv => whnf
      refine tst_c H (fun b104 H => ?_) (fun b104 H => ?_)
      · conv => whnf
        obtain rfl := Option.some.inj H
        have H := HQ6
        dsimp only at H
        exact fin0_c (enc := V.b) H (.inr rfl) (.cons (.tmp rfl) (.nil)) rfl rfl
      conv => whnf
      refine ⟨Nat.le_of_ble_eq_true rfl, ?_⟩; conv => whnf
      refine Ari.w ?_; conv => whnf
      exact again_c [6, 7, 8, 9, 10, 11, 12, 13, 14, 15, 16, 17, 22, 23, 24, 25, 26, 27, 28, 29, 30, 31, 32, 33, 34, 35, 36, 37, 38, 39, 40, 41, 42, 43, 44, 45, 46, 47, 48, 49, 50, 51, 52, 53, 54, 55, 56, 57, 58, 59, 60, 61, 62, 63, 64, 65, 66, 67, 68, 69, 70, 71, 72, 73, 74, 75, 76, 77, 78, 79, 80, 81, 82, 83, 84, 85, 86, 87, 88, 89, 90, 91, 92, 93, 94, 95, 96, 97, 98, 99, 100, 101, 102, 103, 104, 105, 106, 107, 108, 109, 110, 111, 112, 113, 114, 115, 116, 117, 118, 119, 120, 121, 122, 123, 124, 125, 126, 127, 128, 129, 130, 131, 132, 133, 134, 135, 136, 137, 138, 139, 140, 141, 142, 143, 144, 145, 146, 147, 148, 149, 150, 151, 152, 153, 154, 155, 156, 157, 158, 159, 160, 161, 162, 163, 164, 165, 166, 167, 168, 169, 170, 171, 172, 173, 174, 175, 176, 177, 178, 179, 180, 181, 182, 183, 184, 185, 186, 187, 188, 189, 190, 191, 192, 193, 194, 195, 196, 197, 198, 199, 200, 201, 202, 203, 204, 205, 206, 207, 208, 209, 210, 211, 212, 213, 214, 215, 216, 217, 218, 219, 220, 221, 222, 223, 224, 225, 226, 227, 228, 229, 230, 231, 232, 233, 234, 235] n7 2 [] (.inr (⟨_, _, _, H, rfl, rfl⟩)) (Nat.lt_succ_self _) (Nat.zero_le _) rfl (by kernel_rfl) (by kernel_rfl) rfl ⟨⟨rfl, rfl, rfl⟩, wkB_live0 rfl (cellsM_idlt (f := PresPres.v) (fun _ => rfl) _) rfl trivial⟩
    conv => whnf
    refine ⟨by decide, Ari.w ?_⟩; conv => whnf
    iterate 2 (refine Ari.w ?_; conv => whnf)
    refine b2sO_c H rfl rfl rfl (fun s93 H => ?_); conv => whnf
    refine cat_c H (fun s94 H => ?_); conv => whnf
    refine ⟨by decide, ?_⟩; conv => whnf
    iterate 2 (refine Ari.w ?_; conv => whnf)
    refine b2sO_c H rfl rfl rfl (fun s95 H => ?_); conv => whnf
    refine ask_c (p_book_Get_v _ _ _) H rfl rfl (fun v96 H => ?_); conv => whnf
    refine ⟨Nat.le_of_ble_eq_true rfl, ?_⟩; conv => whnf
    refine ixa_c H (fun x97 h98 H => ?_); conv => whnf
    refine ldo_c (f := PresPres.v) (es := 4) h98 (fun _ => rfl) 0 (by omega) (by decide) ?_; conv => whnf
    refine tst_c H (fun b99 H => ?_) (fun b99 H => ?_)
    · conv => whnf
      iterate 3 (refine Tst.T ?_; conv => whnf)
      refine FootQ.mk ⟨rfl, ?_⟩; conv => whnf
      refine Tst.T ?_; conv => whnf
      obtain rfl := Option.some.inj H
      have H := HQ88
      dsimp only at H
      obtain rfl := Option.some.inj H
      have H := HQ6
      dsimp only at H
      exact fin0_c (enc := V.b) H (.inr rfl) (.cons (.tmp rfl) (.nil)) rfl rfl
    conv => whnf
    refine Tst.F ?_; conv => whnf
    refine tst_d H (fun b100 H => ?_) (fun b100 H => ?_)
    · conv => whnf
      iterate 7 (refine Tst.F ?_; conv => whnf)
      refine FootQ.mk ⟨rfl, ?_⟩; conv => whnf
      refine Tst.F ?_; conv => whnf
      refine Tst.isF b100 ?_; conv => whnf
      refine Ari.w ?_; conv => whnf
      exact again_c [16, 17, 189, 190, 191, 192, 193, 194, 195, 196, 197, 198, 199, 200, 201, 202, 203, 204, 205, 206, 207, 208, 209, 210, 211, 212, 213, 214, 215, 216, 217, 218, 219, 220, 221, 222, 223, 224, 225, 226, 227, 228, 229] n89 3 [] (⟨_, _, H, rfl, rfl⟩) (Nat.lt_succ_self _) (Nat.zero_le _) rfl (by kernel_rfl) (by kernel_rfl) rfl ⟨⟨rfl, rfl, rfl⟩, wkB_live0 rfl (cellsM_idlt (f := PresPres.v) (fun _ => rfl) _) rfl ⟨⟨rfl, rfl, rfl⟩, trivial⟩⟩
    conv => whnf
    iterate 2 (refine Tst.T ?_; conv => whnf)
    refine ixa_c H (fun x101 h102 H => ?_); conv => whnf
    refine Tst.T ?_; conv => whnf
    refine ldo_c (f := PresPres.v) (es := 4) h102 (fun _ => rfl) 0 (by omega) (by decide) ?_; conv => whnf
    refine Tst.T ?_; conv => whnf
    refine Tst.F ?_; conv => whnf
    refine Tst.T ?_; conv => whnf
    refine Tst.F ?_; conv => whnf
    refine FootQ.mk ⟨rfl, ?_⟩; conv => whnf
    refine Tst.not ?_
    refine tst_d H (fun b103 H => ?_) (fun b103 H => ?_)
    · conv => whnf
      obtain rfl := Option.some.inj H
      have H := HQ88
      dsimp only at H
      obtain rfl := Option.some.inj H
      have H := HQ6
      dsimp only at H
      exact fin0_c (enc := V.b) H (.inr rfl) (.cons (.tmp rfl) (.nil)) rfl rfl
    conv => whnf
    refine Tst.isT b100 ?_; conv => whnf
    iterate 2 (refine Ari.w ?_; conv => whnf)
    exact again_c [16, 17, 189, 190, 191, 192, 193, 194, 195, 196, 197, 198, 199, 200, 201, 202, 203, 204, 205, 206, 207, 208, 209, 210, 211, 212, 213, 214, 215, 216, 217, 218, 219, 220, 221, 222, 223, 224, 225, 226, 227, 228, 229] n89 3 [] (⟨_, _, H, rfl, rfl⟩) (Nat.lt_succ_self _) (Nat.zero_le _) rfl (by kernel_rfl) (by kernel_rfl) rfl ⟨⟨rfl, rfl, rfl⟩, wkB_live0 rfl (cellsM_idlt (f := PresPres.v) (fun _ => rfl) _) rfl ⟨⟨rfl, rfl, rfl⟩, trivial⟩⟩
  rw [p_law24_BookKeeps_j_l1] at H
  conv => whnf
  refine LenQ.M ?_; conv => whnf
  refine tst_d H (fun b109 H => ?_) (fun b109 H => ?_)
  · conv => whnf
    obtain rfl := Option.some.inj H
    have H := HQ6
    dsimp only at H
    refine ask_c (p_law24_awake_v) H rfl rfl (fun v203 H => ?_); conv => whnf
    exact fin0_c (enc := V.b) H (.inr rfl) (.cons (.tmp rfl) (.nil)) rfl rfl
  conv => whnf
  refine ixs_c (f := Law24Deed.v) H (fun _ => rfl) (fun x110 H => ?_); conv => whnf
  refine ⟨Nat.le_of_ble_eq_true rfl, ?_⟩; conv => whnf
  refine ⟨by decide, ?_⟩; conv => whnf
  refine Ari.w ?_; conv => whnf
  refine b2sO_c H rfl rfl rfl (fun s111 H => ?_); conv => whnf
  refine cat_c H (fun s112 H => ?_); conv => whnf
  refine ixs_c (f := Law24Deed.v) H (fun _ => rfl) (fun x113 H => ?_); conv => whnf
  refine ⟨Nat.le_of_ble_eq_true rfl, ?_⟩; conv => whnf
  refine ⟨by decide, ?_⟩; conv => whnf
  refine Ari.w ?_; conv => whnf
  refine b2sO_c H rfl rfl rfl (fun s114 H => ?_); conv => whnf
  refine FootQ.mk ⟨rfl, ?_⟩; conv => whnf
  refine ixs_c (f := Law24Deed.v) H (fun _ => rfl) (fun x115 H => ?_); conv => whnf
  refine ⟨Nat.le_of_ble_eq_true rfl, ?_⟩; conv => whnf
  refine ⟨by decide, ?_⟩; conv => whnf
  iterate 2 (refine Ari.w ?_; conv => whnf)
  refine ixs_c (f := Law24Deed.v) H (fun _ => rfl) (fun x116 H => ?_); conv => whnf
  refine ⟨Nat.le_of_ble_eq_true rfl, ?_⟩; conv => whnf
  refine ⟨by decide, ?_⟩; conv => whnf
  iterate 2 (refine Ari.w ?_; conv => whnf)
  refine FootQ.mk ⟨rfl, ?_⟩; conv => whnf
  obtain ⟨o118, HL119, HQ120⟩ := bind_c H
  refine loop_c [9, 10] [63, 64, 65, 66, 67, 68, 69, 70, 71, 72, 73, 74, 75, 76, 77, 78, 79, 80, 81, 35, 45] [63, 64, 65, 66, 67, 68, 69, 70, 71, 72, 73, 74, 75, 76, 77, 78, 79, 80, 81, 35, 45] (fun n vals st => (∃ y122 y123, p_law24_BookKeeps_j_l2  a0 y105 y107 n y122 y123 = some o118 ∧ vals = [.i y122, .i y123] ∧ st = [.live [.i y106.Seq, .sl (List.map BookRow.v y106.Rows) false] 0, .live (cellsM PresPres.v y107) 0])) fuel 2 [] (⟨_, _, HL119, rfl, rfl⟩) (Nat.zero_le _) rfl (by kernel_rfl) (by kernel_rfl) rfl ⟨⟨rfl, rfl, rfl⟩, wkB_live0 rfl (cellsM_idlt (f := PresPres.v) (fun _ => rfl) _) rfl trivial⟩ ?_
  rintro (_ | n121) _ _ (⟨y122, y123, H, rfl, rfl⟩)
  · rw [p_law24_BookKeeps_j_l2] at H; cases H
  rw [p_law24_BookKeeps_j_l2] at H
  conv => whnf
  refine tst_c H (fun b124 H => ?_) (fun b124 H => ?_)
  · conv => whnf
    refine ixs_c (f := Law24Deed.v) H (fun _ => rfl) (fun x125 H => ?_); conv => whnf
    refine ⟨Nat.le_of_ble_eq_true rfl, ?_⟩; conv => whnf
    refine ⟨by decide, ?_⟩; conv => whnf
    iterate 3 (refine Ari.w ?_; conv => whnf)
    refine ixa_c H (fun x126 h127 H => ?_); conv => whnf
    refine ldo_c (f := PresPres.v) (es := 4) h127 (fun _ => rfl) 0 (by omega) (by decide) ?_; conv => whnf
    refine tst_d H (fun b128 H => ?_) (fun b128 H => ?_)
    · conv => whnf
      refine Ari.w ?_; conv => whnf
      exact again_c [63, 64, 65, 66, 67, 68, 69, 70, 71, 72, 73, 74, 75, 76, 77, 78, 79, 80, 81, 35, 45] n121 2 [] (⟨_, _, H, rfl, rfl⟩) (Nat.lt_succ_self _) (Nat.zero_le _) rfl (by kernel_rfl) (by kernel_rfl) rfl ⟨⟨rfl, rfl, rfl⟩, wkB_live0 rfl (cellsM_idlt (f := PresPres.v) (fun _ => rfl) _) rfl trivial⟩
    conv => whnf
    iterate 2 (refine Ari.w ?_; conv => whnf)
    exact again_c [63, 64, 65, 66, 67, 68, 69, 70, 71, 72, 73, 74, 75, 76, 77, 78, 79, 80, 81, 35, 45] n121 2 [] (⟨_, _, H, rfl, rfl⟩) (Nat.lt_succ_self _) (Nat.zero_le _) rfl (by kernel_rfl) (by kernel_rfl) rfl ⟨⟨rfl, rfl, rfl⟩, wkB_live0 rfl (cellsM_idlt (f := PresPres.v) (fun _ => rfl) _) rfl trivial⟩
  conv => whnf
  obtain rfl := Option.some.inj H
  have H := HQ120
  dsimp only at H
  refine ⟨Nat.le_of_ble_eq_true rfl, ?_⟩; conv => whnf
  refine ⟨Nat.le_of_ble_eq_true rfl, ?_⟩; conv => whnf
  obtain ⟨K129, hK130, o131, HL132, HQ133⟩ := join0_c H
  refine join_c [2, 13, 3, 4, 11, 12] [84, 85, 86, 87, 88, 89, 90, 91, 92, 93, 94, 95, 96, 97, 98, 99, 100, 101, 102, 103, 104, 105, 106, 107, 108, 109, 110, 111, 112, 113, 114, 115, 116, 117, 118, 119, 120, 121, 122, 123, 124, 125, 126, 127, 128, 129, 130, 131, 132, 133, 134, 135, 136, 137, 138, 139, 140, 141, 142, 143, 144, 145, 146, 147, 148, 149, 150, 151, 152, 153, 154, 155, 156, 157, 158, 159, 160, 161, 162, 163, 164] (fun vals st => (∃ y143 y144 y145, K129 (.inr (y143, y144, y145)) = some o4 ∧ vals = [.b false, .i y143, .ptr 0 0, .ptr 1 0, .ptr 2 0, .ptr 3 0] ∧ st = [.live [.i y106.Seq, .sl (List.map BookRow.v y106.Rows) false] 0, .live (cellsM PresPres.v y107) 0, .live [.i y144.Seq, .sl (List.map BookRow.v y144.Rows) false] 0, .live [.b y145.On, .i y145.Show, .i y145.Prio, .i y145.Seq] 0])) ?_ ?_
  · have H := HL132
    conv => whnf
    refine ixs_c (f := Law24Deed.v) H (fun _ => rfl) (fun x135 H => ?_); conv => whnf
    refine ⟨Nat.le_of_ble_eq_true rfl, ?_⟩; conv => whnf
    refine tst_c H (fun b136 H => ?_) (fun b136 H => ?_)
    · conv => whnf
      refine ask_c (p_book_Off_v _ _ _) H rfl rfl (fun v137 H => ?_); conv => whnf
      refine ⟨Nat.le_of_ble_eq_true rfl, ?_⟩; conv => whnf
      refine ⟨Nat.le_of_ble_eq_true rfl, ?_⟩; conv => whnf
      refine ixa_c H (fun x138 h139 H => ?_); conv => whnf
      refine ldo_c (f := PresPres.v) (es := 4) h139 (fun _ => rfl) 0 (by omega) (by decide) ?_; conv => whnf
      refine tst_c H (fun b140 H => ?_) (fun b140 H => ?_)
      · conv => whnf
        iterate 5 (refine Tst.T ?_; conv => whnf)
        obtain rfl := Option.some.inj H
        have H := HQ133
        rw [hK130] at H
        dsimp only at H
        obtain rfl := Option.some.inj H
        have H := HQ6
        dsimp only at H
        exact fin0_c (enc := V.b) H (.inr rfl) (.cons (.tmp rfl) (.nil)) rfl rfl
      conv => whnf
      iterate 2 (refine Tst.F ?_; conv => whnf)
      refine tst_d H (fun b141 H => ?_) (fun b141 H => ?_)
      · conv => whnf
        iterate 5 (refine Tst.F ?_; conv => whnf)
        obtain rfl := Option.some.inj H
        exact arrive_c [84, 85, 86, 87, 88, 89, 90, 91, 92, 93, 94, 95, 96, 97, 98, 99, 100, 101, 102, 103, 104, 105, 106, 107, 108, 109, 110, 111, 112, 113, 114, 115, 116, 117, 118, 119, 120, 121, 122, 123, 124, 125, 126, 127, 128, 129, 130, 131, 132, 133, 134, 135, 136, 137, 138, 139, 140, 141, 142, 143, 144, 145, 146, 147, 148, 149, 150, 151, 152, 153, 154, 155, 156, 157, 158, 159, 160, 161, 162, 163, 164] 4 [] (⟨_, _, _, HQ133, rfl, rfl⟩) (Nat.zero_le _) rfl (by kernel_rfl) (by kernel_rfl) rfl ⟨⟨rfl, rfl, rfl⟩, wkB_live0 rfl (cellsM_idlt (f := PresPres.v) (fun _ => rfl) _) rfl ⟨⟨rfl, rfl, rfl⟩, ⟨⟨rfl, rfl, rfl⟩, trivial⟩⟩⟩
      conv => whnf
      refine Tst.T ?_; conv => whnf
      refine Tst.F ?_; conv => whnf
      refine Tst.T ?_; conv => whnf
      refine Tst.F ?_; conv => whnf
      refine tst_c H (fun b142 H => ?_) (fun b142 H => ?_)
      · conv => whnf
        obtain rfl := Option.some.inj H
        have H := HQ133
        rw [hK130] at H
        dsimp only at H
        obtain rfl := Option.some.inj H
        have H := HQ6
        dsimp only at H
        exact fin0_c (enc := V.b) H (.inr rfl) (.cons (.tmp rfl) (.nil)) rfl rfl
      conv => whnf
      obtain rfl := Option.some.inj H
      exact arrive_c [84, 85, 86, 87, 88, 89, 90, 91, 92, 93, 94, 95, 96, 97, 98, 99, 100, 101, 102, 103, 104, 105, 106, 107, 108, 109, 110, 111, 112, 113, 114, 115, 116, 117, 118, 119, 120, 121, 122, 123, 124, 125, 126, 127, 128, 129, 130, 131, 132, 133, 134, 135, 136, 137, 138, 139, 140, 141, 142, 143, 144, 145, 146, 147, 148, 149, 150, 151, 152, 153, 154, 155, 156, 157, 158, 159, 160, 161, 162, 163, 164] 4 [] (⟨_, _, _, HQ133, rfl, rfl⟩) (Nat.zero_le _) rfl (by kernel_rfl) (by kernel_rfl) rfl ⟨⟨rfl, rfl, rfl⟩, wkB_live0 rfl (cellsM_idlt (f := PresPres.v) (fun _ => rfl) _) rfl ⟨⟨rfl, rfl, rfl⟩, ⟨⟨rfl, rfl, rfl⟩, trivial⟩⟩⟩
    conv => whnf
    refine ixs_c (f := Law24Deed.v) H (fun _ => rfl) (fun x146 H => ?_); conv => whnf
    refine ⟨Nat.le_of_ble_eq_true rfl, ?_⟩; conv => whnf
    refine ⟨by decide, ?_⟩; conv => whnf
    refine Ari.w ?_; conv => whnf
    refine ask_c (p_book_Set_v _ _ _ _ _) H rfl rfl (fun v147 H => ?_); conv => whnf
    refine ⟨Nat.le_of_ble_eq_true rfl, ?_⟩; conv => whnf
    refine ⟨Nat.le_of_ble_eq_true rfl, ?_⟩; conv => whnf
    refine FootQ.mk ⟨rfl, ?_⟩; conv => whnf
    refine ixa_c H (fun x148 h149 H => ?_); conv => whnf
    refine ldo_c (f := PresPres.v) (es := 4) h149 (fun _ => rfl) 0 (by omega) (by decide) ?_; conv => whnf
    refine tst_c H (fun b150 H => ?_) (fun b150 H => ?_)
    · conv => whnf
      iterate 4 (refine Tst.T ?_; conv => whnf)
      refine tst_c H (fun b151 H => ?_) (fun b151 H => ?_)
      · conv => whnf
        iterate 4 (refine Tst.T ?_; conv => whnf)
        refine FootQ.mk ⟨rfl, ?_⟩; conv => whnf
        refine Tst.T ?_; conv => whnf
        obtain rfl := Option.some.inj H
        have H := HQ133
        rw [hK130] at H
        dsimp only at H
        obtain rfl := Option.some.inj H
        have H := HQ6
        dsimp only at H
        exact fin0_c (enc := V.b) H (.inr rfl) (.cons (.tmp rfl) (.nil)) rfl rfl
      conv => whnf
      iterate 2 (refine Tst.F ?_; conv => whnf)
      refine tst_d H (fun b152 H => ?_) (fun b152 H => ?_)
      · conv => whnf
        iterate 7 (refine Tst.F ?_; conv => whnf)
        refine FootQ.mk ⟨rfl, ?_⟩; conv => whnf
        refine Tst.F ?_; conv => whnf
        obtain rfl := Option.some.inj H
        exact arrive_c [84, 85, 86, 87, 88, 89, 90, 91, 92, 93, 94, 95, 96, 97, 98, 99, 100, 101, 102, 103, 104, 105, 106, 107, 108, 109, 110, 111, 112, 113, 114, 115, 116, 117, 118, 119, 120, 121, 122, 123, 124, 125, 126, 127, 128, 129, 130, 131, 132, 133, 134, 135, 136, 137, 138, 139, 140, 141, 142, 143, 144, 145, 146, 147, 148, 149, 150, 151, 152, 153, 154, 155, 156, 157, 158, 159, 160, 161, 162, 163, 164] 4 [] (⟨_, _, _, HQ133, rfl, rfl⟩) (Nat.zero_le _) rfl (by kernel_rfl) (by kernel_rfl) rfl ⟨⟨rfl, rfl, rfl⟩, wkB_live0 rfl (cellsM_idlt (f := PresPres.v) (fun _ => rfl) _) rfl ⟨⟨rfl, rfl, rfl⟩, ⟨⟨rfl, rfl, rfl⟩, trivial⟩⟩⟩
      conv => whnf
      iterate 3 (refine Tst.T ?_; conv => whnf)
      refine Tst.not ?_
      refine tst_d H (fun b153 H => ?_) (fun b153 H => ?_)
      · conv => whnf
        iterate 11 (refine Tst.T ?_; conv => whnf)
        refine Tst.F ?_; conv => whnf
        refine Tst.T ?_; conv => whnf
        refine Tst.F ?_; conv => whnf
        refine FootQ.mk ⟨rfl, ?_⟩; conv => whnf
        refine Tst.T ?_; conv => whnf
        obtain rfl := Option.some.inj H
        have H := HQ133
        rw [hK130] at H
        dsimp only at H
        obtain rfl := Option.some.inj H
        have H := HQ6
        dsimp only at H
        exact fin0_c (enc := V.b) H (.inr rfl) (.cons (.tmp rfl) (.nil)) rfl rfl
      conv => whnf
      iterate 4 (refine Tst.F ?_; conv => whnf)
      refine ixs_c (f := Law24Deed.v) H (fun _ => rfl) (fun x154 H => ?_); conv => whnf
      refine Tst.F ?_; conv => whnf
      refine ⟨Nat.le_of_ble_eq_true rfl, ?_⟩; conv => whnf
      iterate 2 (refine Tst.F ?_; conv => whnf)
      refine ⟨by decide, ?_⟩; conv => whnf
      refine Tst.F ?_; conv => whnf
      refine Ari.w ?_; conv => whnf
      refine Tst.F ?_; conv => whnf
      refine Tst.T ?_; conv => whnf
      iterate 2 (refine Tst.F ?_; conv => whnf)
      refine Tst.T ?_; conv => whnf
      refine Tst.F ?_; conv => whnf
      refine FootQ.mk ⟨rfl, ?_⟩; conv => whnf
      refine tst_c H (fun b155 H => ?_) (fun b155 H => ?_)
      · conv => whnf
        obtain rfl := Option.some.inj H
        have H := HQ133
        rw [hK130] at H
        dsimp only at H
        obtain rfl := Option.some.inj H
        have H := HQ6
        dsimp only at H
        exact fin0_c (enc := V.b) H (.inr rfl) (.cons (.tmp rfl) (.nil)) rfl rfl
      conv => whnf
      obtain rfl := Option.some.inj H
      exact arrive_c [84, 85, 86, 87, 88, 89, 90, 91, 92, 93, 94, 95, 96, 97, 98, 99, 100, 101, 102, 103, 104, 105, 106, 107, 108, 109, 110, 111, 112, 113, 114, 115, 116, 117, 118, 119, 120, 121, 122, 123, 124, 125, 126, 127, 128, 129, 130, 131, 132, 133, 134, 135, 136, 137, 138, 139, 140, 141, 142, 143, 144, 145, 146, 147, 148, 149, 150, 151, 152, 153, 154, 155, 156, 157, 158, 159, 160, 161, 162, 163, 164] 4 [] (⟨_, _, _, HQ133, rfl, rfl⟩) (Nat.zero_le _) rfl (by kernel_rfl) (by kernel_rfl) rfl ⟨⟨rfl, rfl, rfl⟩, wkB_live0 rfl (cellsM_idlt (f := PresPres.v) (fun _ => rfl) _) rfl ⟨⟨rfl, rfl, rfl⟩, ⟨⟨rfl, rfl, rfl⟩, trivial⟩⟩⟩
    conv => whnf
    iterate 2 (refine Tst.F ?_; conv => whnf)
    refine tst_d H (fun b156 H => ?_) (fun b156 H => ?_)
    · conv => whnf
      iterate 6 (refine Tst.F ?_; conv => whnf)
      refine tst_c H (fun b162 H => ?_) (fun b162 H => ?_)
      · conv => whnf
        iterate 4 (refine Tst.T ?_; conv => whnf)
        refine FootQ.mk ⟨rfl, ?_⟩; conv => whnf
        refine Tst.T ?_; conv => whnf
        obtain rfl := Option.some.inj H
        have H := HQ133
        rw [hK130] at H
        dsimp only at H
        obtain rfl := Option.some.inj H
        have H := HQ6
        dsimp only at H
        exact fin0_c (enc := V.b) H (.inr rfl) (.cons (.tmp rfl) (.nil)) rfl rfl
      conv => whnf
      iterate 2 (refine Tst.F ?_; conv => whnf)
      refine tst_d H (fun b163 H => ?_) (fun b163 H => ?_)
      · conv => whnf
        iterate 7 (refine Tst.F ?_; conv => whnf)
        refine FootQ.mk ⟨rfl, ?_⟩; conv => whnf
        refine Tst.F ?_; conv => whnf
        obtain rfl := Option.some.inj H
        exact arrive_c [84, 85, 86, 87, 88, 89, 90, 91, 92, 93, 94, 95, 96, 97, 98, 99, 100, 101, 102, 103, 104, 105, 106, 107, 108, 109, 110, 111, 112, 113, 114, 115, 116, 117, 118, 119, 120, 121, 122, 123, 124, 125, 126, 127, 128, 129, 130, 131, 132, 133, 134, 135, 136, 137, 138, 139, 140, 141, 142, 143, 144, 145, 146, 147, 148, 149, 150, 151, 152, 153, 154, 155, 156, 157, 158, 159, 160, 161, 162, 163, 164] 4 [] (⟨_, _, _, HQ133, rfl, rfl⟩) (Nat.zero_le _) rfl (by kernel_rfl) (by kernel_rfl) rfl ⟨⟨rfl, rfl, rfl⟩, wkB_live0 rfl (cellsM_idlt (f := PresPres.v) (fun _ => rfl) _) rfl ⟨⟨rfl, rfl, rfl⟩, ⟨⟨rfl, rfl, rfl⟩, trivial⟩⟩⟩
      conv => whnf
      iterate 3 (refine Tst.T ?_; conv => whnf)
      refine Tst.not ?_
      refine tst_d H (fun b164 H => ?_) (fun b164 H => ?_)
      · conv => whnf
        iterate 11 (refine Tst.T ?_; conv => whnf)
        refine Tst.F ?_; conv => whnf
        refine Tst.T ?_; conv => whnf
        refine Tst.F ?_; conv => whnf
        refine FootQ.mk ⟨rfl, ?_⟩; conv => whnf
        refine Tst.T ?_; conv => whnf
        obtain rfl := Option.some.inj H
        have H := HQ133
        rw [hK130] at H
        dsimp only at H
        obtain rfl := Option.some.inj H
        have H := HQ6
        dsimp only at H
        exact fin0_c (enc := V.b) H (.inr rfl) (.cons (.tmp rfl) (.nil)) rfl rfl
      conv => whnf
      iterate 4 (refine Tst.F ?_; conv => whnf)
      refine ixs_c (f := Law24Deed.v) H (fun _ => rfl) (fun x165 H => ?_); conv => whnf
      refine Tst.F ?_; conv => whnf
      refine ⟨Nat.le_of_ble_eq_true rfl, ?_⟩; conv => whnf
      iterate 2 (refine Tst.F ?_; conv => whnf)
      refine ⟨by decide, ?_⟩; conv => whnf
      refine Tst.F ?_; conv => whnf
      refine Ari.w ?_; conv => whnf
      refine Tst.F ?_; conv => whnf
      refine Tst.T ?_; conv => whnf
      iterate 2 (refine Tst.F ?_; conv => whnf)
      refine Tst.T ?_; conv => whnf
      refine Tst.F ?_; conv => whnf
      refine FootQ.mk ⟨rfl, ?_⟩; conv => whnf
      refine tst_c H (fun b166 H => ?_) (fun b166 H => ?_)
      · conv => whnf
        obtain rfl := Option.some.inj H
        have H := HQ133
        rw [hK130] at H
        dsimp only at H
        obtain rfl := Option.some.inj H
        have H := HQ6
        dsimp only at H
        exact fin0_c (enc := V.b) H (.inr rfl) (.cons (.tmp rfl) (.nil)) rfl rfl
      conv => whnf
      obtain rfl := Option.some.inj H
      exact arrive_c [84, 85, 86, 87, 88, 89, 90, 91, 92, 93, 94, 95, 96, 97, 98, 99, 100, 101, 102, 103, 104, 105, 106, 107, 108, 109, 110, 111, 112, 113, 114, 115, 116, 117, 118, 119, 120, 121, 122, 123, 124, 125, 126, 127, 128, 129, 130, 131, 132, 133, 134, 135, 136, 137, 138, 139, 140, 141, 142, 143, 144, 145, 146, 147, 148, 149, 150, 151, 152, 153, 154, 155, 156, 157, 158, 159, 160, 161, 162, 163, 164] 4 [] (⟨_, _, _, HQ133, rfl, rfl⟩) (Nat.zero_le _) rfl (by kernel_rfl) (by kernel_rfl) rfl ⟨⟨rfl, rfl, rfl⟩, wkB_live0 rfl (cellsM_idlt (f := PresPres.v) (fun _ => rfl) _) rfl ⟨⟨rfl, rfl, rfl⟩, ⟨⟨rfl, rfl, rfl⟩, trivial⟩⟩⟩
    conv => whnf
    iterate 2 (refine Tst.T ?_; conv => whnf)
    refine LenQ.M ?_; conv => whnf
    refine Tst.T ?_; conv => whnf
    refine Tst.F ?_; conv => whnf
    refine Tst.T ?_; conv => whnf
    refine Tst.F ?_; conv => whnf
    refine tst_c H (fun b157 H => ?_) (fun b157 H => ?_)
    · conv => whnf
      iterate 4 (refine Tst.T ?_; conv => whnf)
      refine FootQ.mk ⟨rfl, ?_⟩; conv => whnf
      refine Tst.T ?_; conv => whnf
      obtain rfl := Option.some.inj H
      have H := HQ133
      rw [hK130] at H
      dsimp only at H
      obtain rfl := Option.some.inj H
      have H := HQ6
      dsimp only at H
      exact fin0_c (enc := V.b) H (.inr rfl) (.cons (.tmp rfl) (.nil)) rfl rfl
    conv => whnf
    iterate 2 (refine Tst.F ?_; conv => whnf)
    refine tst_d H (fun b158 H => ?_) (fun b158 H => ?_)
    · conv => whnf
      iterate 7 (refine Tst.F ?_; conv => whnf)
      refine FootQ.mk ⟨rfl, ?_⟩; conv => whnf
      refine Tst.F ?_; conv => whnf
      obtain rfl := Option.some.inj H
      exact arrive_c [84, 85, 86, 87, 88, 89, 90, 91, 92, 93, 94, 95, 96, 97, 98, 99, 100, 101, 102, 103, 104, 105, 106, 107, 108, 109, 110, 111, 112, 113, 114, 115, 116, 117, 118, 119, 120, 121, 122, 123, 124, 125, 126, 127, 128, 129, 130, 131, 132, 133, 134, 135, 136, 137, 138, 139, 140, 141, 142, 143, 144, 145, 146, 147, 148, 149, 150, 151, 152, 153, 154, 155, 156, 157, 158, 159, 160, 161, 162, 163, 164] 4 [] (⟨_, _, _, HQ133, rfl, rfl⟩) (Nat.zero_le _) rfl (by kernel_rfl) (by kernel_rfl) rfl ⟨⟨rfl, rfl, rfl⟩, wkB_live0 rfl (cellsM_idlt (f := PresPres.v) (fun _ => rfl) _) rfl ⟨⟨rfl, rfl, rfl⟩, ⟨⟨rfl, rfl, rfl⟩, trivial⟩⟩⟩
    conv => whnf
    iterate 3 (refine Tst.T ?_; conv => whnf)
    refine Tst.not ?_
    refine tst_d H (fun b159 H => ?_) (fun b159 H => ?_)
    · conv => whnf
      iterate 11 (refine Tst.T ?_; conv => whnf)
      refine Tst.F ?_; conv => whnf
      refine Tst.T ?_; conv => whnf
      refine Tst.F ?_; conv => whnf
      refine FootQ.mk ⟨rfl, ?_⟩; conv => whnf
      refine Tst.T ?_; conv => whnf
      obtain rfl := Option.some.inj H
      have H := HQ133
      rw [hK130] at H
      dsimp only at H
      obtain rfl := Option.some.inj H
      have H := HQ6
      dsimp only at H
      exact fin0_c (enc := V.b) H (.inr rfl) (.cons (.tmp rfl) (.nil)) rfl rfl
    conv => whnf
    iterate 4 (refine Tst.F ?_; conv => whnf)
    refine ixs_c (f := Law24Deed.v) H (fun _ => rfl) (fun x160 H => ?_); conv => whnf
    refine Tst.F ?_; conv => whnf
    refine ⟨Nat.le_of_ble_eq_true rfl, ?_⟩; conv => whnf
    iterate 2 (refine Tst.F ?_; conv => whnf)
    refine ⟨by decide, ?_⟩; conv => whnf
    refine Tst.F ?_; conv => whnf
    refine Ari.w ?_; conv => whnf
    refine Tst.F ?_; conv => whnf
    refine Tst.T ?_; conv => whnf
    iterate 2 (refine Tst.F ?_; conv => whnf)
    refine Tst.T ?_; conv => whnf
    refine Tst.F ?_; conv => whnf
    refine FootQ.mk ⟨rfl, ?_⟩; conv => whnf
    refine tst_c H (fun b161 H => ?_) (fun b161 H => ?_)
    · conv => whnf
      obtain rfl := Option.some.inj H
      have H := HQ133
      rw [hK130] at H
      dsimp only at H
      obtain rfl := Option.some.inj H
      have H := HQ6
      dsimp only at H
      exact fin0_c (enc := V.b) H (.inr rfl) (.cons (.tmp rfl) (.nil)) rfl rfl
    conv => whnf
    obtain rfl := Option.some.inj H
    exact arrive_c [84, 85, 86, 87, 88, 89, 90, 91, 92, 93, 94, 95, 96, 97, 98, 99, 100, 101, 102, 103, 104, 105, 106, 107, 108, 109, 110, 111, 112, 113, 114, 115, 116, 117, 118, 119, 120, 121, 122, 123, 124, 125, 126, 127, 128, 129, 130, 131, 132, 133, 134, 135, 136, 137, 138, 139, 140, 141, 142, 143, 144, 145, 146, 147, 148, 149, 150, 151, 152, 153, 154, 155, 156, 157, 158, 159, 160, 161, 162, 163, 164] 4 [] (⟨_, _, _, HQ133, rfl, rfl⟩) (Nat.zero_le _) rfl (by kernel_rfl) (by kernel_rfl) rfl ⟨⟨rfl, rfl, rfl⟩, wkB_live0 rfl (cellsM_idlt (f := PresPres.v) (fun _ => rfl) _) rfl ⟨⟨rfl, rfl, rfl⟩, ⟨⟨rfl, rfl, rfl⟩, trivial⟩⟩⟩
  rintro _ _ (⟨y143, y144, y145, H, rfl, rfl⟩)
  rw [hK130] at H
  dsimp only at H
  conv => whnf
  obtain ⟨K167, hK168, o169, HL170, HQ171⟩ := join0_c H
  refine join_c [2, 3, 4, 11] [165, 166, 167, 168, 169, 170, 171, 172, 173, 174, 175, 176, 177, 178, 179, 180, 181, 182, 183, 184, 185, 12] (fun vals st => (∃ y178, K167 (.inr y178) = some o4 ∧ vals = [.b false, .ptr 0 0, .ptr 1 0, .ptr 2 0] ∧ st = [.live [.i y106.Seq, .sl (List.map BookRow.v y106.Rows) false] 0, .live (cellsM PresPres.v y178) 0, .live [.i y144.Seq, .sl (List.map BookRow.v y144.Rows) false] 0])) ?_ ?_
  · have H := HL170
    conv => whnf
    refine tst_d H (fun b173 H => ?_) (fun b173 H => ?_)
    · conv => whnf
      refine ask_c (p_book_Same_v _ _) H rfl rfl (fun v179 H => ?_); conv => whnf
      refine Tst.not ?_
      refine tst_d H (fun b180 H => ?_) (fun b180 H => ?_)
      · conv => whnf
        obtain rfl := Option.some.inj H
        have H := HQ171
        rw [hK168] at H
        dsimp only at H
        obtain rfl := Option.some.inj H
        have H := HQ6
        dsimp only at H
        exact fin0_c (enc := V.b) H (.inr rfl) (.cons (.tmp rfl) (.nil)) rfl rfl
      conv => whnf
      obtain rfl := Option.some.inj H
      exact arrive_c [165, 166, 167, 168, 169, 170, 171, 172, 173, 174, 175, 176, 177, 178, 179, 180, 181, 182, 183, 184, 185, 12] 3 [] (⟨_, HQ171, rfl, rfl⟩) (Nat.zero_le _) rfl (by kernel_rfl) (by kernel_rfl) rfl ⟨⟨rfl, rfl, rfl⟩, wkB_live0 rfl (cellsM_idlt (f := PresPres.v) (fun _ => rfl) _) rfl ⟨⟨rfl, rfl, rfl⟩, trivial⟩⟩
    conv => whnf
    refine tst_c H (fun b174 H => ?_) (fun b174 H => ?_)
    · conv => whnf
      iterate 6 (refine Tst.T ?_; conv => whnf)
      obtain rfl := Option.some.inj H
      have H := HQ171
      rw [hK168] at H
      dsimp only at H
      obtain rfl := Option.some.inj H
      have H := HQ6
      dsimp only at H
      exact fin0_c (enc := V.b) H (.inr rfl) (.cons (.tmp rfl) (.nil)) rfl rfl
    conv => whnf
    iterate 5 (refine Tst.F ?_; conv => whnf)
    refine tst_c H (fun b175 H => ?_) (fun b175 H => ?_)
    · conv => whnf
      obtain rfl := Option.some.inj H
      have H := HQ171
      rw [hK168] at H
      dsimp only at H
      obtain rfl := Option.some.inj H
      have H := HQ6
      dsimp only at H
      exact fin0_c (enc := V.b) H (.inr rfl) (.cons (.tmp rfl) (.nil)) rfl rfl
    conv => whnf
    refine ixa_c H (fun x176 h177 H => ?_); conv => whnf
    refine ⟨Nat.zero_le _, sto_c (f := PresPres.v) (es := 4) h177 (x' := y145) (fun _ => rfl) 0 (by omega) (Nat.le_of_ble_eq_true rfl) (by rfl) ?_⟩; conv => whnf
    obtain rfl := Option.some.inj H
    exact arrive_c [165, 166, 167, 168, 169, 170, 171, 172, 173, 174, 175, 176, 177, 178, 179, 180, 181, 182, 183, 184, 185, 12] 3 [] (⟨_, HQ171, rfl, rfl⟩) (Nat.zero_le _) rfl (by kernel_rfl) (by kernel_rfl) rfl ⟨⟨rfl, rfl, rfl⟩, wkB_live0 rfl (cellsM_idlt (f := PresPres.v) (fun _ => rfl) _) rfl ⟨⟨rfl, rfl, rfl⟩, trivial⟩⟩
  rintro _ _ (⟨y178, H, rfl, rfl⟩)
  rw [hK168] at H
  dsimp only at H
  conv => whnf
  refine ask_c (p_book_Check_v _) H rfl rfl (fun v181 H => ?_); conv => whnf
  refine tst_c H (fun b182 H => ?_) (fun b182 H => ?_)
  · conv => whnf
    obtain rfl := Option.some.inj H
    have H := HQ6
    dsimp only at H
    exact fin0_c (enc := V.b) H (.inr rfl) (.cons (.tmp rfl) (.nil)) rfl rfl
  conv => whnf
  obtain ⟨o184, HL185, HQ186⟩ := bind_c H
  refine loop_c [2, 14, 15] [16, 17, 189, 190, 191, 192, 193, 194, 195, 196, 197, 198, 199, 200, 201, 202, 203, 204, 205, 206, 207, 208, 209, 210, 211, 212, 213, 214, 215, 216, 217, 218, 219, 220, 221, 222, 223, 224, 225, 226, 227, 228, 229] [16, 17, 189, 190, 191, 192, 193, 194, 195, 196, 197, 198, 199, 200, 201, 202, 203, 204, 205, 206, 207, 208, 209, 210, 211, 212, 213, 214, 215, 216, 217, 218, 219, 220, 221, 222, 223, 224, 225, 226, 227, 228, 229] (fun n vals st => (∃ y188 y189, p_law24_BookKeeps_j_l3  y144 y178 n y188 y189 = some o184 ∧ vals = [.b false, .i y188, .i y189] ∧ st = [.live [.i y106.Seq, .sl (List.map BookRow.v y106.Rows) false] 0, .live (cellsM PresPres.v y178) 0, .live [.i y144.Seq, .sl (List.map BookRow.v y144.Rows) false] 0])) fuel 3 [] (⟨_, _, HL185, rfl, rfl⟩) (Nat.zero_le _) rfl (by kernel_rfl) (by kernel_rfl) rfl ⟨⟨rfl, rfl, rfl⟩, wkB_live0 rfl (cellsM_idlt (f := PresPres.v) (fun _ => rfl) _) rfl ⟨⟨rfl, rfl, rfl⟩, trivial⟩⟩ ?_
  rintro (_ | n187) _ _ (⟨y188, y189, H, rfl, rfl⟩)
  · rw [p_law24_BookKeeps_j_l3] at H; cases H
  rw [p_law24_BookKeeps_j_l3] at H
  conv => whnf
  refine tst_d H (fun b190 H => ?_) (fun b190 H => ?_)
  · conv => whnf
    obtain rfl := Option.some.inj H
    have H := HQ186
    dsimp only at H
    refine LenQ.M ?_; conv => whnf
    refine tst_c H (fun b202 H => ?_) (fun b202 H => ?_)
    · conv => whnf
      obtain rfl := Option.some.inj H
      have H := HQ6
      dsimp only at H
      exact fin0_c (enc := V.b) H (.inr rfl) (.cons (.tmp rfl) (.nil)) rfl rfl
    conv => whnf
    refine ⟨Nat.le_of_ble_eq_true rfl, ?_⟩; conv => whnf
    refine Ari.w ?_; conv => whnf
    exact again_c [6, 7, 8, 9, 10, 11, 12, 13, 14, 15, 16, 17, 22, 23, 24, 25, 26, 27, 28, 29, 30, 31, 32, 33, 34, 35, 36, 37, 38, 39, 40, 41, 42, 43, 44, 45, 46, 47, 48, 49, 50, 51, 52, 53, 54, 55, 56, 57, 58, 59, 60, 61, 62, 63, 64, 65, 66, 67, 68, 69, 70, 71, 72, 73, 74, 75, 76, 77, 78, 79, 80, 81, 82, 83, 84, 85, 86, 87, 88, 89, 90, 91, 92, 93, 94, 95, 96, 97, 98, 99, 100, 101, 102, 103, 104, 105, 106, 107, 108, 109, 110, 111, 112, 113, 114, 115, 116, 117, 118, 119, 120, 121, 122, 123, 124, 125, 126, 127, 128, 129, 130, 131, 132, 133, 134, 135, 136, 137, 138, 139, 140, 141, 142, 143, 144, 145, 146, 147, 148, 149, 150, 151, 152, 153, 154, 155, 156, 157, 158, 159, 160, 161, 162, 163, 164, 165, 166, 167, 168, 169, 170, 171, 172, 173, 174, 175, 176, 177, 178, 179, 180, 181, 182, 183, 184, 185, 186, 187, 188, 189, 190, 191, 192, 193, 194, 195, 196, 197, 198, 199, 200, 201, 202, 203, 204, 205, 206, 207, 208, 209, 210, 211, 212, 213, 214, 215, 216, 217, 218, 219, 220, 221, 222, 223, 224, 225, 226, 227, 228, 229, 230, 231, 232, 233, 234, 235] n7 2 [] (.inr (⟨_, _, _, H, rfl, rfl⟩)) (Nat.lt_succ_self _) (Nat.zero_le _) rfl (by kernel_rfl) (by kernel_rfl) rfl ⟨⟨rfl, rfl, rfl⟩, wkB_live0 rfl (cellsM_idlt (f := PresPres.v) (fun _ => rfl) _) rfl trivial⟩
  conv => whnf
  refine ⟨by decide, Ari.w ?_⟩; conv => whnf
  iterate 2 (refine Ari.w ?_; conv => whnf)
  refine b2sO_c H rfl rfl rfl (fun s191 H => ?_); conv => whnf
  refine cat_c H (fun s192 H => ?_); conv => whnf
  refine ⟨by decide, ?_⟩; conv => whnf
  iterate 2 (refine Ari.w ?_; conv => whnf)
  refine b2sO_c H rfl rfl rfl (fun s193 H => ?_); conv => whnf
  refine ask_c (p_book_Get_v _ _ _) H rfl rfl (fun v194 H => ?_); conv => whnf
  refine ⟨Nat.le_of_ble_eq_true rfl, ?_⟩; conv => whnf
  refine ixa_c H (fun x195 h196 H => ?_); conv => whnf
  refine ldo_c (f := PresPres.v) (es := 4) h196 (fun _ => rfl) 0 (by omega) (by decide) ?_; conv => whnf
  refine tst_c H (fun b197 H => ?_) (fun b197 H => ?_)
  · conv => whnf
    iterate 3 (refine Tst.T ?_; conv => whnf)
    refine FootQ.mk ⟨rfl, ?_⟩; conv => whnf
    refine Tst.T ?_; conv => whnf
    obtain rfl := Option.some.inj H
    have H := HQ186
    dsimp only at H
    obtain rfl := Option.some.inj H
    have H := HQ6
    dsimp only at H
    exact fin0_c (enc := V.b) H (.inr rfl) (.cons (.tmp rfl) (.nil)) rfl rfl
  conv => whnf
  refine Tst.F ?_; conv => whnf
  refine tst_d H (fun b198 H => ?_) (fun b198 H => ?_)
  · conv => whnf
    iterate 7 (refine Tst.F ?_; conv => whnf)
    refine FootQ.mk ⟨rfl, ?_⟩; conv => whnf
    refine Tst.F ?_; conv => whnf
    refine Tst.isF b198 ?_; conv => whnf
    refine Ari.w ?_; conv => whnf
    exact again_c [16, 17, 189, 190, 191, 192, 193, 194, 195, 196, 197, 198, 199, 200, 201, 202, 203, 204, 205, 206, 207, 208, 209, 210, 211, 212, 213, 214, 215, 216, 217, 218, 219, 220, 221, 222, 223, 224, 225, 226, 227, 228, 229] n187 3 [] (⟨_, _, H, rfl, rfl⟩) (Nat.lt_succ_self _) (Nat.zero_le _) rfl (by kernel_rfl) (by kernel_rfl) rfl ⟨⟨rfl, rfl, rfl⟩, wkB_live0 rfl (cellsM_idlt (f := PresPres.v) (fun _ => rfl) _) rfl ⟨⟨rfl, rfl, rfl⟩, trivial⟩⟩
  conv => whnf
  iterate 2 (refine Tst.T ?_; conv => whnf)
  refine ixa_c H (fun x199 h200 H => ?_); conv => whnf
  refine Tst.T ?_; conv => whnf
  refine ldo_c (f := PresPres.v) (es := 4) h200 (fun _ => rfl) 0 (by omega) (by decide) ?_; conv => whnf
  refine Tst.T ?_; conv => whnf
  refine Tst.F ?_; conv => whnf
  refine Tst.T ?_; conv => whnf
  refine Tst.F ?_; conv => whnf
  refine FootQ.mk ⟨rfl, ?_⟩; conv => whnf
  refine Tst.not ?_
  refine tst_d H (fun b201 H => ?_) (fun b201 H => ?_)
  · conv => whnf
    obtain rfl := Option.some.inj H
    have H := HQ186
    dsimp only at H
    obtain rfl := Option.some.inj H
    have H := HQ6
    dsimp only at H
    exact fin0_c (enc := V.b) H (.inr rfl) (.cons (.tmp rfl) (.nil)) rfl rfl
  conv => whnf
  refine Tst.isT b198 ?_; conv => whnf
  iterate 2 (refine Ari.w ?_; conv => whnf)
  exact again_c [16, 17, 189, 190, 191, 192, 193, 194, 195, 196, 197, 198, 199, 200, 201, 202, 203, 204, 205, 206, 207, 208, 209, 210, 211, 212, 213, 214, 215, 216, 217, 218, 219, 220, 221, 222, 223, 224, 225, 226, 227, 228, 229] n187 3 [] (⟨_, _, H, rfl, rfl⟩) (Nat.lt_succ_self _) (Nat.zero_le _) rfl (by kernel_rfl) (by kernel_rfl) rfl ⟨⟨rfl, rfl, rfl⟩, wkB_live0 rfl (cellsM_idlt (f := PresPres.v) (fun _ => rfl) _) rfl ⟨⟨rfl, rfl, rfl⟩, trivial⟩⟩
end Go.Proofs.Ytljeinlapkgjeaa
