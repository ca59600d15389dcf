/- BookNext: for every input the call returns true, and its arguments read as they did. -/
import Derived.Test.YtljeinlapkgjeaaQbA7
import Derived.Test.YtljeinlapkgjeaaQbA8
import Derived.Test.YtljeinlapkgjeaaQbA6
import Derived.Test.YtljeinlapkgjeaaQbA9
import Derived.Test.YtljeinlapkgjeaaQbA10
import Derived.Test.YtljeinlapkgjeaaQbA4
import Derived.KernelRfl
import Derived.Test.YtljeinlapkgjeaaRows
set_option linter.all false
/- BookNext, of deeds that are read. -/
namespace Go.Proofs.Ytljeinlapkgjeaa
open Go.RowKit
theorem deed_ok {d : Law24Deed} (h : Law24Deed.Wf d) : DeedOK d := ⟨bounds_u8 h.Who, bounds_u8 h.Res, bounds_u8 h.Show⟩
theorem bookNext_wf (l : List Law24Deed) (h : ∀ x ∈ l, Law24Deed.Wf x) : p_law24_BookNext l = some true := bookNext_pure l fun d hd => deed_ok (h d hd)
end Go.Proofs.Ytljeinlapkgjeaa
/- That the program's functions yield what the plain ones tell (written by a program of mine). -/
namespace Go.Proofs.Ytljeinlapkgjeaa
open Go.RowKit
def gc11 : BCode := (.seq (.reg 0 [⟨(some 2), .mv (.const (.bool false)), none, 0⟩] none 0 []) (.seq (.seq (.reg 0 [⟨(some 18), .mv (.tmp 0), none, 0⟩, ⟨(some 19), .lens (.tmp 18), none, 0⟩, ⟨(some 20), .bin .gtr (.tmp 19) (.const (.int .i64 40)), none, 0⟩] none 0 []) (.cond (.tmp 20) (.seq (.reg 0 [⟨(some 21), .cl 49 [], none, 0⟩, ⟨(some 2), .mv (.tmp 21), none, 0⟩] none 0 []) .ret) .skip)) (.seq (.reg 1 [⟨(some 3), .al (.agg [(.lit (.int .i64 0)), (.sl [] true)]), none, 0⟩] none 0 []) (.seq (.seq (.reg 0 [⟨(some 4), .mv (.const (.int .i64 0)), none, 0⟩] none 0 []) (.block 0 (.loop (.seq (.seq (.reg 0 [⟨(some 22), .mv (.tmp 4), none, 0⟩, ⟨(some 23), .mv (.tmp 0), none, 0⟩, ⟨(some 24), .lens (.tmp 23), none, 0⟩, ⟨(some 25), .bin .lss (.tmp 22) (.tmp 24), none, 0⟩] none 0 []) (.cond (.tmp 25) .skip (.exit 0))) (.seq (.block 1 (.seq (.reg 2 [⟨(some 28), .mv (.tmp 0), none, 0⟩, ⟨(some 29), .mv (.tmp 4), none, 0⟩, ⟨(some 30), .ixs 4 (.tmp 28) (.tmp 29), none, 0⟩, ⟨(some 31), .fa 0 (.tmp 30), none, 0⟩, ⟨(some 32), .ld 1 false (.tmp 31), none, 0⟩, ⟨(some 33), .bin .rem (.tmp 32) (.const (.int .u8 5)), none, 0⟩, ⟨(some 34), .bin .add (.const (.int .u8 97)) (.tmp 33), none, 0⟩, ⟨(some 35), .bs 1 1 [(.lit (.int .u8 0))] [(0, (.tmp 34))], none, 0⟩, ⟨(some 36), .b2s (.tmp 35), none, 1⟩, ⟨(some 37), .bin .add (.tmp 36) (.const (.string ⟨#[64, 120]⟩)), none, 1⟩, ⟨(some 38), .mv (.tmp 0), none, 1⟩, ⟨(some 39), .mv (.tmp 4), none, 1⟩, ⟨(some 40), .ixs 4 (.tmp 38) (.tmp 39), none, 1⟩, ⟨(some 41), .fa 1 (.tmp 40), none, 1⟩, ⟨(some 42), .ld 1 false (.tmp 41), none, 1⟩, ⟨(some 43), .bin .rem (.tmp 42) (.const (.int .u8 4)), none, 1⟩, ⟨(some 44), .bin .add (.const (.int .u8 114)) (.tmp 43), none, 1⟩, ⟨(some 45), .bs 1 1 [(.lit (.int .u8 0))] [(0, (.tmp 44))], none, 1⟩, ⟨(some 46), .b2s (.tmp 45), none, 2⟩, ⟨(some 5), .mv (.tmp 37), none, 2⟩, ⟨(some 6), .mv (.tmp 46), none, 2⟩] (some [[], [], [1, 0], [0, 1, 2], [2, 1, 0, 3], [3, 0, 1, 2, 4], [4, 2, 1, 0, 3, 5], [5, 3, 0, 1, 2, 4, 6], [6, 4, 2, 1, 0, 3, 5, 7], [7, 5, 3, 0, 1, 2, 4, 6, 8], [], [], [11, 10], [10, 11, 12], [12, 11, 10, 13], [13, 10, 11, 12, 14], [14, 12, 11, 10, 13, 15], [15, 13, 10, 11, 12, 14, 16], [16, 14, 12, 11, 10, 13, 15, 17], [8, 6, 4, 2, 1, 0, 3, 5, 7, 9], [9, 7, 5, 3, 0, 1, 2, 4, 6, 8, 19, 17, 15, 13, 10, 11, 12, 14, 16, 18]]) 0 []) (.seq (.reg 0 [⟨(some 47), .mv (.tmp 0), none, 0⟩, ⟨(some 48), .mv (.tmp 4), none, 0⟩, ⟨(some 49), .ixs 4 (.tmp 47) (.tmp 48), none, 0⟩, ⟨(some 50), .fa 3 (.tmp 49), none, 0⟩, ⟨(some 51), .ld 1 false (.tmp 50), none, 0⟩] none 0 []) (.cond (.tmp 51) (.reg 0 [⟨(some 53), .ld 2 true (.tmp 3), none, 0⟩, ⟨(some 54), .mv (.tmp 5), none, 0⟩, ⟨(some 55), .mv (.tmp 6), none, 0⟩, ⟨(some 56), .cl 43 [(.tmp 53), (.tmp 54), (.tmp 55)], none, 0⟩, ⟨(some 52), .mv (.tmp 56), none, 0⟩, ⟨(some 57), .ex (.tmp 52) 0, none, 0⟩, ⟨(some 58), .ex (.tmp 52) 1, none, 0⟩, ⟨(some 59), .ex (.tmp 52) 2, none, 0⟩, ⟨none, .st 2 (.tmp 3) (.tmp 57), none, 0⟩] none 0 []) (.reg 0 [⟨(some 61), .ld 2 true (.tmp 3), none, 0⟩, ⟨(some 62), .mv (.tmp 5), none, 0⟩, ⟨(some 63), .mv (.tmp 6), none, 0⟩, ⟨(some 64), .mv (.tmp 0), none, 0⟩, ⟨(some 65), .mv (.tmp 4), none, 0⟩, ⟨(some 66), .ixs 4 (.tmp 64) (.tmp 65), none, 0⟩, ⟨(some 67), .fa 2 (.tmp 66), none, 0⟩, ⟨(some 68), .ld 1 false (.tmp 67), none, 0⟩, ⟨(some 69), .bin .rem (.tmp 68) (.const (.int .u8 5)), none, 0⟩, ⟨(some 70), .cvi .i64 (.tmp 69), none, 0⟩, ⟨(some 71), .cl 44 [(.tmp 61), (.tmp 62), (.tmp 63), (.tmp 70), (.const (.int .i64 1))], none, 0⟩, ⟨(some 60), .mv (.tmp 71), none, 0⟩, ⟨(some 72), .ex (.tmp 60) 0, none, 0⟩, ⟨(some 73), .ex (.tmp 60) 1, none, 0⟩, ⟨(some 74), .ex (.tmp 60) 2, none, 0⟩, ⟨none, .st 2 (.tmp 3) (.tmp 72), none, 0⟩] (some [[], [], [], [], [], [4, 3], [3, 4, 5], [5, 4, 3, 6], [6, 3, 4, 5, 7], [7, 5, 4, 3, 6, 8], [8, 6, 3, 4, 5, 7, 9, 2, 1, 0], [0, 1, 2, 9, 7, 5, 4, 3, 6, 8, 10], [10, 8, 6, 3, 4, 5, 7, 9, 2, 1, 0, 11], [10, 8, 6, 3, 4, 5, 7, 9, 2, 1, 0, 11], [10, 8, 6, 3, 4, 5, 7, 9, 2, 1, 0, 11], [11, 0, 1, 2, 9, 7, 5, 4, 3, 6, 8, 10, 12]]) 0 []))))) (.reg 0 [⟨(some 26), .mv (.tmp 4), none, 0⟩, ⟨(some 27), .bin .add (.tmp 26) (.const (.int .i64 1)), none, 0⟩, ⟨(some 4), .mv (.tmp 27), none, 0⟩] none 0 [])))))) (.seq (.reg 0 [⟨(some 7), .mv (.const (.string ⟨#[]⟩)), none, 0⟩] none 0 []) (.seq (.reg 0 [⟨(some 8), .mv (.const (.int .i64 0)), none, 0⟩] none 0 []) (.seq (.seq (.reg 0 [⟨(some 9), .mv (.const (.int .i64 0)), none, 0⟩] none 0 []) (.block 2 (.loop (.seq (.seq (.reg 0 [⟨(some 75), .mv (.tmp 9), none, 0⟩, ⟨(some 76), .bin .lss (.tmp 75) (.const (.int .i64 30)), none, 0⟩] none 0 []) (.cond (.tmp 76) .skip (.exit 2))) (.seq (.block 3 (.seq (.reg 1 [⟨(some 80), .ld 2 true (.tmp 3), none, 0⟩, ⟨(some 81), .mv (.tmp 7), none, 0⟩, ⟨(some 82), .cl 53 [(.tmp 80), (.tmp 81)], none, 0⟩, ⟨(some 79), .mv (.tmp 82), none, 0⟩, ⟨(some 83), .ex (.tmp 79) 0, none, 0⟩, ⟨(some 84), .ex (.tmp 79) 1, none, 0⟩, ⟨(some 10), .al (.agg [(.lit (.string ⟨#[]⟩)), (.lit (.string ⟨#[]⟩)), (.lit (.bool false)), (.lit (.int .i64 0)), (.lit (.int .i64 0)), (.lit (.int .i64 0))]), none, 0⟩, ⟨none, .st 6 (.tmp 10) (.tmp 83), none, 1⟩, ⟨(some 11), .mv (.tmp 84), none, 1⟩] none 0 []) (.seq (.seq (.reg 0 [⟨(some 85), .mv (.tmp 11), none, 0⟩, ⟨(some 86), .un .not (.tmp 85), none, 0⟩] none 0 []) (.cond (.tmp 86) (.exit 2) .skip)) (.seq (.seq (.reg 0 [⟨(some 87), .mv (.tmp 8), none, 0⟩, ⟨(some 88), .fa 1 (.tmp 3), none, 0⟩, ⟨(some 89), .ld 1 false (.tmp 88), none, 0⟩, ⟨(some 90), .lens (.tmp 89), none, 0⟩, ⟨(some 91), .bin .geq (.tmp 87) (.tmp 90), none, 0⟩, ⟨(some 92), .mv (.tmp 91), none, 0⟩, ⟨(some 93), .ld 6 true (.tmp 10), (some (92, false)), 0⟩, ⟨(some 94), .fa 1 (.tmp 3), (some (92, false)), 0⟩, ⟨(some 95), .ld 1 false (.tmp 94), (some (92, false)), 0⟩, ⟨(some 96), .mv (.tmp 8), (some (92, false)), 0⟩, ⟨(some 97), .ixs 6 (.tmp 95) (.tmp 96), (some (92, false)), 0⟩, ⟨(some 98), .ld 6 true (.tmp 97), (some (92, false)), 0⟩, ⟨(some 99), .eqa true [2, 2, 0, 1, 1, 1] (.tmp 93) (.tmp 98), (some (92, false)), 0⟩, ⟨(some 100), .pick (.tmp 92) (.const (.bool true)) (.tmp 99), none, 0⟩] (some [[], [], [1], [1, 2], [2, 1, 3, 0], [0, 3, 1, 2, 4], [4, 2, 1, 3, 0, 5], [4, 2, 1, 3, 0, 5], [5, 0, 3, 1, 2, 4, 7], [4, 2, 1, 3, 0, 5], [9, 7, 4, 2, 1, 3, 0, 5, 8], [8, 5, 0, 3, 1, 2, 4, 7, 9, 10], [10, 9, 7, 8, 11, 5, 0, 3, 1, 2, 4, 6], [6, 11, 8, 7, 9, 10, 12, 4, 2, 1, 3, 0, 5]]) 0 []) (.cond (.tmp 100) (.seq (.reg 0 [⟨(some 2), .mv (.const (.bool false)), none, 0⟩] none 0 []) .ret) .skip)) (.seq (.reg 0 [⟨(some 101), .fa 0 (.tmp 10), none, 0⟩, ⟨(some 102), .ld 1 false (.tmp 101), none, 0⟩, ⟨(some 103), .fa 1 (.tmp 10), none, 0⟩, ⟨(some 104), .ld 1 false (.tmp 103), none, 0⟩, ⟨(some 105), .cl 33 [(.tmp 102), (.tmp 104)], none, 0⟩, ⟨(some 7), .mv (.tmp 105), none, 0⟩] none 0 []) (.reg 0 [⟨(some 106), .mv (.tmp 8), none, 0⟩, ⟨(some 107), .bin .add (.tmp 106) (.const (.int .i64 1)), none, 0⟩, ⟨(some 8), .mv (.tmp 107), none, 0⟩] none 0 [])))))) (.reg 0 [⟨(some 77), .mv (.tmp 9), none, 0⟩, ⟨(some 78), .bin .add (.tmp 77) (.const (.int .i64 1)), none, 0⟩, ⟨(some 9), .mv (.tmp 78), none, 0⟩] none 0 [])))))) (.seq (.reg 0 [⟨(some 108), .ld 2 true (.tmp 3), none, 0⟩, ⟨(some 109), .cl 54 [(.tmp 108)], none, 0⟩, ⟨(some 12), .mv (.tmp 109), none, 0⟩] none 0 []) (.seq (.reg 0 [⟨(some 13), .mv (.const (.int .i64 0)), none, 0⟩] none 0 []) (.seq (.seq (.reg 0 [⟨(some 14), .mv (.const (.int .i64 0)), none, 0⟩] none 0 []) (.block 4 (.loop (.seq (.seq (.reg 0 [⟨(some 110), .mv (.tmp 14), none, 0⟩, ⟨(some 111), .mv (.tmp 12), none, 0⟩, ⟨(some 112), .lens (.tmp 111), none, 0⟩, ⟨(some 113), .bin .lss (.tmp 110) (.tmp 112), none, 0⟩] none 0 []) (.cond (.tmp 113) .skip (.exit 4))) (.seq (.block 5 (.seq (.reg 0 [⟨(some 116), .ld 2 true (.tmp 3), none, 0⟩, ⟨(some 117), .mv (.tmp 12), none, 0⟩, ⟨(some 118), .mv (.tmp 14), none, 0⟩, ⟨(some 119), .ixs 1 (.tmp 117) (.tmp 118), none, 0⟩, ⟨(some 120), .ld 1 false (.tmp 119), none, 0⟩, ⟨(some 121), .cl 55 [(.tmp 116), (.tmp 120)], none, 0⟩, ⟨(some 15), .mv (.tmp 121), none, 0⟩] (some [[], [], [], [2, 1], [1, 2, 3], [3, 2, 1, 4, 0], [0, 4, 1, 2, 3, 5]]) 0 []) (.seq (.reg 1 [⟨(some 123), .ld 2 true (.tmp 3), none, 0⟩, ⟨(some 124), .mv (.tmp 12), none, 0⟩, ⟨(some 125), .mv (.tmp 14), none, 0⟩, ⟨(some 126), .ixs 1 (.tmp 124) (.tmp 125), none, 0⟩, ⟨(some 127), .ld 1 false (.tmp 126), none, 0⟩, ⟨(some 128), .cl 56 [(.tmp 123), (.tmp 127)], none, 0⟩, ⟨(some 122), .mv (.tmp 128), none, 0⟩, ⟨(some 129), .ex (.tmp 122) 0, none, 0⟩, ⟨(some 130), .ex (.tmp 122) 1, none, 0⟩, ⟨(some 16), .al (.agg [(.lit (.string ⟨#[]⟩)), (.lit (.string ⟨#[]⟩)), (.lit (.bool false)), (.lit (.int .i64 0)), (.lit (.int .i64 0)), (.lit (.int .i64 0))]), none, 0⟩, ⟨none, .st 6 (.tmp 16) (.tmp 129), none, 1⟩, ⟨(some 17), .mv (.tmp 130), none, 1⟩] (some [[], [], [], [2, 1], [1, 2, 3], [3, 2, 1, 4, 0], [0, 4, 1, 2, 3, 5], [5, 3, 2, 1, 4, 0, 6], [5, 3, 2, 1, 4, 0, 6], [], [6, 0, 4, 1, 2, 3, 5, 7, 9], [9, 7, 10, 6, 0, 4, 1, 2, 3, 5, 8]]) 0 []) (.seq (.reg 0 [⟨(some 131), .mv (.tmp 13), none, 0⟩, ⟨(some 132), .mv (.tmp 15), none, 0⟩, ⟨(some 133), .lens (.tmp 132), none, 0⟩, ⟨(some 134), .bin .add (.tmp 131) (.tmp 133), none, 0⟩, ⟨(some 13), .mv (.tmp 134), none, 0⟩] none 0 []) (.seq (.reg 0 [⟨(some 135), .mv (.tmp 17), none, 0⟩, ⟨(some 136), .un .not (.tmp 135), none, 0⟩, ⟨(some 137), .mv (.tmp 136), none, 0⟩, ⟨(some 138), .fa 0 (.tmp 16), (some (137, false)), 0⟩, ⟨(some 139), .ld 1 false (.tmp 138), (some (137, false)), 0⟩, ⟨(some 140), .mv (.tmp 12), (some (137, false)), 0⟩, ⟨(some 141), .mv (.tmp 14), (some (137, false)), 0⟩, ⟨(some 142), .ixs 1 (.tmp 140) (.tmp 141), (some (137, false)), 0⟩, ⟨(some 143), .ld 1 false (.tmp 142), (some (137, false)), 0⟩, ⟨(some 144), .bin .neq (.tmp 139) (.tmp 143), (some (137, false)), 0⟩, ⟨(some 145), .pick (.tmp 137) (.const (.bool true)) (.tmp 144), none, 0⟩, ⟨(some 146), .mv (.tmp 145), none, 0⟩, ⟨(some 147), .mv (.tmp 15), (some (146, false)), 0⟩, ⟨(some 148), .lens (.tmp 147), (some (146, false)), 0⟩, ⟨(some 149), .bin .eql (.tmp 148) (.const (.int .i64 0)), (some (146, false)), 0⟩, ⟨(some 150), .pick (.tmp 146) (.const (.bool true)) (.tmp 149), none, 0⟩, ⟨(some 151), .mv (.tmp 150), none, 0⟩, ⟨(some 152), .mv (.tmp 14), (some (151, false)), 0⟩, ⟨(some 153), .bin .gtr (.tmp 152) (.const (.int .i64 0)), (some (151, false)), 0⟩, ⟨(some 154), .mv (.tmp 153), (some (151, false)), 0⟩, ⟨(some 155), .mv (.tmp 12), (some (154, true)), 0⟩, ⟨(some 156), .mv (.tmp 14), (some (154, true)), 0⟩, ⟨(some 157), .bin .sub (.tmp 156) (.const (.int .i64 1)), (some (154, true)), 0⟩, ⟨(some 158), .ixs 1 (.tmp 155) (.tmp 157), (some (154, true)), 0⟩, ⟨(some 159), .ld 1 false (.tmp 158), (some (154, true)), 0⟩, ⟨(some 160), .mv (.tmp 12), (some (154, true)), 0⟩, ⟨(some 161), .mv (.tmp 14), (some (154, true)), 0⟩, ⟨(some 162), .ixs 1 (.tmp 160) (.tmp 161), (some (154, true)), 0⟩, ⟨(some 163), .ld 1 false (.tmp 162), (some (154, true)), 0⟩, ⟨(some 164), .bin .geq (.tmp 159) (.tmp 163), (some (154, true)), 0⟩, ⟨(some 165), .pick (.tmp 154) (.tmp 164) (.const (.bool false)), (some (151, false)), 0⟩, ⟨(some 166), .pick (.tmp 151) (.const (.bool true)) (.tmp 165), none, 0⟩] (some [[], [0], [0, 1], [1, 0, 2], [2, 0, 1, 3], [1, 0, 2], [1, 0, 2], [6, 2, 0, 1, 5], [5, 1, 0, 2, 6, 7], [7, 6, 5, 8, 3, 1, 0, 2, 4], [4, 3, 8, 5, 6, 7, 9, 1, 0, 2], [2, 0, 1, 9, 7, 6, 5, 8, 3, 4, 10], [10, 4, 3, 8, 5, 6, 7, 9, 1, 0, 2, 11], [11, 2, 0, 1, 9, 7, 6, 5, 8, 3, 4, 10, 12], [12, 10, 4, 3, 8, 5, 6, 7, 9, 1, 0, 2, 11, 13], [13, 12, 14, 10, 4, 3, 8, 5, 6, 7, 9, 1, 0, 2, 11], [11, 2, 0, 1, 9, 7, 6, 5, 8, 3, 4, 10, 14, 12, 13, 15], [15, 13, 12, 14, 10, 4, 3, 8, 5, 6, 7, 9, 1, 0, 2, 11, 16], [16, 11, 2, 0, 1, 9, 7, 6, 5, 8, 3, 4, 10, 14, 12, 13, 15, 17], [17, 15, 13, 12, 14, 10, 4, 3, 8, 5, 6, 7, 9, 1, 0, 2, 11, 16, 18], [18, 16, 11, 2, 0, 1, 9, 7, 6, 5, 8, 3, 4, 10, 14, 12, 13, 15, 17, 19], [18, 16, 11, 2, 0, 1, 9, 7, 6, 5, 8, 3, 4, 10, 14, 12, 13, 15, 17, 19], [19, 17, 15, 13, 12, 14, 10, 4, 3, 8, 5, 6, 7, 9, 1, 0, 2, 11, 16, 18, 21], [21, 22, 19, 17, 15, 13, 12, 14, 10, 4, 3, 8, 5, 6, 7, 9, 1, 0, 2, 11, 16, 18, 20], [20, 18, 16, 11, 2, 0, 1, 9, 7, 6, 5, 8, 3, 4, 10, 14, 12, 13, 15, 17, 19, 22, 21, 23], [18, 16, 11, 2, 0, 1, 9, 7, 6, 5, 8, 3, 4, 10, 14, 12, 13, 15, 17, 19], [18, 16, 11, 2, 0, 1, 9, 7, 6, 5, 8, 3, 4, 10, 14, 12, 13, 15, 17, 19], [26, 19, 17, 15, 13, 12, 14, 10, 4, 3, 8, 5, 6, 7, 9, 1, 0, 2, 11, 16, 18, 25], [25, 18, 16, 11, 2, 0, 1, 9, 7, 6, 5, 8, 3, 4, 10, 14, 12, 13, 15, 17, 19, 26, 27], [27, 26, 25, 28, 23, 21, 22, 19, 17, 15, 13, 12, 14, 10, 4, 3, 8, 5, 6, 7, 9, 1, 0, 2, 11, 16, 18, 20, 24], [24, 20, 22, 21, 23, 28, 25, 26, 27, 29, 18, 16, 11, 2, 0, 1, 9, 7, 6, 5, 8, 3, 4, 10, 14, 12, 13, 15, 17, 19], [19, 17, 18, 29, 27, 26, 25, 28, 23, 21, 22, 20, 24, 30, 15, 13, 12, 14, 10, 4, 3, 8, 5, 6, 7, 9, 1, 0, 2, 11, 16]]) 0 []) (.cond (.tmp 166) (.seq (.reg 0 [⟨(some 2), .mv (.const (.bool false)), none, 0⟩] none 0 []) .ret) .skip)))))) (.reg 0 [⟨(some 114), .mv (.tmp 14), none, 0⟩, ⟨(some 115), .bin .add (.tmp 114) (.const (.int .i64 1)), none, 0⟩, ⟨(some 14), .mv (.tmp 115), none, 0⟩] none 0 [])))))) (.seq (.reg 0 [⟨(some 167), .mv (.tmp 8), none, 0⟩, ⟨(some 168), .fa 1 (.tmp 3), none, 0⟩, ⟨(some 169), .ld 1 false (.tmp 168), none, 0⟩, ⟨(some 170), .lens (.tmp 169), none, 0⟩, ⟨(some 171), .bin .eql (.tmp 167) (.tmp 170), none, 0⟩, ⟨(some 172), .mv (.tmp 171), none, 0⟩, ⟨(some 173), .mv (.tmp 13), (some (172, true)), 0⟩, ⟨(some 174), .mv (.tmp 8), (some (172, true)), 0⟩, ⟨(some 175), .bin .eql (.tmp 173) (.tmp 174), (some (172, true)), 0⟩, ⟨(some 176), .pick (.tmp 172) (.tmp 175) (.const (.bool false)), none, 0⟩, ⟨(some 177), .mv (.tmp 176), none, 0⟩, ⟨(some 178), .cl 49 [], (some (177, true)), 0⟩, ⟨(some 179), .pick (.tmp 177) (.tmp 178) (.const (.bool false)), none, 0⟩, ⟨(some 2), .mv (.tmp 179), none, 0⟩] none 0 []) .ret)))))))))))
set_option maxRecDepth 1000000 in
theorem gc11_ok : compF Try.prog Try.f11 = some (gc11.er, 180, [.tmp 2]) := by unfold gc11; kernel_rfl
set_option maxRecDepth 100000 in
set_option maxHeartbeats 4000000 in
theorem p_law24_BookNext_v {u1 : Bool} (a0 : List Law24Deed) : CallsO Try.prog 11 [.sl (List.map Law24Deed.v a0) u1] V.b (p_law24_BookNext a0) := by
  refine callsO_comp mix Try.func11 gc11_ok fun r H => ?_
  rw [p_law24_BookNext] at H
  conv => whnf
  refine LenQ.M ?_; conv => whnf
  refine tst_c H (fun b1 H => ?_) (fun b1 H => ?_)
  · conv => whnf
    refine ask_c (p_law24_awake_v) H rfl rfl (fun v2 H => ?_); conv => whnf
    exact fin0_c (enc := V.b) H (.inr rfl) (.cons (.tmp rfl) (.nil)) rfl rfl
  conv => whnf
  obtain ⟨o4, HL5, HQ6⟩ := bind_c H
  refine loop_c [4] [5, 6, 22, 23, 24, 25, 26, 27, 28, 29, 30, 31, 32, 33, 34, 35, 36, 37, 38, 39, 40, 41, 42, 43, 44, 45, 46, 47, 48, 49, 50, 51, 52, 53, 54, 55, 56, 57, 58, 59, 60, 61, 62, 63, 64, 65, 66, 67, 68, 69, 70, 71, 72, 73, 74] [5, 6, 22, 23, 24, 25, 26, 27, 28, 29, 30, 31, 32, 33, 34, 35, 36, 37, 38, 39, 40, 41, 42, 43, 44, 45, 46, 47, 48, 49, 50, 51, 52, 53, 54, 55, 56, 57, 58, 59, 60, 61, 62, 63, 64, 65, 66, 67, 68, 69, 70, 71, 72, 73, 74] (fun n vals st => (∃ y8 y9, p_law24_BookNext_l1  a0 n y8 y9 = some o4 ∧ vals = [.i y8] ∧ st = [.live [.i y9.Seq, .sl (List.map BookRow.v y9.Rows) true] 0]) ∨ (∃ y19 y20, p_law24_BookNext_l1  a0 n y19 y20 = some o4 ∧ vals = [.i y19] ∧ st = [.live [.i y20.Seq, .sl (List.map BookRow.v y20.Rows) false] 0])) fuel 1 [] (.inl (⟨_, _, HL5, rfl, rfl⟩)) (Nat.zero_le _) rfl (by kernel_rfl) (by kernel_rfl) rfl ⟨⟨rfl, rfl, rfl⟩, trivial⟩ ?_
  rintro (_ | n7) _ _ (⟨y8, y9, H, rfl, rfl⟩ | ⟨y19, y20, H, rfl, rfl⟩)
  · rw [p_law24_BookNext_l1] at H; cases H
  · rw [p_law24_BookNext_l1] at H; cases H
  · rw [p_law24_BookNext_l1] at H
    conv => whnf
    refine LenQ.M ?_; conv => whnf
    refine tst_c H (fun b10 H => ?_) (fun b10 H => ?_)
    · conv => whnf
      refine ixs_c (f := Law24Deed.v) H (fun _ => rfl) (fun x11 H => ?_); conv => whnf
      refine ⟨Nat.le_of_ble_eq_true rfl, ?_⟩; conv => whnf
      refine ⟨by decide, ?_⟩; conv => whnf
      refine Ari.w ?_; conv => whnf
      refine b2sO_c H rfl rfl rfl (fun s12 H => ?_); conv => whnf
      refine cat_c H (fun s13 H => ?_); conv => whnf
      refine ixs_c (f := Law24Deed.v) H (fun _ => rfl) (fun x14 H => ?_); conv => whnf
      refine ⟨Nat.le_of_ble_eq_true rfl, ?_⟩; conv => whnf
      refine ⟨by decide, ?_⟩; conv => whnf
      refine Ari.w ?_; conv => whnf
      refine b2sO_c H rfl rfl rfl (fun s15 H => ?_); conv => whnf
      refine FootQ.mk ⟨rfl, ?_⟩; conv => whnf
      refine ixs_c (f := Law24Deed.v) H (fun _ => rfl) (fun x16 H => ?_); conv => whnf
      refine ⟨Nat.le_of_ble_eq_true rfl, ?_⟩; conv => whnf
      refine tst_c H (fun b17 H => ?_) (fun b17 H => ?_)
      · conv => whnf
        refine ask_c (p_book_Off_v _ _ _) H rfl rfl (fun v18 H => ?_); conv => whnf
        refine ⟨Nat.le_of_ble_eq_true rfl, ?_⟩; conv => whnf
        refine Ari.w ?_; conv => whnf
        exact again_c [5, 6, 22, 23, 24, 25, 26, 27, 28, 29, 30, 31, 32, 33, 34, 35, 36, 37, 38, 39, 40, 41, 42, 43, 44, 45, 46, 47, 48, 49, 50, 51, 52, 53, 54, 55, 56, 57, 58, 59, 60, 61, 62, 63, 64, 65, 66, 67, 68, 69, 70, 71, 72, 73, 74] n7 1 [] (.inr (⟨_, _, H, rfl, rfl⟩)) (Nat.lt_succ_self _) (Nat.zero_le _) rfl (by kernel_rfl) (by kernel_rfl) rfl ⟨⟨rfl, rfl, rfl⟩, trivial⟩
      conv => whnf
      refine ixs_c (f := Law24Deed.v) H (fun _ => rfl) (fun x21 H => ?_); conv => whnf
      refine ⟨Nat.le_of_ble_eq_true rfl, ?_⟩; conv => whnf
      refine ⟨by decide, ?_⟩; conv => whnf
      refine Ari.w ?_; conv => whnf
      refine ask_c (p_book_Set_v _ _ _ _ _) H rfl rfl (fun v22 H => ?_); conv => whnf
      refine ⟨Nat.le_of_ble_eq_true rfl, ?_⟩; conv => whnf
      refine FootQ.mk ⟨rfl, ?_⟩; conv => whnf
      refine Ari.w ?_; conv => whnf
      exact again_c [5, 6, 22, 23, 24, 25, 26, 27, 28, 29, 30, 31, 32, 33, 34, 35, 36, 37, 38, 39, 40, 41, 42, 43, 44, 45, 46, 47, 48, 49, 50, 51, 52, 53, 54, 55, 56, 57, 58, 59, 60, 61, 62, 63, 64, 65, 66, 67, 68, 69, 70, 71, 72, 73, 74] n7 1 [] (.inr (⟨_, _, H, rfl, rfl⟩)) (Nat.lt_succ_self _) (Nat.zero_le _) rfl (by kernel_rfl) (by kernel_rfl) rfl ⟨⟨rfl, rfl, rfl⟩, trivial⟩
    conv => whnf
    obtain rfl := Option.some.inj H
    have H := HQ6
    dsimp only at H
    obtain ⟨o24, HL25, HQ26⟩ := bind_c H
    refine loop_c [2, 7, 8, 9] [10, 11, 75, 76, 77, 78, 79, 80, 81, 82, 83, 84, 85, 86, 87, 88, 89, 90, 91, 92, 93, 94, 95, 96, 97, 98, 99, 100, 101, 102, 103, 104, 105, 106, 107] [10, 11, 75, 76, 77, 78, 79, 80, 81, 82, 83, 84, 85, 86, 87, 88, 89, 90, 91, 92, 93, 94, 95, 96, 97, 98, 99, 100, 101, 102, 103, 104, 105, 106, 107] (fun n vals st => (∃ y28 y29 y30, p_law24_BookNext_l2  y9 n y28 y29 y30 = some o24 ∧ vals = [.b false, .s y28, .i y29, .i y30] ∧ st = [.live [.i y9.Seq, .sl (List.map BookRow.v y9.Rows) true] 0])) fuel 1 [] (⟨_, _, _, HL25, rfl, rfl⟩) (Nat.zero_le _) rfl (by kernel_rfl) (by kernel_rfl) rfl ⟨⟨rfl, rfl, rfl⟩, trivial⟩ ?_
    rintro (_ | n27) _ _ (⟨y28, y29, y30, H, rfl, rfl⟩)
    · rw [p_law24_BookNext_l2] at H; cases H
    rw [p_law24_BookNext_l2] at H
    conv => whnf
    refine tst_d H (fun b31 H => ?_) (fun b31 H => ?_)
    · conv => whnf
      obtain rfl := Option.some.inj H
      have H := HQ26
      dsimp only at H
      refine ask_c (p_book_Users_v _) H rfl rfl (fun v62 H => ?_); conv => whnf
      obtain ⟨o64, HL65, HQ66⟩ := bind_c H
      refine loop_c [2, 13, 14] [15, 16, 17, 110, 111, 112, 113, 114, 115, 116, 117, 118, 119, 120, 121, 122, 123, 124, 125, 126, 127, 128, 129, 130, 131, 132, 133, 134, 135, 136, 137, 138, 139, 140, 141, 142, 143, 144, 145, 146, 147, 148, 149, 150, 151, 152, 153, 154, 155, 156, 157, 158, 159, 160, 161, 162, 163, 164, 165, 166] [15, 16, 17, 110, 111, 112, 113, 114, 115, 116, 117, 118, 119, 120, 121, 122, 123, 124, 125, 126, 127, 128, 129, 130, 131, 132, 133, 134, 135, 136, 137, 138, 139, 140, 141, 142, 143, 144, 145, 146, 147, 148, 149, 150, 151, 152, 153, 154, 155, 156, 157, 158, 159, 160, 161, 162, 163, 164, 165, 166] (fun n vals st => (∃ y68 y69, p_law24_BookNext_l3  v62 y9 n y68 y69 = some o64 ∧ vals = [.b false, .i y68, .i y69] ∧ st = [.live [.i y9.Seq, .sl (List.map BookRow.v y9.Rows) true] 0])) fuel 1 [] (⟨_, _, HL65, rfl, rfl⟩) (Nat.zero_le _) rfl (by kernel_rfl) (by kernel_rfl) rfl ⟨⟨rfl, rfl, rfl⟩, trivial⟩ ?_
      rintro (_ | n67) _ _ (⟨y68, y69, H, rfl, rfl⟩)
      · rw [p_law24_BookNext_l3] at H; cases H
      rw [p_law24_BookNext_l3] at H
      conv => whnf
      refine LenQ.M ?_; conv => whnf
      refine tst_d H (fun b70 H => ?_) (fun b70 H => ?_)
      · conv => whnf
        obtain rfl := Option.some.inj H
        have H := HQ66
        dsimp only at H
        refine LenQ.M ?_; conv => whnf
        refine tst_d H (fun b83 H => ?_) (fun b83 H => ?_)
        · conv => whnf
          iterate 5 (refine Tst.F ?_; conv => whnf)
          exact fin0_c (enc := V.b) H (.inr rfl) (.cons (.tmp rfl) (.nil)) rfl rfl
        conv => whnf
        iterate 3 (refine Tst.T ?_; conv => whnf)
        refine tst_d H (fun b84 H => ?_) (fun b84 H => ?_)
        · conv => whnf
          refine Tst.F ?_; conv => whnf
          exact fin0_c (enc := V.b) H (.inr rfl) (.cons (.tmp rfl) (.nil)) rfl rfl
        conv => whnf
        refine ask_c (p_law24_awake_v) H rfl rfl (fun v85 H => ?_); conv => whnf
        refine Tst.T ?_; conv => whnf
        exact fin0_c (enc := V.b) H (.inr rfl) (.cons (.tmp rfl) (.nil)) rfl rfl
      conv => whnf
      refine ixs_c (f := V.s) H (fun _ => rfl) (fun x71 H => ?_); conv => whnf
      refine ask_c (p_book_Of_v _ _) H rfl rfl (fun v72 H => ?_); conv => whnf
      refine FootQ.mk ⟨rfl, ?_⟩; conv => whnf
      refine ixs_c (f := V.s) H (fun _ => rfl) (fun x73 H => ?_); conv => whnf
      refine ask_c (p_book_Best_v _ _) H rfl rfl (fun v74 H => ?_); conv => whnf
      refine ⟨Nat.le_of_ble_eq_true rfl, ?_⟩; conv => whnf
      refine FootQ.mk ⟨rfl, ?_⟩; conv => whnf
      refine LenQ.M ?_; conv => whnf
      refine Ari.w ?_; conv => whnf
      refine Tst.not ?_
      refine tst_d H (fun b75 H => ?_) (fun b75 H => ?_)
      · conv => whnf
        iterate 16 (refine Tst.T ?_; conv => whnf)
        refine FootQ.mk ⟨rfl, ?_⟩; conv => whnf
        refine Tst.T ?_; conv => whnf
        obtain rfl := Option.some.inj H
        have H := HQ66
        dsimp only at H
        exact fin0_c (enc := V.b) H (.inr rfl) (.cons (.tmp rfl) (.nil)) rfl rfl
      conv => whnf
      iterate 4 (refine Tst.F ?_; conv => whnf)
      refine ixs_c (f := V.s) H (fun _ => rfl) (fun x76 H => ?_); conv => whnf
      iterate 3 (refine Tst.F ?_; conv => whnf)
      refine Tst.not ?_
      refine tst_d H (fun b77 H => ?_) (fun b77 H => ?_)
      · conv => whnf
        iterate 8 (refine Tst.T ?_; conv => whnf)
        refine FootQ.mk ⟨rfl, ?_⟩; conv => whnf
        refine Tst.T ?_; conv => whnf
        obtain rfl := Option.some.inj H
        have H := HQ66
        dsimp only at H
        exact fin0_c (enc := V.b) H (.inr rfl) (.cons (.tmp rfl) (.nil)) rfl rfl
      conv => whnf
      refine Tst.F ?_; conv => whnf
      refine LenQ.M ?_; conv => whnf
      iterate 2 (refine Tst.F ?_; conv => whnf)
      refine tst_c H (fun b78 H => ?_) (fun b78 H => ?_)
      · conv => whnf
        iterate 4 (refine Tst.T ?_; conv => whnf)
        refine FootQ.mk ⟨rfl, ?_⟩; conv => whnf
        refine Tst.T ?_; conv => whnf
        obtain rfl := Option.some.inj H
        have H := HQ66
        dsimp only at H
        exact fin0_c (enc := V.b) H (.inr rfl) (.cons (.tmp rfl) (.nil)) rfl rfl
      conv => whnf
      iterate 2 (refine Tst.F ?_; conv => whnf)
      refine tst_d H (fun b79 H => ?_) (fun b79 H => ?_)
      · conv => whnf
        iterate 12 (refine Tst.F ?_; conv => whnf)
        refine FootQ.mk ⟨rfl, ?_⟩; conv => whnf
        refine Tst.F ?_; conv => whnf
        refine Ari.w ?_; conv => whnf
        exact again_c [15, 16, 17, 110, 111, 112, 113, 114, 115, 116, 117, 118, 119, 120, 121, 122, 123, 124, 125, 126, 127, 128, 129, 130, 131, 132, 133, 134, 135, 136, 137, 138, 139, 140, 141, 142, 143, 144, 145, 146, 147, 148, 149, 150, 151, 152, 153, 154, 155, 156, 157, 158, 159, 160, 161, 162, 163, 164, 165, 166] n67 1 [] (⟨_, _, H, rfl, rfl⟩) (Nat.lt_succ_self _) (Nat.zero_le _) rfl (by kernel_rfl) (by kernel_rfl) rfl ⟨⟨rfl, rfl, rfl⟩, trivial⟩
      conv => whnf
      iterate 2 (refine Tst.T ?_; conv => whnf)
      refine Ari.w ?_; conv => whnf
      refine Tst.T ?_; conv => whnf
      refine ixs_c (f := V.s) H (fun _ => rfl) (fun x80 H => ?_); conv => whnf
      iterate 4 (refine Tst.T ?_; conv => whnf)
      refine ixs_c (f := V.s) H (fun _ => rfl) (fun x81 H => ?_); conv => whnf
      iterate 2 (refine Tst.T ?_; conv => whnf)
      refine Tst.F ?_; conv => whnf
      refine Tst.T ?_; conv => whnf
      refine Tst.F ?_; conv => whnf
      refine FootQ.mk ⟨rfl, ?_⟩; conv => whnf
      refine Tst.not ?_
      refine tst_d H (fun b82 H => ?_) (fun b82 H => ?_)
      · conv => whnf
        obtain rfl := Option.some.inj H
        have H := HQ66
        dsimp only at H
        exact fin0_c (enc := V.b) H (.inr rfl) (.cons (.tmp rfl) (.nil)) rfl rfl
      conv => whnf
      refine Ari.w ?_; conv => whnf
      exact again_c [15, 16, 17, 110, 111, 112, 113, 114, 115, 116, 117, 118, 119, 120, 121, 122, 123, 124, 125, 126, 127, 128, 129, 130, 131, 132, 133, 134, 135, 136, 137, 138, 139, 140, 141, 142, 143, 144, 145, 146, 147, 148, 149, 150, 151, 152, 153, 154, 155, 156, 157, 158, 159, 160, 161, 162, 163, 164, 165, 166] n67 1 [] (⟨_, _, H, rfl, rfl⟩) (Nat.lt_succ_self _) (Nat.zero_le _) rfl (by kernel_rfl) (by kernel_rfl) rfl ⟨⟨rfl, rfl, rfl⟩, trivial⟩
    conv => whnf
    refine ask_c (p_book_Next_v _ _) H rfl rfl (fun v32 H => ?_); conv => whnf
    refine ⟨Nat.le_of_ble_eq_true rfl, ?_⟩; conv => whnf
    refine Tst.not ?_
    refine tst_c H (fun b33 H => ?_) (fun b33 H => ?_)
    · conv => whnf
      refine LenQ.M ?_; conv => whnf
      refine tst_c H (fun b34 H => ?_) (fun b34 H => ?_)
      · conv => whnf
        iterate 7 (refine Tst.T ?_; conv => whnf)
        refine FootQ.mk ⟨rfl, ?_⟩; conv => whnf
        refine Tst.T ?_; conv => whnf
        obtain rfl := Option.some.inj H
        have H := HQ26
        dsimp only at H
        exact fin0_c (enc := V.b) H (.inr rfl) (.cons (.tmp rfl) (.nil)) rfl rfl
      conv => whnf
      iterate 4 (refine Tst.F ?_; conv => whnf)
      refine ixs_c (f := BookRow.v) H (fun _ => rfl) (fun x35 H => ?_); conv => whnf
      iterate 3 (refine Tst.F ?_; conv => whnf)
      refine FootQ.mk ⟨rfl, ?_⟩; conv => whnf
      refine Tst.not ?_
      refine tst_d H (fun b36 H => ?_) (fun b36 H => ?_)
      · conv => whnf
        obtain rfl := Option.some.inj H
        have H := HQ26
        dsimp only at H
        exact fin0_c (enc := V.b) H (.inr rfl) (.cons (.tmp rfl) (.nil)) rfl rfl
      conv => whnf
      refine ask_c (p_pres_Key_v _ _) H rfl rfl (fun v37 H => ?_); conv => whnf
      iterate 2 (refine Ari.w ?_; conv => whnf)
      exact again_c [10, 11, 75, 76, 77, 78, 79, 80, 81, 82, 83, 84, 85, 86, 87, 88, 89, 90, 91, 92, 93, 94, 95, 96, 97, 98, 99, 100, 101, 102, 103, 104, 105, 106, 107] n27 1 [] (⟨_, _, _, H, rfl, rfl⟩) (Nat.lt_succ_self _) (Nat.zero_le _) rfl (by kernel_rfl) (by kernel_rfl) rfl ⟨⟨rfl, rfl, rfl⟩, trivial⟩
    conv => whnf
    obtain rfl := Option.some.inj H
    have H := HQ26
    dsimp only at H
    refine ask_c (p_book_Users_v _) H rfl rfl (fun v38 H => ?_); conv => whnf
    obtain ⟨o40, HL41, HQ42⟩ := bind_c H
    refine loop_c [2, 13, 14] [15, 16, 17, 110, 111, 112, 113, 114, 115, 116, 117, 118, 119, 120, 121, 122, 123, 124, 125, 126, 127, 128, 129, 130, 131, 132, 133, 134, 135, 136, 137, 138, 139, 140, 141, 142, 143, 144, 145, 146, 147, 148, 149, 150, 151, 152, 153, 154, 155, 156, 157, 158, 159, 160, 161, 162, 163, 164, 165, 166, 10] [15, 16, 17, 110, 111, 112, 113, 114, 115, 116, 117, 118, 119, 120, 121, 122, 123, 124, 125, 126, 127, 128, 129, 130, 131, 132, 133, 134, 135, 136, 137, 138, 139, 140, 141, 142, 143, 144, 145, 146, 147, 148, 149, 150, 151, 152, 153, 154, 155, 156, 157, 158, 159, 160, 161, 162, 163, 164, 165, 166, 10] (fun n vals st => (∃ y44 y45, p_law24_BookNext_l3  v38 y9 n y44 y45 = some o40 ∧ vals = [.b false, .i y44, .i y45] ∧ st = [.live [.i y9.Seq, .sl (List.map BookRow.v y9.Rows) true] 0])) fuel 1 [] (⟨_, _, HL41, rfl, rfl⟩) (Nat.zero_le _) rfl (by kernel_rfl) (by kernel_rfl) rfl ⟨⟨rfl, rfl, rfl⟩, trivial⟩ ?_
    rintro (_ | n43) _ _ (⟨y44, y45, H, rfl, rfl⟩)
    · rw [p_law24_BookNext_l3] at H; cases H
    rw [p_law24_BookNext_l3] at H
    conv => whnf
    refine LenQ.M ?_; conv => whnf
    refine tst_d H (fun b46 H => ?_) (fun b46 H => ?_)
    · conv => whnf
      obtain rfl := Option.some.inj H
      have H := HQ42
      dsimp only at H
      refine LenQ.M ?_; conv => whnf
      refine tst_d H (fun b59 H => ?_) (fun b59 H => ?_)
      · conv => whnf
        iterate 5 (refine Tst.F ?_; conv => whnf)
        exact fin0_c (enc := V.b) H (.inr rfl) (.cons (.tmp rfl) (.nil)) rfl rfl
      conv => whnf
      iterate 3 (refine Tst.T ?_; conv => whnf)
      refine tst_d H (fun b60 H => ?_) (fun b60 H => ?_)
      · conv => whnf
        refine Tst.F ?_; conv => whnf
        exact fin0_c (enc := V.b) H (.inr rfl) (.cons (.tmp rfl) (.nil)) rfl rfl
      conv => whnf
      refine ask_c (p_law24_awake_v) H rfl rfl (fun v61 H => ?_); conv => whnf
      refine Tst.T ?_; conv => whnf
      exact fin0_c (enc := V.b) H (.inr rfl) (.cons (.tmp rfl) (.nil)) rfl rfl
    conv => whnf
    refine ixs_c (f := V.s) H (fun _ => rfl) (fun x47 H => ?_); conv => whnf
    refine ask_c (p_book_Of_v _ _) H rfl rfl (fun v48 H => ?_); conv => whnf
    refine FootQ.mk ⟨rfl, ?_⟩; conv => whnf
    refine ixs_c (f := V.s) H (fun _ => rfl) (fun x49 H => ?_); conv => whnf
    refine ask_c (p_book_Best_v _ _) H rfl rfl (fun v50 H => ?_); conv => whnf
    refine ⟨Nat.le_of_ble_eq_true rfl, ?_⟩; conv => whnf
    refine FootQ.mk ⟨rfl, ?_⟩; conv => whnf
    refine LenQ.M ?_; conv => whnf
    refine Ari.w ?_; conv => whnf
    refine Tst.not ?_
    refine tst_d H (fun b51 H => ?_) (fun b51 H => ?_)
    · conv => whnf
      iterate 16 (refine Tst.T ?_; conv => whnf)
      refine FootQ.mk ⟨rfl, ?_⟩; conv => whnf
      refine Tst.T ?_; conv => whnf
      obtain rfl := Option.some.inj H
      have H := HQ42
      dsimp only at H
      exact fin0_c (enc := V.b) H (.inr rfl) (.cons (.tmp rfl) (.nil)) rfl rfl
    conv => whnf
    iterate 4 (refine Tst.F ?_; conv => whnf)
    refine ixs_c (f := V.s) H (fun _ => rfl) (fun x52 H => ?_); conv => whnf
    iterate 3 (refine Tst.F ?_; conv => whnf)
    refine Tst.not ?_
    refine tst_d H (fun b53 H => ?_) (fun b53 H => ?_)
    · conv => whnf
      iterate 8 (refine Tst.T ?_; conv => whnf)
      refine FootQ.mk ⟨rfl, ?_⟩; conv => whnf
      refine Tst.T ?_; conv => whnf
      obtain rfl := Option.some.inj H
      have H := HQ42
      dsimp only at H
      exact fin0_c (enc := V.b) H (.inr rfl) (.cons (.tmp rfl) (.nil)) rfl rfl
    conv => whnf
    refine Tst.F ?_; conv => whnf
    refine LenQ.M ?_; conv => whnf
    iterate 2 (refine Tst.F ?_; conv => whnf)
    refine tst_c H (fun b54 H => ?_) (fun b54 H => ?_)
    · conv => whnf
      iterate 4 (refine Tst.T ?_; conv => whnf)
      refine FootQ.mk ⟨rfl, ?_⟩; conv => whnf
      refine Tst.T ?_; conv => whnf
      obtain rfl := Option.some.inj H
      have H := HQ42
      dsimp only at H
      exact fin0_c (enc := V.b) H (.inr rfl) (.cons (.tmp rfl) (.nil)) rfl rfl
    conv => whnf
    iterate 2 (refine Tst.F ?_; conv => whnf)
    refine tst_d H (fun b55 H => ?_) (fun b55 H => ?_)
    · conv => whnf
      iterate 12 (refine Tst.F ?_; conv => whnf)
      refine FootQ.mk ⟨rfl, ?_⟩; conv => whnf
      refine Tst.F ?_; conv => whnf
      refine Ari.w ?_; conv => whnf
      exact again_c [15, 16, 17, 110, 111, 112, 113, 114, 115, 116, 117, 118, 119, 120, 121, 122, 123, 124, 125, 126, 127, 128, 129, 130, 131, 132, 133, 134, 135, 136, 137, 138, 139, 140, 141, 142, 143, 144, 145, 146, 147, 148, 149, 150, 151, 152, 153, 154, 155, 156, 157, 158, 159, 160, 161, 162, 163, 164, 165, 166, 10] n43 1 [] (⟨_, _, H, rfl, rfl⟩) (Nat.lt_succ_self _) (Nat.zero_le _) rfl (by kernel_rfl) (by kernel_rfl) rfl ⟨⟨rfl, rfl, rfl⟩, trivial⟩
    conv => whnf
    iterate 2 (refine Tst.T ?_; conv => whnf)
    refine Ari.w ?_; conv => whnf
    refine Tst.T ?_; conv => whnf
    refine ixs_c (f := V.s) H (fun _ => rfl) (fun x56 H => ?_); conv => whnf
    iterate 4 (refine Tst.T ?_; conv => whnf)
    refine ixs_c (f := V.s) H (fun _ => rfl) (fun x57 H => ?_); conv => whnf
    iterate 2 (refine Tst.T ?_; conv => whnf)
    refine Tst.F ?_; conv => whnf
    refine Tst.T ?_; conv => whnf
    refine Tst.F ?_; conv => whnf
    refine FootQ.mk ⟨rfl, ?_⟩; conv => whnf
    refine Tst.not ?_
    refine tst_d H (fun b58 H => ?_) (fun b58 H => ?_)
    · conv => whnf
      obtain rfl := Option.some.inj H
      have H := HQ42
      dsimp only at H
      exact fin0_c (enc := V.b) H (.inr rfl) (.cons (.tmp rfl) (.nil)) rfl rfl
    conv => whnf
    refine Ari.w ?_; conv => whnf
    exact again_c [15, 16, 17, 110, 111, 112, 113, 114, 115, 116, 117, 118, 119, 120, 121, 122, 123, 124, 125, 126, 127, 128, 129, 130, 131, 132, 133, 134, 135, 136, 137, 138, 139, 140, 141, 142, 143, 144, 145, 146, 147, 148, 149, 150, 151, 152, 153, 154, 155, 156, 157, 158, 159, 160, 161, 162, 163, 164, 165, 166, 10] n43 1 [] (⟨_, _, H, rfl, rfl⟩) (Nat.lt_succ_self _) (Nat.zero_le _) rfl (by kernel_rfl) (by kernel_rfl) rfl ⟨⟨rfl, rfl, rfl⟩, trivial⟩
  rw [p_law24_BookNext_l1] at H
  conv => whnf
  refine LenQ.M ?_; conv => whnf
  refine tst_c H (fun b86 H => ?_) (fun b86 H => ?_)
  · conv => whnf
    refine ixs_c (f := Law24Deed.v) H (fun _ => rfl) (fun x87 H => ?_); conv => whnf
    refine ⟨Nat.le_of_ble_eq_true rfl, ?_⟩; conv => whnf
    refine ⟨by decide, ?_⟩; conv => whnf
    refine Ari.w ?_; conv => whnf
    refine b2sO_c H rfl rfl rfl (fun s88 H => ?_); conv => whnf
    refine cat_c H (fun s89 H => ?_); conv => whnf
    refine ixs_c (f := Law24Deed.v) H (fun _ => rfl) (fun x90 H => ?_); conv => whnf
    refine ⟨Nat.le_of_ble_eq_true rfl, ?_⟩; conv => whnf
    refine ⟨by decide, ?_⟩; conv => whnf
    refine Ari.w ?_; conv => whnf
    refine b2sO_c H rfl rfl rfl (fun s91 H => ?_); conv => whnf
    refine FootQ.mk ⟨rfl, ?_⟩; conv => whnf
    refine ixs_c (f := Law24Deed.v) H (fun _ => rfl) (fun x92 H => ?_); conv => whnf
    refine ⟨Nat.le_of_ble_eq_true rfl, ?_⟩; conv => whnf
    refine tst_c H (fun b93 H => ?_) (fun b93 H => ?_)
    · conv => whnf
      refine ask_c (p_book_Off_v _ _ _) H rfl rfl (fun v94 H => ?_); conv => whnf
      refine ⟨Nat.le_of_ble_eq_true rfl, ?_⟩; conv => whnf
      refine Ari.w ?_; conv => whnf
      exact again_c [5, 6, 22, 23, 24, 25, 26, 27, 28, 29, 30, 31, 32, 33, 34, 35, 36, 37, 38, 39, 40, 41, 42, 43, 44, 45, 46, 47, 48, 49, 50, 51, 52, 53, 54, 55, 56, 57, 58, 59, 60, 61, 62, 63, 64, 65, 66, 67, 68, 69, 70, 71, 72, 73, 74] n7 1 [] (.inr (⟨_, _, H, rfl, rfl⟩)) (Nat.lt_succ_self _) (Nat.zero_le _) rfl (by kernel_rfl) (by kernel_rfl) rfl ⟨⟨rfl, rfl, rfl⟩, trivial⟩
    conv => whnf
    refine ixs_c (f := Law24Deed.v) H (fun _ => rfl) (fun x95 H => ?_); conv => whnf
    refine ⟨Nat.le_of_ble_eq_true rfl, ?_⟩; conv => whnf
    refine ⟨by decide, ?_⟩; conv => whnf
    refine Ari.w ?_; conv => whnf
    refine ask_c (p_book_Set_v _ _ _ _ _) H rfl rfl (fun v96 H => ?_); conv => whnf
    refine ⟨Nat.le_of_ble_eq_true rfl, ?_⟩; conv => whnf
    refine FootQ.mk ⟨rfl, ?_⟩; conv => whnf
    refine Ari.w ?_; conv => whnf
    exact again_c [5, 6, 22, 23, 24, 25, 26, 27, 28, 29, 30, 31, 32, 33, 34, 35, 36, 37, 38, 39, 40, 41, 42, 43, 44, 45, 46, 47, 48, 49, 50, 51, 52, 53, 54, 55, 56, 57, 58, 59, 60, 61, 62, 63, 64, 65, 66, 67, 68, 69, 70, 71, 72, 73, 74] n7 1 [] (.inr (⟨_, _, H, rfl, rfl⟩)) (Nat.lt_succ_self _) (Nat.zero_le _) rfl (by kernel_rfl) (by kernel_rfl) rfl ⟨⟨rfl, rfl, rfl⟩, trivial⟩
  conv => whnf
  obtain rfl := Option.some.inj H
  have H := HQ6
  dsimp only at H
  obtain ⟨o98, HL99, HQ100⟩ := bind_c H
  refine loop_c [2, 7, 8, 9] [10, 11, 75, 76, 77, 78, 79, 80, 81, 82, 83, 84, 85, 86, 87, 88, 89, 90, 91, 92, 93, 94, 95, 96, 97, 98, 99, 100, 101, 102, 103, 104, 105, 106, 107] [10, 11, 75, 76, 77, 78, 79, 80, 81, 82, 83, 84, 85, 86, 87, 88, 89, 90, 91, 92, 93, 94, 95, 96, 97, 98, 99, 100, 101, 102, 103, 104, 105, 106, 107] (fun n vals st => (∃ y102 y103 y104, p_law24_BookNext_l2  y20 n y102 y103 y104 = some o98 ∧ vals = [.b false, .s y102, .i y103, .i y104] ∧ st = [.live [.i y20.Seq, .sl (List.map BookRow.v y20.Rows) false] 0])) fuel 1 [] (⟨_, _, _, HL99, rfl, rfl⟩) (Nat.zero_le _) rfl (by kernel_rfl) (by kernel_rfl) rfl ⟨⟨rfl, rfl, rfl⟩, trivial⟩ ?_
  rintro (_ | n101) _ _ (⟨y102, y103, y104, H, rfl, rfl⟩)
  · rw [p_law24_BookNext_l2] at H; cases H
  rw [p_law24_BookNext_l2] at H
  conv => whnf
  refine tst_d H (fun b105 H => ?_) (fun b105 H => ?_)
  · conv => whnf
    obtain rfl := Option.some.inj H
    have H := HQ100
    dsimp only at H
    refine ask_c (p_book_Users_v _) H rfl rfl (fun v136 H => ?_); conv => whnf
    obtain ⟨o138, HL139, HQ140⟩ := bind_c H
    refine loop_c [2, 13, 14] [15, 16, 17, 110, 111, 112, 113, 114, 115, 116, 117, 118, 119, 120, 121, 122, 123, 124, 125, 126, 127, 128, 129, 130, 131, 132, 133, 134, 135, 136, 137, 138, 139, 140, 141, 142, 143, 144, 145, 146, 147, 148, 149, 150, 151, 152, 153, 154, 155, 156, 157, 158, 159, 160, 161, 162, 163, 164, 165, 166] [15, 16, 17, 110, 111, 112, 113, 114, 115, 116, 117, 118, 119, 120, 121, 122, 123, 124, 125, 126, 127, 128, 129, 130, 131, 132, 133, 134, 135, 136, 137, 138, 139, 140, 141, 142, 143, 144, 145, 146, 147, 148, 149, 150, 151, 152, 153, 154, 155, 156, 157, 158, 159, 160, 161, 162, 163, 164, 165, 166] (fun n vals st => (∃ y142 y143, p_law24_BookNext_l3  v136 y20 n y142 y143 = some o138 ∧ vals = [.b false, .i y142, .i y143] ∧ st = [.live [.i y20.Seq, .sl (List.map BookRow.v y20.Rows) false] 0])) fuel 1 [] (⟨_, _, HL139, rfl, rfl⟩) (Nat.zero_le _) rfl (by kernel_rfl) (by kernel_rfl) rfl ⟨⟨rfl, rfl, rfl⟩, trivial⟩ ?_
    rintro (_ | n141) _ _ (⟨y142, y143, H, rfl, rfl⟩)
    · rw [p_law24_BookNext_l3] at H; cases H
    rw [p_law24_BookNext_l3] at H
    conv => whnf
    refine LenQ.M ?_; conv => whnf
    refine tst_d H (fun b144 H => ?_) (fun b144 H => ?_)
    · conv => whnf
      obtain rfl := Option.some.inj H
      have H := HQ140
      dsimp only at H
      refine LenQ.M ?_; conv => whnf
      refine tst_d H (fun b157 H => ?_) (fun b157 H => ?_)
      · conv => whnf
        iterate 5 (refine Tst.F ?_; conv => whnf)
        exact fin0_c (enc := V.b) H (.inr rfl) (.cons (.tmp rfl) (.nil)) rfl rfl
      conv => whnf
      iterate 3 (refine Tst.T ?_; conv => whnf)
      refine tst_d H (fun b158 H => ?_) (fun b158 H => ?_)
      · conv => whnf
        refine Tst.F ?_; conv => whnf
        exact fin0_c (enc := V.b) H (.inr rfl) (.cons (.tmp rfl) (.nil)) rfl rfl
      conv => whnf
      refine ask_c (p_law24_awake_v) H rfl rfl (fun v159 H => ?_); conv => whnf
      refine Tst.T ?_; conv => whnf
      exact fin0_c (enc := V.b) H (.inr rfl) (.cons (.tmp rfl) (.nil)) rfl rfl
    conv => whnf
    refine ixs_c (f := V.s) H (fun _ => rfl) (fun x145 H => ?_); conv => whnf
    refine ask_c (p_book_Of_v _ _) H rfl rfl (fun v146 H => ?_); conv => whnf
    refine FootQ.mk ⟨rfl, ?_⟩; conv => whnf
    refine ixs_c (f := V.s) H (fun _ => rfl) (fun x147 H => ?_); conv => whnf
    refine ask_c (p_book_Best_v _ _) H rfl rfl (fun v148 H => ?_); conv => whnf
    refine ⟨Nat.le_of_ble_eq_true rfl, ?_⟩; conv => whnf
    refine FootQ.mk ⟨rfl, ?_⟩; conv => whnf
    refine LenQ.M ?_; conv => whnf
    refine Ari.w ?_; conv => whnf
    refine Tst.not ?_
    refine tst_d H (fun b149 H => ?_) (fun b149 H => ?_)
    · conv => whnf
      iterate 16 (refine Tst.T ?_; conv => whnf)
      refine FootQ.mk ⟨rfl, ?_⟩; conv => whnf
      refine Tst.T ?_; conv => whnf
      obtain rfl := Option.some.inj H
      have H := HQ140
      dsimp only at H
      exact fin0_c (enc := V.b) H (.inr rfl) (.cons (.tmp rfl) (.nil)) rfl rfl
    conv => whnf
    iterate 4 (refine Tst.F ?_; conv => whnf)
    refine ixs_c (f := V.s) H (fun _ => rfl) (fun x150 H => ?_); conv => whnf
    iterate 3 (refine Tst.F ?_; conv => whnf)
    refine Tst.not ?_
    refine tst_d H (fun b151 H => ?_) (fun b151 H => ?_)
    · conv => whnf
      iterate 8 (refine Tst.T ?_; conv => whnf)
      refine FootQ.mk ⟨rfl, ?_⟩; conv => whnf
      refine Tst.T ?_; conv => whnf
      obtain rfl := Option.some.inj H
      have H := HQ140
      dsimp only at H
      exact fin0_c (enc := V.b) H (.inr rfl) (.cons (.tmp rfl) (.nil)) rfl rfl
    conv => whnf
    refine Tst.F ?_; conv => whnf
    refine LenQ.M ?_; conv => whnf
    iterate 2 (refine Tst.F ?_; conv => whnf)
    refine tst_c H (fun b152 H => ?_) (fun b152 H => ?_)
    · conv => whnf
      iterate 4 (refine Tst.T ?_; conv => whnf)
      refine FootQ.mk ⟨rfl, ?_⟩; conv => whnf
      refine Tst.T ?_; conv => whnf
      obtain rfl := Option.some.inj H
      have H := HQ140
      dsimp only at H
      exact fin0_c (enc := V.b) H (.inr rfl) (.cons (.tmp rfl) (.nil)) rfl rfl
    conv => whnf
    iterate 2 (refine Tst.F ?_; conv => whnf)
    refine tst_d H (fun b153 H => ?_) (fun b153 H => ?_)
    · conv => whnf
      iterate 12 (refine Tst.F ?_; conv => whnf)
      refine FootQ.mk ⟨rfl, ?_⟩; conv => whnf
      refine Tst.F ?_; conv => whnf
      refine Ari.w ?_; conv => whnf
      exact again_c [15, 16, 17, 110, 111, 112, 113, 114, 115, 116, 117, 118, 119, 120, 121, 122, 123, 124, 125, 126, 127, 128, 129, 130, 131, 132, 133, 134, 135, 136, 137, 138, 139, 140, 141, 142, 143, 144, 145, 146, 147, 148, 149, 150, 151, 152, 153, 154, 155, 156, 157, 158, 159, 160, 161, 162, 163, 164, 165, 166] n141 1 [] (⟨_, _, H, rfl, rfl⟩) (Nat.lt_succ_self _) (Nat.zero_le _) rfl (by kernel_rfl) (by kernel_rfl) rfl ⟨⟨rfl, rfl, rfl⟩, trivial⟩
    conv => whnf
    iterate 2 (refine Tst.T ?_; conv => whnf)
    refine Ari.w ?_; conv => whnf
    refine Tst.T ?_; conv => whnf
    refine ixs_c (f := V.s) H (fun _ => rfl) (fun x154 H => ?_); conv => whnf
    iterate 4 (refine Tst.T ?_; conv => whnf)
    refine ixs_c (f := V.s) H (fun _ => rfl) (fun x155 H => ?_); conv => whnf
    iterate 2 (refine Tst.T ?_; conv => whnf)
    refine Tst.F ?_; conv => whnf
    refine Tst.T ?_; conv => whnf
    refine Tst.F ?_; conv => whnf
    refine FootQ.mk ⟨rfl, ?_⟩; conv => whnf
    refine Tst.not ?_
    refine tst_d H (fun b156 H => ?_) (fun b156 H => ?_)
    · conv => whnf
      obtain rfl := Option.some.inj H
      have H := HQ140
      dsimp only at H
      exact fin0_c (enc := V.b) H (.inr rfl) (.cons (.tmp rfl) (.nil)) rfl rfl
    conv => whnf
    refine Ari.w ?_; conv => whnf
    exact again_c [15, 16, 17, 110, 111, 112, 113, 114, 115, 116, 117, 118, 119, 120, 121, 122, 123, 124, 125, 126, 127, 128, 129, 130, 131, 132, 133, 134, 135, 136, 137, 138, 139, 140, 141, 142, 143, 144, 145, 146, 147, 148, 149, 150, 151, 152, 153, 154, 155, 156, 157, 158, 159, 160, 161, 162, 163, 164, 165, 166] n141 1 [] (⟨_, _, H, rfl, rfl⟩) (Nat.lt_succ_self _) (Nat.zero_le _) rfl (by kernel_rfl) (by kernel_rfl) rfl ⟨⟨rfl, rfl, rfl⟩, trivial⟩
  conv => whnf
  refine ask_c (p_book_Next_v _ _) H rfl rfl (fun v106 H => ?_); conv => whnf
  refine ⟨Nat.le_of_ble_eq_true rfl, ?_⟩; conv => whnf
  refine Tst.not ?_
  refine tst_c H (fun b107 H => ?_) (fun b107 H => ?_)
  · conv => whnf
    refine LenQ.M ?_; conv => whnf
    refine tst_c H (fun b108 H => ?_) (fun b108 H => ?_)
    · conv => whnf
      iterate 7 (refine Tst.T ?_; conv => whnf)
      refine FootQ.mk ⟨rfl, ?_⟩; conv => whnf
      refine Tst.T ?_; conv => whnf
      obtain rfl := Option.some.inj H
      have H := HQ100
      dsimp only at H
      exact fin0_c (enc := V.b) H (.inr rfl) (.cons (.tmp rfl) (.nil)) rfl rfl
    conv => whnf
    iterate 4 (refine Tst.F ?_; conv => whnf)
    refine ixs_c (f := BookRow.v) H (fun _ => rfl) (fun x109 H => ?_); conv => whnf
    iterate 3 (refine Tst.F ?_; conv => whnf)
    refine FootQ.mk ⟨rfl, ?_⟩; conv => whnf
    refine Tst.not ?_
    refine tst_d H (fun b110 H => ?_) (fun b110 H => ?_)
    · conv => whnf
      obtain rfl := Option.some.inj H
      have H := HQ100
      dsimp only at H
      exact fin0_c (enc := V.b) H (.inr rfl) (.cons (.tmp rfl) (.nil)) rfl rfl
    conv => whnf
    refine ask_c (p_pres_Key_v _ _) H rfl rfl (fun v111 H => ?_); conv => whnf
    iterate 2 (refine Ari.w ?_; conv => whnf)
    exact again_c [10, 11, 75, 76, 77, 78, 79, 80, 81, 82, 83, 84, 85, 86, 87, 88, 89, 90, 91, 92, 93, 94, 95, 96, 97, 98, 99, 100, 101, 102, 103, 104, 105, 106, 107] n101 1 [] (⟨_, _, _, H, rfl, rfl⟩) (Nat.lt_succ_self _) (Nat.zero_le _) rfl (by kernel_rfl) (by kernel_rfl) rfl ⟨⟨rfl, rfl, rfl⟩, trivial⟩
  conv => whnf
  obtain rfl := Option.some.inj H
  have H := HQ100
  dsimp only at H
  refine ask_c (p_book_Users_v _) H rfl rfl (fun v112 H => ?_); conv => whnf
  obtain ⟨o114, HL115, HQ116⟩ := bind_c H
  refine loop_c [2, 13, 14] [15, 16, 17, 110, 111, 112, 113, 114, 115, 116, 117, 118, 119, 120, 121, 122, 123, 124, 125, 126, 127, 128, 129, 130, 131, 132, 133, 134, 135, 136, 137, 138, 139, 140, 141, 142, 143, 144, 145, 146, 147, 148, 149, 150, 151, 152, 153, 154, 155, 156, 157, 158, 159, 160, 161, 162, 163, 164, 165, 166, 10] [15, 16, 17, 110, 111, 112, 113, 114, 115, 116, 117, 118, 119, 120, 121, 122, 123, 124, 125, 126, 127, 128, 129, 130, 131, 132, 133, 134, 135, 136, 137, 138, 139, 140, 141, 142, 143, 144, 145, 146, 147, 148, 149, 150, 151, 152, 153, 154, 155, 156, 157, 158, 159, 160, 161, 162, 163, 164, 165, 166, 10] (fun n vals st => (∃ y118 y119, p_law24_BookNext_l3  v112 y20 n y118 y119 = some o114 ∧ vals = [.b false, .i y118, .i y119] ∧ st = [.live [.i y20.Seq, .sl (List.map BookRow.v y20.Rows) false] 0])) fuel 1 [] (⟨_, _, HL115, rfl, rfl⟩) (Nat.zero_le _) rfl (by kernel_rfl) (by kernel_rfl) rfl ⟨⟨rfl, rfl, rfl⟩, trivial⟩ ?_
  rintro (_ | n117) _ _ (⟨y118, y119, H, rfl, rfl⟩)
  · rw [p_law24_BookNext_l3] at H; cases H
  rw [p_law24_BookNext_l3] at H
  conv => whnf
  refine LenQ.M ?_; conv => whnf
  refine tst_d H (fun b120 H => ?_) (fun b120 H => ?_)
  · conv => whnf
    obtain rfl := Option.some.inj H
    have H := HQ116
    dsimp only at H
    refine LenQ.M ?_; conv => whnf
    refine tst_d H (fun b133 H => ?_) (fun b133 H => ?_)
    · conv => whnf
      iterate 5 (refine Tst.F ?_; conv => whnf)
      exact fin0_c (enc := V.b) H (.inr rfl) (.cons (.tmp rfl) (.nil)) rfl rfl
    conv => whnf
    iterate 3 (refine Tst.T ?_; conv => whnf)
    refine tst_d H (fun b134 H => ?_) (fun b134 H => ?_)
    · conv => whnf
      refine Tst.F ?_; conv => whnf
      exact fin0_c (enc := V.b) H (.inr rfl) (.cons (.tmp rfl) (.nil)) rfl rfl
    conv => whnf
    refine ask_c (p_law24_awake_v) H rfl rfl (fun v135 H => ?_); conv => whnf
    refine Tst.T ?_; conv => whnf
    exact fin0_c (enc := V.b) H (.inr rfl) (.cons (.tmp rfl) (.nil)) rfl rfl
  conv => whnf
  refine ixs_c (f := V.s) H (fun _ => rfl) (fun x121 H => ?_); conv => whnf
  refine ask_c (p_book_Of_v _ _) H rfl rfl (fun v122 H => ?_); conv => whnf
  refine FootQ.mk ⟨rfl, ?_⟩; conv => whnf
  refine ixs_c (f := V.s) H (fun _ => rfl) (fun x123 H => ?_); conv => whnf
  refine ask_c (p_book_Best_v _ _) H rfl rfl (fun v124 H => ?_); conv => whnf
  refine ⟨Nat.le_of_ble_eq_true rfl, ?_⟩; conv => whnf
  refine FootQ.mk ⟨rfl, ?_⟩; conv => whnf
  refine LenQ.M ?_; conv => whnf
  refine Ari.w ?_; conv => whnf
  refine Tst.not ?_
  refine tst_d H (fun b125 H => ?_) (fun b125 H => ?_)
  · conv => whnf
    iterate 16 (refine Tst.T ?_; conv => whnf)
    refine FootQ.mk ⟨rfl, ?_⟩; conv => whnf
    refine Tst.T ?_; conv => whnf
    obtain rfl := Option.some.inj H
    have H := HQ116
    dsimp only at H
    exact fin0_c (enc := V.b) H (.inr rfl) (.cons (.tmp rfl) (.nil)) rfl rfl
  conv => whnf
  iterate 4 (refine Tst.F ?_; conv => whnf)
  refine ixs_c (f := V.s) H (fun _ => rfl) (fun x126 H => ?_); conv => whnf
  iterate 3 (refine Tst.F ?_; conv => whnf)
  refine Tst.not ?_
  refine tst_d H (fun b127 H => ?_) (fun b127 H => ?_)
  · conv => whnf
    iterate 8 (refine Tst.T ?_; conv => whnf)
    refine FootQ.mk ⟨rfl, ?_⟩; conv => whnf
    refine Tst.T ?_; conv => whnf
    obtain rfl := Option.some.inj H
    have H := HQ116
    dsimp only at H
    exact fin0_c (enc := V.b) H (.inr rfl) (.cons (.tmp rfl) (.nil)) rfl rfl
  conv => whnf
  refine Tst.F ?_; conv => whnf
  refine LenQ.M ?_; conv => whnf
  iterate 2 (refine Tst.F ?_; conv => whnf)
  refine tst_c H (fun b128 H => ?_) (fun b128 H => ?_)
  · conv => whnf
    iterate 4 (refine Tst.T ?_; conv => whnf)
    refine FootQ.mk ⟨rfl, ?_⟩; conv => whnf
    refine Tst.T ?_; conv => whnf
    obtain rfl := Option.some.inj H
    have H := HQ116
    dsimp only at H
    exact fin0_c (enc := V.b) H (.inr rfl) (.cons (.tmp rfl) (.nil)) rfl rfl
  conv => whnf
  iterate 2 (refine Tst.F ?_; conv => whnf)
  refine tst_d H (fun b129 H => ?_) (fun b129 H => ?_)
  · conv => whnf
    iterate 12 (refine Tst.F ?_; conv => whnf)
    refine FootQ.mk ⟨rfl, ?_⟩; conv => whnf
    refine Tst.F ?_; conv => whnf
    refine Ari.w ?_; conv => whnf
    exact again_c [15, 16, 17, 110, 111, 112, 113, 114, 115, 116, 117, 118, 119, 120, 121, 122, 123, 124, 125, 126, 127, 128, 129, 130, 131, 132, 133, 134, 135, 136, 137, 138, 139, 140, 141, 142, 143, 144, 145, 146, 147, 148, 149, 150, 151, 152, 153, 154, 155, 156, 157, 158, 159, 160, 161, 162, 163, 164, 165, 166, 10] n117 1 [] (⟨_, _, H, rfl, rfl⟩) (Nat.lt_succ_self _) (Nat.zero_le _) rfl (by kernel_rfl) (by kernel_rfl) rfl ⟨⟨rfl, rfl, rfl⟩, trivial⟩
  conv => whnf
  iterate 2 (refine Tst.T ?_; conv => whnf)
  refine Ari.w ?_; conv => whnf
  refine Tst.T ?_; conv => whnf
  refine ixs_c (f := V.s) H (fun _ => rfl) (fun x130 H => ?_); conv => whnf
  iterate 4 (refine Tst.T ?_; conv => whnf)
  refine ixs_c (f := V.s) H (fun _ => rfl) (fun x131 H => ?_); conv => whnf
  iterate 2 (refine Tst.T ?_; conv => whnf)
  refine Tst.F ?_; conv => whnf
  refine Tst.T ?_; conv => whnf
  refine Tst.F ?_; conv => whnf
  refine FootQ.mk ⟨rfl, ?_⟩; conv => whnf
  refine Tst.not ?_
  refine tst_d H (fun b132 H => ?_) (fun b132 H => ?_)
  · conv => whnf
    obtain rfl := Option.some.inj H
    have H := HQ116
    dsimp only at H
    exact fin0_c (enc := V.b) H (.inr rfl) (.cons (.tmp rfl) (.nil)) rfl rfl
  conv => whnf
  refine Ari.w ?_; conv => whnf
  exact again_c [15, 16, 17, 110, 111, 112, 113, 114, 115, 116, 117, 118, 119, 120, 121, 122, 123, 124, 125, 126, 127, 128, 129, 130, 131, 132, 133, 134, 135, 136, 137, 138, 139, 140, 141, 142, 143, 144, 145, 146, 147, 148, 149, 150, 151, 152, 153, 154, 155, 156, 157, 158, 159, 160, 161, 162, 163, 164, 165, 166, 10] n117 1 [] (⟨_, _, H, rfl, rfl⟩) (Nat.lt_succ_self _) (Nat.zero_le _) rfl (by kernel_rfl) (by kernel_rfl) rfl ⟨⟨rfl, rfl, rfl⟩, trivial⟩
end Go.Proofs.Ytljeinlapkgjeaa
/- BookNext: for every input the call returns true, and its arguments read as they did. -/
namespace Go.Proofs.Ytljeinlapkgjeaa
open Go.ChangeShapes Go.WideShapes Go.ChangeAt Go.RowKit Go.Joins Go.Deep
set_option maxRecDepth 100000 in
theorem bookNext_lifted (os : Os) (started : os.Started) (H : Type) (enc : TypeId × Value → H) :
    ReturnsInHanded {} Try.checked os 11 .any (Rows.bookNextSpec.pre6 enc Try.prog Try.f11 Rows.bookNextRow.domain false) (Rows.bookNextSpec.post enc Try.prog Try.f11 false true false false) := by
  refine returnsInHanded_of_change_shaped (C := Try.checked) own0 started (by kernel_rfl) Try.func11
    (ChangeSpec.witness6 (enc := enc) (C := Try.checked) false ⟨#[], #[.slice none 0 0], []⟩ 8 (by kernel_rfl) (by kernel_rfl) (by kernel_rfl) (by kernel_rfl)) ?_
  intro W base args ds gs before hval0 hW hcnd _ hsh _
  have hval : ∀ (j : Nat) t v, Try.f11.params[j]? = some t → args[j]? = some v → Value.okWide Try.prog W .any base t v := hval0
  have hW' := hW
  obtain ⟨p, q, hA0, hV, rfl, hfz, hnd⟩ := hW
  have hA : DataW.TrodAll enc Try.prog W 0 (fun _ => true) true Try.f11.params.toList args.toList ds p := hA0
  rw [Try.params11] at hA hval
  have hA2 := hA
  obtain ⟨v0, d0, rfl, rfl, h0⟩ := trodAll_one hA
  obtain ⟨rfl, rfl⟩ := trodVars_none hV
  obtain ⟨fu0, hf0⟩ := h0
  obtain ⟨q0, l0, k0, rfl⟩ := okWide_slice Try.underlying88 (hval 0 _ v0 rfl rfl)
  obtain ⟨a0, w0, r0⟩ := rd_T88 hf0
  have hx0 : Rep (MW W) noBk _ _ := r0.2 0 (by simp [Value.cells]) (by simp)
  refine (rep_one (callsO_true (p_law24_BookNext_v a0) (bookNext_wf a0 w0)) (maxLen_cell W hsh) (repA1 hx0)).mono ?_
  rintro e W' ⟨rfl, bel⟩
  refine ⟨_, rfl, _, _, _, [], p, [], hW', ?_, ?_, ?_, ?_, ?_⟩
  · exact trodAll_mk1 (shut_bool Try.underlying4 true)
  · exact trodAll_below laid0 bel (by
      intro t ht
      simp at ht
      rcases ht with rfl <;> exact ⟨by kernel_rfl, of_decide_eq_true (by kernel_rfl)⟩) hA2
  · rfl
  · exact bel.frame _
  · exact fun h => by cases h
theorem bookNext_holds : Rows.BookNextSaid :=
  OpenClaim.holds_of_wide 11 Try.f11 rfl rfl rfl rfl rfl rfl rfl ⟨rfl, rfl, rfl, rfl, rfl⟩ rfl rfl rfl rfl rfl (by kernel_rfl) Try.func11 (by kernel_rfl)
    (of_decide_eq_true (by kernel_rfl)) (by unfold Func.isWrapper; first | (rw [if_pos (by decide +kernel)]; kernel_rfl) | (rw [if_neg (by decide +kernel)]; exact ⟨rfl, rfl⟩))
    (fun os started H enc _ => bookNext_lifted os started H enc)
#print axioms bookNext_holds
end Go.Proofs.Ytljeinlapkgjeaa
