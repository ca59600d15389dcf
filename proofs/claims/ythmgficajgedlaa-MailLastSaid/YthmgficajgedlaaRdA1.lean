/- A part of the proof: 5 texts joined. -/
import Derived.Test.YthmgficajgedlaaRcA7
import Derived.Test.YthmgficajgedlaaRcA9
import Derived.Test.YthmgficajgedlaaRcA10
import Derived.Test.YthmgficajgedlaaRcA12
import Derived.Test.YthmgficajgedlaaRcA5
import Derived.KernelRfl
set_option linter.all false
/- Readers of MailLast's parameters. -/
namespace Go.Proofs.Ythmgficajgedlaa
open Go.ChangeShapes Go.WideShapes Go.ChangeAt Go.RowKit Go.Joins Go.Deep
structure Law25Deed.Wf (x : Law25Deed) : Prop where
  Who : (Lit.int .u8 x.Who).wf = true
  Take : (Lit.int .u8 x.Take).wf = true
set_option maxRecDepth 100000 in
theorem rd_T97 {H : Type} {enc : TypeId × Value → H} {W : World} {spare : Nat → Bool} {held : Bool} {fuel : Nat} {cs : List Value} {y : DataW H × List MemPlace} (h : DataW.trod enc Try.prog W 0 spare held fuel 97 cs = some y) : ∃ x : Law25Deed, Law25Deed.Wf x ∧ RepL (MW W) noBk cs [.y8 x.Who, .b x.On, .y8 x.Take] := by
  obtain ⟨xs, n, _, _, hl, hx, hall⟩ := DataW.trod_struct Try.underlying97 h
  have hce : Try.prog.cellsOf 97 = 3 := by kernel_rfl
  rw [hce] at hl
  match cs, hl, hall with
  | [c0, c1, c2], _, hall =>
    obtain ⟨y0, hy0⟩ := get_some hx (show 0 < 3 by omega)
    have g0 : DataW.trod enc Try.prog W 0 spare held n 5 [c0] = some y0 := by
      have hz : Try.prog.cellsOf 5 = 1 := by kernel_rfl
      have g : DataW.trod enc Try.prog W 0 spare held n 5 (([c0, c1, c2].drop 0).take (Try.prog.cellsOf 5)) = some y0 := (hall 0 _ rfl).trans hy0
      rw [hz] at g; exact g
    obtain ⟨x0, w0, r0⟩ := rd_int Try.underlying5 g0
    obtain ⟨y1, hy1⟩ := get_some hx (show 1 < 3 by omega)
    have g1 : DataW.trod enc Try.prog W 0 spare held n 4 [c1] = some y1 := by
      have hz : Try.prog.cellsOf 4 = 1 := by kernel_rfl
      have g : DataW.trod enc Try.prog W 0 spare held n 4 (([c0, c1, c2].drop 1).take (Try.prog.cellsOf 4)) = some y1 := (hall 1 _ rfl).trans hy1
      rw [hz] at g; exact g
    obtain ⟨x1, r1⟩ := rd_bool Try.underlying4 g1
    obtain ⟨y2, hy2⟩ := get_some hx (show 2 < 3 by omega)
    have g2 : DataW.trod enc Try.prog W 0 spare held n 5 [c2] = some y2 := by
      have hz : Try.prog.cellsOf 5 = 1 := by kernel_rfl
      have g : DataW.trod enc Try.prog W 0 spare held n 5 (([c0, c1, c2].drop 2).take (Try.prog.cellsOf 5)) = some y2 := (hall 2 _ rfl).trans hy2
      rw [hz] at g; exact g
    obtain ⟨x2, w2, r2⟩ := rd_int Try.underlying5 g2
    exact ⟨⟨x0, x1, x2⟩, ⟨w0, w2⟩, repL_app r0 (repL_app r1 (repL_app r2 (repL_nil)))⟩
theorem rd_T92 {H : Type} {enc : TypeId × Value → H} {W : World} {spare : Nat → Bool} {held : Bool} {fuel : Nat} {cs : List Value} {y : DataW H × List MemPlace} (h : DataW.trod enc Try.prog W 0 spare held fuel 92 cs = some y) : ∃ x : List Law25Deed, (∀ z ∈ x, Law25Deed.Wf z) ∧ RepL (MW W) noBk cs [(fun l : List Law25Deed => V.sl (l.map Law25Deed.v) false) x] :=
  rd_slice (f := Law25Deed.v) (es := 3) (wf := Law25Deed.Wf) Try.underlying92 (fun _ => rfl) (by intro a v hv; simp [V.cells] at hv; first | (subst hv; rfl) | (rcases hv with rfl | rfl | rfl <;> rfl)) (by omega) (by kernel_rfl) (fun n cs y h => rd_T97 h) h
end Go.Proofs.Ythmgficajgedlaa
/- That the program's functions yield what the plain ones tell (written by a program of mine). -/
namespace Go.Proofs.Ythmgficajgedlaa
open Go.RowKit
def gc8 : BCode := (.seq (.reg 0 [⟨(some 2), .mv (.const (.bool false)), none, 0⟩] none 0 []) (.seq (.seq (.reg 0 [⟨(some 16), .mv (.tmp 0), none, 0⟩, ⟨(some 17), .lens (.tmp 16), none, 0⟩, ⟨(some 18), .bin .gtr (.tmp 17) (.const (.int .i64 80)), none, 0⟩] none 0 []) (.cond (.tmp 18) (.seq (.reg 0 [⟨(some 19), .cl 44 [], none, 0⟩, ⟨(some 2), .mv (.tmp 19), none, 0⟩] none 0 []) .ret) .skip)) (.seq (.reg 0 [⟨(some 3), .mv (.const (.slice none 0 0)), none, 0⟩] none 0 []) (.seq (.reg 1 [⟨(some 4), .al (.agg [(.lit (.bool false)), (.lit (.int .i64 0)), (.lit (.int .i64 0)), (.lit (.int .i64 0)), (.lit (.bool false)), (.lit (.int .i64 0)), (.lit (.int .i64 0)), (.lit (.int .i64 0)), (.lit (.bool false)), (.lit (.int .i64 0)), (.lit (.int .i64 0)), (.lit (.int .i64 0)), (.lit (.bool false)), (.lit (.int .i64 0)), (.lit (.int .i64 0)), (.lit (.int .i64 0)), (.lit (.bool false)), (.lit (.int .i64 0)), (.lit (.int .i64 0)), (.lit (.int .i64 0)), (.lit (.bool false)), (.lit (.int .i64 0)), (.lit (.int .i64 0)), (.lit (.int .i64 0)), (.lit (.bool false)), (.lit (.int .i64 0)), (.lit (.int .i64 0)), (.lit (.int .i64 0)), (.lit (.bool false)), (.lit (.int .i64 0)), (.lit (.int .i64 0)), (.lit (.int .i64 0)), (.lit (.bool false)), (.lit (.int .i64 0)), (.lit (.int .i64 0)), (.lit (.int .i64 0)), (.lit (.bool false)), (.lit (.int .i64 0)), (.lit (.int .i64 0)), (.lit (.int .i64 0)), (.lit (.bool false)), (.lit (.int .i64 0)), (.lit (.int .i64 0)), (.lit (.int .i64 0)), (.lit (.bool false)), (.lit (.int .i64 0)), (.lit (.int .i64 0)), (.lit (.int .i64 0)), (.lit (.bool false)), (.lit (.int .i64 0)), (.lit (.int .i64 0)), (.lit (.int .i64 0)), (.lit (.bool false)), (.lit (.int .i64 0)), (.lit (.int .i64 0)), (.lit (.int .i64 0)), (.lit (.bool false)), (.lit (.int .i64 0)), (.lit (.int .i64 0)), (.lit (.int .i64 0)), (.lit (.bool false)), (.lit (.int .i64 0)), (.lit (.int .i64 0)), (.lit (.int .i64 0)), (.lit (.bool false)), (.lit (.int .i64 0)), (.lit (.int .i64 0)), (.lit (.int .i64 0)), (.lit (.bool false)), (.lit (.int .i64 0)), (.lit (.int .i64 0)), (.lit (.int .i64 0)), (.lit (.bool false)), (.lit (.int .i64 0)), (.lit (.int .i64 0)), (.lit (.int .i64 0)), (.lit (.bool false)), (.lit (.int .i64 0)), (.lit (.int .i64 0)), (.lit (.int .i64 0))]), none, 0⟩] none 0 []) (.seq (.reg 0 [⟨(some 5), .mv (.const (.int .i64 0)), none, 0⟩] none 0 []) (.seq (.seq (.reg 0 [⟨(some 6), .mv (.const (.int .i64 0)), none, 0⟩] none 0 []) (.block 0 (.loop (.seq (.seq (.reg 0 [⟨(some 20), .mv (.tmp 6), none, 0⟩, ⟨(some 21), .mv (.tmp 0), none, 0⟩, ⟨(some 22), .lens (.tmp 21), none, 0⟩, ⟨(some 23), .bin .lss (.tmp 20) (.tmp 22), none, 0⟩] none 0 []) (.cond (.tmp 23) .skip (.exit 0))) (.seq (.block 1 (.seq (.reg 0 [⟨(some 26), .mv (.tmp 0), none, 0⟩, ⟨(some 27), .mv (.tmp 6), none, 0⟩, ⟨(some 28), .ixs 3 (.tmp 26) (.tmp 27), none, 0⟩, ⟨(some 29), .fa 0 (.tmp 28), none, 0⟩, ⟨(some 30), .ld 1 false (.tmp 29), none, 0⟩, ⟨(some 31), .bin .rem (.tmp 30) (.const (.int .u8 20)), none, 0⟩, ⟨(some 32), .cvi .i64 (.tmp 31), none, 0⟩, ⟨(some 7), .mv (.tmp 32), none, 0⟩] none 0 []) (.seq (.reg 1 [⟨(some 33), .mv (.tmp 0), none, 0⟩, ⟨(some 34), .mv (.tmp 6), none, 0⟩, ⟨(some 35), .ixs 3 (.tmp 33) (.tmp 34), none, 0⟩, ⟨(some 36), .fa 1 (.tmp 35), none, 0⟩, ⟨(some 37), .ld 1 false (.tmp 36), none, 0⟩, ⟨(some 38), .mv (.tmp 6), none, 0⟩, ⟨(some 39), .bin .add (.tmp 38) (.const (.int .i64 1)), none, 0⟩, ⟨(some 40), .bd [(.lit (.bool false)), (.lit (.int .i64 0)), (.lit (.int .i64 0)), (.lit (.int .i64 0))] [(0, 1, (.tmp 37)), (3, 1, (.tmp 39))], none, 0⟩, ⟨(some 8), .al (.agg [(.lit (.bool false)), (.lit (.int .i64 0)), (.lit (.int .i64 0)), (.lit (.int .i64 0))]), none, 0⟩, ⟨none, .st 4 (.tmp 8) (.tmp 40), none, 1⟩] none 0 []) (.seq (.reg 0 [⟨(some 42), .mv (.tmp 3), none, 0⟩, ⟨(some 43), .mv (.tmp 0), none, 0⟩, ⟨(some 44), .mv (.tmp 6), none, 0⟩, ⟨(some 45), .ixs 3 (.tmp 43) (.tmp 44), none, 0⟩, ⟨(some 46), .fa 0 (.tmp 45), none, 0⟩, ⟨(some 47), .ld 1 false (.tmp 46), none, 0⟩, ⟨(some 48), .cl 46 [(.tmp 47)], none, 0⟩, ⟨(some 49), .ld 4 true (.tmp 8), none, 0⟩, ⟨(some 50), .cl 45 [(.tmp 42), (.tmp 48), (.tmp 49)], none, 0⟩, ⟨(some 41), .mv (.tmp 50), none, 0⟩, ⟨(some 51), .ex (.tmp 41) 0, none, 0⟩, ⟨(some 52), .ex (.tmp 41) 1, none, 0⟩, ⟨(some 9), .mv (.tmp 51), none, 0⟩, ⟨(some 10), .mv (.tmp 52), none, 0⟩] (some [[], [], [], [2, 1], [1, 2, 3], [3, 2, 1, 4], [4, 1, 2, 3, 5], [], [7, 5, 3, 2, 1, 4, 6, 0], [0, 6, 4, 1, 2, 3, 5, 7, 8], [8, 7, 5, 3, 2, 1, 4, 6, 0, 9], [8, 7, 5, 3, 2, 1, 4, 6, 0, 9], [9, 0, 6, 4, 1, 2, 3, 5, 7, 8, 10], [10, 12, 9, 0, 6, 4, 1, 2, 3, 5, 7, 8, 11]]) 0 []) (.seq (.seq (.reg 0 [⟨(some 53), .mv (.tmp 10), none, 0⟩, ⟨(some 54), .bin .eql (.tmp 53) (.const (.int .i64 0)), none, 0⟩, ⟨(some 55), .mv (.tmp 7), none, 0⟩, ⟨(some 56), .ixa 20 4 (.tmp 4) (.tmp 55), none, 0⟩, ⟨(some 57), .fa 3 (.tmp 56), none, 0⟩, ⟨(some 58), .ld 1 false (.tmp 57), none, 0⟩, ⟨(some 59), .bin .gtr (.tmp 58) (.const (.int .i64 0)), none, 0⟩, ⟨(some 60), .mv (.tmp 59), none, 0⟩, ⟨(some 61), .mv (.tmp 5), (some (60, false)), 0⟩, ⟨(some 62), .bin .lss (.tmp 61) (.const (.int .i64 16)), (some (60, false)), 0⟩, ⟨(some 63), .pick (.tmp 60) (.const (.bool true)) (.tmp 62), none, 0⟩, ⟨(some 64), .binb true (.tmp 54) (.tmp 63), none, 0⟩] none 0 []) (.cond (.tmp 64) (.seq (.reg 0 [⟨(some 2), .mv (.const (.bool false)), none, 0⟩] none 0 []) .ret) .skip)) (.seq (.seq (.reg 0 [⟨(some 65), .mv (.tmp 10), none, 0⟩, ⟨(some 66), .bin .eql (.tmp 65) (.const (.int .i64 0)), none, 0⟩] none 0 []) (.cond (.tmp 66) (.seq (.seq (.reg 0 [⟨(some 67), .mv (.tmp 7), none, 0⟩, ⟨(some 68), .ixa 20 4 (.tmp 4) (.tmp 67), none, 0⟩, ⟨(some 69), .fa 3 (.tmp 68), none, 0⟩, ⟨(some 70), .ld 1 false (.tmp 69), none, 0⟩, ⟨(some 71), .bin .eql (.tmp 70) (.const (.int .i64 0)), none, 0⟩] none 0 []) (.cond (.tmp 71) (.reg 0 [⟨(some 72), .mv (.tmp 5), none, 0⟩, ⟨(some 73), .bin .add (.tmp 72) (.const (.int .i64 1)), none, 0⟩, ⟨(some 5), .mv (.tmp 73), none, 0⟩] none 0 []) .skip)) (.reg 0 [⟨(some 74), .mv (.tmp 7), none, 0⟩, ⟨(some 75), .ld 4 true (.tmp 8), none, 0⟩, ⟨(some 76), .ixa 20 4 (.tmp 4) (.tmp 74), none, 0⟩, ⟨none, .st 4 (.tmp 76) (.tmp 75), none, 0⟩] none 0 [])) .skip)) (.seq (.seq (.reg 0 [⟨(some 11), .mv (.const (.int .i64 0)), none, 0⟩] none 0 []) (.block 2 (.loop (.seq (.seq (.reg 0 [⟨(some 77), .mv (.tmp 11), none, 0⟩, ⟨(some 78), .mv (.tmp 0), none, 0⟩, ⟨(some 79), .mv (.tmp 6), none, 0⟩, ⟨(some 80), .ixs 3 (.tmp 78) (.tmp 79), none, 0⟩, ⟨(some 81), .fa 2 (.tmp 80), none, 0⟩, ⟨(some 82), .ld 1 false (.tmp 81), none, 0⟩, ⟨(some 83), .bin .rem (.tmp 82) (.const (.int .u8 3)), none, 0⟩, ⟨(some 84), .cvi .i64 (.tmp 83), none, 0⟩, ⟨(some 85), .bin .lss (.tmp 77) (.tmp 84), none, 0⟩] none 0 []) (.cond (.tmp 85) .skip (.exit 2))) (.seq (.block 3 (.seq (.reg 1 [⟨(some 89), .mv (.tmp 9), none, 0⟩, ⟨(some 90), .cl 47 [(.tmp 89)], none, 0⟩, ⟨(some 88), .mv (.tmp 90), none, 0⟩, ⟨(some 91), .ex (.tmp 88) 0, none, 0⟩, ⟨(some 92), .ex (.tmp 88) 1, none, 0⟩, ⟨(some 93), .ex (.tmp 88) 2, none, 0⟩, ⟨(some 13), .al (.agg [(.lit (.string ⟨#[]⟩)), (.lit (.bool false)), (.lit (.int .i64 0)), (.lit (.int .i64 0)), (.lit (.int .i64 0))]), none, 0⟩, ⟨(some 12), .mv (.tmp 91), none, 1⟩, ⟨none, .st 5 (.tmp 13) (.tmp 92), none, 1⟩, ⟨(some 14), .mv (.tmp 93), none, 1⟩] none 0 []) (.seq (.seq (.reg 0 [⟨(some 94), .mv (.tmp 14), none, 0⟩, ⟨(some 95), .mv (.tmp 5), none, 0⟩, ⟨(some 96), .bin .gtr (.tmp 95) (.const (.int .i64 0)), none, 0⟩, ⟨(some 97), .binb true (.tmp 94) (.tmp 96), none, 0⟩] none 0 []) (.cond (.tmp 97) (.seq (.reg 0 [⟨(some 2), .mv (.const (.bool false)), none, 0⟩] none 0 []) .ret) .skip)) (.seq (.seq (.reg 0 [⟨(some 98), .mv (.tmp 14), none, 0⟩, ⟨(some 99), .un .not (.tmp 98), none, 0⟩] none 0 []) (.cond (.tmp 99) (.exit 2) .skip)) (.seq (.seq (.reg 0 [⟨(some 100), .fa 1 (.tmp 13), none, 0⟩, ⟨(some 101), .fa 0 (.tmp 100), none, 0⟩, ⟨(some 102), .ld 1 false (.tmp 101), none, 0⟩, ⟨(some 103), .mv (.tmp 102), none, 0⟩, ⟨(some 104), .mv (.tmp 9), (some (103, true)), 0⟩, ⟨(some 105), .cl 48 [(.tmp 104)], (some (103, true)), 0⟩, ⟨(some 106), .bin .gtr (.tmp 105) (.const (.int .i64 0)), (some (103, true)), 0⟩, ⟨(some 107), .pick (.tmp 103) (.tmp 106) (.const (.bool false)), none, 0⟩, ⟨(some 108), .mv (.tmp 107), none, 0⟩, ⟨(some 109), .fa 0 (.tmp 13), (some (108, false)), 0⟩, ⟨(some 110), .ld 1 false (.tmp 109), (some (108, false)), 0⟩, ⟨(some 111), .lent (.tmp 110), (some (108, false)), 0⟩, ⟨(some 112), .bin .lss (.tmp 111) (.const (.int .i64 1)), (some (108, false)), 0⟩, ⟨(some 113), .pick (.tmp 108) (.const (.bool true)) (.tmp 112), none, 0⟩] none 0 []) (.cond (.tmp 113) (.seq (.reg 0 [⟨(some 2), .mv (.const (.bool false)), none, 0⟩] none 0 []) .ret) .skip)) (.seq (.reg 0 [⟨(some 114), .fa 0 (.tmp 13), none, 0⟩, ⟨(some 115), .ld 1 false (.tmp 114), none, 0⟩, ⟨(some 116), .ixt (.tmp 115) (.const (.int .i64 0)), none, 0⟩, ⟨(some 117), .bin .sub (.tmp 116) (.const (.int .u8 97)), none, 0⟩, ⟨(some 118), .cvi .i64 (.tmp 117), none, 0⟩, ⟨(some 119), .bin .rem (.tmp 118) (.const (.int .i64 20)), none, 0⟩, ⟨(some 15), .mv (.tmp 119), none, 0⟩] none 0 []) (.seq (.seq (.reg 0 [⟨(some 120), .mv (.tmp 15), none, 0⟩, ⟨(some 121), .ixa 20 4 (.tmp 4) (.tmp 120), none, 0⟩, ⟨(some 122), .ld 4 true (.tmp 121), none, 0⟩, ⟨(some 123), .fa 1 (.tmp 13), none, 0⟩, ⟨(some 124), .ld 4 true (.tmp 123), none, 0⟩, ⟨(some 125), .eqa true [0, 1, 1, 1] (.tmp 122) (.tmp 124), none, 0⟩, ⟨(some 126), .mv (.tmp 125), none, 0⟩, ⟨(some 127), .fa 0 (.tmp 13), (some (126, false)), 0⟩, ⟨(some 128), .ld 1 false (.tmp 127), (some (126, false)), 0⟩, ⟨(some 129), .mv (.tmp 15), (some (126, false)), 0⟩, ⟨(some 130), .cvi .u8 (.tmp 129), (some (126, false)), 0⟩, ⟨(some 131), .cl 46 [(.tmp 130)], (some (126, false)), 0⟩, ⟨(some 132), .bin .neq (.tmp 128) (.tmp 131), (some (126, false)), 0⟩, ⟨(some 133), .pick (.tmp 126) (.const (.bool true)) (.tmp 132), none, 0⟩] (some [[], [0], [0, 1], [], [3], [3, 4, 1, 0, 2], [2, 0, 1, 4, 3, 5], [5, 3, 4, 1, 0, 2, 6], [6, 2, 0, 1, 4, 3, 5, 7], [5, 3, 4, 1, 0, 2, 6], [6, 2, 0, 1, 4, 3, 5, 9], [9, 5, 3, 4, 1, 0, 2, 6, 10], [10, 9, 11, 7, 5, 3, 4, 1, 0, 2, 6, 8], [8, 7, 11, 9, 10, 12, 5, 3, 4, 1, 0, 2, 6]]) 0 []) (.cond (.tmp 133) (.seq (.reg 0 [⟨(some 2), .mv (.const (.bool false)), none, 0⟩] none 0 []) .ret) .skip)) (.seq (.reg 0 [⟨(some 134), .mv (.tmp 15), none, 0⟩, ⟨(some 135), .bd [(.lit (.bool false)), (.lit (.int .i64 0)), (.lit (.int .i64 0)), (.lit (.int .i64 0))] [], none, 0⟩, ⟨(some 136), .ixa 20 4 (.tmp 4) (.tmp 134), none, 0⟩, ⟨none, .st 4 (.tmp 136) (.tmp 135), none, 0⟩] none 0 []) (.seq (.reg 0 [⟨(some 137), .mv (.tmp 5), none, 0⟩, ⟨(some 138), .bin .sub (.tmp 137) (.const (.int .i64 1)), none, 0⟩, ⟨(some 5), .mv (.tmp 138), none, 0⟩] none 0 []) (.reg 0 [⟨(some 139), .mv (.tmp 12), none, 0⟩, ⟨(some 9), .mv (.tmp 139), none, 0⟩] none 0 [])))))))))) (.reg 0 [⟨(some 86), .mv (.tmp 11), none, 0⟩, ⟨(some 87), .bin .add (.tmp 86) (.const (.int .i64 1)), none, 0⟩, ⟨(some 11), .mv (.tmp 87), none, 0⟩] none 0 [])))))) (.seq (.seq (.reg 0 [⟨(some 140), .mv (.tmp 9), none, 0⟩, ⟨(some 141), .cl 49 [(.tmp 140)], none, 0⟩, ⟨(some 142), .bin .neq (.tmp 141) (.const (.int .i64 0)), none, 0⟩, ⟨(some 143), .mv (.tmp 142), none, 0⟩, ⟨(some 144), .mv (.tmp 9), (some (143, false)), 0⟩, ⟨(some 145), .lens (.tmp 144), (some (143, false)), 0⟩, ⟨(some 146), .mv (.tmp 5), (some (143, false)), 0⟩, ⟨(some 147), .bin .neq (.tmp 145) (.tmp 146), (some (143, false)), 0⟩, ⟨(some 148), .pick (.tmp 143) (.const (.bool true)) (.tmp 147), none, 0⟩] none 0 []) (.cond (.tmp 148) (.seq (.reg 0 [⟨(some 2), .mv (.const (.bool false)), none, 0⟩] none 0 []) .ret) .skip)) (.reg 0 [⟨(some 149), .mv (.tmp 9), none, 0⟩, ⟨(some 3), .mv (.tmp 149), none, 0⟩] none 0 []))))))))) (.reg 0 [⟨(some 24), .mv (.tmp 6), none, 0⟩, ⟨(some 25), .bin .add (.tmp 24) (.const (.int .i64 1)), none, 0⟩, ⟨(some 6), .mv (.tmp 25), none, 0⟩] none 0 [])))))) (.seq (.reg 0 [⟨(some 150), .cl 44 [], none, 0⟩, ⟨(some 2), .mv (.tmp 150), none, 0⟩] none 0 []) .ret)))))))
set_option maxRecDepth 1000000 in
theorem gc8_ok : compF Try.prog Try.f8 = some (gc8.er, 151, [.tmp 2]) := by unfold gc8; kernel_rfl
set_option maxRecDepth 100000 in
set_option maxHeartbeats 4000000 in
theorem p_law25_MailLast_v {u1 : Bool} (a0 : List Law25Deed) : CallsO Try.prog 8 [.sl (List.map Law25Deed.v a0) u1] V.b (p_law25_MailLast a0) := by
  refine callsO_comp mix Try.func8 gc8_ok fun r H => ?_
  rw [p_law25_MailLast] at H
  conv => whnf
  refine LenQ.M ?_; conv => whnf
  refine tst_c H (fun b1 H => ?_) (fun b1 H => ?_)
  · conv => whnf
    refine ask_c (p_law25_awake_v) H rfl rfl (fun v2 H => ?_); conv => whnf
    exact fin0_c (enc := V.b) H (.inr rfl) (.cons (.tmp rfl) (.nil)) rfl rfl
  conv => whnf
  obtain ⟨o4, HL5, HQ6⟩ := bind_c H
  refine loop_c [2, 3, 5, 6] [7, 8, 9, 10, 11, 12, 13, 14, 15, 20, 21, 22, 23, 24, 25, 26, 27, 28, 29, 30, 31, 32, 33, 34, 35, 36, 37, 38, 39, 40, 41, 42, 43, 44, 45, 46, 47, 48, 49, 50, 51, 52, 53, 54, 55, 56, 57, 58, 59, 60, 61, 62, 63, 64, 65, 66, 67, 68, 69, 70, 71, 72, 73, 74, 75, 76, 77, 78, 79, 80, 81, 82, 83, 84, 85, 86, 87, 88, 89, 90, 91, 92, 93, 94, 95, 96, 97, 98, 99, 100, 101, 102, 103, 104, 105, 106, 107, 108, 109, 110, 111, 112, 113, 114, 115, 116, 117, 118, 119, 120, 121, 122, 123, 124, 125, 126, 127, 128, 129, 130, 131, 132, 133, 134, 135, 136, 137, 138, 139, 140, 141, 142, 143, 144, 145, 146, 147, 148, 149] [7, 8, 9, 10, 11, 12, 13, 14, 15, 20, 21, 22, 23, 24, 25, 26, 27, 28, 29, 30, 31, 32, 33, 34, 35, 36, 37, 38, 39, 40, 41, 42, 43, 44, 45, 46, 47, 48, 49, 50, 51, 52, 53, 54, 55, 56, 57, 58, 59, 60, 61, 62, 63, 64, 65, 66, 67, 68, 69, 70, 71, 72, 73, 74, 75, 76, 77, 78, 79, 80, 81, 82, 83, 84, 85, 86, 87, 88, 89, 90, 91, 92, 93, 94, 95, 96, 97, 98, 99, 100, 101, 102, 103, 104, 105, 106, 107, 108, 109, 110, 111, 112, 113, 114, 115, 116, 117, 118, 119, 120, 121, 122, 123, 124, 125, 126, 127, 128, 129, 130, 131, 132, 133, 134, 135, 136, 137, 138, 139, 140, 141, 142, 143, 144, 145, 146, 147, 148, 149] (fun n vals st => (∃ y8 y9 y10, p_law25_MailLast_l1  a0 n [] y8 y9 y10 = some o4 ∧ vals = [.b false, .sl (List.map MailEntry.v []) true, .i y8, .i y9] ∧ st = [.live (cellsM PresPres.v y10) 0]) ∨ (∃ y65 y66 y67 y68, p_law25_MailLast_l1  a0 n y65 y66 y67 y68 = some o4 ∧ vals = [.b false, .sl (List.map MailEntry.v y65) false, .i y66, .i y67] ∧ st = [.live (cellsM PresPres.v y68) 0])) fuel 1 [] (.inl (⟨_, _, _, HL5, rfl, rfl⟩)) (Nat.zero_le _) rfl (by kernel_rfl) (by kernel_rfl) rfl (wkB_live0 rfl (cellsM_idlt (f := PresPres.v) (fun _ => rfl) _) rfl trivial) ?_
  rintro (_ | n7) _ _ (⟨y8, y9, y10, H, rfl, rfl⟩ | ⟨y65, y66, y67, y68, H, rfl, rfl⟩)
  · rw [p_law25_MailLast_l1] at H; cases H
  · rw [p_law25_MailLast_l1] at H; cases H
  · rw [p_law25_MailLast_l1] at H
    conv => whnf
    refine LenQ.M ?_; conv => whnf
    refine tst_d H (fun b11 H => ?_) (fun b11 H => ?_)
    · conv => whnf
      obtain rfl := Option.some.inj H
      have H := HQ6
      try dsimp only at H
      refine ask_c (p_law25_awake_v) H rfl rfl (fun v288 H => ?_); conv => whnf
      exact fin0_c (enc := V.b) H (.inr rfl) (.cons (.tmp rfl) (.nil)) rfl rfl
    conv => whnf
    refine ixs_c (f := Law25Deed.v) H (fun _ => rfl) (fun x12 H => ?_); conv => whnf
    refine ⟨Nat.le_of_ble_eq_true rfl, ?_⟩; conv => whnf
    refine ⟨by decide, ?_⟩; conv => whnf
    refine Ari.w ?_; conv => whnf
    refine ixs_c (f := Law25Deed.v) H (fun _ => rfl) (fun x13 H => ?_); conv => whnf
    refine ⟨Nat.le_of_ble_eq_true rfl, ?_⟩; conv => whnf
    refine Ari.w ?_; conv => whnf
    refine ⟨Nat.le_of_ble_eq_true rfl, ?_⟩; conv => whnf
    refine ixs_c (f := Law25Deed.v) H (fun _ => rfl) (fun x14 H => ?_); conv => whnf
    refine ⟨Nat.le_of_ble_eq_true rfl, ?_⟩; conv => whnf
    refine ask_c (p_law25_key_v _) H rfl rfl (fun v15 H => ?_); conv => whnf
    refine ask_c (p_mail_Put_v _ _ _) H rfl rfl (fun v16 H => ?_); conv => whnf
    refine FootQ.mk ⟨rfl, ?_⟩; conv => whnf
    refine ixa_c H (fun x17 h18 H => ?_); conv => whnf
    refine ldo_c (f := PresPres.v) (es := 4) h18 (fun _ => rfl) 3 (by omega) (by decide) ?_; conv => whnf
    refine tst_c H (fun b19 H => ?_) (fun b19 H => ?_)
    · conv => whnf
      iterate 2 (refine Tst.T ?_; conv => whnf)
      refine tst_c H (fun b20 H => ?_) (fun b20 H => ?_)
      · conv => whnf
        obtain rfl := Option.some.inj H
        have H := HQ6
        try dsimp only at H
        exact fin0_c (enc := V.b) H (.inr rfl) (.cons (.tmp rfl) (.nil)) rfl rfl
      conv => whnf
      refine tst_d H (fun b21 H => ?_) (fun b21 H => ?_)
      · conv => whnf
        obtain ⟨o116, HL117, HQ118⟩ := bind_c H
        refine loop_c [2, 5, 9, 11] [12, 13, 14, 15, 77, 78, 79, 80, 81, 82, 83, 84, 85, 86, 87, 88, 89, 90, 91, 92, 93, 94, 95, 96, 97, 98, 99, 100, 101, 102, 103, 104, 105, 106, 107, 108, 109, 110, 111, 112, 113, 114, 115, 116, 117, 118, 119, 120, 121, 122, 123, 124, 125, 126, 127, 128, 129, 130, 131, 132, 133, 134, 135, 136, 137, 138, 139, 8, 56, 57] [12, 13, 14, 15, 77, 78, 79, 80, 81, 82, 83, 84, 85, 86, 87, 88, 89, 90, 91, 92, 93, 94, 95, 96, 97, 98, 99, 100, 101, 102, 103, 104, 105, 106, 107, 108, 109, 110, 111, 112, 113, 114, 115, 116, 117, 118, 119, 120, 121, 122, 123, 124, 125, 126, 127, 128, 129, 130, 131, 132, 133, 134, 135, 136, 137, 138, 139, 8, 56, 57] (fun n vals st => (∃ y120 y121 y122 y123, p_law25_MailLast_l2  a0 y9 n y120 y121 y122 y123 = some o116 ∧ vals = [.b false, .i y120, .sl (List.map MailEntry.v y121) false, .i y122] ∧ st = [.live (cellsM PresPres.v y123) 0])) fuel 1 [] (⟨_, _, _, _, HL117, rfl, rfl⟩) (Nat.zero_le _) rfl (by kernel_rfl) (by kernel_rfl) rfl (wkB_live0 rfl (cellsM_idlt (f := PresPres.v) (fun _ => rfl) _) rfl trivial) ?_
        rintro (_ | n119) _ _ (⟨y120, y121, y122, y123, H, rfl, rfl⟩)
        · rw [p_law25_MailLast_l2] at H; cases H
        rw [p_law25_MailLast_l2] at H
        conv => whnf
        refine ixs_c (f := Law25Deed.v) H (fun _ => rfl) (fun x124 H => ?_); conv => whnf
        refine ⟨Nat.le_of_ble_eq_true rfl, ?_⟩; conv => whnf
        refine ⟨by decide, ?_⟩; conv => whnf
        refine Ari.w ?_; conv => whnf
        refine tst_d H (fun b125 H => ?_) (fun b125 H => ?_)
        · conv => whnf
          obtain rfl := Option.some.inj H
          have H := HQ118
          try dsimp only at H
          refine ask_c (p_mail_Check_v _) H rfl rfl (fun v153 H => ?_); conv => whnf
          refine tst_c H (fun b154 H => ?_) (fun b154 H => ?_)
          · conv => whnf
            iterate 5 (refine Tst.T ?_; conv => whnf)
            obtain rfl := Option.some.inj H
            have H := HQ6
            try dsimp only at H
            exact fin0_c (enc := V.b) H (.inr rfl) (.cons (.tmp rfl) (.nil)) rfl rfl
          conv => whnf
          refine Tst.F ?_; conv => whnf
          refine LenQ.M ?_; conv => whnf
          iterate 3 (refine Tst.F ?_; conv => whnf)
          refine tst_c H (fun b155 H => ?_) (fun b155 H => ?_)
          · conv => whnf
            obtain rfl := Option.some.inj H
            have H := HQ6
            try dsimp only at H
            exact fin0_c (enc := V.b) H (.inr rfl) (.cons (.tmp rfl) (.nil)) rfl rfl
          conv => whnf
          refine Ari.w ?_; conv => whnf
          exact again_c [7, 8, 9, 10, 11, 12, 13, 14, 15, 20, 21, 22, 23, 24, 25, 26, 27, 28, 29, 30, 31, 32, 33, 34, 35, 36, 37, 38, 39, 40, 41, 42, 43, 44, 45, 46, 47, 48, 49, 50, 51, 52, 53, 54, 55, 56, 57, 58, 59, 60, 61, 62, 63, 64, 65, 66, 67, 68, 69, 70, 71, 72, 73, 74, 75, 76, 77, 78, 79, 80, 81, 82, 83, 84, 85, 86, 87, 88, 89, 90, 91, 92, 93, 94, 95, 96, 97, 98, 99, 100, 101, 102, 103, 104, 105, 106, 107, 108, 109, 110, 111, 112, 113, 114, 115, 116, 117, 118, 119, 120, 121, 122, 123, 124, 125, 126, 127, 128, 129, 130, 131, 132, 133, 134, 135, 136, 137, 138, 139, 140, 141, 142, 143, 144, 145, 146, 147, 148, 149] n7 1 [] (.inr (⟨_, _, _, _, H, rfl, rfl⟩)) (Nat.lt_succ_self _) (Nat.zero_le _) rfl (by kernel_rfl) (by kernel_rfl) rfl (wkB_live0 rfl (cellsM_idlt (f := PresPres.v) (fun _ => rfl) _) rfl trivial)
        conv => whnf
        refine ask_c (p_mail_Take_v _) H rfl rfl (fun v126 H => ?_); conv => whnf
        refine ⟨Nat.le_of_ble_eq_true rfl, ?_⟩; conv => whnf
        refine tst_c H (fun b127 H => ?_) (fun b127 H => ?_)
        · conv => whnf
          obtain rfl := Option.some.inj H
          have H := HQ118
          try dsimp only at H
          obtain rfl := Option.some.inj H
          have H := HQ6
          try dsimp only at H
          exact fin0_c (enc := V.b) H (.inr rfl) (.cons (.tmp rfl) (.nil)) rfl rfl
        conv => whnf
        refine Tst.not ?_
        refine tst_d H (fun b128 H => ?_) (fun b128 H => ?_)
        · conv => whnf
          obtain rfl := Option.some.inj H
          have H := HQ118
          try dsimp only at H
          refine ask_c (p_mail_Check_v _) H rfl rfl (fun v150 H => ?_); conv => whnf
          refine tst_c H (fun b151 H => ?_) (fun b151 H => ?_)
          · conv => whnf
            iterate 5 (refine Tst.T ?_; conv => whnf)
            obtain rfl := Option.some.inj H
            have H := HQ6
            try dsimp only at H
            exact fin0_c (enc := V.b) H (.inr rfl) (.cons (.tmp rfl) (.nil)) rfl rfl
          conv => whnf
          refine Tst.F ?_; conv => whnf
          refine LenQ.M ?_; conv => whnf
          iterate 3 (refine Tst.F ?_; conv => whnf)
          refine tst_c H (fun b152 H => ?_) (fun b152 H => ?_)
          · conv => whnf
            obtain rfl := Option.some.inj H
            have H := HQ6
            try dsimp only at H
            exact fin0_c (enc := V.b) H (.inr rfl) (.cons (.tmp rfl) (.nil)) rfl rfl
          conv => whnf
          refine Ari.w ?_; conv => whnf
          exact again_c [7, 8, 9, 10, 11, 12, 13, 14, 15, 20, 21, 22, 23, 24, 25, 26, 27, 28, 29, 30, 31, 32, 33, 34, 35, 36, 37, 38, 39, 40, 41, 42, 43, 44, 45, 46, 47, 48, 49, 50, 51, 52, 53, 54, 55, 56, 57, 58, 59, 60, 61, 62, 63, 64, 65, 66, 67, 68, 69, 70, 71, 72, 73, 74, 75, 76, 77, 78, 79, 80, 81, 82, 83, 84, 85, 86, 87, 88, 89, 90, 91, 92, 93, 94, 95, 96, 97, 98, 99, 100, 101, 102, 103, 104, 105, 106, 107, 108, 109, 110, 111, 112, 113, 114, 115, 116, 117, 118, 119, 120, 121, 122, 123, 124, 125, 126, 127, 128, 129, 130, 131, 132, 133, 134, 135, 136, 137, 138, 139, 140, 141, 142, 143, 144, 145, 146, 147, 148, 149] n7 1 [] (.inr (⟨_, _, _, _, H, rfl, rfl⟩)) (Nat.lt_succ_self _) (Nat.zero_le _) rfl (by kernel_rfl) (by kernel_rfl) rfl (wkB_live0 rfl (cellsM_idlt (f := PresPres.v) (fun _ => rfl) _) rfl trivial)
        conv => whnf
        refine tst_d H (fun b129 H => ?_) (fun b129 H => ?_)
        · conv => whnf
          iterate 8 (refine Tst.F ?_; conv => whnf)
          refine tst_c H (fun b141 H => ?_) (fun b141 H => ?_)
          · conv => whnf
            obtain rfl := Option.some.inj H
            have H := HQ118
            try dsimp only at H
            obtain rfl := Option.some.inj H
            have H := HQ6
            try dsimp only at H
            exact fin0_c (enc := V.b) H (.inr rfl) (.cons (.tmp rfl) (.nil)) rfl rfl
          conv => whnf
          refine ixt_c H (fun c142 H => ?_); conv => whnf
          iterate 2 (refine Ari.w ?_; conv => whnf)
          refine ⟨by decide, ?_⟩; conv => whnf
          refine ixa_c H (fun x143 h144 H => ?_); conv => whnf
          refine ldo_c (f := PresPres.v) (es := 4) h144 (fun _ => rfl) 0 (by omega) (by decide) ?_; conv => whnf
          refine Tst.not ?_
          refine tst_d H (fun b145 H => ?_) (fun b145 H => ?_)
          · conv => whnf
            iterate 6 (refine Tst.T ?_; conv => whnf)
            refine FootQ.mk ⟨rfl, ?_⟩; conv => whnf
            refine Tst.T ?_; conv => whnf
            obtain rfl := Option.some.inj H
            have H := HQ118
            try dsimp only at H
            obtain rfl := Option.some.inj H
            have H := HQ6
            try dsimp only at H
            exact fin0_c (enc := V.b) H (.inr rfl) (.cons (.tmp rfl) (.nil)) rfl rfl
          conv => whnf
          iterate 3 (refine Tst.F ?_; conv => whnf)
          refine Ari.w ?_; conv => whnf
          refine Tst.F ?_; conv => whnf
          refine ask_c (p_law25_key_v _) H rfl rfl (fun v146 H => ?_); conv => whnf
          iterate 2 (refine Tst.F ?_; conv => whnf)
          refine FootQ.mk ⟨rfl, ?_⟩; conv => whnf
          refine Tst.not ?_
          refine tst_d H (fun b147 H => ?_) (fun b147 H => ?_)
          · conv => whnf
            obtain rfl := Option.some.inj H
            have H := HQ118
            try dsimp only at H
            obtain rfl := Option.some.inj H
            have H := HQ6
            try dsimp only at H
            exact fin0_c (enc := V.b) H (.inr rfl) (.cons (.tmp rfl) (.nil)) rfl rfl
          conv => whnf
          refine ixa_c H (fun x148 h149 H => ?_); conv => whnf
          refine ⟨Nat.zero_le _, sto_c (f := PresPres.v) (es := 4) h149 (x' := (PresPres.mk false (0 : Int) (0 : Int) (0 : Int))) (fun _ => rfl) 0 (by omega) (Nat.le_of_ble_eq_true rfl) (by rfl) ?_⟩; conv => whnf
          iterate 2 (refine Ari.w ?_; conv => whnf)
          exact again_c [12, 13, 14, 15, 77, 78, 79, 80, 81, 82, 83, 84, 85, 86, 87, 88, 89, 90, 91, 92, 93, 94, 95, 96, 97, 98, 99, 100, 101, 102, 103, 104, 105, 106, 107, 108, 109, 110, 111, 112, 113, 114, 115, 116, 117, 118, 119, 120, 121, 122, 123, 124, 125, 126, 127, 128, 129, 130, 131, 132, 133, 134, 135, 136, 137, 138, 139, 8, 56, 57] n119 1 [] (⟨_, _, _, _, H, rfl, rfl⟩) (Nat.lt_succ_self _) (Nat.zero_le _) rfl (by kernel_rfl) (by kernel_rfl) rfl (wkB_live0 rfl (cellsM_idlt (f := PresPres.v) (fun _ => rfl) _) rfl trivial)
        conv => whnf
        refine Tst.T ?_; conv => whnf
        refine ask_c (p_mail_Off_v _) H rfl rfl (fun v130 H => ?_); conv => whnf
        iterate 2 (refine Tst.T ?_; conv => whnf)
        refine tst_c H (fun b131 H => ?_) (fun b131 H => ?_)
        · conv => whnf
          iterate 5 (refine Tst.T ?_; conv => whnf)
          obtain rfl := Option.some.inj H
          have H := HQ118
          try dsimp only at H
          obtain rfl := Option.some.inj H
          have H := HQ6
          try dsimp only at H
          exact fin0_c (enc := V.b) H (.inr rfl) (.cons (.tmp rfl) (.nil)) rfl rfl
        conv => whnf
        iterate 4 (refine Tst.F ?_; conv => whnf)
        refine tst_c H (fun b132 H => ?_) (fun b132 H => ?_)
        · conv => whnf
          obtain rfl := Option.some.inj H
          have H := HQ118
          try dsimp only at H
          obtain rfl := Option.some.inj H
          have H := HQ6
          try dsimp only at H
          exact fin0_c (enc := V.b) H (.inr rfl) (.cons (.tmp rfl) (.nil)) rfl rfl
        conv => whnf
        refine ixt_c H (fun c133 H => ?_); conv => whnf
        iterate 2 (refine Ari.w ?_; conv => whnf)
        refine ⟨by decide, ?_⟩; conv => whnf
        refine ixa_c H (fun x134 h135 H => ?_); conv => whnf
        refine ldo_c (f := PresPres.v) (es := 4) h135 (fun _ => rfl) 0 (by omega) (by decide) ?_; conv => whnf
        refine Tst.not ?_
        refine tst_d H (fun b136 H => ?_) (fun b136 H => ?_)
        · conv => whnf
          iterate 6 (refine Tst.T ?_; conv => whnf)
          refine FootQ.mk ⟨rfl, ?_⟩; conv => whnf
          refine Tst.T ?_; conv => whnf
          obtain rfl := Option.some.inj H
          have H := HQ118
          try dsimp only at H
          obtain rfl := Option.some.inj H
          have H := HQ6
          try dsimp only at H
          exact fin0_c (enc := V.b) H (.inr rfl) (.cons (.tmp rfl) (.nil)) rfl rfl
        conv => whnf
        iterate 3 (refine Tst.F ?_; conv => whnf)
        refine Ari.w ?_; conv => whnf
        refine Tst.F ?_; conv => whnf
        refine ask_c (p_law25_key_v _) H rfl rfl (fun v137 H => ?_); conv => whnf
        iterate 2 (refine Tst.F ?_; conv => whnf)
        refine FootQ.mk ⟨rfl, ?_⟩; conv => whnf
        refine Tst.not ?_
        refine tst_d H (fun b138 H => ?_) (fun b138 H => ?_)
        · conv => whnf
          obtain rfl := Option.some.inj H
          have H := HQ118
          try dsimp only at H
          obtain rfl := Option.some.inj H
          have H := HQ6
          try dsimp only at H
          exact fin0_c (enc := V.b) H (.inr rfl) (.cons (.tmp rfl) (.nil)) rfl rfl
        conv => whnf
        refine ixa_c H (fun x139 h140 H => ?_); conv => whnf
        refine ⟨Nat.zero_le _, sto_c (f := PresPres.v) (es := 4) h140 (x' := (PresPres.mk false (0 : Int) (0 : Int) (0 : Int))) (fun _ => rfl) 0 (by omega) (Nat.le_of_ble_eq_true rfl) (by rfl) ?_⟩; conv => whnf
        iterate 2 (refine Ari.w ?_; conv => whnf)
        exact again_c [12, 13, 14, 15, 77, 78, 79, 80, 81, 82, 83, 84, 85, 86, 87, 88, 89, 90, 91, 92, 93, 94, 95, 96, 97, 98, 99, 100, 101, 102, 103, 104, 105, 106, 107, 108, 109, 110, 111, 112, 113, 114, 115, 116, 117, 118, 119, 120, 121, 122, 123, 124, 125, 126, 127, 128, 129, 130, 131, 132, 133, 134, 135, 136, 137, 138, 139, 8, 56, 57] n119 1 [] (⟨_, _, _, _, H, rfl, rfl⟩) (Nat.lt_succ_self _) (Nat.zero_le _) rfl (by kernel_rfl) (by kernel_rfl) rfl (wkB_live0 rfl (cellsM_idlt (f := PresPres.v) (fun _ => rfl) _) rfl trivial)
      conv => whnf
      refine ixa_c H (fun x22 h23 H => ?_); conv => whnf
      refine ldo_c (f := PresPres.v) (es := 4) h23 (fun _ => rfl) 3 (by omega) (by decide) ?_; conv => whnf
      refine tst_d H (fun b24 H => ?_) (fun b24 H => ?_)
      · conv => whnf
        refine ixa_c H (fun x72 h73 H => ?_); conv => whnf
        refine ⟨Nat.zero_le _, sto_c (f := PresPres.v) (es := 4) h73 (x' := (PresPres.mk x13.On (0 : Int) (0 : Int) (w64 (y9 + (1 : Int))))) (fun _ => rfl) 0 (by omega) (Nat.le_of_ble_eq_true rfl) (by rfl) ?_⟩; conv => whnf
        obtain ⟨o75, HL76, HQ77⟩ := bind_c H
        refine loop_c [2, 5, 9, 11] [12, 13, 14, 15, 77, 78, 79, 80, 81, 82, 83, 84, 85, 86, 87, 88, 89, 90, 91, 92, 93, 94, 95, 96, 97, 98, 99, 100, 101, 102, 103, 104, 105, 106, 107, 108, 109, 110, 111, 112, 113, 114, 115, 116, 117, 118, 119, 120, 121, 122, 123, 124, 125, 126, 127, 128, 129, 130, 131, 132, 133, 134, 135, 136, 137, 138, 139, 8, 56, 57, 68, 69, 76] [12, 13, 14, 15, 77, 78, 79, 80, 81, 82, 83, 84, 85, 86, 87, 88, 89, 90, 91, 92, 93, 94, 95, 96, 97, 98, 99, 100, 101, 102, 103, 104, 105, 106, 107, 108, 109, 110, 111, 112, 113, 114, 115, 116, 117, 118, 119, 120, 121, 122, 123, 124, 125, 126, 127, 128, 129, 130, 131, 132, 133, 134, 135, 136, 137, 138, 139, 8, 56, 57, 68, 69, 76] (fun n vals st => (∃ y79 y80 y81 y82, p_law25_MailLast_l2  a0 y9 n y79 y80 y81 y82 = some o75 ∧ vals = [.b false, .i y79, .sl (List.map MailEntry.v y80) false, .i y81] ∧ st = [.live (cellsM PresPres.v y82) 0])) fuel 1 [] (⟨_, _, _, _, HL76, rfl, rfl⟩) (Nat.zero_le _) rfl (by kernel_rfl) (by kernel_rfl) rfl (wkB_live0 rfl (cellsM_idlt (f := PresPres.v) (fun _ => rfl) _) rfl trivial) ?_
        rintro (_ | n78) _ _ (⟨y79, y80, y81, y82, H, rfl, rfl⟩)
        · rw [p_law25_MailLast_l2] at H; cases H
        rw [p_law25_MailLast_l2] at H
        conv => whnf
        refine ixs_c (f := Law25Deed.v) H (fun _ => rfl) (fun x83 H => ?_); conv => whnf
        refine ⟨Nat.le_of_ble_eq_true rfl, ?_⟩; conv => whnf
        refine ⟨by decide, ?_⟩; conv => whnf
        refine Ari.w ?_; conv => whnf
        refine tst_d H (fun b84 H => ?_) (fun b84 H => ?_)
        · conv => whnf
          obtain rfl := Option.some.inj H
          have H := HQ77
          try dsimp only at H
          refine ask_c (p_mail_Check_v _) H rfl rfl (fun v112 H => ?_); conv => whnf
          refine tst_c H (fun b113 H => ?_) (fun b113 H => ?_)
          · conv => whnf
            iterate 5 (refine Tst.T ?_; conv => whnf)
            obtain rfl := Option.some.inj H
            have H := HQ6
            try dsimp only at H
            exact fin0_c (enc := V.b) H (.inr rfl) (.cons (.tmp rfl) (.nil)) rfl rfl
          conv => whnf
          refine Tst.F ?_; conv => whnf
          refine LenQ.M ?_; conv => whnf
          iterate 3 (refine Tst.F ?_; conv => whnf)
          refine tst_c H (fun b114 H => ?_) (fun b114 H => ?_)
          · conv => whnf
            obtain rfl := Option.some.inj H
            have H := HQ6
            try dsimp only at H
            exact fin0_c (enc := V.b) H (.inr rfl) (.cons (.tmp rfl) (.nil)) rfl rfl
          conv => whnf
          refine Ari.w ?_; conv => whnf
          exact again_c [7, 8, 9, 10, 11, 12, 13, 14, 15, 20, 21, 22, 23, 24, 25, 26, 27, 28, 29, 30, 31, 32, 33, 34, 35, 36, 37, 38, 39, 40, 41, 42, 43, 44, 45, 46, 47, 48, 49, 50, 51, 52, 53, 54, 55, 56, 57, 58, 59, 60, 61, 62, 63, 64, 65, 66, 67, 68, 69, 70, 71, 72, 73, 74, 75, 76, 77, 78, 79, 80, 81, 82, 83, 84, 85, 86, 87, 88, 89, 90, 91, 92, 93, 94, 95, 96, 97, 98, 99, 100, 101, 102, 103, 104, 105, 106, 107, 108, 109, 110, 111, 112, 113, 114, 115, 116, 117, 118, 119, 120, 121, 122, 123, 124, 125, 126, 127, 128, 129, 130, 131, 132, 133, 134, 135, 136, 137, 138, 139, 140, 141, 142, 143, 144, 145, 146, 147, 148, 149] n7 1 [] (.inr (⟨_, _, _, _, H, rfl, rfl⟩)) (Nat.lt_succ_self _) (Nat.zero_le _) rfl (by kernel_rfl) (by kernel_rfl) rfl (wkB_live0 rfl (cellsM_idlt (f := PresPres.v) (fun _ => rfl) _) rfl trivial)
        conv => whnf
        refine ask_c (p_mail_Take_v _) H rfl rfl (fun v85 H => ?_); conv => whnf
        refine ⟨Nat.le_of_ble_eq_true rfl, ?_⟩; conv => whnf
        refine tst_c H (fun b86 H => ?_) (fun b86 H => ?_)
        · conv => whnf
          obtain rfl := Option.some.inj H
          have H := HQ77
          try dsimp only at H
          obtain rfl := Option.some.inj H
          have H := HQ6
          try dsimp only at H
          exact fin0_c (enc := V.b) H (.inr rfl) (.cons (.tmp rfl) (.nil)) rfl rfl
        conv => whnf
        refine Tst.not ?_
        refine tst_d H (fun b87 H => ?_) (fun b87 H => ?_)
        · conv => whnf
          obtain rfl := Option.some.inj H
          have H := HQ77
          try dsimp only at H
          refine ask_c (p_mail_Check_v _) H rfl rfl (fun v109 H => ?_); conv => whnf
          refine tst_c H (fun b110 H => ?_) (fun b110 H => ?_)
          · conv => whnf
            iterate 5 (refine Tst.T ?_; conv => whnf)
            obtain rfl := Option.some.inj H
            have H := HQ6
            try dsimp only at H
            exact fin0_c (enc := V.b) H (.inr rfl) (.cons (.tmp rfl) (.nil)) rfl rfl
          conv => whnf
          refine Tst.F ?_; conv => whnf
          refine LenQ.M ?_; conv => whnf
          iterate 3 (refine Tst.F ?_; conv => whnf)
          refine tst_c H (fun b111 H => ?_) (fun b111 H => ?_)
          · conv => whnf
            obtain rfl := Option.some.inj H
            have H := HQ6
            try dsimp only at H
            exact fin0_c (enc := V.b) H (.inr rfl) (.cons (.tmp rfl) (.nil)) rfl rfl
          conv => whnf
          refine Ari.w ?_; conv => whnf
          exact again_c [7, 8, 9, 10, 11, 12, 13, 14, 15, 20, 21, 22, 23, 24, 25, 26, 27, 28, 29, 30, 31, 32, 33, 34, 35, 36, 37, 38, 39, 40, 41, 42, 43, 44, 45, 46, 47, 48, 49, 50, 51, 52, 53, 54, 55, 56, 57, 58, 59, 60, 61, 62, 63, 64, 65, 66, 67, 68, 69, 70, 71, 72, 73, 74, 75, 76, 77, 78, 79, 80, 81, 82, 83, 84, 85, 86, 87, 88, 89, 90, 91, 92, 93, 94, 95, 96, 97, 98, 99, 100, 101, 102, 103, 104, 105, 106, 107, 108, 109, 110, 111, 112, 113, 114, 115, 116, 117, 118, 119, 120, 121, 122, 123, 124, 125, 126, 127, 128, 129, 130, 131, 132, 133, 134, 135, 136, 137, 138, 139, 140, 141, 142, 143, 144, 145, 146, 147, 148, 149] n7 1 [] (.inr (⟨_, _, _, _, H, rfl, rfl⟩)) (Nat.lt_succ_self _) (Nat.zero_le _) rfl (by kernel_rfl) (by kernel_rfl) rfl (wkB_live0 rfl (cellsM_idlt (f := PresPres.v) (fun _ => rfl) _) rfl trivial)
        conv => whnf
        refine tst_d H (fun b88 H => ?_) (fun b88 H => ?_)
        · conv => whnf
          iterate 8 (refine Tst.F ?_; conv => whnf)
          refine tst_c H (fun b100 H => ?_) (fun b100 H => ?_)
          · conv => whnf
            obtain rfl := Option.some.inj H
            have H := HQ77
            try dsimp only at H
            obtain rfl := Option.some.inj H
            have H := HQ6
            try dsimp only at H
            exact fin0_c (enc := V.b) H (.inr rfl) (.cons (.tmp rfl) (.nil)) rfl rfl
          conv => whnf
          refine ixt_c H (fun c101 H => ?_); conv => whnf
          iterate 2 (refine Ari.w ?_; conv => whnf)
          refine ⟨by decide, ?_⟩; conv => whnf
          refine ixa_c H (fun x102 h103 H => ?_); conv => whnf
          refine ldo_c (f := PresPres.v) (es := 4) h103 (fun _ => rfl) 0 (by omega) (by decide) ?_; conv => whnf
          refine Tst.not ?_
          refine tst_d H (fun b104 H => ?_) (fun b104 H => ?_)
          · conv => whnf
            iterate 6 (refine Tst.T ?_; conv => whnf)
            refine FootQ.mk ⟨rfl, ?_⟩; conv => whnf
            refine Tst.T ?_; conv => whnf
            obtain rfl := Option.some.inj H
            have H := HQ77
            try dsimp only at H
            obtain rfl := Option.some.inj H
            have H := HQ6
            try dsimp only at H
            exact fin0_c (enc := V.b) H (.inr rfl) (.cons (.tmp rfl) (.nil)) rfl rfl
          conv => whnf
          iterate 3 (refine Tst.F ?_; conv => whnf)
          refine Ari.w ?_; conv => whnf
          refine Tst.F ?_; conv => whnf
          refine ask_c (p_law25_key_v _) H rfl rfl (fun v105 H => ?_); conv => whnf
          iterate 2 (refine Tst.F ?_; conv => whnf)
          refine FootQ.mk ⟨rfl, ?_⟩; conv => whnf
          refine Tst.not ?_
          refine tst_d H (fun b106 H => ?_) (fun b106 H => ?_)
          · conv => whnf
            obtain rfl := Option.some.inj H
            have H := HQ77
            try dsimp only at H
            obtain rfl := Option.some.inj H
            have H := HQ6
            try dsimp only at H
            exact fin0_c (enc := V.b) H (.inr rfl) (.cons (.tmp rfl) (.nil)) rfl rfl
          conv => whnf
          refine ixa_c H (fun x107 h108 H => ?_); conv => whnf
          refine ⟨Nat.zero_le _, sto_c (f := PresPres.v) (es := 4) h108 (x' := (PresPres.mk false (0 : Int) (0 : Int) (0 : Int))) (fun _ => rfl) 0 (by omega) (Nat.le_of_ble_eq_true rfl) (by rfl) ?_⟩; conv => whnf
          iterate 2 (refine Ari.w ?_; conv => whnf)
          exact again_c [12, 13, 14, 15, 77, 78, 79, 80, 81, 82, 83, 84, 85, 86, 87, 88, 89, 90, 91, 92, 93, 94, 95, 96, 97, 98, 99, 100, 101, 102, 103, 104, 105, 106, 107, 108, 109, 110, 111, 112, 113, 114, 115, 116, 117, 118, 119, 120, 121, 122, 123, 124, 125, 126, 127, 128, 129, 130, 131, 132, 133, 134, 135, 136, 137, 138, 139, 8, 56, 57, 68, 69, 76] n78 1 [] (⟨_, _, _, _, H, rfl, rfl⟩) (Nat.lt_succ_self _) (Nat.zero_le _) rfl (by kernel_rfl) (by kernel_rfl) rfl (wkB_live0 rfl (cellsM_idlt (f := PresPres.v) (fun _ => rfl) _) rfl trivial)
        conv => whnf
        refine Tst.T ?_; conv => whnf
        refine ask_c (p_mail_Off_v _) H rfl rfl (fun v89 H => ?_); conv => whnf
        iterate 2 (refine Tst.T ?_; conv => whnf)
        refine tst_c H (fun b90 H => ?_) (fun b90 H => ?_)
        · conv => whnf
          iterate 5 (refine Tst.T ?_; conv => whnf)
          obtain rfl := Option.some.inj H
          have H := HQ77
          try dsimp only at H
          obtain rfl := Option.some.inj H
          have H := HQ6
          try dsimp only at H
          exact fin0_c (enc := V.b) H (.inr rfl) (.cons (.tmp rfl) (.nil)) rfl rfl
        conv => whnf
        iterate 4 (refine Tst.F ?_; conv => whnf)
        refine tst_c H (fun b91 H => ?_) (fun b91 H => ?_)
        · conv => whnf
          obtain rfl := Option.some.inj H
          have H := HQ77
          try dsimp only at H
          obtain rfl := Option.some.inj H
          have H := HQ6
          try dsimp only at H
          exact fin0_c (enc := V.b) H (.inr rfl) (.cons (.tmp rfl) (.nil)) rfl rfl
        conv => whnf
        refine ixt_c H (fun c92 H => ?_); conv => whnf
        iterate 2 (refine Ari.w ?_; conv => whnf)
        refine ⟨by decide, ?_⟩; conv => whnf
        refine ixa_c H (fun x93 h94 H => ?_); conv => whnf
        refine ldo_c (f := PresPres.v) (es := 4) h94 (fun _ => rfl) 0 (by omega) (by decide) ?_; conv => whnf
        refine Tst.not ?_
        refine tst_d H (fun b95 H => ?_) (fun b95 H => ?_)
        · conv => whnf
          iterate 6 (refine Tst.T ?_; conv => whnf)
          refine FootQ.mk ⟨rfl, ?_⟩; conv => whnf
          refine Tst.T ?_; conv => whnf
          obtain rfl := Option.some.inj H
          have H := HQ77
          try dsimp only at H
          obtain rfl := Option.some.inj H
          have H := HQ6
          try dsimp only at H
          exact fin0_c (enc := V.b) H (.inr rfl) (.cons (.tmp rfl) (.nil)) rfl rfl
        conv => whnf
        iterate 3 (refine Tst.F ?_; conv => whnf)
        refine Ari.w ?_; conv => whnf
        refine Tst.F ?_; conv => whnf
        refine ask_c (p_law25_key_v _) H rfl rfl (fun v96 H => ?_); conv => whnf
        iterate 2 (refine Tst.F ?_; conv => whnf)
        refine FootQ.mk ⟨rfl, ?_⟩; conv => whnf
        refine Tst.not ?_
        refine tst_d H (fun b97 H => ?_) (fun b97 H => ?_)
        · conv => whnf
          obtain rfl := Option.some.inj H
          have H := HQ77
          try dsimp only at H
          obtain rfl := Option.some.inj H
          have H := HQ6
          try dsimp only at H
          exact fin0_c (enc := V.b) H (.inr rfl) (.cons (.tmp rfl) (.nil)) rfl rfl
        conv => whnf
        refine ixa_c H (fun x98 h99 H => ?_); conv => whnf
        refine ⟨Nat.zero_le _, sto_c (f := PresPres.v) (es := 4) h99 (x' := (PresPres.mk false (0 : Int) (0 : Int) (0 : Int))) (fun _ => rfl) 0 (by omega) (Nat.le_of_ble_eq_true rfl) (by rfl) ?_⟩; conv => whnf
        iterate 2 (refine Ari.w ?_; conv => whnf)
        exact again_c [12, 13, 14, 15, 77, 78, 79, 80, 81, 82, 83, 84, 85, 86, 87, 88, 89, 90, 91, 92, 93, 94, 95, 96, 97, 98, 99, 100, 101, 102, 103, 104, 105, 106, 107, 108, 109, 110, 111, 112, 113, 114, 115, 116, 117, 118, 119, 120, 121, 122, 123, 124, 125, 126, 127, 128, 129, 130, 131, 132, 133, 134, 135, 136, 137, 138, 139, 8, 56, 57, 68, 69, 76] n78 1 [] (⟨_, _, _, _, H, rfl, rfl⟩) (Nat.lt_succ_self _) (Nat.zero_le _) rfl (by kernel_rfl) (by kernel_rfl) rfl (wkB_live0 rfl (cellsM_idlt (f := PresPres.v) (fun _ => rfl) _) rfl trivial)
      conv => whnf
      refine Ari.w ?_; conv => whnf
      refine ixa_c H (fun x25 h26 H => ?_); conv => whnf
      refine ⟨Nat.zero_le _, sto_c (f := PresPres.v) (es := 4) h26 (x' := (PresPres.mk x13.On (0 : Int) (0 : Int) (w64 (y9 + (1 : Int))))) (fun _ => rfl) 0 (by omega) (Nat.le_of_ble_eq_true rfl) (by rfl) ?_⟩; conv => whnf
      obtain ⟨o28, HL29, HQ30⟩ := bind_c H
      refine loop_c [2, 5, 9, 11] [12, 13, 14, 15, 77, 78, 79, 80, 81, 82, 83, 84, 85, 86, 87, 88, 89, 90, 91, 92, 93, 94, 95, 96, 97, 98, 99, 100, 101, 102, 103, 104, 105, 106, 107, 108, 109, 110, 111, 112, 113, 114, 115, 116, 117, 118, 119, 120, 121, 122, 123, 124, 125, 126, 127, 128, 129, 130, 131, 132, 133, 134, 135, 136, 137, 138, 139, 8, 56, 57, 68, 69, 76] [12, 13, 14, 15, 77, 78, 79, 80, 81, 82, 83, 84, 85, 86, 87, 88, 89, 90, 91, 92, 93, 94, 95, 96, 97, 98, 99, 100, 101, 102, 103, 104, 105, 106, 107, 108, 109, 110, 111, 112, 113, 114, 115, 116, 117, 118, 119, 120, 121, 122, 123, 124, 125, 126, 127, 128, 129, 130, 131, 132, 133, 134, 135, 136, 137, 138, 139, 8, 56, 57, 68, 69, 76] (fun n vals st => (∃ y32 y33 y34 y35, p_law25_MailLast_l2  a0 y9 n y32 y33 y34 y35 = some o28 ∧ vals = [.b false, .i y32, .sl (List.map MailEntry.v y33) false, .i y34] ∧ st = [.live (cellsM PresPres.v y35) 0])) fuel 1 [] (⟨_, _, _, _, HL29, rfl, rfl⟩) (Nat.zero_le _) rfl (by kernel_rfl) (by kernel_rfl) rfl (wkB_live0 rfl (cellsM_idlt (f := PresPres.v) (fun _ => rfl) _) rfl trivial) ?_
      rintro (_ | n31) _ _ (⟨y32, y33, y34, y35, H, rfl, rfl⟩)
      · rw [p_law25_MailLast_l2] at H; cases H
      rw [p_law25_MailLast_l2] at H
      conv => whnf
      refine ixs_c (f := Law25Deed.v) H (fun _ => rfl) (fun x36 H => ?_); conv => whnf
      refine ⟨Nat.le_of_ble_eq_true rfl, ?_⟩; conv => whnf
      refine ⟨by decide, ?_⟩; conv => whnf
      refine Ari.w ?_; conv => whnf
      refine tst_d H (fun b37 H => ?_) (fun b37 H => ?_)
      · conv => whnf
        obtain rfl := Option.some.inj H
        have H := HQ30
        try dsimp only at H
        refine ask_c (p_mail_Check_v _) H rfl rfl (fun v69 H => ?_); conv => whnf
        refine tst_c H (fun b70 H => ?_) (fun b70 H => ?_)
        · conv => whnf
          iterate 5 (refine Tst.T ?_; conv => whnf)
          obtain rfl := Option.some.inj H
          have H := HQ6
          try dsimp only at H
          exact fin0_c (enc := V.b) H (.inr rfl) (.cons (.tmp rfl) (.nil)) rfl rfl
        conv => whnf
        refine Tst.F ?_; conv => whnf
        refine LenQ.M ?_; conv => whnf
        iterate 3 (refine Tst.F ?_; conv => whnf)
        refine tst_c H (fun b71 H => ?_) (fun b71 H => ?_)
        · conv => whnf
          obtain rfl := Option.some.inj H
          have H := HQ6
          try dsimp only at H
          exact fin0_c (enc := V.b) H (.inr rfl) (.cons (.tmp rfl) (.nil)) rfl rfl
        conv => whnf
        refine Ari.w ?_; conv => whnf
        exact again_c [7, 8, 9, 10, 11, 12, 13, 14, 15, 20, 21, 22, 23, 24, 25, 26, 27, 28, 29, 30, 31, 32, 33, 34, 35, 36, 37, 38, 39, 40, 41, 42, 43, 44, 45, 46, 47, 48, 49, 50, 51, 52, 53, 54, 55, 56, 57, 58, 59, 60, 61, 62, 63, 64, 65, 66, 67, 68, 69, 70, 71, 72, 73, 74, 75, 76, 77, 78, 79, 80, 81, 82, 83, 84, 85, 86, 87, 88, 89, 90, 91, 92, 93, 94, 95, 96, 97, 98, 99, 100, 101, 102, 103, 104, 105, 106, 107, 108, 109, 110, 111, 112, 113, 114, 115, 116, 117, 118, 119, 120, 121, 122, 123, 124, 125, 126, 127, 128, 129, 130, 131, 132, 133, 134, 135, 136, 137, 138, 139, 140, 141, 142, 143, 144, 145, 146, 147, 148, 149] n7 1 [] (.inr (⟨_, _, _, _, H, rfl, rfl⟩)) (Nat.lt_succ_self _) (Nat.zero_le _) rfl (by kernel_rfl) (by kernel_rfl) rfl (wkB_live0 rfl (cellsM_idlt (f := PresPres.v) (fun _ => rfl) _) rfl trivial)
      conv => whnf
      refine ask_c (p_mail_Take_v _) H rfl rfl (fun v38 H => ?_); conv => whnf
      refine ⟨Nat.le_of_ble_eq_true rfl, ?_⟩; conv => whnf
      refine tst_c H (fun b39 H => ?_) (fun b39 H => ?_)
      · conv => whnf
        obtain rfl := Option.some.inj H
        have H := HQ30
        try dsimp only at H
        obtain rfl := Option.some.inj H
        have H := HQ6
        try dsimp only at H
        exact fin0_c (enc := V.b) H (.inr rfl) (.cons (.tmp rfl) (.nil)) rfl rfl
      conv => whnf
      refine Tst.not ?_
      refine tst_d H (fun b40 H => ?_) (fun b40 H => ?_)
      · conv => whnf
        obtain rfl := Option.some.inj H
        have H := HQ30
        try dsimp only at H
        refine ask_c (p_mail_Check_v _) H rfl rfl (fun v62 H => ?_); conv => whnf
        refine tst_c H (fun b63 H => ?_) (fun b63 H => ?_)
        · conv => whnf
          iterate 5 (refine Tst.T ?_; conv => whnf)
          obtain rfl := Option.some.inj H
          have H := HQ6
          try dsimp only at H
          exact fin0_c (enc := V.b) H (.inr rfl) (.cons (.tmp rfl) (.nil)) rfl rfl
        conv => whnf
        refine Tst.F ?_; conv => whnf
        refine LenQ.M ?_; conv => whnf
        iterate 3 (refine Tst.F ?_; conv => whnf)
        refine tst_c H (fun b64 H => ?_) (fun b64 H => ?_)
        · conv => whnf
          obtain rfl := Option.some.inj H
          have H := HQ6
          try dsimp only at H
          exact fin0_c (enc := V.b) H (.inr rfl) (.cons (.tmp rfl) (.nil)) rfl rfl
        conv => whnf
        refine Ari.w ?_; conv => whnf
        exact again_c [7, 8, 9, 10, 11, 12, 13, 14, 15, 20, 21, 22, 23, 24, 25, 26, 27, 28, 29, 30, 31, 32, 33, 34, 35, 36, 37, 38, 39, 40, 41, 42, 43, 44, 45, 46, 47, 48, 49, 50, 51, 52, 53, 54, 55, 56, 57, 58, 59, 60, 61, 62, 63, 64, 65, 66, 67, 68, 69, 70, 71, 72, 73, 74, 75, 76, 77, 78, 79, 80, 81, 82, 83, 84, 85, 86, 87, 88, 89, 90, 91, 92, 93, 94, 95, 96, 97, 98, 99, 100, 101, 102, 103, 104, 105, 106, 107, 108, 109, 110, 111, 112, 113, 114, 115, 116, 117, 118, 119, 120, 121, 122, 123, 124, 125, 126, 127, 128, 129, 130, 131, 132, 133, 134, 135, 136, 137, 138, 139, 140, 141, 142, 143, 144, 145, 146, 147, 148, 149] n7 1 [] (.inr (⟨_, _, _, _, H, rfl, rfl⟩)) (Nat.lt_succ_self _) (Nat.zero_le _) rfl (by kernel_rfl) (by kernel_rfl) rfl (wkB_live0 rfl (cellsM_idlt (f := PresPres.v) (fun _ => rfl) _) rfl trivial)
      conv => whnf
      refine tst_d H (fun b41 H => ?_) (fun b41 H => ?_)
      · conv => whnf
        iterate 8 (refine Tst.F ?_; conv => whnf)
        refine tst_c H (fun b53 H => ?_) (fun b53 H => ?_)
        · conv => whnf
          obtain rfl := Option.some.inj H
          have H := HQ30
          try dsimp only at H
          obtain rfl := Option.some.inj H
          have H := HQ6
          try dsimp only at H
          exact fin0_c (enc := V.b) H (.inr rfl) (.cons (.tmp rfl) (.nil)) rfl rfl
        conv => whnf
        refine ixt_c H (fun c54 H => ?_); conv => whnf
        iterate 2 (refine Ari.w ?_; conv => whnf)
        refine ⟨by decide, ?_⟩; conv => whnf
        refine ixa_c H (fun x55 h56 H => ?_); conv => whnf
        refine ldo_c (f := PresPres.v) (es := 4) h56 (fun _ => rfl) 0 (by omega) (by decide) ?_; conv => whnf
        refine Tst.not ?_
        refine tst_d H (fun b57 H => ?_) (fun b57 H => ?_)
        · conv => whnf
          iterate 6 (refine Tst.T ?_; conv => whnf)
          refine FootQ.mk ⟨rfl, ?_⟩; conv => whnf
          refine Tst.T ?_; conv => whnf
          obtain rfl := Option.some.inj H
          have H := HQ30
          try dsimp only at H
          obtain rfl := Option.some.inj H
          have H := HQ6
          try dsimp only at H
          exact fin0_c (enc := V.b) H (.inr rfl) (.cons (.tmp rfl) (.nil)) rfl rfl
        conv => whnf
        iterate 3 (refine Tst.F ?_; conv => whnf)
        refine Ari.w ?_; conv => whnf
        refine Tst.F ?_; conv => whnf
        refine ask_c (p_law25_key_v _) H rfl rfl (fun v58 H => ?_); conv => whnf
        iterate 2 (refine Tst.F ?_; conv => whnf)
        refine FootQ.mk ⟨rfl, ?_⟩; conv => whnf
        refine Tst.not ?_
        refine tst_d H (fun b59 H => ?_) (fun b59 H => ?_)
        · conv => whnf
          obtain rfl := Option.some.inj H
          have H := HQ30
          try dsimp only at H
          obtain rfl := Option.some.inj H
          have H := HQ6
          try dsimp only at H
          exact fin0_c (enc := V.b) H (.inr rfl) (.cons (.tmp rfl) (.nil)) rfl rfl
        conv => whnf
        refine ixa_c H (fun x60 h61 H => ?_); conv => whnf
        refine ⟨Nat.zero_le _, sto_c (f := PresPres.v) (es := 4) h61 (x' := (PresPres.mk false (0 : Int) (0 : Int) (0 : Int))) (fun _ => rfl) 0 (by omega) (Nat.le_of_ble_eq_true rfl) (by rfl) ?_⟩; conv => whnf
        iterate 2 (refine Ari.w ?_; conv => whnf)
        exact again_c [12, 13, 14, 15, 77, 78, 79, 80, 81, 82, 83, 84, 85, 86, 87, 88, 89, 90, 91, 92, 93, 94, 95, 96, 97, 98, 99, 100, 101, 102, 103, 104, 105, 106, 107, 108, 109, 110, 111, 112, 113, 114, 115, 116, 117, 118, 119, 120, 121, 122, 123, 124, 125, 126, 127, 128, 129, 130, 131, 132, 133, 134, 135, 136, 137, 138, 139, 8, 56, 57, 68, 69, 76] n31 1 [] (⟨_, _, _, _, H, rfl, rfl⟩) (Nat.lt_succ_self _) (Nat.zero_le _) rfl (by kernel_rfl) (by kernel_rfl) rfl (wkB_live0 rfl (cellsM_idlt (f := PresPres.v) (fun _ => rfl) _) rfl trivial)
      conv => whnf
      refine Tst.T ?_; conv => whnf
      refine ask_c (p_mail_Off_v _) H rfl rfl (fun v42 H => ?_); conv => whnf
      iterate 2 (refine Tst.T ?_; conv => whnf)
      refine tst_c H (fun b43 H => ?_) (fun b43 H => ?_)
      · conv => whnf
        iterate 5 (refine Tst.T ?_; conv => whnf)
        obtain rfl := Option.some.inj H
        have H := HQ30
        try dsimp only at H
        obtain rfl := Option.some.inj H
        have H := HQ6
        try dsimp only at H
        exact fin0_c (enc := V.b) H (.inr rfl) (.cons (.tmp rfl) (.nil)) rfl rfl
      conv => whnf
      iterate 4 (refine Tst.F ?_; conv => whnf)
      refine tst_c H (fun b44 H => ?_) (fun b44 H => ?_)
      · conv => whnf
        obtain rfl := Option.some.inj H
        have H := HQ30
        try dsimp only at H
        obtain rfl := Option.some.inj H
        have H := HQ6
        try dsimp only at H
        exact fin0_c (enc := V.b) H (.inr rfl) (.cons (.tmp rfl) (.nil)) rfl rfl
      conv => whnf
      refine ixt_c H (fun c45 H => ?_); conv => whnf
      iterate 2 (refine Ari.w ?_; conv => whnf)
      refine ⟨by decide, ?_⟩; conv => whnf
      refine ixa_c H (fun x46 h47 H => ?_); conv => whnf
      refine ldo_c (f := PresPres.v) (es := 4) h47 (fun _ => rfl) 0 (by omega) (by decide) ?_; conv => whnf
      refine Tst.not ?_
      refine tst_d H (fun b48 H => ?_) (fun b48 H => ?_)
      · conv => whnf
        iterate 6 (refine Tst.T ?_; conv => whnf)
        refine FootQ.mk ⟨rfl, ?_⟩; conv => whnf
        refine Tst.T ?_; conv => whnf
        obtain rfl := Option.some.inj H
        have H := HQ30
        try dsimp only at H
        obtain rfl := Option.some.inj H
        have H := HQ6
        try dsimp only at H
        exact fin0_c (enc := V.b) H (.inr rfl) (.cons (.tmp rfl) (.nil)) rfl rfl
      conv => whnf
      iterate 3 (refine Tst.F ?_; conv => whnf)
      refine Ari.w ?_; conv => whnf
      refine Tst.F ?_; conv => whnf
      refine ask_c (p_law25_key_v _) H rfl rfl (fun v49 H => ?_); conv => whnf
      iterate 2 (refine Tst.F ?_; conv => whnf)
      refine FootQ.mk ⟨rfl, ?_⟩; conv => whnf
      refine Tst.not ?_
      refine tst_d H (fun b50 H => ?_) (fun b50 H => ?_)
      · conv => whnf
        obtain rfl := Option.some.inj H
        have H := HQ30
        try dsimp only at H
        obtain rfl := Option.some.inj H
        have H := HQ6
        try dsimp only at H
        exact fin0_c (enc := V.b) H (.inr rfl) (.cons (.tmp rfl) (.nil)) rfl rfl
      conv => whnf
      refine ixa_c H (fun x51 h52 H => ?_); conv => whnf
      refine ⟨Nat.zero_le _, sto_c (f := PresPres.v) (es := 4) h52 (x' := (PresPres.mk false (0 : Int) (0 : Int) (0 : Int))) (fun _ => rfl) 0 (by omega) (Nat.le_of_ble_eq_true rfl) (by rfl) ?_⟩; conv => whnf
      iterate 2 (refine Ari.w ?_; conv => whnf)
      exact again_c [12, 13, 14, 15, 77, 78, 79, 80, 81, 82, 83, 84, 85, 86, 87, 88, 89, 90, 91, 92, 93, 94, 95, 96, 97, 98, 99, 100, 101, 102, 103, 104, 105, 106, 107, 108, 109, 110, 111, 112, 113, 114, 115, 116, 117, 118, 119, 120, 121, 122, 123, 124, 125, 126, 127, 128, 129, 130, 131, 132, 133, 134, 135, 136, 137, 138, 139, 8, 56, 57, 68, 69, 76] n31 1 [] (⟨_, _, _, _, H, rfl, rfl⟩) (Nat.lt_succ_self _) (Nat.zero_le _) rfl (by kernel_rfl) (by kernel_rfl) rfl (wkB_live0 rfl (cellsM_idlt (f := PresPres.v) (fun _ => rfl) _) rfl trivial)
    conv => whnf
    iterate 2 (refine Tst.F ?_; conv => whnf)
    refine tst_c H (fun b156 H => ?_) (fun b156 H => ?_)
    · conv => whnf
      obtain rfl := Option.some.inj H
      have H := HQ6
      try dsimp only at H
      exact fin0_c (enc := V.b) H (.inr rfl) (.cons (.tmp rfl) (.nil)) rfl rfl
    conv => whnf
    refine tst_d H (fun b157 H => ?_) (fun b157 H => ?_)
    · conv => whnf
      obtain ⟨o248, HL249, HQ250⟩ := bind_c H
      refine loop_c [2, 5, 9, 11] [12, 13, 14, 15, 77, 78, 79, 80, 81, 82, 83, 84, 85, 86, 87, 88, 89, 90, 91, 92, 93, 94, 95, 96, 97, 98, 99, 100, 101, 102, 103, 104, 105, 106, 107, 108, 109, 110, 111, 112, 113, 114, 115, 116, 117, 118, 119, 120, 121, 122, 123, 124, 125, 126, 127, 128, 129, 130, 131, 132, 133, 134, 135, 136, 137, 138, 139, 8, 56, 57] [12, 13, 14, 15, 77, 78, 79, 80, 81, 82, 83, 84, 85, 86, 87, 88, 89, 90, 91, 92, 93, 94, 95, 96, 97, 98, 99, 100, 101, 102, 103, 104, 105, 106, 107, 108, 109, 110, 111, 112, 113, 114, 115, 116, 117, 118, 119, 120, 121, 122, 123, 124, 125, 126, 127, 128, 129, 130, 131, 132, 133, 134, 135, 136, 137, 138, 139, 8, 56, 57] (fun n vals st => (∃ y252 y253 y254 y255, p_law25_MailLast_l2  a0 y9 n y252 y253 y254 y255 = some o248 ∧ vals = [.b false, .i y252, .sl (List.map MailEntry.v y253) false, .i y254] ∧ st = [.live (cellsM PresPres.v y255) 0])) fuel 1 [] (⟨_, _, _, _, HL249, rfl, rfl⟩) (Nat.zero_le _) rfl (by kernel_rfl) (by kernel_rfl) rfl (wkB_live0 rfl (cellsM_idlt (f := PresPres.v) (fun _ => rfl) _) rfl trivial) ?_
      rintro (_ | n251) _ _ (⟨y252, y253, y254, y255, H, rfl, rfl⟩)
      · rw [p_law25_MailLast_l2] at H; cases H
      rw [p_law25_MailLast_l2] at H
      conv => whnf
      refine ixs_c (f := Law25Deed.v) H (fun _ => rfl) (fun x256 H => ?_); conv => whnf
      refine ⟨Nat.le_of_ble_eq_true rfl, ?_⟩; conv => whnf
      refine ⟨by decide, ?_⟩; conv => whnf
      refine Ari.w ?_; conv => whnf
      refine tst_d H (fun b257 H => ?_) (fun b257 H => ?_)
      · conv => whnf
        obtain rfl := Option.some.inj H
        have H := HQ250
        try dsimp only at H
        refine ask_c (p_mail_Check_v _) H rfl rfl (fun v285 H => ?_); conv => whnf
        refine tst_c H (fun b286 H => ?_) (fun b286 H => ?_)
        · conv => whnf
          iterate 5 (refine Tst.T ?_; conv => whnf)
          obtain rfl := Option.some.inj H
          have H := HQ6
          try dsimp only at H
          exact fin0_c (enc := V.b) H (.inr rfl) (.cons (.tmp rfl) (.nil)) rfl rfl
        conv => whnf
        refine Tst.F ?_; conv => whnf
        refine LenQ.M ?_; conv => whnf
        iterate 3 (refine Tst.F ?_; conv => whnf)
        refine tst_c H (fun b287 H => ?_) (fun b287 H => ?_)
        · conv => whnf
          obtain rfl := Option.some.inj H
          have H := HQ6
          try dsimp only at H
          exact fin0_c (enc := V.b) H (.inr rfl) (.cons (.tmp rfl) (.nil)) rfl rfl
        conv => whnf
        refine Ari.w ?_; conv => whnf
        exact again_c [7, 8, 9, 10, 11, 12, 13, 14, 15, 20, 21, 22, 23, 24, 25, 26, 27, 28, 29, 30, 31, 32, 33, 34, 35, 36, 37, 38, 39, 40, 41, 42, 43, 44, 45, 46, 47, 48, 49, 50, 51, 52, 53, 54, 55, 56, 57, 58, 59, 60, 61, 62, 63, 64, 65, 66, 67, 68, 69, 70, 71, 72, 73, 74, 75, 76, 77, 78, 79, 80, 81, 82, 83, 84, 85, 86, 87, 88, 89, 90, 91, 92, 93, 94, 95, 96, 97, 98, 99, 100, 101, 102, 103, 104, 105, 106, 107, 108, 109, 110, 111, 112, 113, 114, 115, 116, 117, 118, 119, 120, 121, 122, 123, 124, 125, 126, 127, 128, 129, 130, 131, 132, 133, 134, 135, 136, 137, 138, 139, 140, 141, 142, 143, 144, 145, 146, 147, 148, 149] n7 1 [] (.inr (⟨_, _, _, _, H, rfl, rfl⟩)) (Nat.lt_succ_self _) (Nat.zero_le _) rfl (by kernel_rfl) (by kernel_rfl) rfl (wkB_live0 rfl (cellsM_idlt (f := PresPres.v) (fun _ => rfl) _) rfl trivial)
      conv => whnf
      refine ask_c (p_mail_Take_v _) H rfl rfl (fun v258 H => ?_); conv => whnf
      refine ⟨Nat.le_of_ble_eq_true rfl, ?_⟩; conv => whnf
      refine tst_c H (fun b259 H => ?_) (fun b259 H => ?_)
      · conv => whnf
        obtain rfl := Option.some.inj H
        have H := HQ250
        try dsimp only at H
        obtain rfl := Option.some.inj H
        have H := HQ6
        try dsimp only at H
        exact fin0_c (enc := V.b) H (.inr rfl) (.cons (.tmp rfl) (.nil)) rfl rfl
      conv => whnf
      refine Tst.not ?_
      refine tst_d H (fun b260 H => ?_) (fun b260 H => ?_)
      · conv => whnf
        obtain rfl := Option.some.inj H
        have H := HQ250
        try dsimp only at H
        refine ask_c (p_mail_Check_v _) H rfl rfl (fun v282 H => ?_); conv => whnf
        refine tst_c H (fun b283 H => ?_) (fun b283 H => ?_)
        · conv => whnf
          iterate 5 (refine Tst.T ?_; conv => whnf)
          obtain rfl := Option.some.inj H
          have H := HQ6
          try dsimp only at H
          exact fin0_c (enc := V.b) H (.inr rfl) (.cons (.tmp rfl) (.nil)) rfl rfl
        conv => whnf
        refine Tst.F ?_; conv => whnf
        refine LenQ.M ?_; conv => whnf
        iterate 3 (refine Tst.F ?_; conv => whnf)
        refine tst_c H (fun b284 H => ?_) (fun b284 H => ?_)
        · conv => whnf
          obtain rfl := Option.some.inj H
          have H := HQ6
          try dsimp only at H
          exact fin0_c (enc := V.b) H (.inr rfl) (.cons (.tmp rfl) (.nil)) rfl rfl
        conv => whnf
        refine Ari.w ?_; conv => whnf
        exact again_c [7, 8, 9, 10, 11, 12, 13, 14, 15, 20, 21, 22, 23, 24, 25, 26, 27, 28, 29, 30, 31, 32, 33, 34, 35, 36, 37, 38, 39, 40, 41, 42, 43, 44, 45, 46, 47, 48, 49, 50, 51, 52, 53, 54, 55, 56, 57, 58, 59, 60, 61, 62, 63, 64, 65, 66, 67, 68, 69, 70, 71, 72, 73, 74, 75, 76, 77, 78, 79, 80, 81, 82, 83, 84, 85, 86, 87, 88, 89, 90, 91, 92, 93, 94, 95, 96, 97, 98, 99, 100, 101, 102, 103, 104, 105, 106, 107, 108, 109, 110, 111, 112, 113, 114, 115, 116, 117, 118, 119, 120, 121, 122, 123, 124, 125, 126, 127, 128, 129, 130, 131, 132, 133, 134, 135, 136, 137, 138, 139, 140, 141, 142, 143, 144, 145, 146, 147, 148, 149] n7 1 [] (.inr (⟨_, _, _, _, H, rfl, rfl⟩)) (Nat.lt_succ_self _) (Nat.zero_le _) rfl (by kernel_rfl) (by kernel_rfl) rfl (wkB_live0 rfl (cellsM_idlt (f := PresPres.v) (fun _ => rfl) _) rfl trivial)
      conv => whnf
      refine tst_d H (fun b261 H => ?_) (fun b261 H => ?_)
      · conv => whnf
        iterate 8 (refine Tst.F ?_; conv => whnf)
        refine tst_c H (fun b273 H => ?_) (fun b273 H => ?_)
        · conv => whnf
          obtain rfl := Option.some.inj H
          have H := HQ250
          try dsimp only at H
          obtain rfl := Option.some.inj H
          have H := HQ6
          try dsimp only at H
          exact fin0_c (enc := V.b) H (.inr rfl) (.cons (.tmp rfl) (.nil)) rfl rfl
        conv => whnf
        refine ixt_c H (fun c274 H => ?_); conv => whnf
        iterate 2 (refine Ari.w ?_; conv => whnf)
        refine ⟨by decide, ?_⟩; conv => whnf
        refine ixa_c H (fun x275 h276 H => ?_); conv => whnf
        refine ldo_c (f := PresPres.v) (es := 4) h276 (fun _ => rfl) 0 (by omega) (by decide) ?_; conv => whnf
        refine Tst.not ?_
        refine tst_d H (fun b277 H => ?_) (fun b277 H => ?_)
        · conv => whnf
          iterate 6 (refine Tst.T ?_; conv => whnf)
          refine FootQ.mk ⟨rfl, ?_⟩; conv => whnf
          refine Tst.T ?_; conv => whnf
          obtain rfl := Option.some.inj H
          have H := HQ250
          try dsimp only at H
          obtain rfl := Option.some.inj H
          have H := HQ6
          try dsimp only at H
          exact fin0_c (enc := V.b) H (.inr rfl) (.cons (.tmp rfl) (.nil)) rfl rfl
        conv => whnf
        iterate 3 (refine Tst.F ?_; conv => whnf)
        refine Ari.w ?_; conv => whnf
        refine Tst.F ?_; conv => whnf
        refine ask_c (p_law25_key_v _) H rfl rfl (fun v278 H => ?_); conv => whnf
        iterate 2 (refine Tst.F ?_; conv => whnf)
        refine FootQ.mk ⟨rfl, ?_⟩; conv => whnf
        refine Tst.not ?_
        refine tst_d H (fun b279 H => ?_) (fun b279 H => ?_)
        · conv => whnf
          obtain rfl := Option.some.inj H
          have H := HQ250
          try dsimp only at H
          obtain rfl := Option.some.inj H
          have H := HQ6
          try dsimp only at H
          exact fin0_c (enc := V.b) H (.inr rfl) (.cons (.tmp rfl) (.nil)) rfl rfl
        conv => whnf
        refine ixa_c H (fun x280 h281 H => ?_); conv => whnf
        refine ⟨Nat.zero_le _, sto_c (f := PresPres.v) (es := 4) h281 (x' := (PresPres.mk false (0 : Int) (0 : Int) (0 : Int))) (fun _ => rfl) 0 (by omega) (Nat.le_of_ble_eq_true rfl) (by rfl) ?_⟩; conv => whnf
        iterate 2 (refine Ari.w ?_; conv => whnf)
        exact again_c [12, 13, 14, 15, 77, 78, 79, 80, 81, 82, 83, 84, 85, 86, 87, 88, 89, 90, 91, 92, 93, 94, 95, 96, 97, 98, 99, 100, 101, 102, 103, 104, 105, 106, 107, 108, 109, 110, 111, 112, 113, 114, 115, 116, 117, 118, 119, 120, 121, 122, 123, 124, 125, 126, 127, 128, 129, 130, 131, 132, 133, 134, 135, 136, 137, 138, 139, 8, 56, 57] n251 1 [] (⟨_, _, _, _, H, rfl, rfl⟩) (Nat.lt_succ_self _) (Nat.zero_le _) rfl (by kernel_rfl) (by kernel_rfl) rfl (wkB_live0 rfl (cellsM_idlt (f := PresPres.v) (fun _ => rfl) _) rfl trivial)
      conv => whnf
      refine Tst.T ?_; conv => whnf
      refine ask_c (p_mail_Off_v _) H rfl rfl (fun v262 H => ?_); conv => whnf
      iterate 2 (refine Tst.T ?_; conv => whnf)
      refine tst_c H (fun b263 H => ?_) (fun b263 H => ?_)
      · conv => whnf
        iterate 5 (refine Tst.T ?_; conv => whnf)
        obtain rfl := Option.some.inj H
        have H := HQ250
        try dsimp only at H
        obtain rfl := Option.some.inj H
        have H := HQ6
        try dsimp only at H
        exact fin0_c (enc := V.b) H (.inr rfl) (.cons (.tmp rfl) (.nil)) rfl rfl
      conv => whnf
      iterate 4 (refine Tst.F ?_; conv => whnf)
      refine tst_c H (fun b264 H => ?_) (fun b264 H => ?_)
      · conv => whnf
        obtain rfl := Option.some.inj H
        have H := HQ250
        try dsimp only at H
        obtain rfl := Option.some.inj H
        have H := HQ6
        try dsimp only at H
        exact fin0_c (enc := V.b) H (.inr rfl) (.cons (.tmp rfl) (.nil)) rfl rfl
      conv => whnf
      refine ixt_c H (fun c265 H => ?_); conv => whnf
      iterate 2 (refine Ari.w ?_; conv => whnf)
      refine ⟨by decide, ?_⟩; conv => whnf
      refine ixa_c H (fun x266 h267 H => ?_); conv => whnf
      refine ldo_c (f := PresPres.v) (es := 4) h267 (fun _ => rfl) 0 (by omega) (by decide) ?_; conv => whnf
      refine Tst.not ?_
      refine tst_d H (fun b268 H => ?_) (fun b268 H => ?_)
      · conv => whnf
        iterate 6 (refine Tst.T ?_; conv => whnf)
        refine FootQ.mk ⟨rfl, ?_⟩; conv => whnf
        refine Tst.T ?_; conv => whnf
        obtain rfl := Option.some.inj H
        have H := HQ250
        try dsimp only at H
        obtain rfl := Option.some.inj H
        have H := HQ6
        try dsimp only at H
        exact fin0_c (enc := V.b) H (.inr rfl) (.cons (.tmp rfl) (.nil)) rfl rfl
      conv => whnf
      iterate 3 (refine Tst.F ?_; conv => whnf)
      refine Ari.w ?_; conv => whnf
      refine Tst.F ?_; conv => whnf
      refine ask_c (p_law25_key_v _) H rfl rfl (fun v269 H => ?_); conv => whnf
      iterate 2 (refine Tst.F ?_; conv => whnf)
      refine FootQ.mk ⟨rfl, ?_⟩; conv => whnf
      refine Tst.not ?_
      refine tst_d H (fun b270 H => ?_) (fun b270 H => ?_)
      · conv => whnf
        obtain rfl := Option.some.inj H
        have H := HQ250
        try dsimp only at H
        obtain rfl := Option.some.inj H
        have H := HQ6
        try dsimp only at H
        exact fin0_c (enc := V.b) H (.inr rfl) (.cons (.tmp rfl) (.nil)) rfl rfl
      conv => whnf
      refine ixa_c H (fun x271 h272 H => ?_); conv => whnf
      refine ⟨Nat.zero_le _, sto_c (f := PresPres.v) (es := 4) h272 (x' := (PresPres.mk false (0 : Int) (0 : Int) (0 : Int))) (fun _ => rfl) 0 (by omega) (Nat.le_of_ble_eq_true rfl) (by rfl) ?_⟩; conv => whnf
      iterate 2 (refine Ari.w ?_; conv => whnf)
      exact again_c [12, 13, 14, 15, 77, 78, 79, 80, 81, 82, 83, 84, 85, 86, 87, 88, 89, 90, 91, 92, 93, 94, 95, 96, 97, 98, 99, 100, 101, 102, 103, 104, 105, 106, 107, 108, 109, 110, 111, 112, 113, 114, 115, 116, 117, 118, 119, 120, 121, 122, 123, 124, 125, 126, 127, 128, 129, 130, 131, 132, 133, 134, 135, 136, 137, 138, 139, 8, 56, 57] n251 1 [] (⟨_, _, _, _, H, rfl, rfl⟩) (Nat.lt_succ_self _) (Nat.zero_le _) rfl (by kernel_rfl) (by kernel_rfl) rfl (wkB_live0 rfl (cellsM_idlt (f := PresPres.v) (fun _ => rfl) _) rfl trivial)
    conv => whnf
    refine ixa_c H (fun x158 h159 H => ?_); conv => whnf
    refine ldo_c (f := PresPres.v) (es := 4) h159 (fun _ => rfl) 3 (by omega) (by decide) ?_; conv => whnf
    refine tst_d H (fun b160 H => ?_) (fun b160 H => ?_)
    · conv => whnf
      refine ixa_c H (fun x204 h205 H => ?_); conv => whnf
      refine ⟨Nat.zero_le _, sto_c (f := PresPres.v) (es := 4) h205 (x' := (PresPres.mk x13.On (0 : Int) (0 : Int) (w64 (y9 + (1 : Int))))) (fun _ => rfl) 0 (by omega) (Nat.le_of_ble_eq_true rfl) (by rfl) ?_⟩; conv => whnf
      obtain ⟨o207, HL208, HQ209⟩ := bind_c H
      refine loop_c [2, 5, 9, 11] [12, 13, 14, 15, 77, 78, 79, 80, 81, 82, 83, 84, 85, 86, 87, 88, 89, 90, 91, 92, 93, 94, 95, 96, 97, 98, 99, 100, 101, 102, 103, 104, 105, 106, 107, 108, 109, 110, 111, 112, 113, 114, 115, 116, 117, 118, 119, 120, 121, 122, 123, 124, 125, 126, 127, 128, 129, 130, 131, 132, 133, 134, 135, 136, 137, 138, 139, 8, 56, 57, 68, 69, 76] [12, 13, 14, 15, 77, 78, 79, 80, 81, 82, 83, 84, 85, 86, 87, 88, 89, 90, 91, 92, 93, 94, 95, 96, 97, 98, 99, 100, 101, 102, 103, 104, 105, 106, 107, 108, 109, 110, 111, 112, 113, 114, 115, 116, 117, 118, 119, 120, 121, 122, 123, 124, 125, 126, 127, 128, 129, 130, 131, 132, 133, 134, 135, 136, 137, 138, 139, 8, 56, 57, 68, 69, 76] (fun n vals st => (∃ y211 y212 y213 y214, p_law25_MailLast_l2  a0 y9 n y211 y212 y213 y214 = some o207 ∧ vals = [.b false, .i y211, .sl (List.map MailEntry.v y212) false, .i y213] ∧ st = [.live (cellsM PresPres.v y214) 0])) fuel 1 [] (⟨_, _, _, _, HL208, rfl, rfl⟩) (Nat.zero_le _) rfl (by kernel_rfl) (by kernel_rfl) rfl (wkB_live0 rfl (cellsM_idlt (f := PresPres.v) (fun _ => rfl) _) rfl trivial) ?_
      rintro (_ | n210) _ _ (⟨y211, y212, y213, y214, H, rfl, rfl⟩)
      · rw [p_law25_MailLast_l2] at H; cases H
      rw [p_law25_MailLast_l2] at H
      conv => whnf
      refine ixs_c (f := Law25Deed.v) H (fun _ => rfl) (fun x215 H => ?_); conv => whnf
      refine ⟨Nat.le_of_ble_eq_true rfl, ?_⟩; conv => whnf
      refine ⟨by decide, ?_⟩; conv => whnf
      refine Ari.w ?_; conv => whnf
      refine tst_d H (fun b216 H => ?_) (fun b216 H => ?_)
      · conv => whnf
        obtain rfl := Option.some.inj H
        have H := HQ209
        try dsimp only at H
        refine ask_c (p_mail_Check_v _) H rfl rfl (fun v244 H => ?_); conv => whnf
        refine tst_c H (fun b245 H => ?_) (fun b245 H => ?_)
        · conv => whnf
          iterate 5 (refine Tst.T ?_; conv => whnf)
          obtain rfl := Option.some.inj H
          have H := HQ6
          try dsimp only at H
          exact fin0_c (enc := V.b) H (.inr rfl) (.cons (.tmp rfl) (.nil)) rfl rfl
        conv => whnf
        refine Tst.F ?_; conv => whnf
        refine LenQ.M ?_; conv => whnf
        iterate 3 (refine Tst.F ?_; conv => whnf)
        refine tst_c H (fun b246 H => ?_) (fun b246 H => ?_)
        · conv => whnf
          obtain rfl := Option.some.inj H
          have H := HQ6
          try dsimp only at H
          exact fin0_c (enc := V.b) H (.inr rfl) (.cons (.tmp rfl) (.nil)) rfl rfl
        conv => whnf
        refine Ari.w ?_; conv => whnf
        exact again_c [7, 8, 9, 10, 11, 12, 13, 14, 15, 20, 21, 22, 23, 24, 25, 26, 27, 28, 29, 30, 31, 32, 33, 34, 35, 36, 37, 38, 39, 40, 41, 42, 43, 44, 45, 46, 47, 48, 49, 50, 51, 52, 53, 54, 55, 56, 57, 58, 59, 60, 61, 62, 63, 64, 65, 66, 67, 68, 69, 70, 71, 72, 73, 74, 75, 76, 77, 78, 79, 80, 81, 82, 83, 84, 85, 86, 87, 88, 89, 90, 91, 92, 93, 94, 95, 96, 97, 98, 99, 100, 101, 102, 103, 104, 105, 106, 107, 108, 109, 110, 111, 112, 113, 114, 115, 116, 117, 118, 119, 120, 121, 122, 123, 124, 125, 126, 127, 128, 129, 130, 131, 132, 133, 134, 135, 136, 137, 138, 139, 140, 141, 142, 143, 144, 145, 146, 147, 148, 149] n7 1 [] (.inr (⟨_, _, _, _, H, rfl, rfl⟩)) (Nat.lt_succ_self _) (Nat.zero_le _) rfl (by kernel_rfl) (by kernel_rfl) rfl (wkB_live0 rfl (cellsM_idlt (f := PresPres.v) (fun _ => rfl) _) rfl trivial)
      conv => whnf
      refine ask_c (p_mail_Take_v _) H rfl rfl (fun v217 H => ?_); conv => whnf
      refine ⟨Nat.le_of_ble_eq_true rfl, ?_⟩; conv => whnf
      refine tst_c H (fun b218 H => ?_) (fun b218 H => ?_)
      · conv => whnf
        obtain rfl := Option.some.inj H
        have H := HQ209
        try dsimp only at H
        obtain rfl := Option.some.inj H
        have H := HQ6
        try dsimp only at H
        exact fin0_c (enc := V.b) H (.inr rfl) (.cons (.tmp rfl) (.nil)) rfl rfl
      conv => whnf
      refine Tst.not ?_
      refine tst_d H (fun b219 H => ?_) (fun b219 H => ?_)
      · conv => whnf
        obtain rfl := Option.some.inj H
        have H := HQ209
        try dsimp only at H
        refine ask_c (p_mail_Check_v _) H rfl rfl (fun v241 H => ?_); conv => whnf
        refine tst_c H (fun b242 H => ?_) (fun b242 H => ?_)
        · conv => whnf
          iterate 5 (refine Tst.T ?_; conv => whnf)
          obtain rfl := Option.some.inj H
          have H := HQ6
          try dsimp only at H
          exact fin0_c (enc := V.b) H (.inr rfl) (.cons (.tmp rfl) (.nil)) rfl rfl
        conv => whnf
        refine Tst.F ?_; conv => whnf
        refine LenQ.M ?_; conv => whnf
        iterate 3 (refine Tst.F ?_; conv => whnf)
        refine tst_c H (fun b243 H => ?_) (fun b243 H => ?_)
        · conv => whnf
          obtain rfl := Option.some.inj H
          have H := HQ6
          try dsimp only at H
          exact fin0_c (enc := V.b) H (.inr rfl) (.cons (.tmp rfl) (.nil)) rfl rfl
        conv => whnf
        refine Ari.w ?_; conv => whnf
        exact again_c [7, 8, 9, 10, 11, 12, 13, 14, 15, 20, 21, 22, 23, 24, 25, 26, 27, 28, 29, 30, 31, 32, 33, 34, 35, 36, 37, 38, 39, 40, 41, 42, 43, 44, 45, 46, 47, 48, 49, 50, 51, 52, 53, 54, 55, 56, 57, 58, 59, 60, 61, 62, 63, 64, 65, 66, 67, 68, 69, 70, 71, 72, 73, 74, 75, 76, 77, 78, 79, 80, 81, 82, 83, 84, 85, 86, 87, 88, 89, 90, 91, 92, 93, 94, 95, 96, 97, 98, 99, 100, 101, 102, 103, 104, 105, 106, 107, 108, 109, 110, 111, 112, 113, 114, 115, 116, 117, 118, 119, 120, 121, 122, 123, 124, 125, 126, 127, 128, 129, 130, 131, 132, 133, 134, 135, 136, 137, 138, 139, 140, 141, 142, 143, 144, 145, 146, 147, 148, 149] n7 1 [] (.inr (⟨_, _, _, _, H, rfl, rfl⟩)) (Nat.lt_succ_self _) (Nat.zero_le _) rfl (by kernel_rfl) (by kernel_rfl) rfl (wkB_live0 rfl (cellsM_idlt (f := PresPres.v) (fun _ => rfl) _) rfl trivial)
      conv => whnf
      refine tst_d H (fun b220 H => ?_) (fun b220 H => ?_)
      · conv => whnf
        iterate 8 (refine Tst.F ?_; conv => whnf)
        refine tst_c H (fun b232 H => ?_) (fun b232 H => ?_)
        · conv => whnf
          obtain rfl := Option.some.inj H
          have H := HQ209
          try dsimp only at H
          obtain rfl := Option.some.inj H
          have H := HQ6
          try dsimp only at H
          exact fin0_c (enc := V.b) H (.inr rfl) (.cons (.tmp rfl) (.nil)) rfl rfl
        conv => whnf
        refine ixt_c H (fun c233 H => ?_); conv => whnf
        iterate 2 (refine Ari.w ?_; conv => whnf)
        refine ⟨by decide, ?_⟩; conv => whnf
        refine ixa_c H (fun x234 h235 H => ?_); conv => whnf
        refine ldo_c (f := PresPres.v) (es := 4) h235 (fun _ => rfl) 0 (by omega) (by decide) ?_; conv => whnf
        refine Tst.not ?_
        refine tst_d H (fun b236 H => ?_) (fun b236 H => ?_)
        · conv => whnf
          iterate 6 (refine Tst.T ?_; conv => whnf)
          refine FootQ.mk ⟨rfl, ?_⟩; conv => whnf
          refine Tst.T ?_; conv => whnf
          obtain rfl := Option.some.inj H
          have H := HQ209
          try dsimp only at H
          obtain rfl := Option.some.inj H
          have H := HQ6
          try dsimp only at H
          exact fin0_c (enc := V.b) H (.inr rfl) (.cons (.tmp rfl) (.nil)) rfl rfl
        conv => whnf
        iterate 3 (refine Tst.F ?_; conv => whnf)
        refine Ari.w ?_; conv => whnf
        refine Tst.F ?_; conv => whnf
        refine ask_c (p_law25_key_v _) H rfl rfl (fun v237 H => ?_); conv => whnf
        iterate 2 (refine Tst.F ?_; conv => whnf)
        refine FootQ.mk ⟨rfl, ?_⟩; conv => whnf
        refine Tst.not ?_
        refine tst_d H (fun b238 H => ?_) (fun b238 H => ?_)
        · conv => whnf
          obtain rfl := Option.some.inj H
          have H := HQ209
          try dsimp only at H
          obtain rfl := Option.some.inj H
          have H := HQ6
          try dsimp only at H
          exact fin0_c (enc := V.b) H (.inr rfl) (.cons (.tmp rfl) (.nil)) rfl rfl
        conv => whnf
        refine ixa_c H (fun x239 h240 H => ?_); conv => whnf
        refine ⟨Nat.zero_le _, sto_c (f := PresPres.v) (es := 4) h240 (x' := (PresPres.mk false (0 : Int) (0 : Int) (0 : Int))) (fun _ => rfl) 0 (by omega) (Nat.le_of_ble_eq_true rfl) (by rfl) ?_⟩; conv => whnf
        iterate 2 (refine Ari.w ?_; conv => whnf)
        exact again_c [12, 13, 14, 15, 77, 78, 79, 80, 81, 82, 83, 84, 85, 86, 87, 88, 89, 90, 91, 92, 93, 94, 95, 96, 97, 98, 99, 100, 101, 102, 103, 104, 105, 106, 107, 108, 109, 110, 111, 112, 113, 114, 115, 116, 117, 118, 119, 120, 121, 122, 123, 124, 125, 126, 127, 128, 129, 130, 131, 132, 133, 134, 135, 136, 137, 138, 139, 8, 56, 57, 68, 69, 76] n210 1 [] (⟨_, _, _, _, H, rfl, rfl⟩) (Nat.lt_succ_self _) (Nat.zero_le _) rfl (by kernel_rfl) (by kernel_rfl) rfl (wkB_live0 rfl (cellsM_idlt (f := PresPres.v) (fun _ => rfl) _) rfl trivial)
      conv => whnf
      refine Tst.T ?_; conv => whnf
      refine ask_c (p_mail_Off_v _) H rfl rfl (fun v221 H => ?_); conv => whnf
      iterate 2 (refine Tst.T ?_; conv => whnf)
      refine tst_c H (fun b222 H => ?_) (fun b222 H => ?_)
      · conv => whnf
        iterate 5 (refine Tst.T ?_; conv => whnf)
        obtain rfl := Option.some.inj H
        have H := HQ209
        try dsimp only at H
        obtain rfl := Option.some.inj H
        have H := HQ6
        try dsimp only at H
        exact fin0_c (enc := V.b) H (.inr rfl) (.cons (.tmp rfl) (.nil)) rfl rfl
      conv => whnf
      iterate 4 (refine Tst.F ?_; conv => whnf)
      refine tst_c H (fun b223 H => ?_) (fun b223 H => ?_)
      · conv => whnf
        obtain rfl := Option.some.inj H
        have H := HQ209
        try dsimp only at H
        obtain rfl := Option.some.inj H
        have H := HQ6
        try dsimp only at H
        exact fin0_c (enc := V.b) H (.inr rfl) (.cons (.tmp rfl) (.nil)) rfl rfl
      conv => whnf
      refine ixt_c H (fun c224 H => ?_); conv => whnf
      iterate 2 (refine Ari.w ?_; conv => whnf)
      refine ⟨by decide, ?_⟩; conv => whnf
      refine ixa_c H (fun x225 h226 H => ?_); conv => whnf
      refine ldo_c (f := PresPres.v) (es := 4) h226 (fun _ => rfl) 0 (by omega) (by decide) ?_; conv => whnf
      refine Tst.not ?_
      refine tst_d H (fun b227 H => ?_) (fun b227 H => ?_)
      · conv => whnf
        iterate 6 (refine Tst.T ?_; conv => whnf)
        refine FootQ.mk ⟨rfl, ?_⟩; conv => whnf
        refine Tst.T ?_; conv => whnf
        obtain rfl := Option.some.inj H
        have H := HQ209
        try dsimp only at H
        obtain rfl := Option.some.inj H
        have H := HQ6
        try dsimp only at H
        exact fin0_c (enc := V.b) H (.inr rfl) (.cons (.tmp rfl) (.nil)) rfl rfl
      conv => whnf
      iterate 3 (refine Tst.F ?_; conv => whnf)
      refine Ari.w ?_; conv => whnf
      refine Tst.F ?_; conv => whnf
      refine ask_c (p_law25_key_v _) H rfl rfl (fun v228 H => ?_); conv => whnf
      iterate 2 (refine Tst.F ?_; conv => whnf)
      refine FootQ.mk ⟨rfl, ?_⟩; conv => whnf
      refine Tst.not ?_
      refine tst_d H (fun b229 H => ?_) (fun b229 H => ?_)
      · conv => whnf
        obtain rfl := Option.some.inj H
        have H := HQ209
        try dsimp only at H
        obtain rfl := Option.some.inj H
        have H := HQ6
        try dsimp only at H
        exact fin0_c (enc := V.b) H (.inr rfl) (.cons (.tmp rfl) (.nil)) rfl rfl
      conv => whnf
      refine ixa_c H (fun x230 h231 H => ?_); conv => whnf
      refine ⟨Nat.zero_le _, sto_c (f := PresPres.v) (es := 4) h231 (x' := (PresPres.mk false (0 : Int) (0 : Int) (0 : Int))) (fun _ => rfl) 0 (by omega) (Nat.le_of_ble_eq_true rfl) (by rfl) ?_⟩; conv => whnf
      iterate 2 (refine Ari.w ?_; conv => whnf)
      exact again_c [12, 13, 14, 15, 77, 78, 79, 80, 81, 82, 83, 84, 85, 86, 87, 88, 89, 90, 91, 92, 93, 94, 95, 96, 97, 98, 99, 100, 101, 102, 103, 104, 105, 106, 107, 108, 109, 110, 111, 112, 113, 114, 115, 116, 117, 118, 119, 120, 121, 122, 123, 124, 125, 126, 127, 128, 129, 130, 131, 132, 133, 134, 135, 136, 137, 138, 139, 8, 56, 57, 68, 69, 76] n210 1 [] (⟨_, _, _, _, H, rfl, rfl⟩) (Nat.lt_succ_self _) (Nat.zero_le _) rfl (by kernel_rfl) (by kernel_rfl) rfl (wkB_live0 rfl (cellsM_idlt (f := PresPres.v) (fun _ => rfl) _) rfl trivial)
    conv => whnf
    refine Ari.w ?_; conv => whnf
    refine ixa_c H (fun x161 h162 H => ?_); conv => whnf
    refine ⟨Nat.zero_le _, sto_c (f := PresPres.v) (es := 4) h162 (x' := (PresPres.mk x13.On (0 : Int) (0 : Int) (w64 (y9 + (1 : Int))))) (fun _ => rfl) 0 (by omega) (Nat.le_of_ble_eq_true rfl) (by rfl) ?_⟩; conv => whnf
    obtain ⟨o164, HL165, HQ166⟩ := bind_c H
    refine loop_c [2, 5, 9, 11] [12, 13, 14, 15, 77, 78, 79, 80, 81, 82, 83, 84, 85, 86, 87, 88, 89, 90, 91, 92, 93, 94, 95, 96, 97, 98, 99, 100, 101, 102, 103, 104, 105, 106, 107, 108, 109, 110, 111, 112, 113, 114, 115, 116, 117, 118, 119, 120, 121, 122, 123, 124, 125, 126, 127, 128, 129, 130, 131, 132, 133, 134, 135, 136, 137, 138, 139, 8, 56, 57, 68, 69, 76] [12, 13, 14, 15, 77, 78, 79, 80, 81, 82, 83, 84, 85, 86, 87, 88, 89, 90, 91, 92, 93, 94, 95, 96, 97, 98, 99, 100, 101, 102, 103, 104, 105, 106, 107, 108, 109, 110, 111, 112, 113, 114, 115, 116, 117, 118, 119, 120, 121, 122, 123, 124, 125, 126, 127, 128, 129, 130, 131, 132, 133, 134, 135, 136, 137, 138, 139, 8, 56, 57, 68, 69, 76] (fun n vals st => (∃ y168 y169 y170 y171, p_law25_MailLast_l2  a0 y9 n y168 y169 y170 y171 = some o164 ∧ vals = [.b false, .i y168, .sl (List.map MailEntry.v y169) false, .i y170] ∧ st = [.live (cellsM PresPres.v y171) 0])) fuel 1 [] (⟨_, _, _, _, HL165, rfl, rfl⟩) (Nat.zero_le _) rfl (by kernel_rfl) (by kernel_rfl) rfl (wkB_live0 rfl (cellsM_idlt (f := PresPres.v) (fun _ => rfl) _) rfl trivial) ?_
    rintro (_ | n167) _ _ (⟨y168, y169, y170, y171, H, rfl, rfl⟩)
    · rw [p_law25_MailLast_l2] at H; cases H
    rw [p_law25_MailLast_l2] at H
    conv => whnf
    refine ixs_c (f := Law25Deed.v) H (fun _ => rfl) (fun x172 H => ?_); conv => whnf
    refine ⟨Nat.le_of_ble_eq_true rfl, ?_⟩; conv => whnf
    refine ⟨by decide, ?_⟩; conv => whnf
    refine Ari.w ?_; conv => whnf
    refine tst_d H (fun b173 H => ?_) (fun b173 H => ?_)
    · conv => whnf
      obtain rfl := Option.some.inj H
      have H := HQ166
      try dsimp only at H
      refine ask_c (p_mail_Check_v _) H rfl rfl (fun v201 H => ?_); conv => whnf
      refine tst_c H (fun b202 H => ?_) (fun b202 H => ?_)
      · conv => whnf
        iterate 5 (refine Tst.T ?_; conv => whnf)
        obtain rfl := Option.some.inj H
        have H := HQ6
        try dsimp only at H
        exact fin0_c (enc := V.b) H (.inr rfl) (.cons (.tmp rfl) (.nil)) rfl rfl
      conv => whnf
      refine Tst.F ?_; conv => whnf
      refine LenQ.M ?_; conv => whnf
      iterate 3 (refine Tst.F ?_; conv => whnf)
      refine tst_c H (fun b203 H => ?_) (fun b203 H => ?_)
      · conv => whnf
        obtain rfl := Option.some.inj H
        have H := HQ6
        try dsimp only at H
        exact fin0_c (enc := V.b) H (.inr rfl) (.cons (.tmp rfl) (.nil)) rfl rfl
      conv => whnf
      refine Ari.w ?_; conv => whnf
      exact again_c [7, 8, 9, 10, 11, 12, 13, 14, 15, 20, 21, 22, 23, 24, 25, 26, 27, 28, 29, 30, 31, 32, 33, 34, 35, 36, 37, 38, 39, 40, 41, 42, 43, 44, 45, 46, 47, 48, 49, 50, 51, 52, 53, 54, 55, 56, 57, 58, 59, 60, 61, 62, 63, 64, 65, 66, 67, 68, 69, 70, 71, 72, 73, 74, 75, 76, 77, 78, 79, 80, 81, 82, 83, 84, 85, 86, 87, 88, 89, 90, 91, 92, 93, 94, 95, 96, 97, 98, 99, 100, 101, 102, 103, 104, 105, 106, 107, 108, 109, 110, 111, 112, 113, 114, 115, 116, 117, 118, 119, 120, 121, 122, 123, 124, 125, 126, 127, 128, 129, 130, 131, 132, 133, 134, 135, 136, 137, 138, 139, 140, 141, 142, 143, 144, 145, 146, 147, 148, 149] n7 1 [] (.inr (⟨_, _, _, _, H, rfl, rfl⟩)) (Nat.lt_succ_self _) (Nat.zero_le _) rfl (by kernel_rfl) (by kernel_rfl) rfl (wkB_live0 rfl (cellsM_idlt (f := PresPres.v) (fun _ => rfl) _) rfl trivial)
    conv => whnf
    refine ask_c (p_mail_Take_v _) H rfl rfl (fun v174 H => ?_); conv => whnf
    refine ⟨Nat.le_of_ble_eq_true rfl, ?_⟩; conv => whnf
    refine tst_c H (fun b175 H => ?_) (fun b175 H => ?_)
    · conv => whnf
      obtain rfl := Option.some.inj H
      have H := HQ166
      try dsimp only at H
      obtain rfl := Option.some.inj H
      have H := HQ6
      try dsimp only at H
      exact fin0_c (enc := V.b) H (.inr rfl) (.cons (.tmp rfl) (.nil)) rfl rfl
    conv => whnf
    refine Tst.not ?_
    refine tst_d H (fun b176 H => ?_) (fun b176 H => ?_)
    · conv => whnf
      obtain rfl := Option.some.inj H
      have H := HQ166
      try dsimp only at H
      refine ask_c (p_mail_Check_v _) H rfl rfl (fun v198 H => ?_); conv => whnf
      refine tst_c H (fun b199 H => ?_) (fun b199 H => ?_)
      · conv => whnf
        iterate 5 (refine Tst.T ?_; conv => whnf)
        obtain rfl := Option.some.inj H
        have H := HQ6
        try dsimp only at H
        exact fin0_c (enc := V.b) H (.inr rfl) (.cons (.tmp rfl) (.nil)) rfl rfl
      conv => whnf
      refine Tst.F ?_; conv => whnf
      refine LenQ.M ?_; conv => whnf
      iterate 3 (refine Tst.F ?_; conv => whnf)
      refine tst_c H (fun b200 H => ?_) (fun b200 H => ?_)
      · conv => whnf
        obtain rfl := Option.some.inj H
        have H := HQ6
        try dsimp only at H
        exact fin0_c (enc := V.b) H (.inr rfl) (.cons (.tmp rfl) (.nil)) rfl rfl
      conv => whnf
      refine Ari.w ?_; conv => whnf
      exact again_c [7, 8, 9, 10, 11, 12, 13, 14, 15, 20, 21, 22, 23, 24, 25, 26, 27, 28, 29, 30, 31, 32, 33, 34, 35, 36, 37, 38, 39, 40, 41, 42, 43, 44, 45, 46, 47, 48, 49, 50, 51, 52, 53, 54, 55, 56, 57, 58, 59, 60, 61, 62, 63, 64, 65, 66, 67, 68, 69, 70, 71, 72, 73, 74, 75, 76, 77, 78, 79, 80, 81, 82, 83, 84, 85, 86, 87, 88, 89, 90, 91, 92, 93, 94, 95, 96, 97, 98, 99, 100, 101, 102, 103, 104, 105, 106, 107, 108, 109, 110, 111, 112, 113, 114, 115, 116, 117, 118, 119, 120, 121, 122, 123, 124, 125, 126, 127, 128, 129, 130, 131, 132, 133, 134, 135, 136, 137, 138, 139, 140, 141, 142, 143, 144, 145, 146, 147, 148, 149] n7 1 [] (.inr (⟨_, _, _, _, H, rfl, rfl⟩)) (Nat.lt_succ_self _) (Nat.zero_le _) rfl (by kernel_rfl) (by kernel_rfl) rfl (wkB_live0 rfl (cellsM_idlt (f := PresPres.v) (fun _ => rfl) _) rfl trivial)
    conv => whnf
    refine tst_d H (fun b177 H => ?_) (fun b177 H => ?_)
    · conv => whnf
      iterate 8 (refine Tst.F ?_; conv => whnf)
      refine tst_c H (fun b189 H => ?_) (fun b189 H => ?_)
      · conv => whnf
        obtain rfl := Option.some.inj H
        have H := HQ166
        try dsimp only at H
        obtain rfl := Option.some.inj H
        have H := HQ6
        try dsimp only at H
        exact fin0_c (enc := V.b) H (.inr rfl) (.cons (.tmp rfl) (.nil)) rfl rfl
      conv => whnf
      refine ixt_c H (fun c190 H => ?_); conv => whnf
      iterate 2 (refine Ari.w ?_; conv => whnf)
      refine ⟨by decide, ?_⟩; conv => whnf
      refine ixa_c H (fun x191 h192 H => ?_); conv => whnf
      refine ldo_c (f := PresPres.v) (es := 4) h192 (fun _ => rfl) 0 (by omega) (by decide) ?_; conv => whnf
      refine Tst.not ?_
      refine tst_d H (fun b193 H => ?_) (fun b193 H => ?_)
      · conv => whnf
        iterate 6 (refine Tst.T ?_; conv => whnf)
        refine FootQ.mk ⟨rfl, ?_⟩; conv => whnf
        refine Tst.T ?_; conv => whnf
        obtain rfl := Option.some.inj H
        have H := HQ166
        try dsimp only at H
        obtain rfl := Option.some.inj H
        have H := HQ6
        try dsimp only at H
        exact fin0_c (enc := V.b) H (.inr rfl) (.cons (.tmp rfl) (.nil)) rfl rfl
      conv => whnf
      iterate 3 (refine Tst.F ?_; conv => whnf)
      refine Ari.w ?_; conv => whnf
      refine Tst.F ?_; conv => whnf
      refine ask_c (p_law25_key_v _) H rfl rfl (fun v194 H => ?_); conv => whnf
      iterate 2 (refine Tst.F ?_; conv => whnf)
      refine FootQ.mk ⟨rfl, ?_⟩; conv => whnf
      refine Tst.not ?_
      refine tst_d H (fun b195 H => ?_) (fun b195 H => ?_)
      · conv => whnf
        obtain rfl := Option.some.inj H
        have H := HQ166
        try dsimp only at H
        obtain rfl := Option.some.inj H
        have H := HQ6
        try dsimp only at H
        exact fin0_c (enc := V.b) H (.inr rfl) (.cons (.tmp rfl) (.nil)) rfl rfl
      conv => whnf
      refine ixa_c H (fun x196 h197 H => ?_); conv => whnf
      refine ⟨Nat.zero_le _, sto_c (f := PresPres.v) (es := 4) h197 (x' := (PresPres.mk false (0 : Int) (0 : Int) (0 : Int))) (fun _ => rfl) 0 (by omega) (Nat.le_of_ble_eq_true rfl) (by rfl) ?_⟩; conv => whnf
      iterate 2 (refine Ari.w ?_; conv => whnf)
      exact again_c [12, 13, 14, 15, 77, 78, 79, 80, 81, 82, 83, 84, 85, 86, 87, 88, 89, 90, 91, 92, 93, 94, 95, 96, 97, 98, 99, 100, 101, 102, 103, 104, 105, 106, 107, 108, 109, 110, 111, 112, 113, 114, 115, 116, 117, 118, 119, 120, 121, 122, 123, 124, 125, 126, 127, 128, 129, 130, 131, 132, 133, 134, 135, 136, 137, 138, 139, 8, 56, 57, 68, 69, 76] n167 1 [] (⟨_, _, _, _, H, rfl, rfl⟩) (Nat.lt_succ_self _) (Nat.zero_le _) rfl (by kernel_rfl) (by kernel_rfl) rfl (wkB_live0 rfl (cellsM_idlt (f := PresPres.v) (fun _ => rfl) _) rfl trivial)
    conv => whnf
    refine Tst.T ?_; conv => whnf
    refine ask_c (p_mail_Off_v _) H rfl rfl (fun v178 H => ?_); conv => whnf
    iterate 2 (refine Tst.T ?_; conv => whnf)
    refine tst_c H (fun b179 H => ?_) (fun b179 H => ?_)
    · conv => whnf
      iterate 5 (refine Tst.T ?_; conv => whnf)
      obtain rfl := Option.some.inj H
      have H := HQ166
      try dsimp only at H
      obtain rfl := Option.some.inj H
      have H := HQ6
      try dsimp only at H
      exact fin0_c (enc := V.b) H (.inr rfl) (.cons (.tmp rfl) (.nil)) rfl rfl
    conv => whnf
    iterate 4 (refine Tst.F ?_; conv => whnf)
    refine tst_c H (fun b180 H => ?_) (fun b180 H => ?_)
    · conv => whnf
      obtain rfl := Option.some.inj H
      have H := HQ166
      try dsimp only at H
      obtain rfl := Option.some.inj H
      have H := HQ6
      try dsimp only at H
      exact fin0_c (enc := V.b) H (.inr rfl) (.cons (.tmp rfl) (.nil)) rfl rfl
    conv => whnf
    refine ixt_c H (fun c181 H => ?_); conv => whnf
    iterate 2 (refine Ari.w ?_; conv => whnf)
    refine ⟨by decide, ?_⟩; conv => whnf
    refine ixa_c H (fun x182 h183 H => ?_); conv => whnf
    refine ldo_c (f := PresPres.v) (es := 4) h183 (fun _ => rfl) 0 (by omega) (by decide) ?_; conv => whnf
    refine Tst.not ?_
    refine tst_d H (fun b184 H => ?_) (fun b184 H => ?_)
    · conv => whnf
      iterate 6 (refine Tst.T ?_; conv => whnf)
      refine FootQ.mk ⟨rfl, ?_⟩; conv => whnf
      refine Tst.T ?_; conv => whnf
      obtain rfl := Option.some.inj H
      have H := HQ166
      try dsimp only at H
      obtain rfl := Option.some.inj H
      have H := HQ6
      try dsimp only at H
      exact fin0_c (enc := V.b) H (.inr rfl) (.cons (.tmp rfl) (.nil)) rfl rfl
    conv => whnf
    iterate 3 (refine Tst.F ?_; conv => whnf)
    refine Ari.w ?_; conv => whnf
    refine Tst.F ?_; conv => whnf
    refine ask_c (p_law25_key_v _) H rfl rfl (fun v185 H => ?_); conv => whnf
    iterate 2 (refine Tst.F ?_; conv => whnf)
    refine FootQ.mk ⟨rfl, ?_⟩; conv => whnf
    refine Tst.not ?_
    refine tst_d H (fun b186 H => ?_) (fun b186 H => ?_)
    · conv => whnf
      obtain rfl := Option.some.inj H
      have H := HQ166
      try dsimp only at H
      obtain rfl := Option.some.inj H
      have H := HQ6
      try dsimp only at H
      exact fin0_c (enc := V.b) H (.inr rfl) (.cons (.tmp rfl) (.nil)) rfl rfl
    conv => whnf
    refine ixa_c H (fun x187 h188 H => ?_); conv => whnf
    refine ⟨Nat.zero_le _, sto_c (f := PresPres.v) (es := 4) h188 (x' := (PresPres.mk false (0 : Int) (0 : Int) (0 : Int))) (fun _ => rfl) 0 (by omega) (Nat.le_of_ble_eq_true rfl) (by rfl) ?_⟩; conv => whnf
    iterate 2 (refine Ari.w ?_; conv => whnf)
    exact again_c [12, 13, 14, 15, 77, 78, 79, 80, 81, 82, 83, 84, 85, 86, 87, 88, 89, 90, 91, 92, 93, 94, 95, 96, 97, 98, 99, 100, 101, 102, 103, 104, 105, 106, 107, 108, 109, 110, 111, 112, 113, 114, 115, 116, 117, 118, 119, 120, 121, 122, 123, 124, 125, 126, 127, 128, 129, 130, 131, 132, 133, 134, 135, 136, 137, 138, 139, 8, 56, 57, 68, 69, 76] n167 1 [] (⟨_, _, _, _, H, rfl, rfl⟩) (Nat.lt_succ_self _) (Nat.zero_le _) rfl (by kernel_rfl) (by kernel_rfl) rfl (wkB_live0 rfl (cellsM_idlt (f := PresPres.v) (fun _ => rfl) _) rfl trivial)
  rw [p_law25_MailLast_l1] at H
  conv => whnf
  refine LenQ.M ?_; conv => whnf
  refine tst_d H (fun b289 H => ?_) (fun b289 H => ?_)
  · conv => whnf
    obtain rfl := Option.some.inj H
    have H := HQ6
    try dsimp only at H
    refine ask_c (p_law25_awake_v) H rfl rfl (fun v562 H => ?_); conv => whnf
    exact fin0_c (enc := V.b) H (.inr rfl) (.cons (.tmp rfl) (.nil)) rfl rfl
  conv => whnf
  refine ixs_c (f := Law25Deed.v) H (fun _ => rfl) (fun x290 H => ?_); conv => whnf
  refine ⟨Nat.le_of_ble_eq_true rfl, ?_⟩; conv => whnf
  refine ⟨by decide, ?_⟩; conv => whnf
  refine Ari.w ?_; conv => whnf
  refine ixs_c (f := Law25Deed.v) H (fun _ => rfl) (fun x291 H => ?_); conv => whnf
  refine ⟨Nat.le_of_ble_eq_true rfl, ?_⟩; conv => whnf
  refine Ari.w ?_; conv => whnf
  refine ⟨Nat.le_of_ble_eq_true rfl, ?_⟩; conv => whnf
  refine ixs_c (f := Law25Deed.v) H (fun _ => rfl) (fun x292 H => ?_); conv => whnf
  refine ⟨Nat.le_of_ble_eq_true rfl, ?_⟩; conv => whnf
  refine ask_c (p_law25_key_v _) H rfl rfl (fun v293 H => ?_); conv => whnf
  refine ask_c (p_mail_Put_v _ _ _) H rfl rfl (fun v294 H => ?_); conv => whnf
  refine FootQ.mk ⟨rfl, ?_⟩; conv => whnf
  refine ixa_c H (fun x295 h296 H => ?_); conv => whnf
  refine ldo_c (f := PresPres.v) (es := 4) h296 (fun _ => rfl) 3 (by omega) (by decide) ?_; conv => whnf
  refine tst_c H (fun b297 H => ?_) (fun b297 H => ?_)
  · conv => whnf
    iterate 2 (refine Tst.T ?_; conv => whnf)
    refine tst_c H (fun b298 H => ?_) (fun b298 H => ?_)
    · conv => whnf
      obtain rfl := Option.some.inj H
      have H := HQ6
      try dsimp only at H
      exact fin0_c (enc := V.b) H (.inr rfl) (.cons (.tmp rfl) (.nil)) rfl rfl
    conv => whnf
    refine tst_d H (fun b299 H => ?_) (fun b299 H => ?_)
    · conv => whnf
      obtain ⟨o390, HL391, HQ392⟩ := bind_c H
      refine loop_c [2, 5, 9, 11] [12, 13, 14, 15, 77, 78, 79, 80, 81, 82, 83, 84, 85, 86, 87, 88, 89, 90, 91, 92, 93, 94, 95, 96, 97, 98, 99, 100, 101, 102, 103, 104, 105, 106, 107, 108, 109, 110, 111, 112, 113, 114, 115, 116, 117, 118, 119, 120, 121, 122, 123, 124, 125, 126, 127, 128, 129, 130, 131, 132, 133, 134, 135, 136, 137, 138, 139, 8, 56, 57] [12, 13, 14, 15, 77, 78, 79, 80, 81, 82, 83, 84, 85, 86, 87, 88, 89, 90, 91, 92, 93, 94, 95, 96, 97, 98, 99, 100, 101, 102, 103, 104, 105, 106, 107, 108, 109, 110, 111, 112, 113, 114, 115, 116, 117, 118, 119, 120, 121, 122, 123, 124, 125, 126, 127, 128, 129, 130, 131, 132, 133, 134, 135, 136, 137, 138, 139, 8, 56, 57] (fun n vals st => (∃ y394 y395 y396 y397, p_law25_MailLast_l2  a0 y67 n y394 y395 y396 y397 = some o390 ∧ vals = [.b false, .i y394, .sl (List.map MailEntry.v y395) false, .i y396] ∧ st = [.live (cellsM PresPres.v y397) 0])) fuel 1 [] (⟨_, _, _, _, HL391, rfl, rfl⟩) (Nat.zero_le _) rfl (by kernel_rfl) (by kernel_rfl) rfl (wkB_live0 rfl (cellsM_idlt (f := PresPres.v) (fun _ => rfl) _) rfl trivial) ?_
      rintro (_ | n393) _ _ (⟨y394, y395, y396, y397, H, rfl, rfl⟩)
      · rw [p_law25_MailLast_l2] at H; cases H
      rw [p_law25_MailLast_l2] at H
      conv => whnf
      refine ixs_c (f := Law25Deed.v) H (fun _ => rfl) (fun x398 H => ?_); conv => whnf
      refine ⟨Nat.le_of_ble_eq_true rfl, ?_⟩; conv => whnf
      refine ⟨by decide, ?_⟩; conv => whnf
      refine Ari.w ?_; conv => whnf
      refine tst_d H (fun b399 H => ?_) (fun b399 H => ?_)
      · conv => whnf
        obtain rfl := Option.some.inj H
        have H := HQ392
        try dsimp only at H
        refine ask_c (p_mail_Check_v _) H rfl rfl (fun v427 H => ?_); conv => whnf
        refine tst_c H (fun b428 H => ?_) (fun b428 H => ?_)
        · conv => whnf
          iterate 5 (refine Tst.T ?_; conv => whnf)
          obtain rfl := Option.some.inj H
          have H := HQ6
          try dsimp only at H
          exact fin0_c (enc := V.b) H (.inr rfl) (.cons (.tmp rfl) (.nil)) rfl rfl
        conv => whnf
        refine Tst.F ?_; conv => whnf
        refine LenQ.M ?_; conv => whnf
        iterate 3 (refine Tst.F ?_; conv => whnf)
        refine tst_c H (fun b429 H => ?_) (fun b429 H => ?_)
        · conv => whnf
          obtain rfl := Option.some.inj H
          have H := HQ6
          try dsimp only at H
          exact fin0_c (enc := V.b) H (.inr rfl) (.cons (.tmp rfl) (.nil)) rfl rfl
        conv => whnf
        refine Ari.w ?_; conv => whnf
        exact again_c [7, 8, 9, 10, 11, 12, 13, 14, 15, 20, 21, 22, 23, 24, 25, 26, 27, 28, 29, 30, 31, 32, 33, 34, 35, 36, 37, 38, 39, 40, 41, 42, 43, 44, 45, 46, 47, 48, 49, 50, 51, 52, 53, 54, 55, 56, 57, 58, 59, 60, 61, 62, 63, 64, 65, 66, 67, 68, 69, 70, 71, 72, 73, 74, 75, 76, 77, 78, 79, 80, 81, 82, 83, 84, 85, 86, 87, 88, 89, 90, 91, 92, 93, 94, 95, 96, 97, 98, 99, 100, 101, 102, 103, 104, 105, 106, 107, 108, 109, 110, 111, 112, 113, 114, 115, 116, 117, 118, 119, 120, 121, 122, 123, 124, 125, 126, 127, 128, 129, 130, 131, 132, 133, 134, 135, 136, 137, 138, 139, 140, 141, 142, 143, 144, 145, 146, 147, 148, 149] n7 1 [] (.inr (⟨_, _, _, _, H, rfl, rfl⟩)) (Nat.lt_succ_self _) (Nat.zero_le _) rfl (by kernel_rfl) (by kernel_rfl) rfl (wkB_live0 rfl (cellsM_idlt (f := PresPres.v) (fun _ => rfl) _) rfl trivial)
      conv => whnf
      refine ask_c (p_mail_Take_v _) H rfl rfl (fun v400 H => ?_); conv => whnf
      refine ⟨Nat.le_of_ble_eq_true rfl, ?_⟩; conv => whnf
      refine tst_c H (fun b401 H => ?_) (fun b401 H => ?_)
      · conv => whnf
        obtain rfl := Option.some.inj H
        have H := HQ392
        try dsimp only at H
        obtain rfl := Option.some.inj H
        have H := HQ6
        try dsimp only at H
        exact fin0_c (enc := V.b) H (.inr rfl) (.cons (.tmp rfl) (.nil)) rfl rfl
      conv => whnf
      refine Tst.not ?_
      refine tst_d H (fun b402 H => ?_) (fun b402 H => ?_)
      · conv => whnf
        obtain rfl := Option.some.inj H
        have H := HQ392
        try dsimp only at H
        refine ask_c (p_mail_Check_v _) H rfl rfl (fun v424 H => ?_); conv => whnf
        refine tst_c H (fun b425 H => ?_) (fun b425 H => ?_)
        · conv => whnf
          iterate 5 (refine Tst.T ?_; conv => whnf)
          obtain rfl := Option.some.inj H
          have H := HQ6
          try dsimp only at H
          exact fin0_c (enc := V.b) H (.inr rfl) (.cons (.tmp rfl) (.nil)) rfl rfl
        conv => whnf
        refine Tst.F ?_; conv => whnf
        refine LenQ.M ?_; conv => whnf
        iterate 3 (refine Tst.F ?_; conv => whnf)
        refine tst_c H (fun b426 H => ?_) (fun b426 H => ?_)
        · conv => whnf
          obtain rfl := Option.some.inj H
          have H := HQ6
          try dsimp only at H
          exact fin0_c (enc := V.b) H (.inr rfl) (.cons (.tmp rfl) (.nil)) rfl rfl
        conv => whnf
        refine Ari.w ?_; conv => whnf
        exact again_c [7, 8, 9, 10, 11, 12, 13, 14, 15, 20, 21, 22, 23, 24, 25, 26, 27, 28, 29, 30, 31, 32, 33, 34, 35, 36, 37, 38, 39, 40, 41, 42, 43, 44, 45, 46, 47, 48, 49, 50, 51, 52, 53, 54, 55, 56, 57, 58, 59, 60, 61, 62, 63, 64, 65, 66, 67, 68, 69, 70, 71, 72, 73, 74, 75, 76, 77, 78, 79, 80, 81, 82, 83, 84, 85, 86, 87, 88, 89, 90, 91, 92, 93, 94, 95, 96, 97, 98, 99, 100, 101, 102, 103, 104, 105, 106, 107, 108, 109, 110, 111, 112, 113, 114, 115, 116, 117, 118, 119, 120, 121, 122, 123, 124, 125, 126, 127, 128, 129, 130, 131, 132, 133, 134, 135, 136, 137, 138, 139, 140, 141, 142, 143, 144, 145, 146, 147, 148, 149] n7 1 [] (.inr (⟨_, _, _, _, H, rfl, rfl⟩)) (Nat.lt_succ_self _) (Nat.zero_le _) rfl (by kernel_rfl) (by kernel_rfl) rfl (wkB_live0 rfl (cellsM_idlt (f := PresPres.v) (fun _ => rfl) _) rfl trivial)
      conv => whnf
      refine tst_d H (fun b403 H => ?_) (fun b403 H => ?_)
      · conv => whnf
        iterate 8 (refine Tst.F ?_; conv => whnf)
        refine tst_c H (fun b415 H => ?_) (fun b415 H => ?_)
        · conv => whnf
          obtain rfl := Option.some.inj H
          have H := HQ392
          try dsimp only at H
          obtain rfl := Option.some.inj H
          have H := HQ6
          try dsimp only at H
          exact fin0_c (enc := V.b) H (.inr rfl) (.cons (.tmp rfl) (.nil)) rfl rfl
        conv => whnf
        refine ixt_c H (fun c416 H => ?_); conv => whnf
        iterate 2 (refine Ari.w ?_; conv => whnf)
        refine ⟨by decide, ?_⟩; conv => whnf
        refine ixa_c H (fun x417 h418 H => ?_); conv => whnf
        refine ldo_c (f := PresPres.v) (es := 4) h418 (fun _ => rfl) 0 (by omega) (by decide) ?_; conv => whnf
        refine Tst.not ?_
        refine tst_d H (fun b419 H => ?_) (fun b419 H => ?_)
        · conv => whnf
          iterate 6 (refine Tst.T ?_; conv => whnf)
          refine FootQ.mk ⟨rfl, ?_⟩; conv => whnf
          refine Tst.T ?_; conv => whnf
          obtain rfl := Option.some.inj H
          have H := HQ392
          try dsimp only at H
          obtain rfl := Option.some.inj H
          have H := HQ6
          try dsimp only at H
          exact fin0_c (enc := V.b) H (.inr rfl) (.cons (.tmp rfl) (.nil)) rfl rfl
        conv => whnf
        iterate 3 (refine Tst.F ?_; conv => whnf)
        refine Ari.w ?_; conv => whnf
        refine Tst.F ?_; conv => whnf
        refine ask_c (p_law25_key_v _) H rfl rfl (fun v420 H => ?_); conv => whnf
        iterate 2 (refine Tst.F ?_; conv => whnf)
        refine FootQ.mk ⟨rfl, ?_⟩; conv => whnf
        refine Tst.not ?_
        refine tst_d H (fun b421 H => ?_) (fun b421 H => ?_)
        · conv => whnf
          obtain rfl := Option.some.inj H
          have H := HQ392
          try dsimp only at H
          obtain rfl := Option.some.inj H
          have H := HQ6
          try dsimp only at H
          exact fin0_c (enc := V.b) H (.inr rfl) (.cons (.tmp rfl) (.nil)) rfl rfl
        conv => whnf
        refine ixa_c H (fun x422 h423 H => ?_); conv => whnf
        refine ⟨Nat.zero_le _, sto_c (f := PresPres.v) (es := 4) h423 (x' := (PresPres.mk false (0 : Int) (0 : Int) (0 : Int))) (fun _ => rfl) 0 (by omega) (Nat.le_of_ble_eq_true rfl) (by rfl) ?_⟩; conv => whnf
        iterate 2 (refine Ari.w ?_; conv => whnf)
        exact again_c [12, 13, 14, 15, 77, 78, 79, 80, 81, 82, 83, 84, 85, 86, 87, 88, 89, 90, 91, 92, 93, 94, 95, 96, 97, 98, 99, 100, 101, 102, 103, 104, 105, 106, 107, 108, 109, 110, 111, 112, 113, 114, 115, 116, 117, 118, 119, 120, 121, 122, 123, 124, 125, 126, 127, 128, 129, 130, 131, 132, 133, 134, 135, 136, 137, 138, 139, 8, 56, 57] n393 1 [] (⟨_, _, _, _, H, rfl, rfl⟩) (Nat.lt_succ_self _) (Nat.zero_le _) rfl (by kernel_rfl) (by kernel_rfl) rfl (wkB_live0 rfl (cellsM_idlt (f := PresPres.v) (fun _ => rfl) _) rfl trivial)
      conv => whnf
      refine Tst.T ?_; conv => whnf
      refine ask_c (p_mail_Off_v _) H rfl rfl (fun v404 H => ?_); conv => whnf
      iterate 2 (refine Tst.T ?_; conv => whnf)
      refine tst_c H (fun b405 H => ?_) (fun b405 H => ?_)
      · conv => whnf
        iterate 5 (refine Tst.T ?_; conv => whnf)
        obtain rfl := Option.some.inj H
        have H := HQ392
        try dsimp only at H
        obtain rfl := Option.some.inj H
        have H := HQ6
        try dsimp only at H
        exact fin0_c (enc := V.b) H (.inr rfl) (.cons (.tmp rfl) (.nil)) rfl rfl
      conv => whnf
      iterate 4 (refine Tst.F ?_; conv => whnf)
      refine tst_c H (fun b406 H => ?_) (fun b406 H => ?_)
      · conv => whnf
        obtain rfl := Option.some.inj H
        have H := HQ392
        try dsimp only at H
        obtain rfl := Option.some.inj H
        have H := HQ6
        try dsimp only at H
        exact fin0_c (enc := V.b) H (.inr rfl) (.cons (.tmp rfl) (.nil)) rfl rfl
      conv => whnf
      refine ixt_c H (fun c407 H => ?_); conv => whnf
      iterate 2 (refine Ari.w ?_; conv => whnf)
      refine ⟨by decide, ?_⟩; conv => whnf
      refine ixa_c H (fun x408 h409 H => ?_); conv => whnf
      refine ldo_c (f := PresPres.v) (es := 4) h409 (fun _ => rfl) 0 (by omega) (by decide) ?_; conv => whnf
      refine Tst.not ?_
      refine tst_d H (fun b410 H => ?_) (fun b410 H => ?_)
      · conv => whnf
        iterate 6 (refine Tst.T ?_; conv => whnf)
        refine FootQ.mk ⟨rfl, ?_⟩; conv => whnf
        refine Tst.T ?_; conv => whnf
        obtain rfl := Option.some.inj H
        have H := HQ392
        try dsimp only at H
        obtain rfl := Option.some.inj H
        have H := HQ6
        try dsimp only at H
        exact fin0_c (enc := V.b) H (.inr rfl) (.cons (.tmp rfl) (.nil)) rfl rfl
      conv => whnf
      iterate 3 (refine Tst.F ?_; conv => whnf)
      refine Ari.w ?_; conv => whnf
      refine Tst.F ?_; conv => whnf
      refine ask_c (p_law25_key_v _) H rfl rfl (fun v411 H => ?_); conv => whnf
      iterate 2 (refine Tst.F ?_; conv => whnf)
      refine FootQ.mk ⟨rfl, ?_⟩; conv => whnf
      refine Tst.not ?_
      refine tst_d H (fun b412 H => ?_) (fun b412 H => ?_)
      · conv => whnf
        obtain rfl := Option.some.inj H
        have H := HQ392
        try dsimp only at H
        obtain rfl := Option.some.inj H
        have H := HQ6
        try dsimp only at H
        exact fin0_c (enc := V.b) H (.inr rfl) (.cons (.tmp rfl) (.nil)) rfl rfl
      conv => whnf
      refine ixa_c H (fun x413 h414 H => ?_); conv => whnf
      refine ⟨Nat.zero_le _, sto_c (f := PresPres.v) (es := 4) h414 (x' := (PresPres.mk false (0 : Int) (0 : Int) (0 : Int))) (fun _ => rfl) 0 (by omega) (Nat.le_of_ble_eq_true rfl) (by rfl) ?_⟩; conv => whnf
      iterate 2 (refine Ari.w ?_; conv => whnf)
      exact again_c [12, 13, 14, 15, 77, 78, 79, 80, 81, 82, 83, 84, 85, 86, 87, 88, 89, 90, 91, 92, 93, 94, 95, 96, 97, 98, 99, 100, 101, 102, 103, 104, 105, 106, 107, 108, 109, 110, 111, 112, 113, 114, 115, 116, 117, 118, 119, 120, 121, 122, 123, 124, 125, 126, 127, 128, 129, 130, 131, 132, 133, 134, 135, 136, 137, 138, 139, 8, 56, 57] n393 1 [] (⟨_, _, _, _, H, rfl, rfl⟩) (Nat.lt_succ_self _) (Nat.zero_le _) rfl (by kernel_rfl) (by kernel_rfl) rfl (wkB_live0 rfl (cellsM_idlt (f := PresPres.v) (fun _ => rfl) _) rfl trivial)
    conv => whnf
    refine ixa_c H (fun x300 h301 H => ?_); conv => whnf
    refine ldo_c (f := PresPres.v) (es := 4) h301 (fun _ => rfl) 3 (by omega) (by decide) ?_; conv => whnf
    refine tst_d H (fun b302 H => ?_) (fun b302 H => ?_)
    · conv => whnf
      refine ixa_c H (fun x346 h347 H => ?_); conv => whnf
      refine ⟨Nat.zero_le _, sto_c (f := PresPres.v) (es := 4) h347 (x' := (PresPres.mk x291.On (0 : Int) (0 : Int) (w64 (y67 + (1 : Int))))) (fun _ => rfl) 0 (by omega) (Nat.le_of_ble_eq_true rfl) (by rfl) ?_⟩; conv => whnf
      obtain ⟨o349, HL350, HQ351⟩ := bind_c H
      refine loop_c [2, 5, 9, 11] [12, 13, 14, 15, 77, 78, 79, 80, 81, 82, 83, 84, 85, 86, 87, 88, 89, 90, 91, 92, 93, 94, 95, 96, 97, 98, 99, 100, 101, 102, 103, 104, 105, 106, 107, 108, 109, 110, 111, 112, 113, 114, 115, 116, 117, 118, 119, 120, 121, 122, 123, 124, 125, 126, 127, 128, 129, 130, 131, 132, 133, 134, 135, 136, 137, 138, 139, 8, 56, 57, 68, 69, 76] [12, 13, 14, 15, 77, 78, 79, 80, 81, 82, 83, 84, 85, 86, 87, 88, 89, 90, 91, 92, 93, 94, 95, 96, 97, 98, 99, 100, 101, 102, 103, 104, 105, 106, 107, 108, 109, 110, 111, 112, 113, 114, 115, 116, 117, 118, 119, 120, 121, 122, 123, 124, 125, 126, 127, 128, 129, 130, 131, 132, 133, 134, 135, 136, 137, 138, 139, 8, 56, 57, 68, 69, 76] (fun n vals st => (∃ y353 y354 y355 y356, p_law25_MailLast_l2  a0 y67 n y353 y354 y355 y356 = some o349 ∧ vals = [.b false, .i y353, .sl (List.map MailEntry.v y354) false, .i y355] ∧ st = [.live (cellsM PresPres.v y356) 0])) fuel 1 [] (⟨_, _, _, _, HL350, rfl, rfl⟩) (Nat.zero_le _) rfl (by kernel_rfl) (by kernel_rfl) rfl (wkB_live0 rfl (cellsM_idlt (f := PresPres.v) (fun _ => rfl) _) rfl trivial) ?_
      rintro (_ | n352) _ _ (⟨y353, y354, y355, y356, H, rfl, rfl⟩)
      · rw [p_law25_MailLast_l2] at H; cases H
      rw [p_law25_MailLast_l2] at H
      conv => whnf
      refine ixs_c (f := Law25Deed.v) H (fun _ => rfl) (fun x357 H => ?_); conv => whnf
      refine ⟨Nat.le_of_ble_eq_true rfl, ?_⟩; conv => whnf
      refine ⟨by decide, ?_⟩; conv => whnf
      refine Ari.w ?_; conv => whnf
      refine tst_d H (fun b358 H => ?_) (fun b358 H => ?_)
      · conv => whnf
        obtain rfl := Option.some.inj H
        have H := HQ351
        try dsimp only at H
        refine ask_c (p_mail_Check_v _) H rfl rfl (fun v386 H => ?_); conv => whnf
        refine tst_c H (fun b387 H => ?_) (fun b387 H => ?_)
        · conv => whnf
          iterate 5 (refine Tst.T ?_; conv => whnf)
          obtain rfl := Option.some.inj H
          have H := HQ6
          try dsimp only at H
          exact fin0_c (enc := V.b) H (.inr rfl) (.cons (.tmp rfl) (.nil)) rfl rfl
        conv => whnf
        refine Tst.F ?_; conv => whnf
        refine LenQ.M ?_; conv => whnf
        iterate 3 (refine Tst.F ?_; conv => whnf)
        refine tst_c H (fun b388 H => ?_) (fun b388 H => ?_)
        · conv => whnf
          obtain rfl := Option.some.inj H
          have H := HQ6
          try dsimp only at H
          exact fin0_c (enc := V.b) H (.inr rfl) (.cons (.tmp rfl) (.nil)) rfl rfl
        conv => whnf
        refine Ari.w ?_; conv => whnf
        exact again_c [7, 8, 9, 10, 11, 12, 13, 14, 15, 20, 21, 22, 23, 24, 25, 26, 27, 28, 29, 30, 31, 32, 33, 34, 35, 36, 37, 38, 39, 40, 41, 42, 43, 44, 45, 46, 47, 48, 49, 50, 51, 52, 53, 54, 55, 56, 57, 58, 59, 60, 61, 62, 63, 64, 65, 66, 67, 68, 69, 70, 71, 72, 73, 74, 75, 76, 77, 78, 79, 80, 81, 82, 83, 84, 85, 86, 87, 88, 89, 90, 91, 92, 93, 94, 95, 96, 97, 98, 99, 100, 101, 102, 103, 104, 105, 106, 107, 108, 109, 110, 111, 112, 113, 114, 115, 116, 117, 118, 119, 120, 121, 122, 123, 124, 125, 126, 127, 128, 129, 130, 131, 132, 133, 134, 135, 136, 137, 138, 139, 140, 141, 142, 143, 144, 145, 146, 147, 148, 149] n7 1 [] (.inr (⟨_, _, _, _, H, rfl, rfl⟩)) (Nat.lt_succ_self _) (Nat.zero_le _) rfl (by kernel_rfl) (by kernel_rfl) rfl (wkB_live0 rfl (cellsM_idlt (f := PresPres.v) (fun _ => rfl) _) rfl trivial)
      conv => whnf
      refine ask_c (p_mail_Take_v _) H rfl rfl (fun v359 H => ?_); conv => whnf
      refine ⟨Nat.le_of_ble_eq_true rfl, ?_⟩; conv => whnf
      refine tst_c H (fun b360 H => ?_) (fun b360 H => ?_)
      · conv => whnf
        obtain rfl := Option.some.inj H
        have H := HQ351
        try dsimp only at H
        obtain rfl := Option.some.inj H
        have H := HQ6
        try dsimp only at H
        exact fin0_c (enc := V.b) H (.inr rfl) (.cons (.tmp rfl) (.nil)) rfl rfl
      conv => whnf
      refine Tst.not ?_
      refine tst_d H (fun b361 H => ?_) (fun b361 H => ?_)
      · conv => whnf
        obtain rfl := Option.some.inj H
        have H := HQ351
        try dsimp only at H
        refine ask_c (p_mail_Check_v _) H rfl rfl (fun v383 H => ?_); conv => whnf
        refine tst_c H (fun b384 H => ?_) (fun b384 H => ?_)
        · conv => whnf
          iterate 5 (refine Tst.T ?_; conv => whnf)
          obtain rfl := Option.some.inj H
          have H := HQ6
          try dsimp only at H
          exact fin0_c (enc := V.b) H (.inr rfl) (.cons (.tmp rfl) (.nil)) rfl rfl
        conv => whnf
        refine Tst.F ?_; conv => whnf
        refine LenQ.M ?_; conv => whnf
        iterate 3 (refine Tst.F ?_; conv => whnf)
        refine tst_c H (fun b385 H => ?_) (fun b385 H => ?_)
        · conv => whnf
          obtain rfl := Option.some.inj H
          have H := HQ6
          try dsimp only at H
          exact fin0_c (enc := V.b) H (.inr rfl) (.cons (.tmp rfl) (.nil)) rfl rfl
        conv => whnf
        refine Ari.w ?_; conv => whnf
        exact again_c [7, 8, 9, 10, 11, 12, 13, 14, 15, 20, 21, 22, 23, 24, 25, 26, 27, 28, 29, 30, 31, 32, 33, 34, 35, 36, 37, 38, 39, 40, 41, 42, 43, 44, 45, 46, 47, 48, 49, 50, 51, 52, 53, 54, 55, 56, 57, 58, 59, 60, 61, 62, 63, 64, 65, 66, 67, 68, 69, 70, 71, 72, 73, 74, 75, 76, 77, 78, 79, 80, 81, 82, 83, 84, 85, 86, 87, 88, 89, 90, 91, 92, 93, 94, 95, 96, 97, 98, 99, 100, 101, 102, 103, 104, 105, 106, 107, 108, 109, 110, 111, 112, 113, 114, 115, 116, 117, 118, 119, 120, 121, 122, 123, 124, 125, 126, 127, 128, 129, 130, 131, 132, 133, 134, 135, 136, 137, 138, 139, 140, 141, 142, 143, 144, 145, 146, 147, 148, 149] n7 1 [] (.inr (⟨_, _, _, _, H, rfl, rfl⟩)) (Nat.lt_succ_self _) (Nat.zero_le _) rfl (by kernel_rfl) (by kernel_rfl) rfl (wkB_live0 rfl (cellsM_idlt (f := PresPres.v) (fun _ => rfl) _) rfl trivial)
      conv => whnf
      refine tst_d H (fun b362 H => ?_) (fun b362 H => ?_)
      · conv => whnf
        iterate 8 (refine Tst.F ?_; conv => whnf)
        refine tst_c H (fun b374 H => ?_) (fun b374 H => ?_)
        · conv => whnf
          obtain rfl := Option.some.inj H
          have H := HQ351
          try dsimp only at H
          obtain rfl := Option.some.inj H
          have H := HQ6
          try dsimp only at H
          exact fin0_c (enc := V.b) H (.inr rfl) (.cons (.tmp rfl) (.nil)) rfl rfl
        conv => whnf
        refine ixt_c H (fun c375 H => ?_); conv => whnf
        iterate 2 (refine Ari.w ?_; conv => whnf)
        refine ⟨by decide, ?_⟩; conv => whnf
        refine ixa_c H (fun x376 h377 H => ?_); conv => whnf
        refine ldo_c (f := PresPres.v) (es := 4) h377 (fun _ => rfl) 0 (by omega) (by decide) ?_; conv => whnf
        refine Tst.not ?_
        refine tst_d H (fun b378 H => ?_) (fun b378 H => ?_)
        · conv => whnf
          iterate 6 (refine Tst.T ?_; conv => whnf)
          refine FootQ.mk ⟨rfl, ?_⟩; conv => whnf
          refine Tst.T ?_; conv => whnf
          obtain rfl := Option.some.inj H
          have H := HQ351
          try dsimp only at H
          obtain rfl := Option.some.inj H
          have H := HQ6
          try dsimp only at H
          exact fin0_c (enc := V.b) H (.inr rfl) (.cons (.tmp rfl) (.nil)) rfl rfl
        conv => whnf
        iterate 3 (refine Tst.F ?_; conv => whnf)
        refine Ari.w ?_; conv => whnf
        refine Tst.F ?_; conv => whnf
        refine ask_c (p_law25_key_v _) H rfl rfl (fun v379 H => ?_); conv => whnf
        iterate 2 (refine Tst.F ?_; conv => whnf)
        refine FootQ.mk ⟨rfl, ?_⟩; conv => whnf
        refine Tst.not ?_
        refine tst_d H (fun b380 H => ?_) (fun b380 H => ?_)
        · conv => whnf
          obtain rfl := Option.some.inj H
          have H := HQ351
          try dsimp only at H
          obtain rfl := Option.some.inj H
          have H := HQ6
          try dsimp only at H
          exact fin0_c (enc := V.b) H (.inr rfl) (.cons (.tmp rfl) (.nil)) rfl rfl
        conv => whnf
        refine ixa_c H (fun x381 h382 H => ?_); conv => whnf
        refine ⟨Nat.zero_le _, sto_c (f := PresPres.v) (es := 4) h382 (x' := (PresPres.mk false (0 : Int) (0 : Int) (0 : Int))) (fun _ => rfl) 0 (by omega) (Nat.le_of_ble_eq_true rfl) (by rfl) ?_⟩; conv => whnf
        iterate 2 (refine Ari.w ?_; conv => whnf)
        exact again_c [12, 13, 14, 15, 77, 78, 79, 80, 81, 82, 83, 84, 85, 86, 87, 88, 89, 90, 91, 92, 93, 94, 95, 96, 97, 98, 99, 100, 101, 102, 103, 104, 105, 106, 107, 108, 109, 110, 111, 112, 113, 114, 115, 116, 117, 118, 119, 120, 121, 122, 123, 124, 125, 126, 127, 128, 129, 130, 131, 132, 133, 134, 135, 136, 137, 138, 139, 8, 56, 57, 68, 69, 76] n352 1 [] (⟨_, _, _, _, H, rfl, rfl⟩) (Nat.lt_succ_self _) (Nat.zero_le _) rfl (by kernel_rfl) (by kernel_rfl) rfl (wkB_live0 rfl (cellsM_idlt (f := PresPres.v) (fun _ => rfl) _) rfl trivial)
      conv => whnf
      refine Tst.T ?_; conv => whnf
      refine ask_c (p_mail_Off_v _) H rfl rfl (fun v363 H => ?_); conv => whnf
      iterate 2 (refine Tst.T ?_; conv => whnf)
      refine tst_c H (fun b364 H => ?_) (fun b364 H => ?_)
      · conv => whnf
        iterate 5 (refine Tst.T ?_; conv => whnf)
        obtain rfl := Option.some.inj H
        have H := HQ351
        try dsimp only at H
        obtain rfl := Option.some.inj H
        have H := HQ6
        try dsimp only at H
        exact fin0_c (enc := V.b) H (.inr rfl) (.cons (.tmp rfl) (.nil)) rfl rfl
      conv => whnf
      iterate 4 (refine Tst.F ?_; conv => whnf)
      refine tst_c H (fun b365 H => ?_) (fun b365 H => ?_)
      · conv => whnf
        obtain rfl := Option.some.inj H
        have H := HQ351
        try dsimp only at H
        obtain rfl := Option.some.inj H
        have H := HQ6
        try dsimp only at H
        exact fin0_c (enc := V.b) H (.inr rfl) (.cons (.tmp rfl) (.nil)) rfl rfl
      conv => whnf
      refine ixt_c H (fun c366 H => ?_); conv => whnf
      iterate 2 (refine Ari.w ?_; conv => whnf)
      refine ⟨by decide, ?_⟩; conv => whnf
      refine ixa_c H (fun x367 h368 H => ?_); conv => whnf
      refine ldo_c (f := PresPres.v) (es := 4) h368 (fun _ => rfl) 0 (by omega) (by decide) ?_; conv => whnf
      refine Tst.not ?_
      refine tst_d H (fun b369 H => ?_) (fun b369 H => ?_)
      · conv => whnf
        iterate 6 (refine Tst.T ?_; conv => whnf)
        refine FootQ.mk ⟨rfl, ?_⟩; conv => whnf
        refine Tst.T ?_; conv => whnf
        obtain rfl := Option.some.inj H
        have H := HQ351
        try dsimp only at H
        obtain rfl := Option.some.inj H
        have H := HQ6
        try dsimp only at H
        exact fin0_c (enc := V.b) H (.inr rfl) (.cons (.tmp rfl) (.nil)) rfl rfl
      conv => whnf
      iterate 3 (refine Tst.F ?_; conv => whnf)
      refine Ari.w ?_; conv => whnf
      refine Tst.F ?_; conv => whnf
      refine ask_c (p_law25_key_v _) H rfl rfl (fun v370 H => ?_); conv => whnf
      iterate 2 (refine Tst.F ?_; conv => whnf)
      refine FootQ.mk ⟨rfl, ?_⟩; conv => whnf
      refine Tst.not ?_
      refine tst_d H (fun b371 H => ?_) (fun b371 H => ?_)
      · conv => whnf
        obtain rfl := Option.some.inj H
        have H := HQ351
        try dsimp only at H
        obtain rfl := Option.some.inj H
        have H := HQ6
        try dsimp only at H
        exact fin0_c (enc := V.b) H (.inr rfl) (.cons (.tmp rfl) (.nil)) rfl rfl
      conv => whnf
      refine ixa_c H (fun x372 h373 H => ?_); conv => whnf
      refine ⟨Nat.zero_le _, sto_c (f := PresPres.v) (es := 4) h373 (x' := (PresPres.mk false (0 : Int) (0 : Int) (0 : Int))) (fun _ => rfl) 0 (by omega) (Nat.le_of_ble_eq_true rfl) (by rfl) ?_⟩; conv => whnf
      iterate 2 (refine Ari.w ?_; conv => whnf)
      exact again_c [12, 13, 14, 15, 77, 78, 79, 80, 81, 82, 83, 84, 85, 86, 87, 88, 89, 90, 91, 92, 93, 94, 95, 96, 97, 98, 99, 100, 101, 102, 103, 104, 105, 106, 107, 108, 109, 110, 111, 112, 113, 114, 115, 116, 117, 118, 119, 120, 121, 122, 123, 124, 125, 126, 127, 128, 129, 130, 131, 132, 133, 134, 135, 136, 137, 138, 139, 8, 56, 57, 68, 69, 76] n352 1 [] (⟨_, _, _, _, H, rfl, rfl⟩) (Nat.lt_succ_self _) (Nat.zero_le _) rfl (by kernel_rfl) (by kernel_rfl) rfl (wkB_live0 rfl (cellsM_idlt (f := PresPres.v) (fun _ => rfl) _) rfl trivial)
    conv => whnf
    refine Ari.w ?_; conv => whnf
    refine ixa_c H (fun x303 h304 H => ?_); conv => whnf
    refine ⟨Nat.zero_le _, sto_c (f := PresPres.v) (es := 4) h304 (x' := (PresPres.mk x291.On (0 : Int) (0 : Int) (w64 (y67 + (1 : Int))))) (fun _ => rfl) 0 (by omega) (Nat.le_of_ble_eq_true rfl) (by rfl) ?_⟩; conv => whnf
    obtain ⟨o306, HL307, HQ308⟩ := bind_c H
    refine loop_c [2, 5, 9, 11] [12, 13, 14, 15, 77, 78, 79, 80, 81, 82, 83, 84, 85, 86, 87, 88, 89, 90, 91, 92, 93, 94, 95, 96, 97, 98, 99, 100, 101, 102, 103, 104, 105, 106, 107, 108, 109, 110, 111, 112, 113, 114, 115, 116, 117, 118, 119, 120, 121, 122, 123, 124, 125, 126, 127, 128, 129, 130, 131, 132, 133, 134, 135, 136, 137, 138, 139, 8, 56, 57, 68, 69, 76] [12, 13, 14, 15, 77, 78, 79, 80, 81, 82, 83, 84, 85, 86, 87, 88, 89, 90, 91, 92, 93, 94, 95, 96, 97, 98, 99, 100, 101, 102, 103, 104, 105, 106, 107, 108, 109, 110, 111, 112, 113, 114, 115, 116, 117, 118, 119, 120, 121, 122, 123, 124, 125, 126, 127, 128, 129, 130, 131, 132, 133, 134, 135, 136, 137, 138, 139, 8, 56, 57, 68, 69, 76] (fun n vals st => (∃ y310 y311 y312 y313, p_law25_MailLast_l2  a0 y67 n y310 y311 y312 y313 = some o306 ∧ vals = [.b false, .i y310, .sl (List.map MailEntry.v y311) false, .i y312] ∧ st = [.live (cellsM PresPres.v y313) 0])) fuel 1 [] (⟨_, _, _, _, HL307, rfl, rfl⟩) (Nat.zero_le _) rfl (by kernel_rfl) (by kernel_rfl) rfl (wkB_live0 rfl (cellsM_idlt (f := PresPres.v) (fun _ => rfl) _) rfl trivial) ?_
    rintro (_ | n309) _ _ (⟨y310, y311, y312, y313, H, rfl, rfl⟩)
    · rw [p_law25_MailLast_l2] at H; cases H
    rw [p_law25_MailLast_l2] at H
    conv => whnf
    refine ixs_c (f := Law25Deed.v) H (fun _ => rfl) (fun x314 H => ?_); conv => whnf
    refine ⟨Nat.le_of_ble_eq_true rfl, ?_⟩; conv => whnf
    refine ⟨by decide, ?_⟩; conv => whnf
    refine Ari.w ?_; conv => whnf
    refine tst_d H (fun b315 H => ?_) (fun b315 H => ?_)
    · conv => whnf
      obtain rfl := Option.some.inj H
      have H := HQ308
      try dsimp only at H
      refine ask_c (p_mail_Check_v _) H rfl rfl (fun v343 H => ?_); conv => whnf
      refine tst_c H (fun b344 H => ?_) (fun b344 H => ?_)
      · conv => whnf
        iterate 5 (refine Tst.T ?_; conv => whnf)
        obtain rfl := Option.some.inj H
        have H := HQ6
        try dsimp only at H
        exact fin0_c (enc := V.b) H (.inr rfl) (.cons (.tmp rfl) (.nil)) rfl rfl
      conv => whnf
      refine Tst.F ?_; conv => whnf
      refine LenQ.M ?_; conv => whnf
      iterate 3 (refine Tst.F ?_; conv => whnf)
      refine tst_c H (fun b345 H => ?_) (fun b345 H => ?_)
      · conv => whnf
        obtain rfl := Option.some.inj H
        have H := HQ6
        try dsimp only at H
        exact fin0_c (enc := V.b) H (.inr rfl) (.cons (.tmp rfl) (.nil)) rfl rfl
      conv => whnf
      refine Ari.w ?_; conv => whnf
      exact again_c [7, 8, 9, 10, 11, 12, 13, 14, 15, 20, 21, 22, 23, 24, 25, 26, 27, 28, 29, 30, 31, 32, 33, 34, 35, 36, 37, 38, 39, 40, 41, 42, 43, 44, 45, 46, 47, 48, 49, 50, 51, 52, 53, 54, 55, 56, 57, 58, 59, 60, 61, 62, 63, 64, 65, 66, 67, 68, 69, 70, 71, 72, 73, 74, 75, 76, 77, 78, 79, 80, 81, 82, 83, 84, 85, 86, 87, 88, 89, 90, 91, 92, 93, 94, 95, 96, 97, 98, 99, 100, 101, 102, 103, 104, 105, 106, 107, 108, 109, 110, 111, 112, 113, 114, 115, 116, 117, 118, 119, 120, 121, 122, 123, 124, 125, 126, 127, 128, 129, 130, 131, 132, 133, 134, 135, 136, 137, 138, 139, 140, 141, 142, 143, 144, 145, 146, 147, 148, 149] n7 1 [] (.inr (⟨_, _, _, _, H, rfl, rfl⟩)) (Nat.lt_succ_self _) (Nat.zero_le _) rfl (by kernel_rfl) (by kernel_rfl) rfl (wkB_live0 rfl (cellsM_idlt (f := PresPres.v) (fun _ => rfl) _) rfl trivial)
    conv => whnf
    refine ask_c (p_mail_Take_v _) H rfl rfl (fun v316 H => ?_); conv => whnf
    refine ⟨Nat.le_of_ble_eq_true rfl, ?_⟩; conv => whnf
    refine tst_c H (fun b317 H => ?_) (fun b317 H => ?_)
    · conv => whnf
      obtain rfl := Option.some.inj H
      have H := HQ308
      try dsimp only at H
      obtain rfl := Option.some.inj H
      have H := HQ6
      try dsimp only at H
      exact fin0_c (enc := V.b) H (.inr rfl) (.cons (.tmp rfl) (.nil)) rfl rfl
    conv => whnf
    refine Tst.not ?_
    refine tst_d H (fun b318 H => ?_) (fun b318 H => ?_)
    · conv => whnf
      obtain rfl := Option.some.inj H
      have H := HQ308
      try dsimp only at H
      refine ask_c (p_mail_Check_v _) H rfl rfl (fun v340 H => ?_); conv => whnf
      refine tst_c H (fun b341 H => ?_) (fun b341 H => ?_)
      · conv => whnf
        iterate 5 (refine Tst.T ?_; conv => whnf)
        obtain rfl := Option.some.inj H
        have H := HQ6
        try dsimp only at H
        exact fin0_c (enc := V.b) H (.inr rfl) (.cons (.tmp rfl) (.nil)) rfl rfl
      conv => whnf
      refine Tst.F ?_; conv => whnf
      refine LenQ.M ?_; conv => whnf
      iterate 3 (refine Tst.F ?_; conv => whnf)
      refine tst_c H (fun b342 H => ?_) (fun b342 H => ?_)
      · conv => whnf
        obtain rfl := Option.some.inj H
        have H := HQ6
        try dsimp only at H
        exact fin0_c (enc := V.b) H (.inr rfl) (.cons (.tmp rfl) (.nil)) rfl rfl
      conv => whnf
      refine Ari.w ?_; conv => whnf
      exact again_c [7, 8, 9, 10, 11, 12, 13, 14, 15, 20, 21, 22, 23, 24, 25, 26, 27, 28, 29, 30, 31, 32, 33, 34, 35, 36, 37, 38, 39, 40, 41, 42, 43, 44, 45, 46, 47, 48, 49, 50, 51, 52, 53, 54, 55, 56, 57, 58, 59, 60, 61, 62, 63, 64, 65, 66, 67, 68, 69, 70, 71, 72, 73, 74, 75, 76, 77, 78, 79, 80, 81, 82, 83, 84, 85, 86, 87, 88, 89, 90, 91, 92, 93, 94, 95, 96, 97, 98, 99, 100, 101, 102, 103, 104, 105, 106, 107, 108, 109, 110, 111, 112, 113, 114, 115, 116, 117, 118, 119, 120, 121, 122, 123, 124, 125, 126, 127, 128, 129, 130, 131, 132, 133, 134, 135, 136, 137, 138, 139, 140, 141, 142, 143, 144, 145, 146, 147, 148, 149] n7 1 [] (.inr (⟨_, _, _, _, H, rfl, rfl⟩)) (Nat.lt_succ_self _) (Nat.zero_le _) rfl (by kernel_rfl) (by kernel_rfl) rfl (wkB_live0 rfl (cellsM_idlt (f := PresPres.v) (fun _ => rfl) _) rfl trivial)
    conv => whnf
    refine tst_d H (fun b319 H => ?_) (fun b319 H => ?_)
    · conv => whnf
      iterate 8 (refine Tst.F ?_; conv => whnf)
      refine tst_c H (fun b331 H => ?_) (fun b331 H => ?_)
      · conv => whnf
        obtain rfl := Option.some.inj H
        have H := HQ308
        try dsimp only at H
        obtain rfl := Option.some.inj H
        have H := HQ6
        try dsimp only at H
        exact fin0_c (enc := V.b) H (.inr rfl) (.cons (.tmp rfl) (.nil)) rfl rfl
      conv => whnf
      refine ixt_c H (fun c332 H => ?_); conv => whnf
      iterate 2 (refine Ari.w ?_; conv => whnf)
      refine ⟨by decide, ?_⟩; conv => whnf
      refine ixa_c H (fun x333 h334 H => ?_); conv => whnf
      refine ldo_c (f := PresPres.v) (es := 4) h334 (fun _ => rfl) 0 (by omega) (by decide) ?_; conv => whnf
      refine Tst.not ?_
      refine tst_d H (fun b335 H => ?_) (fun b335 H => ?_)
      · conv => whnf
        iterate 6 (refine Tst.T ?_; conv => whnf)
        refine FootQ.mk ⟨rfl, ?_⟩; conv => whnf
        refine Tst.T ?_; conv => whnf
        obtain rfl := Option.some.inj H
        have H := HQ308
        try dsimp only at H
        obtain rfl := Option.some.inj H
        have H := HQ6
        try dsimp only at H
        exact fin0_c (enc := V.b) H (.inr rfl) (.cons (.tmp rfl) (.nil)) rfl rfl
      conv => whnf
      iterate 3 (refine Tst.F ?_; conv => whnf)
      refine Ari.w ?_; conv => whnf
      refine Tst.F ?_; conv => whnf
      refine ask_c (p_law25_key_v _) H rfl rfl (fun v336 H => ?_); conv => whnf
      iterate 2 (refine Tst.F ?_; conv => whnf)
      refine FootQ.mk ⟨rfl, ?_⟩; conv => whnf
      refine Tst.not ?_
      refine tst_d H (fun b337 H => ?_) (fun b337 H => ?_)
      · conv => whnf
        obtain rfl := Option.some.inj H
        have H := HQ308
        try dsimp only at H
        obtain rfl := Option.some.inj H
        have H := HQ6
        try dsimp only at H
        exact fin0_c (enc := V.b) H (.inr rfl) (.cons (.tmp rfl) (.nil)) rfl rfl
      conv => whnf
      refine ixa_c H (fun x338 h339 H => ?_); conv => whnf
      refine ⟨Nat.zero_le _, sto_c (f := PresPres.v) (es := 4) h339 (x' := (PresPres.mk false (0 : Int) (0 : Int) (0 : Int))) (fun _ => rfl) 0 (by omega) (Nat.le_of_ble_eq_true rfl) (by rfl) ?_⟩; conv => whnf
      iterate 2 (refine Ari.w ?_; conv => whnf)
      exact again_c [12, 13, 14, 15, 77, 78, 79, 80, 81, 82, 83, 84, 85, 86, 87, 88, 89, 90, 91, 92, 93, 94, 95, 96, 97, 98, 99, 100, 101, 102, 103, 104, 105, 106, 107, 108, 109, 110, 111, 112, 113, 114, 115, 116, 117, 118, 119, 120, 121, 122, 123, 124, 125, 126, 127, 128, 129, 130, 131, 132, 133, 134, 135, 136, 137, 138, 139, 8, 56, 57, 68, 69, 76] n309 1 [] (⟨_, _, _, _, H, rfl, rfl⟩) (Nat.lt_succ_self _) (Nat.zero_le _) rfl (by kernel_rfl) (by kernel_rfl) rfl (wkB_live0 rfl (cellsM_idlt (f := PresPres.v) (fun _ => rfl) _) rfl trivial)
    conv => whnf
    refine Tst.T ?_; conv => whnf
    refine ask_c (p_mail_Off_v _) H rfl rfl (fun v320 H => ?_); conv => whnf
    iterate 2 (refine Tst.T ?_; conv => whnf)
    refine tst_c H (fun b321 H => ?_) (fun b321 H => ?_)
    · conv => whnf
      iterate 5 (refine Tst.T ?_; conv => whnf)
      obtain rfl := Option.some.inj H
      have H := HQ308
      try dsimp only at H
      obtain rfl := Option.some.inj H
      have H := HQ6
      try dsimp only at H
      exact fin0_c (enc := V.b) H (.inr rfl) (.cons (.tmp rfl) (.nil)) rfl rfl
    conv => whnf
    iterate 4 (refine Tst.F ?_; conv => whnf)
    refine tst_c H (fun b322 H => ?_) (fun b322 H => ?_)
    · conv => whnf
      obtain rfl := Option.some.inj H
      have H := HQ308
      try dsimp only at H
      obtain rfl := Option.some.inj H
      have H := HQ6
      try dsimp only at H
      exact fin0_c (enc := V.b) H (.inr rfl) (.cons (.tmp rfl) (.nil)) rfl rfl
    conv => whnf
    refine ixt_c H (fun c323 H => ?_); conv => whnf
    iterate 2 (refine Ari.w ?_; conv => whnf)
    refine ⟨by decide, ?_⟩; conv => whnf
    refine ixa_c H (fun x324 h325 H => ?_); conv => whnf
    refine ldo_c (f := PresPres.v) (es := 4) h325 (fun _ => rfl) 0 (by omega) (by decide) ?_; conv => whnf
    refine Tst.not ?_
    refine tst_d H (fun b326 H => ?_) (fun b326 H => ?_)
    · conv => whnf
      iterate 6 (refine Tst.T ?_; conv => whnf)
      refine FootQ.mk ⟨rfl, ?_⟩; conv => whnf
      refine Tst.T ?_; conv => whnf
      obtain rfl := Option.some.inj H
      have H := HQ308
      try dsimp only at H
      obtain rfl := Option.some.inj H
      have H := HQ6
      try dsimp only at H
      exact fin0_c (enc := V.b) H (.inr rfl) (.cons (.tmp rfl) (.nil)) rfl rfl
    conv => whnf
    iterate 3 (refine Tst.F ?_; conv => whnf)
    refine Ari.w ?_; conv => whnf
    refine Tst.F ?_; conv => whnf
    refine ask_c (p_law25_key_v _) H rfl rfl (fun v327 H => ?_); conv => whnf
    iterate 2 (refine Tst.F ?_; conv => whnf)
    refine FootQ.mk ⟨rfl, ?_⟩; conv => whnf
    refine Tst.not ?_
    refine tst_d H (fun b328 H => ?_) (fun b328 H => ?_)
    · conv => whnf
      obtain rfl := Option.some.inj H
      have H := HQ308
      try dsimp only at H
      obtain rfl := Option.some.inj H
      have H := HQ6
      try dsimp only at H
      exact fin0_c (enc := V.b) H (.inr rfl) (.cons (.tmp rfl) (.nil)) rfl rfl
    conv => whnf
    refine ixa_c H (fun x329 h330 H => ?_); conv => whnf
    refine ⟨Nat.zero_le _, sto_c (f := PresPres.v) (es := 4) h330 (x' := (PresPres.mk false (0 : Int) (0 : Int) (0 : Int))) (fun _ => rfl) 0 (by omega) (Nat.le_of_ble_eq_true rfl) (by rfl) ?_⟩; conv => whnf
    iterate 2 (refine Ari.w ?_; conv => whnf)
    exact again_c [12, 13, 14, 15, 77, 78, 79, 80, 81, 82, 83, 84, 85, 86, 87, 88, 89, 90, 91, 92, 93, 94, 95, 96, 97, 98, 99, 100, 101, 102, 103, 104, 105, 106, 107, 108, 109, 110, 111, 112, 113, 114, 115, 116, 117, 118, 119, 120, 121, 122, 123, 124, 125, 126, 127, 128, 129, 130, 131, 132, 133, 134, 135, 136, 137, 138, 139, 8, 56, 57, 68, 69, 76] n309 1 [] (⟨_, _, _, _, H, rfl, rfl⟩) (Nat.lt_succ_self _) (Nat.zero_le _) rfl (by kernel_rfl) (by kernel_rfl) rfl (wkB_live0 rfl (cellsM_idlt (f := PresPres.v) (fun _ => rfl) _) rfl trivial)
  conv => whnf
  iterate 2 (refine Tst.F ?_; conv => whnf)
  refine tst_c H (fun b430 H => ?_) (fun b430 H => ?_)
  · conv => whnf
    obtain rfl := Option.some.inj H
    have H := HQ6
    try dsimp only at H
    exact fin0_c (enc := V.b) H (.inr rfl) (.cons (.tmp rfl) (.nil)) rfl rfl
  conv => whnf
  refine tst_d H (fun b431 H => ?_) (fun b431 H => ?_)
  · conv => whnf
    obtain ⟨o522, HL523, HQ524⟩ := bind_c H
    refine loop_c [2, 5, 9, 11] [12, 13, 14, 15, 77, 78, 79, 80, 81, 82, 83, 84, 85, 86, 87, 88, 89, 90, 91, 92, 93, 94, 95, 96, 97, 98, 99, 100, 101, 102, 103, 104, 105, 106, 107, 108, 109, 110, 111, 112, 113, 114, 115, 116, 117, 118, 119, 120, 121, 122, 123, 124, 125, 126, 127, 128, 129, 130, 131, 132, 133, 134, 135, 136, 137, 138, 139, 8, 56, 57] [12, 13, 14, 15, 77, 78, 79, 80, 81, 82, 83, 84, 85, 86, 87, 88, 89, 90, 91, 92, 93, 94, 95, 96, 97, 98, 99, 100, 101, 102, 103, 104, 105, 106, 107, 108, 109, 110, 111, 112, 113, 114, 115, 116, 117, 118, 119, 120, 121, 122, 123, 124, 125, 126, 127, 128, 129, 130, 131, 132, 133, 134, 135, 136, 137, 138, 139, 8, 56, 57] (fun n vals st => (∃ y526 y527 y528 y529, p_law25_MailLast_l2  a0 y67 n y526 y527 y528 y529 = some o522 ∧ vals = [.b false, .i y526, .sl (List.map MailEntry.v y527) false, .i y528] ∧ st = [.live (cellsM PresPres.v y529) 0])) fuel 1 [] (⟨_, _, _, _, HL523, rfl, rfl⟩) (Nat.zero_le _) rfl (by kernel_rfl) (by kernel_rfl) rfl (wkB_live0 rfl (cellsM_idlt (f := PresPres.v) (fun _ => rfl) _) rfl trivial) ?_
    rintro (_ | n525) _ _ (⟨y526, y527, y528, y529, H, rfl, rfl⟩)
    · rw [p_law25_MailLast_l2] at H; cases H
    rw [p_law25_MailLast_l2] at H
    conv => whnf
    refine ixs_c (f := Law25Deed.v) H (fun _ => rfl) (fun x530 H => ?_); conv => whnf
    refine ⟨Nat.le_of_ble_eq_true rfl, ?_⟩; conv => whnf
    refine ⟨by decide, ?_⟩; conv => whnf
    refine Ari.w ?_; conv => whnf
    refine tst_d H (fun b531 H => ?_) (fun b531 H => ?_)
    · conv => whnf
      obtain rfl := Option.some.inj H
      have H := HQ524
      try dsimp only at H
      refine ask_c (p_mail_Check_v _) H rfl rfl (fun v559 H => ?_); conv => whnf
      refine tst_c H (fun b560 H => ?_) (fun b560 H => ?_)
      · conv => whnf
        iterate 5 (refine Tst.T ?_; conv => whnf)
        obtain rfl := Option.some.inj H
        have H := HQ6
        try dsimp only at H
        exact fin0_c (enc := V.b) H (.inr rfl) (.cons (.tmp rfl) (.nil)) rfl rfl
      conv => whnf
      refine Tst.F ?_; conv => whnf
      refine LenQ.M ?_; conv => whnf
      iterate 3 (refine Tst.F ?_; conv => whnf)
      refine tst_c H (fun b561 H => ?_) (fun b561 H => ?_)
      · conv => whnf
        obtain rfl := Option.some.inj H
        have H := HQ6
        try dsimp only at H
        exact fin0_c (enc := V.b) H (.inr rfl) (.cons (.tmp rfl) (.nil)) rfl rfl
      conv => whnf
      refine Ari.w ?_; conv => whnf
      exact again_c [7, 8, 9, 10, 11, 12, 13, 14, 15, 20, 21, 22, 23, 24, 25, 26, 27, 28, 29, 30, 31, 32, 33, 34, 35, 36, 37, 38, 39, 40, 41, 42, 43, 44, 45, 46, 47, 48, 49, 50, 51, 52, 53, 54, 55, 56, 57, 58, 59, 60, 61, 62, 63, 64, 65, 66, 67, 68, 69, 70, 71, 72, 73, 74, 75, 76, 77, 78, 79, 80, 81, 82, 83, 84, 85, 86, 87, 88, 89, 90, 91, 92, 93, 94, 95, 96, 97, 98, 99, 100, 101, 102, 103, 104, 105, 106, 107, 108, 109, 110, 111, 112, 113, 114, 115, 116, 117, 118, 119, 120, 121, 122, 123, 124, 125, 126, 127, 128, 129, 130, 131, 132, 133, 134, 135, 136, 137, 138, 139, 140, 141, 142, 143, 144, 145, 146, 147, 148, 149] n7 1 [] (.inr (⟨_, _, _, _, H, rfl, rfl⟩)) (Nat.lt_succ_self _) (Nat.zero_le _) rfl (by kernel_rfl) (by kernel_rfl) rfl (wkB_live0 rfl (cellsM_idlt (f := PresPres.v) (fun _ => rfl) _) rfl trivial)
    conv => whnf
    refine ask_c (p_mail_Take_v _) H rfl rfl (fun v532 H => ?_); conv => whnf
    refine ⟨Nat.le_of_ble_eq_true rfl, ?_⟩; conv => whnf
    refine tst_c H (fun b533 H => ?_) (fun b533 H => ?_)
    · conv => whnf
      obtain rfl := Option.some.inj H
      have H := HQ524
      try dsimp only at H
      obtain rfl := Option.some.inj H
      have H := HQ6
      try dsimp only at H
      exact fin0_c (enc := V.b) H (.inr rfl) (.cons (.tmp rfl) (.nil)) rfl rfl
    conv => whnf
    refine Tst.not ?_
    refine tst_d H (fun b534 H => ?_) (fun b534 H => ?_)
    · conv => whnf
      obtain rfl := Option.some.inj H
      have H := HQ524
      try dsimp only at H
      refine ask_c (p_mail_Check_v _) H rfl rfl (fun v556 H => ?_); conv => whnf
      refine tst_c H (fun b557 H => ?_) (fun b557 H => ?_)
      · conv => whnf
        iterate 5 (refine Tst.T ?_; conv => whnf)
        obtain rfl := Option.some.inj H
        have H := HQ6
        try dsimp only at H
        exact fin0_c (enc := V.b) H (.inr rfl) (.cons (.tmp rfl) (.nil)) rfl rfl
      conv => whnf
      refine Tst.F ?_; conv => whnf
      refine LenQ.M ?_; conv => whnf
      iterate 3 (refine Tst.F ?_; conv => whnf)
      refine tst_c H (fun b558 H => ?_) (fun b558 H => ?_)
      · conv => whnf
        obtain rfl := Option.some.inj H
        have H := HQ6
        try dsimp only at H
        exact fin0_c (enc := V.b) H (.inr rfl) (.cons (.tmp rfl) (.nil)) rfl rfl
      conv => whnf
      refine Ari.w ?_; conv => whnf
      exact again_c [7, 8, 9, 10, 11, 12, 13, 14, 15, 20, 21, 22, 23, 24, 25, 26, 27, 28, 29, 30, 31, 32, 33, 34, 35, 36, 37, 38, 39, 40, 41, 42, 43, 44, 45, 46, 47, 48, 49, 50, 51, 52, 53, 54, 55, 56, 57, 58, 59, 60, 61, 62, 63, 64, 65, 66, 67, 68, 69, 70, 71, 72, 73, 74, 75, 76, 77, 78, 79, 80, 81, 82, 83, 84, 85, 86, 87, 88, 89, 90, 91, 92, 93, 94, 95, 96, 97, 98, 99, 100, 101, 102, 103, 104, 105, 106, 107, 108, 109, 110, 111, 112, 113, 114, 115, 116, 117, 118, 119, 120, 121, 122, 123, 124, 125, 126, 127, 128, 129, 130, 131, 132, 133, 134, 135, 136, 137, 138, 139, 140, 141, 142, 143, 144, 145, 146, 147, 148, 149] n7 1 [] (.inr (⟨_, _, _, _, H, rfl, rfl⟩)) (Nat.lt_succ_self _) (Nat.zero_le _) rfl (by kernel_rfl) (by kernel_rfl) rfl (wkB_live0 rfl (cellsM_idlt (f := PresPres.v) (fun _ => rfl) _) rfl trivial)
    conv => whnf
    refine tst_d H (fun b535 H => ?_) (fun b535 H => ?_)
    · conv => whnf
      iterate 8 (refine Tst.F ?_; conv => whnf)
      refine tst_c H (fun b547 H => ?_) (fun b547 H => ?_)
      · conv => whnf
        obtain rfl := Option.some.inj H
        have H := HQ524
        try dsimp only at H
        obtain rfl := Option.some.inj H
        have H := HQ6
        try dsimp only at H
        exact fin0_c (enc := V.b) H (.inr rfl) (.cons (.tmp rfl) (.nil)) rfl rfl
      conv => whnf
      refine ixt_c H (fun c548 H => ?_); conv => whnf
      iterate 2 (refine Ari.w ?_; conv => whnf)
      refine ⟨by decide, ?_⟩; conv => whnf
      refine ixa_c H (fun x549 h550 H => ?_); conv => whnf
      refine ldo_c (f := PresPres.v) (es := 4) h550 (fun _ => rfl) 0 (by omega) (by decide) ?_; conv => whnf
      refine Tst.not ?_
      refine tst_d H (fun b551 H => ?_) (fun b551 H => ?_)
      · conv => whnf
        iterate 6 (refine Tst.T ?_; conv => whnf)
        refine FootQ.mk ⟨rfl, ?_⟩; conv => whnf
        refine Tst.T ?_; conv => whnf
        obtain rfl := Option.some.inj H
        have H := HQ524
        try dsimp only at H
        obtain rfl := Option.some.inj H
        have H := HQ6
        try dsimp only at H
        exact fin0_c (enc := V.b) H (.inr rfl) (.cons (.tmp rfl) (.nil)) rfl rfl
      conv => whnf
      iterate 3 (refine Tst.F ?_; conv => whnf)
      refine Ari.w ?_; conv => whnf
      refine Tst.F ?_; conv => whnf
      refine ask_c (p_law25_key_v _) H rfl rfl (fun v552 H => ?_); conv => whnf
      iterate 2 (refine Tst.F ?_; conv => whnf)
      refine FootQ.mk ⟨rfl, ?_⟩; conv => whnf
      refine Tst.not ?_
      refine tst_d H (fun b553 H => ?_) (fun b553 H => ?_)
      · conv => whnf
        obtain rfl := Option.some.inj H
        have H := HQ524
        try dsimp only at H
        obtain rfl := Option.some.inj H
        have H := HQ6
        try dsimp only at H
        exact fin0_c (enc := V.b) H (.inr rfl) (.cons (.tmp rfl) (.nil)) rfl rfl
      conv => whnf
      refine ixa_c H (fun x554 h555 H => ?_); conv => whnf
      refine ⟨Nat.zero_le _, sto_c (f := PresPres.v) (es := 4) h555 (x' := (PresPres.mk false (0 : Int) (0 : Int) (0 : Int))) (fun _ => rfl) 0 (by omega) (Nat.le_of_ble_eq_true rfl) (by rfl) ?_⟩; conv => whnf
      iterate 2 (refine Ari.w ?_; conv => whnf)
      exact again_c [12, 13, 14, 15, 77, 78, 79, 80, 81, 82, 83, 84, 85, 86, 87, 88, 89, 90, 91, 92, 93, 94, 95, 96, 97, 98, 99, 100, 101, 102, 103, 104, 105, 106, 107, 108, 109, 110, 111, 112, 113, 114, 115, 116, 117, 118, 119, 120, 121, 122, 123, 124, 125, 126, 127, 128, 129, 130, 131, 132, 133, 134, 135, 136, 137, 138, 139, 8, 56, 57] n525 1 [] (⟨_, _, _, _, H, rfl, rfl⟩) (Nat.lt_succ_self _) (Nat.zero_le _) rfl (by kernel_rfl) (by kernel_rfl) rfl (wkB_live0 rfl (cellsM_idlt (f := PresPres.v) (fun _ => rfl) _) rfl trivial)
    conv => whnf
    refine Tst.T ?_; conv => whnf
    refine ask_c (p_mail_Off_v _) H rfl rfl (fun v536 H => ?_); conv => whnf
    iterate 2 (refine Tst.T ?_; conv => whnf)
    refine tst_c H (fun b537 H => ?_) (fun b537 H => ?_)
    · conv => whnf
      iterate 5 (refine Tst.T ?_; conv => whnf)
      obtain rfl := Option.some.inj H
      have H := HQ524
      try dsimp only at H
      obtain rfl := Option.some.inj H
      have H := HQ6
      try dsimp only at H
      exact fin0_c (enc := V.b) H (.inr rfl) (.cons (.tmp rfl) (.nil)) rfl rfl
    conv => whnf
    iterate 4 (refine Tst.F ?_; conv => whnf)
    refine tst_c H (fun b538 H => ?_) (fun b538 H => ?_)
    · conv => whnf
      obtain rfl := Option.some.inj H
      have H := HQ524
      try dsimp only at H
      obtain rfl := Option.some.inj H
      have H := HQ6
      try dsimp only at H
      exact fin0_c (enc := V.b) H (.inr rfl) (.cons (.tmp rfl) (.nil)) rfl rfl
    conv => whnf
    refine ixt_c H (fun c539 H => ?_); conv => whnf
    iterate 2 (refine Ari.w ?_; conv => whnf)
    refine ⟨by decide, ?_⟩; conv => whnf
    refine ixa_c H (fun x540 h541 H => ?_); conv => whnf
    refine ldo_c (f := PresPres.v) (es := 4) h541 (fun _ => rfl) 0 (by omega) (by decide) ?_; conv => whnf
    refine Tst.not ?_
    refine tst_d H (fun b542 H => ?_) (fun b542 H => ?_)
    · conv => whnf
      iterate 6 (refine Tst.T ?_; conv => whnf)
      refine FootQ.mk ⟨rfl, ?_⟩; conv => whnf
      refine Tst.T ?_; conv => whnf
      obtain rfl := Option.some.inj H
      have H := HQ524
      try dsimp only at H
      obtain rfl := Option.some.inj H
      have H := HQ6
      try dsimp only at H
      exact fin0_c (enc := V.b) H (.inr rfl) (.cons (.tmp rfl) (.nil)) rfl rfl
    conv => whnf
    iterate 3 (refine Tst.F ?_; conv => whnf)
    refine Ari.w ?_; conv => whnf
    refine Tst.F ?_; conv => whnf
    refine ask_c (p_law25_key_v _) H rfl rfl (fun v543 H => ?_); conv => whnf
    iterate 2 (refine Tst.F ?_; conv => whnf)
    refine FootQ.mk ⟨rfl, ?_⟩; conv => whnf
    refine Tst.not ?_
    refine tst_d H (fun b544 H => ?_) (fun b544 H => ?_)
    · conv => whnf
      obtain rfl := Option.some.inj H
      have H := HQ524
      try dsimp only at H
      obtain rfl := Option.some.inj H
      have H := HQ6
      try dsimp only at H
      exact fin0_c (enc := V.b) H (.inr rfl) (.cons (.tmp rfl) (.nil)) rfl rfl
    conv => whnf
    refine ixa_c H (fun x545 h546 H => ?_); conv => whnf
    refine ⟨Nat.zero_le _, sto_c (f := PresPres.v) (es := 4) h546 (x' := (PresPres.mk false (0 : Int) (0 : Int) (0 : Int))) (fun _ => rfl) 0 (by omega) (Nat.le_of_ble_eq_true rfl) (by rfl) ?_⟩; conv => whnf
    iterate 2 (refine Ari.w ?_; conv => whnf)
    exact again_c [12, 13, 14, 15, 77, 78, 79, 80, 81, 82, 83, 84, 85, 86, 87, 88, 89, 90, 91, 92, 93, 94, 95, 96, 97, 98, 99, 100, 101, 102, 103, 104, 105, 106, 107, 108, 109, 110, 111, 112, 113, 114, 115, 116, 117, 118, 119, 120, 121, 122, 123, 124, 125, 126, 127, 128, 129, 130, 131, 132, 133, 134, 135, 136, 137, 138, 139, 8, 56, 57] n525 1 [] (⟨_, _, _, _, H, rfl, rfl⟩) (Nat.lt_succ_self _) (Nat.zero_le _) rfl (by kernel_rfl) (by kernel_rfl) rfl (wkB_live0 rfl (cellsM_idlt (f := PresPres.v) (fun _ => rfl) _) rfl trivial)
  conv => whnf
  refine ixa_c H (fun x432 h433 H => ?_); conv => whnf
  refine ldo_c (f := PresPres.v) (es := 4) h433 (fun _ => rfl) 3 (by omega) (by decide) ?_; conv => whnf
  refine tst_d H (fun b434 H => ?_) (fun b434 H => ?_)
  · conv => whnf
    refine ixa_c H (fun x478 h479 H => ?_); conv => whnf
    refine ⟨Nat.zero_le _, sto_c (f := PresPres.v) (es := 4) h479 (x' := (PresPres.mk x291.On (0 : Int) (0 : Int) (w64 (y67 + (1 : Int))))) (fun _ => rfl) 0 (by omega) (Nat.le_of_ble_eq_true rfl) (by rfl) ?_⟩; conv => whnf
    obtain ⟨o481, HL482, HQ483⟩ := bind_c H
    refine loop_c [2, 5, 9, 11] [12, 13, 14, 15, 77, 78, 79, 80, 81, 82, 83, 84, 85, 86, 87, 88, 89, 90, 91, 92, 93, 94, 95, 96, 97, 98, 99, 100, 101, 102, 103, 104, 105, 106, 107, 108, 109, 110, 111, 112, 113, 114, 115, 116, 117, 118, 119, 120, 121, 122, 123, 124, 125, 126, 127, 128, 129, 130, 131, 132, 133, 134, 135, 136, 137, 138, 139, 8, 56, 57, 68, 69, 76] [12, 13, 14, 15, 77, 78, 79, 80, 81, 82, 83, 84, 85, 86, 87, 88, 89, 90, 91, 92, 93, 94, 95, 96, 97, 98, 99, 100, 101, 102, 103, 104, 105, 106, 107, 108, 109, 110, 111, 112, 113, 114, 115, 116, 117, 118, 119, 120, 121, 122, 123, 124, 125, 126, 127, 128, 129, 130, 131, 132, 133, 134, 135, 136, 137, 138, 139, 8, 56, 57, 68, 69, 76] (fun n vals st => (∃ y485 y486 y487 y488, p_law25_MailLast_l2  a0 y67 n y485 y486 y487 y488 = some o481 ∧ vals = [.b false, .i y485, .sl (List.map MailEntry.v y486) false, .i y487] ∧ st = [.live (cellsM PresPres.v y488) 0])) fuel 1 [] (⟨_, _, _, _, HL482, rfl, rfl⟩) (Nat.zero_le _) rfl (by kernel_rfl) (by kernel_rfl) rfl (wkB_live0 rfl (cellsM_idlt (f := PresPres.v) (fun _ => rfl) _) rfl trivial) ?_
    rintro (_ | n484) _ _ (⟨y485, y486, y487, y488, H, rfl, rfl⟩)
    · rw [p_law25_MailLast_l2] at H; cases H
    rw [p_law25_MailLast_l2] at H
    conv => whnf
    refine ixs_c (f := Law25Deed.v) H (fun _ => rfl) (fun x489 H => ?_); conv => whnf
    refine ⟨Nat.le_of_ble_eq_true rfl, ?_⟩; conv => whnf
    refine ⟨by decide, ?_⟩; conv => whnf
    refine Ari.w ?_; conv => whnf
    refine tst_d H (fun b490 H => ?_) (fun b490 H => ?_)
    · conv => whnf
      obtain rfl := Option.some.inj H
      have H := HQ483
      try dsimp only at H
      refine ask_c (p_mail_Check_v _) H rfl rfl (fun v518 H => ?_); conv => whnf
      refine tst_c H (fun b519 H => ?_) (fun b519 H => ?_)
      · conv => whnf
        iterate 5 (refine Tst.T ?_; conv => whnf)
        obtain rfl := Option.some.inj H
        have H := HQ6
        try dsimp only at H
        exact fin0_c (enc := V.b) H (.inr rfl) (.cons (.tmp rfl) (.nil)) rfl rfl
      conv => whnf
      refine Tst.F ?_; conv => whnf
      refine LenQ.M ?_; conv => whnf
      iterate 3 (refine Tst.F ?_; conv => whnf)
      refine tst_c H (fun b520 H => ?_) (fun b520 H => ?_)
      · conv => whnf
        obtain rfl := Option.some.inj H
        have H := HQ6
        try dsimp only at H
        exact fin0_c (enc := V.b) H (.inr rfl) (.cons (.tmp rfl) (.nil)) rfl rfl
      conv => whnf
      refine Ari.w ?_; conv => whnf
      exact again_c [7, 8, 9, 10, 11, 12, 13, 14, 15, 20, 21, 22, 23, 24, 25, 26, 27, 28, 29, 30, 31, 32, 33, 34, 35, 36, 37, 38, 39, 40, 41, 42, 43, 44, 45, 46, 47, 48, 49, 50, 51, 52, 53, 54, 55, 56, 57, 58, 59, 60, 61, 62, 63, 64, 65, 66, 67, 68, 69, 70, 71, 72, 73, 74, 75, 76, 77, 78, 79, 80, 81, 82, 83, 84, 85, 86, 87, 88, 89, 90, 91, 92, 93, 94, 95, 96, 97, 98, 99, 100, 101, 102, 103, 104, 105, 106, 107, 108, 109, 110, 111, 112, 113, 114, 115, 116, 117, 118, 119, 120, 121, 122, 123, 124, 125, 126, 127, 128, 129, 130, 131, 132, 133, 134, 135, 136, 137, 138, 139, 140, 141, 142, 143, 144, 145, 146, 147, 148, 149] n7 1 [] (.inr (⟨_, _, _, _, H, rfl, rfl⟩)) (Nat.lt_succ_self _) (Nat.zero_le _) rfl (by kernel_rfl) (by kernel_rfl) rfl (wkB_live0 rfl (cellsM_idlt (f := PresPres.v) (fun _ => rfl) _) rfl trivial)
    conv => whnf
    refine ask_c (p_mail_Take_v _) H rfl rfl (fun v491 H => ?_); conv => whnf
    refine ⟨Nat.le_of_ble_eq_true rfl, ?_⟩; conv => whnf
    refine tst_c H (fun b492 H => ?_) (fun b492 H => ?_)
    · conv => whnf
      obtain rfl := Option.some.inj H
      have H := HQ483
      try dsimp only at H
      obtain rfl := Option.some.inj H
      have H := HQ6
      try dsimp only at H
      exact fin0_c (enc := V.b) H (.inr rfl) (.cons (.tmp rfl) (.nil)) rfl rfl
    conv => whnf
    refine Tst.not ?_
    refine tst_d H (fun b493 H => ?_) (fun b493 H => ?_)
    · conv => whnf
      obtain rfl := Option.some.inj H
      have H := HQ483
      try dsimp only at H
      refine ask_c (p_mail_Check_v _) H rfl rfl (fun v515 H => ?_); conv => whnf
      refine tst_c H (fun b516 H => ?_) (fun b516 H => ?_)
      · conv => whnf
        iterate 5 (refine Tst.T ?_; conv => whnf)
        obtain rfl := Option.some.inj H
        have H := HQ6
        try dsimp only at H
        exact fin0_c (enc := V.b) H (.inr rfl) (.cons (.tmp rfl) (.nil)) rfl rfl
      conv => whnf
      refine Tst.F ?_; conv => whnf
      refine LenQ.M ?_; conv => whnf
      iterate 3 (refine Tst.F ?_; conv => whnf)
      refine tst_c H (fun b517 H => ?_) (fun b517 H => ?_)
      · conv => whnf
        obtain rfl := Option.some.inj H
        have H := HQ6
        try dsimp only at H
        exact fin0_c (enc := V.b) H (.inr rfl) (.cons (.tmp rfl) (.nil)) rfl rfl
      conv => whnf
      refine Ari.w ?_; conv => whnf
      exact again_c [7, 8, 9, 10, 11, 12, 13, 14, 15, 20, 21, 22, 23, 24, 25, 26, 27, 28, 29, 30, 31, 32, 33, 34, 35, 36, 37, 38, 39, 40, 41, 42, 43, 44, 45, 46, 47, 48, 49, 50, 51, 52, 53, 54, 55, 56, 57, 58, 59, 60, 61, 62, 63, 64, 65, 66, 67, 68, 69, 70, 71, 72, 73, 74, 75, 76, 77, 78, 79, 80, 81, 82, 83, 84, 85, 86, 87, 88, 89, 90, 91, 92, 93, 94, 95, 96, 97, 98, 99, 100, 101, 102, 103, 104, 105, 106, 107, 108, 109, 110, 111, 112, 113, 114, 115, 116, 117, 118, 119, 120, 121, 122, 123, 124, 125, 126, 127, 128, 129, 130, 131, 132, 133, 134, 135, 136, 137, 138, 139, 140, 141, 142, 143, 144, 145, 146, 147, 148, 149] n7 1 [] (.inr (⟨_, _, _, _, H, rfl, rfl⟩)) (Nat.lt_succ_self _) (Nat.zero_le _) rfl (by kernel_rfl) (by kernel_rfl) rfl (wkB_live0 rfl (cellsM_idlt (f := PresPres.v) (fun _ => rfl) _) rfl trivial)
    conv => whnf
    refine tst_d H (fun b494 H => ?_) (fun b494 H => ?_)
    · conv => whnf
      iterate 8 (refine Tst.F ?_; conv => whnf)
      refine tst_c H (fun b506 H => ?_) (fun b506 H => ?_)
      · conv => whnf
        obtain rfl := Option.some.inj H
        have H := HQ483
        try dsimp only at H
        obtain rfl := Option.some.inj H
        have H := HQ6
        try dsimp only at H
        exact fin0_c (enc := V.b) H (.inr rfl) (.cons (.tmp rfl) (.nil)) rfl rfl
      conv => whnf
      refine ixt_c H (fun c507 H => ?_); conv => whnf
      iterate 2 (refine Ari.w ?_; conv => whnf)
      refine ⟨by decide, ?_⟩; conv => whnf
      refine ixa_c H (fun x508 h509 H => ?_); conv => whnf
      refine ldo_c (f := PresPres.v) (es := 4) h509 (fun _ => rfl) 0 (by omega) (by decide) ?_; conv => whnf
      refine Tst.not ?_
      refine tst_d H (fun b510 H => ?_) (fun b510 H => ?_)
      · conv => whnf
        iterate 6 (refine Tst.T ?_; conv => whnf)
        refine FootQ.mk ⟨rfl, ?_⟩; conv => whnf
        refine Tst.T ?_; conv => whnf
        obtain rfl := Option.some.inj H
        have H := HQ483
        try dsimp only at H
        obtain rfl := Option.some.inj H
        have H := HQ6
        try dsimp only at H
        exact fin0_c (enc := V.b) H (.inr rfl) (.cons (.tmp rfl) (.nil)) rfl rfl
      conv => whnf
      iterate 3 (refine Tst.F ?_; conv => whnf)
      refine Ari.w ?_; conv => whnf
      refine Tst.F ?_; conv => whnf
      refine ask_c (p_law25_key_v _) H rfl rfl (fun v511 H => ?_); conv => whnf
      iterate 2 (refine Tst.F ?_; conv => whnf)
      refine FootQ.mk ⟨rfl, ?_⟩; conv => whnf
      refine Tst.not ?_
      refine tst_d H (fun b512 H => ?_) (fun b512 H => ?_)
      · conv => whnf
        obtain rfl := Option.some.inj H
        have H := HQ483
        try dsimp only at H
        obtain rfl := Option.some.inj H
        have H := HQ6
        try dsimp only at H
        exact fin0_c (enc := V.b) H (.inr rfl) (.cons (.tmp rfl) (.nil)) rfl rfl
      conv => whnf
      refine ixa_c H (fun x513 h514 H => ?_); conv => whnf
      refine ⟨Nat.zero_le _, sto_c (f := PresPres.v) (es := 4) h514 (x' := (PresPres.mk false (0 : Int) (0 : Int) (0 : Int))) (fun _ => rfl) 0 (by omega) (Nat.le_of_ble_eq_true rfl) (by rfl) ?_⟩; conv => whnf
      iterate 2 (refine Ari.w ?_; conv => whnf)
      exact again_c [12, 13, 14, 15, 77, 78, 79, 80, 81, 82, 83, 84, 85, 86, 87, 88, 89, 90, 91, 92, 93, 94, 95, 96, 97, 98, 99, 100, 101, 102, 103, 104, 105, 106, 107, 108, 109, 110, 111, 112, 113, 114, 115, 116, 117, 118, 119, 120, 121, 122, 123, 124, 125, 126, 127, 128, 129, 130, 131, 132, 133, 134, 135, 136, 137, 138, 139, 8, 56, 57, 68, 69, 76] n484 1 [] (⟨_, _, _, _, H, rfl, rfl⟩) (Nat.lt_succ_self _) (Nat.zero_le _) rfl (by kernel_rfl) (by kernel_rfl) rfl (wkB_live0 rfl (cellsM_idlt (f := PresPres.v) (fun _ => rfl) _) rfl trivial)
    conv => whnf
    refine Tst.T ?_; conv => whnf
    refine ask_c (p_mail_Off_v _) H rfl rfl (fun v495 H => ?_); conv => whnf
    iterate 2 (refine Tst.T ?_; conv => whnf)
    refine tst_c H (fun b496 H => ?_) (fun b496 H => ?_)
    · conv => whnf
      iterate 5 (refine Tst.T ?_; conv => whnf)
      obtain rfl := Option.some.inj H
      have H := HQ483
      try dsimp only at H
      obtain rfl := Option.some.inj H
      have H := HQ6
      try dsimp only at H
      exact fin0_c (enc := V.b) H (.inr rfl) (.cons (.tmp rfl) (.nil)) rfl rfl
    conv => whnf
    iterate 4 (refine Tst.F ?_; conv => whnf)
    refine tst_c H (fun b497 H => ?_) (fun b497 H => ?_)
    · conv => whnf
      obtain rfl := Option.some.inj H
      have H := HQ483
      try dsimp only at H
      obtain rfl := Option.some.inj H
      have H := HQ6
      try dsimp only at H
      exact fin0_c (enc := V.b) H (.inr rfl) (.cons (.tmp rfl) (.nil)) rfl rfl
    conv => whnf
    refine ixt_c H (fun c498 H => ?_); conv => whnf
    iterate 2 (refine Ari.w ?_; conv => whnf)
    refine ⟨by decide, ?_⟩; conv => whnf
    refine ixa_c H (fun x499 h500 H => ?_); conv => whnf
    refine ldo_c (f := PresPres.v) (es := 4) h500 (fun _ => rfl) 0 (by omega) (by decide) ?_; conv => whnf
    refine Tst.not ?_
    refine tst_d H (fun b501 H => ?_) (fun b501 H => ?_)
    · conv => whnf
      iterate 6 (refine Tst.T ?_; conv => whnf)
      refine FootQ.mk ⟨rfl, ?_⟩; conv => whnf
      refine Tst.T ?_; conv => whnf
      obtain rfl := Option.some.inj H
      have H := HQ483
      try dsimp only at H
      obtain rfl := Option.some.inj H
      have H := HQ6
      try dsimp only at H
      exact fin0_c (enc := V.b) H (.inr rfl) (.cons (.tmp rfl) (.nil)) rfl rfl
    conv => whnf
    iterate 3 (refine Tst.F ?_; conv => whnf)
    refine Ari.w ?_; conv => whnf
    refine Tst.F ?_; conv => whnf
    refine ask_c (p_law25_key_v _) H rfl rfl (fun v502 H => ?_); conv => whnf
    iterate 2 (refine Tst.F ?_; conv => whnf)
    refine FootQ.mk ⟨rfl, ?_⟩; conv => whnf
    refine Tst.not ?_
    refine tst_d H (fun b503 H => ?_) (fun b503 H => ?_)
    · conv => whnf
      obtain rfl := Option.some.inj H
      have H := HQ483
      try dsimp only at H
      obtain rfl := Option.some.inj H
      have H := HQ6
      try dsimp only at H
      exact fin0_c (enc := V.b) H (.inr rfl) (.cons (.tmp rfl) (.nil)) rfl rfl
    conv => whnf
    refine ixa_c H (fun x504 h505 H => ?_); conv => whnf
    refine ⟨Nat.zero_le _, sto_c (f := PresPres.v) (es := 4) h505 (x' := (PresPres.mk false (0 : Int) (0 : Int) (0 : Int))) (fun _ => rfl) 0 (by omega) (Nat.le_of_ble_eq_true rfl) (by rfl) ?_⟩; conv => whnf
    iterate 2 (refine Ari.w ?_; conv => whnf)
    exact again_c [12, 13, 14, 15, 77, 78, 79, 80, 81, 82, 83, 84, 85, 86, 87, 88, 89, 90, 91, 92, 93, 94, 95, 96, 97, 98, 99, 100, 101, 102, 103, 104, 105, 106, 107, 108, 109, 110, 111, 112, 113, 114, 115, 116, 117, 118, 119, 120, 121, 122, 123, 124, 125, 126, 127, 128, 129, 130, 131, 132, 133, 134, 135, 136, 137, 138, 139, 8, 56, 57, 68, 69, 76] n484 1 [] (⟨_, _, _, _, H, rfl, rfl⟩) (Nat.lt_succ_self _) (Nat.zero_le _) rfl (by kernel_rfl) (by kernel_rfl) rfl (wkB_live0 rfl (cellsM_idlt (f := PresPres.v) (fun _ => rfl) _) rfl trivial)
  conv => whnf
  refine Ari.w ?_; conv => whnf
  refine ixa_c H (fun x435 h436 H => ?_); conv => whnf
  refine ⟨Nat.zero_le _, sto_c (f := PresPres.v) (es := 4) h436 (x' := (PresPres.mk x291.On (0 : Int) (0 : Int) (w64 (y67 + (1 : Int))))) (fun _ => rfl) 0 (by omega) (Nat.le_of_ble_eq_true rfl) (by rfl) ?_⟩; conv => whnf
  obtain ⟨o438, HL439, HQ440⟩ := bind_c H
  refine loop_c [2, 5, 9, 11] [12, 13, 14, 15, 77, 78, 79, 80, 81, 82, 83, 84, 85, 86, 87, 88, 89, 90, 91, 92, 93, 94, 95, 96, 97, 98, 99, 100, 101, 102, 103, 104, 105, 106, 107, 108, 109, 110, 111, 112, 113, 114, 115, 116, 117, 118, 119, 120, 121, 122, 123, 124, 125, 126, 127, 128, 129, 130, 131, 132, 133, 134, 135, 136, 137, 138, 139, 8, 56, 57, 68, 69, 76] [12, 13, 14, 15, 77, 78, 79, 80, 81, 82, 83, 84, 85, 86, 87, 88, 89, 90, 91, 92, 93, 94, 95, 96, 97, 98, 99, 100, 101, 102, 103, 104, 105, 106, 107, 108, 109, 110, 111, 112, 113, 114, 115, 116, 117, 118, 119, 120, 121, 122, 123, 124, 125, 126, 127, 128, 129, 130, 131, 132, 133, 134, 135, 136, 137, 138, 139, 8, 56, 57, 68, 69, 76] (fun n vals st => (∃ y442 y443 y444 y445, p_law25_MailLast_l2  a0 y67 n y442 y443 y444 y445 = some o438 ∧ vals = [.b false, .i y442, .sl (List.map MailEntry.v y443) false, .i y444] ∧ st = [.live (cellsM PresPres.v y445) 0])) fuel 1 [] (⟨_, _, _, _, HL439, rfl, rfl⟩) (Nat.zero_le _) rfl (by kernel_rfl) (by kernel_rfl) rfl (wkB_live0 rfl (cellsM_idlt (f := PresPres.v) (fun _ => rfl) _) rfl trivial) ?_
  rintro (_ | n441) _ _ (⟨y442, y443, y444, y445, H, rfl, rfl⟩)
  · rw [p_law25_MailLast_l2] at H; cases H
  rw [p_law25_MailLast_l2] at H
  conv => whnf
  refine ixs_c (f := Law25Deed.v) H (fun _ => rfl) (fun x446 H => ?_); conv => whnf
  refine ⟨Nat.le_of_ble_eq_true rfl, ?_⟩; conv => whnf
  refine ⟨by decide, ?_⟩; conv => whnf
  refine Ari.w ?_; conv => whnf
  refine tst_d H (fun b447 H => ?_) (fun b447 H => ?_)
  · conv => whnf
    obtain rfl := Option.some.inj H
    have H := HQ440
    try dsimp only at H
    refine ask_c (p_mail_Check_v _) H rfl rfl (fun v475 H => ?_); conv => whnf
    refine tst_c H (fun b476 H => ?_) (fun b476 H => ?_)
    · conv => whnf
      iterate 5 (refine Tst.T ?_; conv => whnf)
      obtain rfl := Option.some.inj H
      have H := HQ6
      try dsimp only at H
      exact fin0_c (enc := V.b) H (.inr rfl) (.cons (.tmp rfl) (.nil)) rfl rfl
    conv => whnf
    refine Tst.F ?_; conv => whnf
    refine LenQ.M ?_; conv => whnf
    iterate 3 (refine Tst.F ?_; conv => whnf)
    refine tst_c H (fun b477 H => ?_) (fun b477 H => ?_)
    · conv => whnf
      obtain rfl := Option.some.inj H
      have H := HQ6
      try dsimp only at H
      exact fin0_c (enc := V.b) H (.inr rfl) (.cons (.tmp rfl) (.nil)) rfl rfl
    conv => whnf
    refine Ari.w ?_; conv => whnf
    exact again_c [7, 8, 9, 10, 11, 12, 13, 14, 15, 20, 21, 22, 23, 24, 25, 26, 27, 28, 29, 30, 31, 32, 33, 34, 35, 36, 37, 38, 39, 40, 41, 42, 43, 44, 45, 46, 47, 48, 49, 50, 51, 52, 53, 54, 55, 56, 57, 58, 59, 60, 61, 62, 63, 64, 65, 66, 67, 68, 69, 70, 71, 72, 73, 74, 75, 76, 77, 78, 79, 80, 81, 82, 83, 84, 85, 86, 87, 88, 89, 90, 91, 92, 93, 94, 95, 96, 97, 98, 99, 100, 101, 102, 103, 104, 105, 106, 107, 108, 109, 110, 111, 112, 113, 114, 115, 116, 117, 118, 119, 120, 121, 122, 123, 124, 125, 126, 127, 128, 129, 130, 131, 132, 133, 134, 135, 136, 137, 138, 139, 140, 141, 142, 143, 144, 145, 146, 147, 148, 149] n7 1 [] (.inr (⟨_, _, _, _, H, rfl, rfl⟩)) (Nat.lt_succ_self _) (Nat.zero_le _) rfl (by kernel_rfl) (by kernel_rfl) rfl (wkB_live0 rfl (cellsM_idlt (f := PresPres.v) (fun _ => rfl) _) rfl trivial)
  conv => whnf
  refine ask_c (p_mail_Take_v _) H rfl rfl (fun v448 H => ?_); conv => whnf
  refine ⟨Nat.le_of_ble_eq_true rfl, ?_⟩; conv => whnf
  refine tst_c H (fun b449 H => ?_) (fun b449 H => ?_)
  · conv => whnf
    obtain rfl := Option.some.inj H
    have H := HQ440
    try dsimp only at H
    obtain rfl := Option.some.inj H
    have H := HQ6
    try dsimp only at H
    exact fin0_c (enc := V.b) H (.inr rfl) (.cons (.tmp rfl) (.nil)) rfl rfl
  conv => whnf
  refine Tst.not ?_
  refine tst_d H (fun b450 H => ?_) (fun b450 H => ?_)
  · conv => whnf
    obtain rfl := Option.some.inj H
    have H := HQ440
    try dsimp only at H
    refine ask_c (p_mail_Check_v _) H rfl rfl (fun v472 H => ?_); conv => whnf
    refine tst_c H (fun b473 H => ?_) (fun b473 H => ?_)
    · conv => whnf
      iterate 5 (refine Tst.T ?_; conv => whnf)
      obtain rfl := Option.some.inj H
      have H := HQ6
      try dsimp only at H
      exact fin0_c (enc := V.b) H (.inr rfl) (.cons (.tmp rfl) (.nil)) rfl rfl
    conv => whnf
    refine Tst.F ?_; conv => whnf
    refine LenQ.M ?_; conv => whnf
    iterate 3 (refine Tst.F ?_; conv => whnf)
    refine tst_c H (fun b474 H => ?_) (fun b474 H => ?_)
    · conv => whnf
      obtain rfl := Option.some.inj H
      have H := HQ6
      try dsimp only at H
      exact fin0_c (enc := V.b) H (.inr rfl) (.cons (.tmp rfl) (.nil)) rfl rfl
    conv => whnf
    refine Ari.w ?_; conv => whnf
    exact again_c [7, 8, 9, 10, 11, 12, 13, 14, 15, 20, 21, 22, 23, 24, 25, 26, 27, 28, 29, 30, 31, 32, 33, 34, 35, 36, 37, 38, 39, 40, 41, 42, 43, 44, 45, 46, 47, 48, 49, 50, 51, 52, 53, 54, 55, 56, 57, 58, 59, 60, 61, 62, 63, 64, 65, 66, 67, 68, 69, 70, 71, 72, 73, 74, 75, 76, 77, 78, 79, 80, 81, 82, 83, 84, 85, 86, 87, 88, 89, 90, 91, 92, 93, 94, 95, 96, 97, 98, 99, 100, 101, 102, 103, 104, 105, 106, 107, 108, 109, 110, 111, 112, 113, 114, 115, 116, 117, 118, 119, 120, 121, 122, 123, 124, 125, 126, 127, 128, 129, 130, 131, 132, 133, 134, 135, 136, 137, 138, 139, 140, 141, 142, 143, 144, 145, 146, 147, 148, 149] n7 1 [] (.inr (⟨_, _, _, _, H, rfl, rfl⟩)) (Nat.lt_succ_self _) (Nat.zero_le _) rfl (by kernel_rfl) (by kernel_rfl) rfl (wkB_live0 rfl (cellsM_idlt (f := PresPres.v) (fun _ => rfl) _) rfl trivial)
  conv => whnf
  refine tst_d H (fun b451 H => ?_) (fun b451 H => ?_)
  · conv => whnf
    iterate 8 (refine Tst.F ?_; conv => whnf)
    refine tst_c H (fun b463 H => ?_) (fun b463 H => ?_)
    · conv => whnf
      obtain rfl := Option.some.inj H
      have H := HQ440
      try dsimp only at H
      obtain rfl := Option.some.inj H
      have H := HQ6
      try dsimp only at H
      exact fin0_c (enc := V.b) H (.inr rfl) (.cons (.tmp rfl) (.nil)) rfl rfl
    conv => whnf
    refine ixt_c H (fun c464 H => ?_); conv => whnf
    iterate 2 (refine Ari.w ?_; conv => whnf)
    refine ⟨by decide, ?_⟩; conv => whnf
    refine ixa_c H (fun x465 h466 H => ?_); conv => whnf
    refine ldo_c (f := PresPres.v) (es := 4) h466 (fun _ => rfl) 0 (by omega) (by decide) ?_; conv => whnf
    refine Tst.not ?_
    refine tst_d H (fun b467 H => ?_) (fun b467 H => ?_)
    · conv => whnf
      iterate 6 (refine Tst.T ?_; conv => whnf)
      refine FootQ.mk ⟨rfl, ?_⟩; conv => whnf
      refine Tst.T ?_; conv => whnf
      obtain rfl := Option.some.inj H
      have H := HQ440
      try dsimp only at H
      obtain rfl := Option.some.inj H
      have H := HQ6
      try dsimp only at H
      exact fin0_c (enc := V.b) H (.inr rfl) (.cons (.tmp rfl) (.nil)) rfl rfl
    conv => whnf
    iterate 3 (refine Tst.F ?_; conv => whnf)
    refine Ari.w ?_; conv => whnf
    refine Tst.F ?_; conv => whnf
    refine ask_c (p_law25_key_v _) H rfl rfl (fun v468 H => ?_); conv => whnf
    iterate 2 (refine Tst.F ?_; conv => whnf)
    refine FootQ.mk ⟨rfl, ?_⟩; conv => whnf
    refine Tst.not ?_
    refine tst_d H (fun b469 H => ?_) (fun b469 H => ?_)
    · conv => whnf
      obtain rfl := Option.some.inj H
      have H := HQ440
      try dsimp only at H
      obtain rfl := Option.some.inj H
      have H := HQ6
      try dsimp only at H
      exact fin0_c (enc := V.b) H (.inr rfl) (.cons (.tmp rfl) (.nil)) rfl rfl
    conv => whnf
    refine ixa_c H (fun x470 h471 H => ?_); conv => whnf
    refine ⟨Nat.zero_le _, sto_c (f := PresPres.v) (es := 4) h471 (x' := (PresPres.mk false (0 : Int) (0 : Int) (0 : Int))) (fun _ => rfl) 0 (by omega) (Nat.le_of_ble_eq_true rfl) (by rfl) ?_⟩; conv => whnf
    iterate 2 (refine Ari.w ?_; conv => whnf)
    exact again_c [12, 13, 14, 15, 77, 78, 79, 80, 81, 82, 83, 84, 85, 86, 87, 88, 89, 90, 91, 92, 93, 94, 95, 96, 97, 98, 99, 100, 101, 102, 103, 104, 105, 106, 107, 108, 109, 110, 111, 112, 113, 114, 115, 116, 117, 118, 119, 120, 121, 122, 123, 124, 125, 126, 127, 128, 129, 130, 131, 132, 133, 134, 135, 136, 137, 138, 139, 8, 56, 57, 68, 69, 76] n441 1 [] (⟨_, _, _, _, H, rfl, rfl⟩) (Nat.lt_succ_self _) (Nat.zero_le _) rfl (by kernel_rfl) (by kernel_rfl) rfl (wkB_live0 rfl (cellsM_idlt (f := PresPres.v) (fun _ => rfl) _) rfl trivial)
  conv => whnf
  refine Tst.T ?_; conv => whnf
  refine ask_c (p_mail_Off_v _) H rfl rfl (fun v452 H => ?_); conv => whnf
  iterate 2 (refine Tst.T ?_; conv => whnf)
  refine tst_c H (fun b453 H => ?_) (fun b453 H => ?_)
  · conv => whnf
    iterate 5 (refine Tst.T ?_; conv => whnf)
    obtain rfl := Option.some.inj H
    have H := HQ440
    try dsimp only at H
    obtain rfl := Option.some.inj H
    have H := HQ6
    try dsimp only at H
    exact fin0_c (enc := V.b) H (.inr rfl) (.cons (.tmp rfl) (.nil)) rfl rfl
  conv => whnf
  iterate 4 (refine Tst.F ?_; conv => whnf)
  refine tst_c H (fun b454 H => ?_) (fun b454 H => ?_)
  · conv => whnf
    obtain rfl := Option.some.inj H
    have H := HQ440
    try dsimp only at H
    obtain rfl := Option.some.inj H
    have H := HQ6
    try dsimp only at H
    exact fin0_c (enc := V.b) H (.inr rfl) (.cons (.tmp rfl) (.nil)) rfl rfl
  conv => whnf
  refine ixt_c H (fun c455 H => ?_); conv => whnf
  iterate 2 (refine Ari.w ?_; conv => whnf)
  refine ⟨by decide, ?_⟩; conv => whnf
  refine ixa_c H (fun x456 h457 H => ?_); conv => whnf
  refine ldo_c (f := PresPres.v) (es := 4) h457 (fun _ => rfl) 0 (by omega) (by decide) ?_; conv => whnf
  refine Tst.not ?_
  refine tst_d H (fun b458 H => ?_) (fun b458 H => ?_)
  · conv => whnf
    iterate 6 (refine Tst.T ?_; conv => whnf)
    refine FootQ.mk ⟨rfl, ?_⟩; conv => whnf
    refine Tst.T ?_; conv => whnf
    obtain rfl := Option.some.inj H
    have H := HQ440
    try dsimp only at H
    obtain rfl := Option.some.inj H
    have H := HQ6
    try dsimp only at H
    exact fin0_c (enc := V.b) H (.inr rfl) (.cons (.tmp rfl) (.nil)) rfl rfl
  conv => whnf
  iterate 3 (refine Tst.F ?_; conv => whnf)
  refine Ari.w ?_; conv => whnf
  refine Tst.F ?_; conv => whnf
  refine ask_c (p_law25_key_v _) H rfl rfl (fun v459 H => ?_); conv => whnf
  iterate 2 (refine Tst.F ?_; conv => whnf)
  refine FootQ.mk ⟨rfl, ?_⟩; conv => whnf
  refine Tst.not ?_
  refine tst_d H (fun b460 H => ?_) (fun b460 H => ?_)
  · conv => whnf
    obtain rfl := Option.some.inj H
    have H := HQ440
    try dsimp only at H
    obtain rfl := Option.some.inj H
    have H := HQ6
    try dsimp only at H
    exact fin0_c (enc := V.b) H (.inr rfl) (.cons (.tmp rfl) (.nil)) rfl rfl
  conv => whnf
  refine ixa_c H (fun x461 h462 H => ?_); conv => whnf
  refine ⟨Nat.zero_le _, sto_c (f := PresPres.v) (es := 4) h462 (x' := (PresPres.mk false (0 : Int) (0 : Int) (0 : Int))) (fun _ => rfl) 0 (by omega) (Nat.le_of_ble_eq_true rfl) (by rfl) ?_⟩; conv => whnf
  iterate 2 (refine Ari.w ?_; conv => whnf)
  exact again_c [12, 13, 14, 15, 77, 78, 79, 80, 81, 82, 83, 84, 85, 86, 87, 88, 89, 90, 91, 92, 93, 94, 95, 96, 97, 98, 99, 100, 101, 102, 103, 104, 105, 106, 107, 108, 109, 110, 111, 112, 113, 114, 115, 116, 117, 118, 119, 120, 121, 122, 123, 124, 125, 126, 127, 128, 129, 130, 131, 132, 133, 134, 135, 136, 137, 138, 139, 8, 56, 57, 68, 69, 76] n441 1 [] (⟨_, _, _, _, H, rfl, rfl⟩) (Nat.lt_succ_self _) (Nat.zero_le _) rfl (by kernel_rfl) (by kernel_rfl) rfl (wkB_live0 rfl (cellsM_idlt (f := PresPres.v) (fun _ => rfl) _) rfl trivial)
end Go.Proofs.Ythmgficajgedlaa
/- What waits of each key, in plain words: finding, counting, checking. -/
namespace Go.Proofs.Ythmgficajgedlaa
open Go.RowKit
abbrev ME := MailEntry
set_option maxRecDepth 100000 in
theorem aw25 : p_law25_awake = some true := by kernel_rfl
def mkey (m : Nat) : ByteArray := ⟨#[UInt8.ofNat (97 + m), 64, 120, 32, 114]⟩
theorem mkey_ok0 : ((List.range 20).all fun m => match p_mail_key (mkey m) with | some true => true | _ => false) = true := by kernel_rfl
theorem mkey_ok {m : Nat} (h : m < 20) : p_mail_key (mkey m) = some true := by
  have := List.all_eq_true.1 mkey_ok0 m (List.mem_range.2 h)
  revert this
  rcases p_mail_key (mkey m) with _ | _ | _ <;> simp
theorem mkey_inj0 : ((List.range 20).all fun m => (List.range 20).all fun n => m == n || !((mkey m).data == (mkey n).data)) = true := by kernel_rfl
theorem mkey_inj {m n : Nat} (hm : m < 20) (hn : n < 20) (h : mkey m = mkey n) : m = n := by
  have := List.all_eq_true.1 (List.all_eq_true.1 mkey_inj0 m (List.mem_range.2 hm)) n (List.mem_range.2 hn)
  rw [h] at this
  simpa using this
def isK (k : ByteArray) (x : ME) : Bool := x.Key.toList == k.toList
theorem isK_iff {k : ByteArray} {x : ME} : isK k x = true ↔ x.Key = k := eqT_iff
theorem off_l (st : List ME) (hn : st.length ≤ 1000) : ∀ (n k F c : Nat), k + n = st.length → n < F → c ≤ k → p_mail_Off_l1 st st.length F c k = some (((c + (st.drop k).countP (fun x => !x.P.On) : Nat) : Int), (st.length : Int))
  | 0, k, F + 1, c, hk, hF, hc => by
    have e : st.drop k = [] := List.drop_of_length_le (by omega)
    have : k = st.length := by omega
    rw [p_mail_Off_l1, lt_ff (by omega), e, this]; rfl
  | n + 1, k, F + 1, c, hk, hF, hc => by
    have hlt : k < st.length := by omega
    rw [p_mail_Off_l1, lt_tt hlt, at_lt hlt, drop_at hlt, List.countP_cons]
    simp only [cond_true, Option.bind_some]
    rw [w64_succ (by omega), w64_succ (by omega)]
    cases st[k].P.On with
    | true =>
      simp only [cond_true]
      rw [off_l st hn n (k + 1) F c (by omega) (by omega) (by omega)]; rfl
    | false =>
      simp only [cond_false]
      rw [off_l st hn n (k + 1) F (c + 1) (by omega) (by omega) (by omega)]
      simp only [Bool.not_false, if_true]
      congr 3; omega
theorem off_p {st : List ME} (hn : st.length ≤ 1000) : p_mail_Off st = some ((st.countP (fun x => !x.P.On) : Nat) : Int) := by
  unfold p_mail_Off
  have := off_l st hn st.length 0 fuel 0 (by omega) (by have := fuel_pos; omega) (Nat.le_refl _)
  rw [show ((0 : Int)) = ((0 : Nat) : Int) from rfl, this, List.drop_zero, Nat.zero_add]; rfl
theorem find_l (key : ByteArray) (st : List ME) (hn : st.length ≤ 1000) : ∀ (n k F : Nat), k + n = st.length → n < F → ∃ q, p_mail_Find_l1 key st st.length F (-1) k = some (if (st.drop k).any (isK key) = true then ((k + (st.drop k).findIdx (isK key) : Nat) : Int) else -1, q)
  | 0, k, F + 1, hk, hF => by
    have e : st.drop k = [] := List.drop_of_length_le (by omega)
    refine ⟨k, ?_⟩
    rw [p_mail_Find_l1, lt_ff (by omega), e]; rfl
  | n + 1, k, F + 1, hk, hF => by
    have hlt : k < st.length := by omega
    obtain ⟨q, ih⟩ := find_l key st hn n (k + 1) F (by omega) (by omega)
    rw [p_mail_Find_l1, lt_tt hlt, at_lt hlt, drop_at hlt]
    simp only [cond_true, Option.bind_some]
    change ∃ q, (bif isK key st[k] then _ else _) = _
    rw [List.any_cons, List.findIdx_cons]
    cases isK key st[k] with
    | true => exact ⟨k, rfl⟩
    | false =>
      refine ⟨q, ?_⟩
      simp only [cond_false, Bool.false_or]
      rw [w64_succ (by omega), ih]
      split
      · congr 3; omega
      · rfl
theorem find_p {st : List ME} (hn : st.length ≤ 1000) (key : ByteArray) : p_mail_Find st key = some (if st.any (isK key) = true then ((st.findIdx (isK key) : Nat) : Int) else -1) := by
  unfold p_mail_Find
  obtain ⟨q, h⟩ := find_l key st hn st.length 0 fuel (by omega) (by have := fuel_pos; omega)
  rw [show ((0 : Int)) = ((0 : Nat) : Int) from rfl, h, List.drop_zero, Nat.zero_add]; rfl
/-- the program's state: what is off, what is on; keys apart. -/
structure Ok (a b : List ME) : Prop where
  len : a.length + b.length ≤ 16
  key : ∀ x ∈ a ++ b, ∃ m, m < 20 ∧ x.Key = mkey m
  nod : (a ++ b).Pairwise fun x y => x.Key ≠ y.Key
  offs : ∀ x ∈ a, x.P.On = false
  ons : ∀ x ∈ b, x.P.On = true
  fit : ∀ x ∈ a ++ b, x.P.Show = 0 ∧ x.P.Prio = 0 ∧ 0 ≤ x.P.Seq ∧ x.P.Seq ≤ 1000
theorem Ok.n {a b : List ME} (h : Ok a b) : (a ++ b).length ≤ 16 := by rw [List.length_append]; exact h.len
theorem Ok.cnt {a b : List ME} (h : Ok a b) : (a ++ b).countP (fun x => !x.P.On) = a.length := by
  rw [List.countP_append, List.countP_eq_length.2 (fun x hx => by rw [h.offs x hx]; rfl), List.countP_eq_zero.2 (fun x hx => by rw [h.ons x hx]; simp)]; rfl
theorem Ok.off {a b : List ME} (h : Ok a b) : p_mail_Off (a ++ b) = some (a.length : Int) := by rw [off_p (by have := h.n; omega), h.cnt]
theorem find_mid {l r : List ME} {y : ME} (hl : ∀ x ∈ l, x.Key ≠ y.Key) (hn : (l ++ y :: r).length ≤ 1000) : p_mail_Find (l ++ y :: r) y.Key = some (l.length : Int) := by
  have e : (l ++ y :: r).any (isK y.Key) = true := by simp [isK_iff.2 rfl]
  have i : (l ++ y :: r).findIdx (isK y.Key) = l.length := by
    rw [List.findIdx_append, if_neg (by
      intro hlt
      obtain ⟨x, h1, h2⟩ := List.findIdx_lt_length.1 hlt
      exact hl x h1 (isK_iff.1 h2))]
    rw [List.findIdx_cons, isK_iff.2 rfl, cond_true, Nat.zero_add]
  rw [find_p hn, if_pos e, i]
theorem find_no {st : List ME} {k : ByteArray} (hn : st.length ≤ 1000) (h : ∀ x ∈ st, x.Key ≠ k) : p_mail_Find st k = some (-1) := by
  rw [find_p hn, if_neg (by
    intro hh
    obtain ⟨x, h1, h2⟩ := List.any_eq_true.1 hh
    exact h x h1 (isK_iff.1 h2))]
theorem nod_split {st : List ME} (h : st.Pairwise fun x y => x.Key ≠ y.Key) {j : Nat} (hj : j < st.length) : ∀ x ∈ st.take j, x.Key ≠ st[j].Key := by
  have e : st = st.take j ++ st[j] :: st.drop (j + 1) := by rw [← List.drop_eq_getElem_cons hj, List.take_append_drop]
  intro x hx
  have h2 := h
  rw [e, List.pairwise_append] at h2
  exact h2.2.2 x hx _ List.mem_cons_self
theorem find_at {st : List ME} (h : st.Pairwise fun x y => x.Key ≠ y.Key) (hn : st.length ≤ 1000) {j : Nat} (hj : j < st.length) : p_mail_Find st st[j].Key = some (j : Int) := by
  have e : st = st.take j ++ st[j] :: st.drop (j + 1) := by rw [← List.drop_eq_getElem_cons hj, List.take_append_drop]
  have := find_mid (l := st.take j) (y := st[j]) (r := st.drop (j + 1)) (nod_split h hj) (by rw [← e]; exact hn)
  rw [← e] at this
  rw [this, List.length_take, Nat.min_eq_left (by omega)]
theorem ord_l {a b : List ME} (h : Ok a b) : ∀ (n k F : Nat), k + n = (a ++ b).length → n < F → p_mail_State_ordered_l1 (a ++ b) a.length (a ++ b) (a ++ b).length F k = some (.inr ((a ++ b).length : Int))
  | 0, k, F + 1, hk, hF => by
    have : k = (a ++ b).length := by omega
    rw [p_mail_State_ordered_l1, lt_ff (by omega), this]; rfl
  | n + 1, k, F + 1, hk, hF => by
    have hlt : k < (a ++ b).length := by omega
    have hn := h.n
    rw [p_mail_State_ordered_l1, lt_tt hlt, at_lt hlt]
    simp only [cond_true, Option.bind_some]
    have e1 : (a ++ b)[k].P.On = decide ((a.length : Int) ≤ (k : Int)) := by
      rw [List.getElem_append]
      split
      · rename_i hh
        rw [h.offs _ (List.getElem_mem hh), decide_eq_false (by omega)]
      · rename_i hh
        rw [h.ons _ (List.getElem_mem _), decide_eq_true (by omega)]
    rw [e1, find_at h.nod (by omega) hlt]
    simp only [bne_self_eq_false, cond_false, Option.bind_some]
    rw [w64_succ (by omega)]
    exact ord_l h n (k + 1) F (by omega) (by omega)
theorem Ok.ord {a b : List ME} (h : Ok a b) : p_mail_State_ordered (a ++ b) = some true := by
  unfold p_mail_State_ordered
  have := ord_l h (a ++ b).length 0 fuel (by omega) (by have := fuel_pos; have := h.n; omega)
  have z0 : ((0 : Nat) : Int) = 0 := rfl
  rw [z0] at this
  rw [h.off]
  simp only [Option.bind_some]
  rw [this]; rfl
theorem chk1_l (st : List ME) (hn : st.length ≤ 1000) (h : ∀ x ∈ st, p_mail_key x.Key = some true) : ∀ (n k F : Nat), k + n = st.length → n < F → p_mail_Check_l1 st st.length F k = some (.inr (st.length : Int))
  | 0, k, F + 1, hk, hF => by
    have : k = st.length := by omega
    rw [p_mail_Check_l1, lt_ff (by omega), this]; rfl
  | n + 1, k, F + 1, hk, hF => by
    have hlt : k < st.length := by omega
    rw [p_mail_Check_l1, lt_tt hlt, at_lt hlt]
    simp only [cond_true, Option.bind_some, h _ (List.getElem_mem hlt)]
    rw [w64_succ (by omega)]
    exact chk1_l st hn h n (k + 1) F (by omega) (by omega)
theorem chk2_l (st : List ME) (hn : st.length ≤ 1000) (h : ∀ x ∈ st, p_pres_Check x.P = some 0) : ∀ (n k F : Nat), k + n = st.length → n < F → p_mail_Check_l2 st st.length F k = some (.inr (st.length : Int))
  | 0, k, F + 1, hk, hF => by
    have : k = st.length := by omega
    rw [p_mail_Check_l2, lt_ff (by omega), this]; rfl
  | n + 1, k, F + 1, hk, hF => by
    have hlt : k < st.length := by omega
    rw [p_mail_Check_l2, lt_tt hlt, at_lt hlt]
    simp only [cond_true, Option.bind_some, h _ (List.getElem_mem hlt)]
    simp only [bne_self_eq_false, cond_false]
    rw [w64_succ (by omega)]
    exact chk2_l st hn h n (k + 1) F (by omega) (by omega)
theorem pchk {p : PresPres} (h : p.Show = 0 ∧ p.Prio = 0 ∧ 0 ≤ p.Seq ∧ p.Seq ≤ 1000) : p_pres_Check p = some 0 := by
  obtain ⟨on, sh, pr, sq⟩ := p
  simp only at h
  obtain ⟨rfl, rfl, h1, h2⟩ := h
  unfold p_pres_Check p_pres_in
  simp only
  rw [decide_eq_true h1, decide_eq_true (show sq ≤ 1099511627776 by omega)]
  cases on <;> simp
theorem Ok.chk {a b : List ME} (h : Ok a b) : p_mail_Check (a ++ b) = some 0 := by
  have hn := h.n
  unfold p_mail_Check
  rw [decide_eq_false (by omega)]
  have c1 := chk1_l (a ++ b) (by omega) (fun x hx => by obtain ⟨m, h1, h2⟩ := h.key x hx; rw [h2]; exact mkey_ok h1) (a ++ b).length 0 fuel (by omega) (by have := fuel_pos; omega)
  have c2 := chk2_l (a ++ b) (by omega) (fun x hx => pchk (h.fit x hx)) (a ++ b).length 0 fuel (by omega) (by have := fuel_pos; omega)
  have z0 : ((0 : Nat) : Int) = 0 := rfl
  rw [z0] at c1 c2
  simp only [cond_false, c1, c2, Option.bind_some, h.ord, cond_true]
end Go.Proofs.Ythmgficajgedlaa
/- What waits of each key: putting, taking. -/
namespace Go.Proofs.Ythmgficajgedlaa
open Go.RowKit
theorem clone_ok {l : List ME} (h : l.length ≤ 1000) : clone? l = some l := by unfold clone?; rw [if_pos (by omega)]
theorem ins_mid {l r : List ME} {x : ME} {n : Int} (hn : n = (l.length : Int)) (h : (l ++ r).length ≤ 1000) : insAt? (l ++ r) n x = some (l ++ x :: r) := by
  subst hn
  unfold insAt?
  rw [List.length_append] at h
  rw [if_pos (by rw [List.length_append]; omega)]
  simp
theorem del_mid {l r : List ME} {y : ME} {n m : Int} (hn : n = (l.length : Int)) (hm : m = n + 1) (h : (l ++ y :: r).length ≤ 1000) : del? (l ++ y :: r) n m = some (l ++ r) := by
  subst hn hm
  unfold del?
  rw [List.length_append, List.length_cons] at h
  rw [if_pos (by rw [List.length_append, List.length_cons]; omega)]
  rw [show ((l.length : Int) + 1).toNat = l.length + 1 by omega, Int.toNat_natCast, List.take_left' rfl, show l ++ y :: r = (l ++ [y]) ++ r by simp, List.drop_left' (by simp)]
theorem at_mid {l r : List ME} {y : ME} {n : Int} (hn : n = (l.length : Int)) : at? (l ++ y :: r) n = some y := by
  subst hn
  rw [at_nat, List.getElem?_append_right (Nat.le_refl _)]; simp
/-- what a new entry leaves of what is off, of what is on. -/
def offA (a : List ME) (x : ME) : List ME := if x.P.On then a else a ++ [x]
def onA (b : List ME) (x : ME) : List ME := if x.P.On then b ++ [x] else b
/-- an entry that may come in. -/
structure Come (x : ME) (m : Nat) : Prop where
  lt : m < 20
  key : x.Key = mkey m
  fit : x.P.Show = 0 ∧ x.P.Prio = 0 ∧ 0 ≤ x.P.Seq ∧ x.P.Seq ≤ 1000
theorem ok_ins {a b : List ME} {x : ME} {m : Nat} (h : Ok a b) (hl : a.length + b.length < 16) (hx : Come x m) (hno : ∀ y ∈ a ++ b, y.Key ≠ mkey m) : Ok (offA a x) (onA b x) := by
  have hmem : ∀ y, y ∈ offA a x ++ onA b x ↔ y = x ∨ y ∈ a ++ b := fun y => by
    unfold offA onA
    cases x.P.On <;> simp [or_comm, or_assoc, or_left_comm]
  have hp : (offA a x ++ onA b x).Perm (x :: (a ++ b)) := by
    unfold offA onA
    cases x.P.On with
    | true => simp only [if_true]; rw [← List.append_assoc]; exact List.perm_append_singleton _ _
    | false => simp only [Bool.false_eq_true, if_false, List.append_assoc, List.singleton_append]; exact List.perm_middle
  refine ⟨?_, ?_, ?_, ?_, ?_, ?_⟩
  · have := hp.length_eq
    rw [List.length_append, List.length_cons, List.length_append] at this
    omega
  · intro y hy
    rcases (hmem y).1 hy with rfl | hy
    · exact ⟨m, hx.lt, hx.key⟩
    · exact h.key y hy
  · refine (hp.pairwise_iff (fun {u v} (huv : u.Key ≠ v.Key) => (Ne.symm huv))).2 (List.pairwise_cons.2 ⟨fun y hy => ?_, h.nod⟩)
    rw [hx.key]; exact (hno y hy).symm
  · intro y hy
    unfold offA at hy
    cases ho : x.P.On with
    | true => rw [ho] at hy; exact h.offs y (by simpa using hy)
    | false =>
      rw [ho] at hy
      simp only [Bool.false_eq_true, if_false, List.mem_append, List.mem_singleton] at hy
      rcases hy with hy | rfl
      · exact h.offs y hy
      · exact ho
  · intro y hy
    unfold onA at hy
    cases ho : x.P.On with
    | false => rw [ho] at hy; exact h.ons y (by simpa using hy)
    | true =>
      rw [ho] at hy
      simp only [if_true, List.mem_append, List.mem_singleton] at hy
      rcases hy with hy | rfl
      · exact h.ons y hy
      · exact ho
  · intro y hy
    rcases (hmem y).1 hy with rfl | hy
    · exact hx.fit
    · exact h.fit y hy
/-- the end of Put. -/
theorem put_end {a b : List ME} (h : Ok a b) (k : ByteArray) (p : PresPres) : (bif p.On then (insAt? (a ++ b) ((a ++ b).length : Int) (MailEntry.mk k p)).bind fun v12 => some (v12, (0 : Int)) else (p_mail_Off (a ++ b)).bind fun v13 => (insAt? (a ++ b) v13 (MailEntry.mk k p)).bind fun v14 => some (v14, (0 : Int))) = some (offA a ⟨k, p⟩ ++ onA b ⟨k, p⟩, 0) := by
  have hn := h.n
  unfold offA onA
  cases ho : p.On with
  | true =>
    have := ins_mid (l := a ++ b) (r := []) (x := MailEntry.mk k p) (n := ((a ++ b).length : Int)) rfl (by rw [List.append_nil]; omega)
    rw [List.append_nil] at this
    rw [cond_true, this]; simp [ho]
  | false =>
    rw [cond_false, h.off]
    simp only [Option.bind_some]
    rw [ins_mid rfl (by omega)]; simp [ho]
theorem put_full {a b : List ME} {k : ByteArray} {p : PresPres} {m : Nat} (h : Ok a b) (hx : Come ⟨k, p⟩ m) (hno : ∀ y ∈ a ++ b, y.Key ≠ mkey m) (hl : a.length + b.length = 16) : p_mail_Put (a ++ b) k p = some (a ++ b, 7) := by
  have hn := h.n
  have hk : k = mkey m := hx.key
  subst hk
  unfold p_mail_Put
  rw [clone_ok (by omega), h.chk, mkey_ok hx.lt, pchk hx.fit, find_no (by omega) hno]
  simp only [Option.bind_some, bne_self_eq_false, cond_false, cond_true, beq_self_eq_true]
  rw [List.length_append, hl]; rfl
theorem put_new {a b : List ME} {k : ByteArray} {p : PresPres} {m : Nat} (h : Ok a b) (hx : Come ⟨k, p⟩ m) (hno : ∀ y ∈ a ++ b, y.Key ≠ mkey m) (hl : a.length + b.length < 16) : p_mail_Put (a ++ b) k p = some (offA a ⟨k, p⟩ ++ onA b ⟨k, p⟩, 0) := by
  have hn := h.n
  have hk : k = mkey m := hx.key
  subst hk
  unfold p_mail_Put
  rw [clone_ok (by omega), h.chk, mkey_ok hx.lt, pchk hx.fit, find_no (by omega) hno]
  simp only [Option.bind_some, bne_self_eq_false, cond_false, cond_true, beq_self_eq_true]
  rw [show (((a ++ b).length : Int) == (16 : Int)) = false by rw [List.length_append]; simp; omega, cond_false]
  exact put_end h _ p
theorem take_p {a b : List ME} {x : ME} {r : List ME} (h : Ok a b) (he : a ++ b = x :: r) : p_mail_Take (a ++ b) = some (r, x, true) := by
  have hc := h.chk
  rw [he] at hc
  unfold p_mail_Take
  rw [he, hc]
  rw [show (((x :: r).length : Int) == (0 : Int)) = false by rw [List.length_cons]; simp; omega]
  have c1 : cut? (x :: r) (some (1 : Int)) none = some r := by
    have := cutFrom (l := x :: r) (k := 1) (by simp)
    simpa using this
  simp only [cond_false, Option.bind_some, bne_self_eq_false, c1]
  rfl
theorem take_0 : p_mail_Take [] = some ([], ⟨⟨#[]⟩, ⟨false, 0, 0, 0⟩⟩, false) := rfl
theorem ok_tail {a b r : List ME} {x : ME} (h : Ok a b) (he : a ++ b = x :: r) : ∃ a' b', r = a' ++ b' ∧ Ok a' b' ∧ (x.P.On = true → a = []) := by
  cases a with
  | cons y a' =>
    simp only [List.cons_append, List.cons.injEq] at he
    obtain ⟨rfl, rfl⟩ := he
    refine ⟨a', b, rfl, ⟨by have := h.len; simp at this; omega, fun z hz => h.key z (by simp at hz ⊢; exact .inr hz), ?_, fun z hz => h.offs z (by simp [hz]), h.ons, fun z hz => h.fit z (by simp at hz ⊢; exact .inr hz)⟩, fun hx => ?_⟩
    · have := h.nod; rw [List.cons_append, List.pairwise_cons] at this; exact this.2
    · have := h.offs y (by simp); rw [this] at hx; cases hx
  | nil =>
    simp only [List.nil_append] at he
    subst he
    refine ⟨[], r, rfl, ⟨by have := h.len; simp at this ⊢; omega, fun z hz => h.key z (by simp at hz ⊢; exact .inr hz), ?_, (fun z hz => by cases hz), fun z hz => h.ons z (by simp [hz]), fun z hz => h.fit z (by simp at hz ⊢; exact .inr hz)⟩, fun _ => rfl⟩
    have := h.nod; rw [List.nil_append, List.pairwise_cons] at this; exact this.2
theorem ok_nil : Ok [] [] := ⟨by simp, (fun _ h => by cases h), .nil, (fun _ h => by cases h), (fun _ h => by cases h), (fun _ h => by cases h)⟩
end Go.Proofs.Ythmgficajgedlaa
/- MailFirst in plain words. -/
namespace Go.Proofs.Ythmgficajgedlaa
open Go.RowKit
theorem key25_0 : ((List.range 256).all fun n => match p_law25_key (n : Int) with | some s => s.data == (mkey (n % 20)).data | none => false) = true := by kernel_rfl
theorem key25 {n : Nat} (h : n < 256) : p_law25_key (n : Int) = some (mkey (n % 20)) := by
  have := List.all_eq_true.1 key25_0 n (List.mem_range.2 h)
  revert this
  cases p_law25_key (n : Int) with
  | none => intro h; cases h
  | some s =>
    intro h
    have : s.data = (mkey (n % 20)).data := by simpa using h
    congr 1
    cases s; simp only at this; rw [this]
def entF (l : List Bool) (j : Nat) : ME := ⟨mkey j, ⟨l.getD j false, 0, 0, 50 - (j : Int)⟩⟩
def selF (l : List Bool) (b : Bool) (i n : Nat) : List ME := ((List.range' i n).filter fun j => l.getD j false == b).map (entF l)
theorem sel_mem {l : List Bool} {b : Bool} {i n : Nat} {y : ME} (h : y ∈ selF l b i n) : ∃ j, i ≤ j ∧ j < i + n ∧ y = entF l j ∧ l.getD j false = b := by
  obtain ⟨j, h1, rfl⟩ := List.mem_map.1 h
  obtain ⟨h2, h3⟩ := List.mem_filter.1 h1
  have := List.mem_range'_1.1 h2
  exact ⟨j, this.1, this.2, rfl, by simpa using h3⟩
theorem sel_succ (l : List Bool) (b : Bool) (n : Nat) : selF l b 0 (n + 1) = if l.getD n false = b then selF l b 0 n ++ [entF l n] else selF l b 0 n := by
  unfold selF
  rw [List.range'_concat, List.filter_append, List.map_append, Nat.zero_add, Nat.one_mul]
  by_cases h : l.getD n false = b
  · rw [if_pos h, List.filter_cons, if_pos (by simpa using h)]; rfl
  · rw [if_neg h, List.filter_cons, if_neg (by simpa using h)]; simp
theorem sel_cons (l : List Bool) (b : Bool) (i n : Nat) : selF l b i (n + 1) = if l.getD i false = b then entF l i :: selF l b (i + 1) n else selF l b (i + 1) n := by
  unfold selF
  rw [List.range'_succ, List.filter_cons]
  by_cases h : l.getD i false = b
  · rw [if_pos h, if_pos (by simpa using h)]; rfl
  · rw [if_neg h, if_neg (by simpa using h)]
theorem sel_len (l : List Bool) : ∀ n, (selF l false 0 n).length + (selF l true 0 n).length = n
  | 0 => rfl
  | n + 1 => by
    have := sel_len l n
    rw [sel_succ, sel_succ]
    cases l.getD n false <;> simp <;> omega
theorem ent_come {l : List Bool} {k : Nat} (h : k < 16) : Come (entF l k) k := ⟨by omega, rfl, rfl, rfl, by unfold entF; simp only; omega, by unfold entF; simp only; omega⟩
theorem sel_off (l : List Bool) (k : Nat) : offA (selF l false 0 k) (entF l k) = selF l false 0 (k + 1) := by
  rw [sel_succ]; unfold offA; change (if l.getD k false = true then _ else _) = _
  cases l.getD k false <;> simp
theorem sel_on (l : List Bool) (k : Nat) : onA (selF l true 0 k) (entF l k) = selF l true 0 (k + 1) := by
  rw [sel_succ]; unfold onA; change (if l.getD k false = true then _ else _) = _
  cases l.getD k false <;> simp
theorem sel_no {l : List Bool} {k : Nat} (hk : k < 16) : ∀ y ∈ selF l false 0 k ++ selF l true 0 k, y.Key ≠ mkey k := by
  intro y hy he
  have : ∃ j, j < k ∧ y.Key = mkey j := by
    rcases List.mem_append.1 hy with hy | hy <;> obtain ⟨j, _, h2, rfl, _⟩ := sel_mem hy <;> exact ⟨j, by omega, rfl⟩
  obtain ⟨j, h1, h2⟩ := this
  have := mkey_inj (m := j) (n := k) (by omega) (by omega) (by rw [← h2, he])
  omega
theorem sel_ok (l : List Bool) : ∀ k, k ≤ 16 → Ok (selF l false 0 k) (selF l true 0 k)
  | 0, _ => ok_nil
  | k + 1, h => by
    have := ok_ins (sel_ok l k (by omega)) (by rw [sel_len]; omega) (ent_come (l := l) (by omega)) (sel_no (by omega))
    rwa [sel_off, sel_on] at this
theorem sel_put {l : List Bool} {k : Nat} (hk : k < 16) : p_mail_Put (selF l false 0 k ++ selF l true 0 k) (mkey k) ⟨l.getD k false, 0, 0, 50 - (k : Int)⟩ = some (selF l false 0 (k + 1) ++ selF l true 0 (k + 1), 0) := by
  have := put_new (sel_ok l k (by omega)) (ent_come (l := l) hk) (sel_no hk) (by rw [sel_len]; omega)
  rw [← sel_off, ← sel_on]; exact this
theorem u8_nat {k : Nat} (h : k < 256) : IntKind.wrap .u8 (k : Int) = (k : Int) := by
  simp only [IntKind.wrap, IntKind.signed, IntKind.bits]
  first | omega | (simp; omega)
theorem mf1_l (l : List Bool) (hl : l.length ≤ 16) : ∀ (n k F : Nat), k + n = l.length → n < F → p_law25_MailFirst_l1 l F (selF l false 0 k ++ selF l true 0 k) k = some (.inr (selF l false 0 l.length ++ selF l true 0 l.length, (l.length : Int)))
  | 0, k, F + 1, hk, hF => by
    have : k = l.length := by omega
    rw [p_law25_MailFirst_l1, lt_ff (by omega), this]; rfl
  | n + 1, k, F + 1, hk, hF => by
    have hlt : k < l.length := by omega
    have e : l[k] = l.getD k false := by rw [List.getD_eq_getElem?_getD, List.getElem?_eq_getElem hlt]; rfl
    rw [p_law25_MailFirst_l1, lt_tt hlt, at_lt hlt, u8_nat (by omega), key25 (by omega), Nat.mod_eq_of_lt (by omega), w64_id (by omega), e]
    simp only [cond_true, Option.bind_some]
    rw [sel_put (by omega)]
    simp only [Option.bind_some, bne_self_eq_false, cond_false]
    rw [w64_succ (by omega)]
    exact mf1_l l hl n (k + 1) F (by omega) (by omega)
theorem mf3_l (l : List Bool) (hl : l.length ≤ 16) (b : Bool) (t : Int) (ht : (t == 1) = b) (R : List ME) : ∀ (n k F c : Nat), k + n = l.length → n < F → c + n ≤ 100 → (∃ a' b', selF l b k n ++ R = a' ++ b' ∧ Ok a' b') → p_law25_MailFirst_l3 l t F (selF l b k n ++ R) c k = some (.inr (R, ((c + (selF l b k n).length : Nat) : Int), (l.length : Int)))
  | 0, k, F + 1, c, hk, hF, hc, _ => by
    have : k = l.length := by omega
    rw [p_law25_MailFirst_l3, lt_ff (by omega), this]; rfl
  | n + 1, k, F + 1, c, hk, hF, hc, ⟨a', b', h1, h2⟩ => by
    have hlt : k < l.length := by omega
    have e : l[k] = l.getD k false := by rw [List.getD_eq_getElem?_getD, List.getElem?_eq_getElem hlt]; rfl
    rw [sel_cons] at h1 ⊢
    rw [p_law25_MailFirst_l3, lt_tt hlt, at_lt hlt, e, ht]
    simp only [cond_true, Option.bind_some]
    by_cases hb : l.getD k false = b
    · rw [if_pos hb, List.cons_append] at h1
      rw [if_pos hb, hb]
      simp only [bne_self_eq_false, cond_false, List.cons_append]
      obtain ⟨a2, b2, g1, g2, _⟩ := ok_tail h2 h1.symm
      have ht' := take_p h2 h1.symm
      rw [h1, ht', u8_nat (by omega), key25 (by omega), Nat.mod_eq_of_lt (by omega)]
      have ek : ((entF l k).Key.toList == (mkey k).toList) = true := eqT_refl _
      simp only [Option.bind_some, cond_true, ek]
      rw [w64_succ (by omega), w64_succ (by omega), mf3_l l hl b t ht R n (k + 1) F (c + 1) (by omega) (by omega) (by omega) ⟨a2, b2, g1, g2⟩]
      simp only [List.length_cons]
      congr 4; omega
    · rw [if_neg hb] at h1 ⊢
      have : (l.getD k false != b) = true := by simpa using hb
      rw [this]
      simp only [cond_true]
      rw [w64_succ (by omega)]
      exact mf3_l l hl b t ht R n (k + 1) F c (by omega) (by omega) (by omega) ⟨a', b', h1, h2⟩
theorem ok_right {a b : List ME} (h : Ok a b) : Ok [] b :=
  ⟨by have := h.len; simp; omega, fun x hx => h.key x (by simp at hx ⊢; exact .inr hx), (List.pairwise_append.1 h.nod).2.1, (fun _ h => by cases h), h.ons, fun x hx => h.fit x (by simp at hx ⊢; exact .inr hx)⟩
theorem mailFirst_pure (l : List Bool) : p_law25_MailFirst l = some true := by
  unfold p_law25_MailFirst
  by_cases hl : 16 < l.length
  · rw [decide_eq_true (show (16 : Int) < (l.length : Int) by omega), aw25]; rfl
  · rw [decide_eq_false (show ¬ (16 : Int) < (l.length : Int) by omega)]
    have hl' : l.length ≤ 16 := by omega
    have hf := fuel_pos
    have z0 : ((0 : Nat) : Int) = 0 := rfl
    have z1 : ((1 : Nat) : Int) = 1 := rfl
    have m1 := mf1_l l hl' l.length 0 fuel (by omega) (by omega)
    have hok := sel_ok l l.length hl'
    have hlen := sel_len l l.length
    have m2 := mf3_l l hl' false 0 rfl (selF l true 0 l.length) l.length 0 fuel 0 (by omega) (by omega) (by omega) ⟨_, _, rfl, hok⟩
    have m3 := mf3_l l hl' true 1 rfl [] l.length 0 fuel (0 + (selF l false 0 l.length).length) (by omega) (by omega) (by omega) ⟨[], selF l true 0 l.length, by simp, ok_right hok⟩
    rw [List.append_nil] at m3
    rw [z0] at m1 m2 m3
    change p_law25_MailFirst_l1 l fuel [] 0 = _ at m1
    simp only [cond_false]
    rw [m1]
    simp only [Option.bind_some]
    have f3 : fuel = (fuel - 3) + 1 + 1 + 1 := by omega
    have m4 : p_law25_MailFirst_l2 l fuel (selF l false 0 l.length ++ selF l true 0 l.length) 0 0 = some (.inr ([], (l.length : Int), 2)) := by
      rw [show p_law25_MailFirst_l2 l fuel = p_law25_MailFirst_l2 l ((fuel - 3) + 1 + 1 + 1) by rw [← f3]]
      rw [p_law25_MailFirst_l2, decide_eq_true (show (0 : Int) < 2 by omega)]
      simp only [cond_true]
      rw [m2]
      simp only [Option.bind_some]
      rw [show w64 (0 + 1) = 1 from rfl, p_law25_MailFirst_l2, decide_eq_true (show (1 : Int) < 2 by omega)]
      simp only [cond_true]
      rw [m3]
      simp only [Option.bind_some]
      rw [show w64 (1 + 1) = 2 from rfl, p_law25_MailFirst_l2, decide_eq_false (show ¬ (2 : Int) < 2 by omega), Nat.zero_add, hlen]
      rfl
    rw [m4]
    simp only [Option.bind_some, beq_self_eq_true, cond_true, aw25]
    rfl
end Go.Proofs.Ythmgficajgedlaa
