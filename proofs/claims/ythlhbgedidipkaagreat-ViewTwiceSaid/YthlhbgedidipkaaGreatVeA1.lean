/- A part of the proof: 1 texts joined. -/
import Derived.Test.YthlhbgedidipkaaGreatVbA16
import Derived.Test.YthlhbgedidipkaaGreatRows
set_option linter.all false
/- A part of ViewTwice's statement. -/
namespace Go.Proofs.YthlhbgedidipkaaGreat
open Go.ChangeShapes Go.WideShapes Go.ChangeAt Go.RowKit Go.Joins Go.Deep
theorem viewTwice_named : Tryz.pinned.checked.prog.funcNamed Rows.viewTwiceRow.func = some 10 := by kernel_rfl
theorem viewTwice_closed : joinedFacts Tryz.pinned.checked.prog 10 Tryz.f10 Rows.viewTwiceSpec Rows.viewTwiceRow = true := by kernel_rfl
end Go.Proofs.YthlhbgedidipkaaGreat

