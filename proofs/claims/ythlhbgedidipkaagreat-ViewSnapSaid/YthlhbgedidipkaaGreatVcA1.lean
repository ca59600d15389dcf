/- A part of the proof: 1 texts joined. -/
import Derived.Test.YthlhbgedidipkaaGreatVbA16
import Derived.Test.YthlhbgedidipkaaGreatRows
set_option linter.all false
/- A part of ViewSnap's statement. -/
namespace Go.Proofs.YthlhbgedidipkaaGreat
open Go.ChangeShapes Go.WideShapes Go.ChangeAt Go.RowKit Go.Joins Go.Deep
theorem viewSnap_named : Tryz.pinned.checked.prog.funcNamed Rows.viewSnapRow.func = some 9 := by kernel_rfl
theorem viewSnap_closed : joinedFacts Tryz.pinned.checked.prog 9 Tryz.f9 Rows.viewSnapSpec Rows.viewSnapRow = true := by kernel_rfl
end Go.Proofs.YthlhbgedidipkaaGreat

