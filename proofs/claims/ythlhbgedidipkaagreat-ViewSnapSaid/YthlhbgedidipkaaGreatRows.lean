/-
  No cell of these rows narrows 'for every input' (looked for: loops, veiled, ifaces, maps, wideKeys, modest, calm, conditions, laid).
  DERIVED. THE GIVEN ROWS OF THIS SEAT. 8 by the template 'for every input the law returns true; each argument reads behind the call as it read before'; 0 by the template 'total and deterministic' (their statements: YthlhbgedidipkaaGreatTotals.lean).
  GIVEN WITH THE SEED: the statements are not yours to turn. If you find one false, say at which input.
  Laid BY PROGRAM, IN A SANDBOX (cutbox-rows.mjs): the forced cells as the released guide's own fill.sh prints them over the translation da9eb5d307ba7af8… (all of the seat's roots in one cut). By AI agents, Wed Nov 11 2026. No macro, syntax, notation, axiom, sorry.
-/
import Derived.Test.YthlhbgedidipkaaGreatChecked
import GoSem.Claim
import GoSem.ClaimJoined
import GoSem.ClaimMapViews
import Derived.JoinedTies
import Derived.KernelRfl
namespace Go.Proofs.YthlhbgedidipkaaGreat
/- THE CELL 'sum', in the pinned program and in every row, IS THE sha256 OF THE DUMP (.gsa) THAT YthlhbgedidipkaaGreatProg.lean LOADS. Nothing in Lean hashes anything: it is a label: what it is worth is what the hold of that sum in a sandbox is worth. -/
noncomputable def Tryz.pinned : Pinned := { name := "ythlhbgedidipkaagreat", sum := "da9eb5d307ba7af892b9c5c67b6a1810315d47b2f1c4c2e253aa8803fbf33e66", checked := Tryz.checked }
namespace Rows
def none {H : Type} : Left H := { results := [], args := [] }

/-- 'callboylaw26.SnapTells': WHATEVER THE INPUT: true; the input reads as it did. -/
def snapTellsSpec : ChangeSpec := { name := "snapTells", fn := fun _ => fun
  | [d1, d2] => { results := [.lit (.bool true)], args := [d1, d2] }
  | _ => none }
def snapTellsRow : OpenClaim := { program := "ythlhbgedidipkaagreat", sum := "da9eb5d307ba7af892b9c5c67b6a1810315d47b2f1c4c2e253aa8803fbf33e66", func := "callboy/callboylaw26.SnapTells", spec := "snapTells", inPlace := ["internal/bytealg.IndexByteString", "internal/bytealg.IndexString", "internal/bytealg.abigen_runtime_cmpstring"], unfollowed := true, recurses := true, named := ["internal/bytealg.MaxLen"], apart := false }
def SnapTellsSaid : Prop := snapTellsRow.holds Tryz.pinned (OpenSpec.ofChange snapTellsSpec)

/-- ITS FALSE NEIGHBOUR: 'it returns false'. Refute it at one input. -/
def snapTellsWrong : ChangeSpec := { name := "snapTells", fn := fun _ => fun
  | [d1, d2] => { results := [.lit (.bool false)], args := [d1, d2] }
  | _ => none }
def SnapTellsWrongFalsely : Prop := snapTellsRow.holds Tryz.pinned (OpenSpec.ofChange snapTellsWrong)

/-- 'callboylaw12.DeframeFeeds': WHATEVER THE INPUT: true; the input reads as it did. -/
def deframeFeedsSpec : ChangeSpec := { name := "deframeFeeds", fn := fun _ => fun
  | [d1, d2] => { results := [.lit (.bool true)], args := [d1, d2] }
  | _ => none }
def deframeFeedsRow : OpenClaim := { program := "ythlhbgedidipkaagreat", sum := "da9eb5d307ba7af892b9c5c67b6a1810315d47b2f1c4c2e253aa8803fbf33e66", func := "callboy/callboylaw12.DeframeFeeds", spec := "deframeFeeds", inPlace := ["internal/bytealg.IndexByteString", "internal/bytealg.IndexString", "internal/abi.NoEscape"], unfollowed := true, recurses := true, named := ["internal/bytealg.MaxLen"], apart := false }
def DeframeFeedsSaid : Prop := deframeFeedsRow.holds Tryz.pinned (OpenSpec.ofChange deframeFeedsSpec)

/-- ITS FALSE NEIGHBOUR: 'it returns false'. Refute it at one input. -/
def deframeFeedsWrong : ChangeSpec := { name := "deframeFeeds", fn := fun _ => fun
  | [d1, d2] => { results := [.lit (.bool false)], args := [d1, d2] }
  | _ => none }
def DeframeFeedsWrongFalsely : Prop := deframeFeedsRow.holds Tryz.pinned (OpenSpec.ofChange deframeFeedsWrong)

/-- 'callboylaw12.DeframeEncodes': WHATEVER THE INPUT: true; the input reads as it did. -/
def deframeEncodesSpec : ChangeSpec := { name := "deframeEncodes", fn := fun _ => fun
  | [d] => { results := [.lit (.bool true)], args := [d] }
  | _ => none }
def deframeEncodesRow : OpenClaim := { program := "ythlhbgedidipkaagreat", sum := "da9eb5d307ba7af892b9c5c67b6a1810315d47b2f1c4c2e253aa8803fbf33e66", func := "callboy/callboylaw12.DeframeEncodes", spec := "deframeEncodes", inPlace := ["internal/bytealg.IndexByteString", "internal/bytealg.IndexString", "internal/abi.NoEscape"], unfollowed := true, recurses := true, named := ["internal/bytealg.MaxLen"], apart := false }
def DeframeEncodesSaid : Prop := deframeEncodesRow.holds Tryz.pinned (OpenSpec.ofChange deframeEncodesSpec)

/-- ITS FALSE NEIGHBOUR: 'it returns false'. Refute it at one input. -/
def deframeEncodesWrong : ChangeSpec := { name := "deframeEncodes", fn := fun _ => fun
  | [d] => { results := [.lit (.bool false)], args := [d] }
  | _ => none }
def DeframeEncodesWrongFalsely : Prop := deframeEncodesRow.holds Tryz.pinned (OpenSpec.ofChange deframeEncodesWrong)

/-- 'callboylaw20.ItemTells': WHATEVER THE INPUT: true; the input reads as it did. -/
def itemTellsSpec : ChangeSpec := { name := "itemTells", fn := fun _ => fun
  | [d1, d2] => { results := [.lit (.bool true)], args := [d1, d2] }
  | _ => none }
def itemTellsRow : OpenClaim := { program := "ythlhbgedidipkaagreat", sum := "da9eb5d307ba7af892b9c5c67b6a1810315d47b2f1c4c2e253aa8803fbf33e66", func := "callboy/callboylaw20.ItemTells", spec := "itemTells", inPlace := ["internal/bytealg.IndexByteString", "internal/bytealg.IndexString", "internal/bytealg.abigen_runtime_cmpstring"], unfollowed := true, recurses := true, named := ["internal/bytealg.MaxLen"], apart := false }
def ItemTellsSaid : Prop := itemTellsRow.holds Tryz.pinned (OpenSpec.ofChange itemTellsSpec)

/-- ITS FALSE NEIGHBOUR: 'it returns false'. Refute it at one input. -/
def itemTellsWrong : ChangeSpec := { name := "itemTells", fn := fun _ => fun
  | [d1, d2] => { results := [.lit (.bool false)], args := [d1, d2] }
  | _ => none }
def ItemTellsWrongFalsely : Prop := itemTellsRow.holds Tryz.pinned (OpenSpec.ofChange itemTellsWrong)

/-- 'callboylaw20.ItemReads': WHATEVER THE INPUT: true; the input reads as it did. -/
def itemReadsSpec : ChangeSpec := { name := "itemReads", fn := fun _ => fun
  | [d1, d2] => { results := [.lit (.bool true)], args := [d1, d2] }
  | _ => none }
def itemReadsRow : OpenClaim := { program := "ythlhbgedidipkaagreat", sum := "da9eb5d307ba7af892b9c5c67b6a1810315d47b2f1c4c2e253aa8803fbf33e66", func := "callboy/callboylaw20.ItemReads", spec := "itemReads", inPlace := ["internal/bytealg.IndexByteString", "internal/bytealg.IndexString", "internal/bytealg.abigen_runtime_cmpstring"], unfollowed := true, recurses := true, named := ["internal/bytealg.MaxLen"], apart := false }
def ItemReadsSaid : Prop := itemReadsRow.holds Tryz.pinned (OpenSpec.ofChange itemReadsSpec)

/-- ITS FALSE NEIGHBOUR: 'it returns false'. Refute it at one input. -/
def itemReadsWrong : ChangeSpec := { name := "itemReads", fn := fun _ => fun
  | [d1, d2] => { results := [.lit (.bool false)], args := [d1, d2] }
  | _ => none }
def ItemReadsWrongFalsely : Prop := itemReadsRow.holds Tryz.pinned (OpenSpec.ofChange itemReadsWrong)

/-- 'callboylaw35.ViewRuns': WHATEVER THE INPUT: true; the input reads as it did. -/
def viewRunsSpec : ChangeSpec := { name := "viewRuns", fn := fun _ => fun
  | [d] => { results := [.lit (.bool true)], args := [d] }
  | _ => none }
def viewRunsRow : OpenClaim := { program := "ythlhbgedidipkaagreat", sum := "da9eb5d307ba7af892b9c5c67b6a1810315d47b2f1c4c2e253aa8803fbf33e66", func := "callboy/callboylaw35.ViewRuns", spec := "viewRuns", inPlace := ["internal/bytealg.abigen_runtime_cmpstring", "internal/bytealg.IndexByteString", "internal/bytealg.IndexString", "slices.overlaps[callboy/view.Row]", "slices.overlaps[string]", "slices.overlaps[callboy/view.Contact]"], unfollowed := true, recurses := true, named := ["internal/bytealg.MaxLen"], apart := false }
def ViewRunsSaid : Prop := viewRunsRow.holds Tryz.pinned (OpenSpec.ofChange viewRunsSpec)

/-- ITS FALSE NEIGHBOUR: 'it returns false'. Refute it at one input. -/
def viewRunsWrong : ChangeSpec := { name := "viewRuns", fn := fun _ => fun
  | [d] => { results := [.lit (.bool false)], args := [d] }
  | _ => none }
def ViewRunsWrongFalsely : Prop := viewRunsRow.holds Tryz.pinned (OpenSpec.ofChange viewRunsWrong)

/-- 'callboylaw35.ViewSnap': WHATEVER THE INPUT: true; the input reads as it did. -/
def viewSnapSpec : ChangeSpec := { name := "viewSnap", fn := fun _ => fun
  | [d1, d2] => { results := [.lit (.bool true)], args := [d1, d2] }
  | _ => none }
def viewSnapRow : OpenClaim := { program := "ythlhbgedidipkaagreat", sum := "da9eb5d307ba7af892b9c5c67b6a1810315d47b2f1c4c2e253aa8803fbf33e66", func := "callboy/callboylaw35.ViewSnap", spec := "viewSnap", inPlace := ["internal/bytealg.abigen_runtime_cmpstring", "internal/bytealg.IndexByteString", "internal/bytealg.IndexString", "slices.overlaps[callboy/view.Row]", "slices.overlaps[string]", "slices.overlaps[callboy/view.Contact]"], unfollowed := true, recurses := true, named := ["internal/bytealg.MaxLen"], apart := false }
def ViewSnapSaid : Prop := viewSnapRow.holds Tryz.pinned (OpenSpec.ofChange viewSnapSpec)

/-- ITS FALSE NEIGHBOUR: 'it returns false'. Refute it at one input. -/
def viewSnapWrong : ChangeSpec := { name := "viewSnap", fn := fun _ => fun
  | [d1, d2] => { results := [.lit (.bool false)], args := [d1, d2] }
  | _ => none }
def ViewSnapWrongFalsely : Prop := viewSnapRow.holds Tryz.pinned (OpenSpec.ofChange viewSnapWrong)

/-- 'callboylaw35.ViewTwice': WHATEVER THE INPUT: true; the input reads as it did. -/
def viewTwiceSpec : ChangeSpec := { name := "viewTwice", fn := fun _ => fun
  | [d] => { results := [.lit (.bool true)], args := [d] }
  | _ => none }
def viewTwiceRow : OpenClaim := { program := "ythlhbgedidipkaagreat", sum := "da9eb5d307ba7af892b9c5c67b6a1810315d47b2f1c4c2e253aa8803fbf33e66", func := "callboy/callboylaw35.ViewTwice", spec := "viewTwice", inPlace := ["internal/bytealg.abigen_runtime_cmpstring", "internal/bytealg.IndexByteString", "internal/bytealg.IndexString", "slices.overlaps[callboy/view.Row]", "slices.overlaps[string]", "slices.overlaps[callboy/view.Contact]"], unfollowed := true, recurses := true, named := ["internal/bytealg.MaxLen"], apart := false }
def ViewTwiceSaid : Prop := viewTwiceRow.holds Tryz.pinned (OpenSpec.ofChange viewTwiceSpec)

/-- ITS FALSE NEIGHBOUR: 'it returns false'. Refute it at one input. -/
def viewTwiceWrong : ChangeSpec := { name := "viewTwice", fn := fun _ => fun
  | [d] => { results := [.lit (.bool false)], args := [d] }
  | _ => none }
def ViewTwiceWrongFalsely : Prop := viewTwiceRow.holds Tryz.pinned (OpenSpec.ofChange viewTwiceWrong)

/- THE SECOND FORM. 'bulk': how many values and letters a reading holds, each counted each time it is reached (what is shared counts as often as it is met; a slice's spare places count too). A statement '..UptoSaid' is the law's where the arguments, and the package variables that the reading takes, are together of bulk at most 1048576: NARROWER than '..Said'. Prove '..Said' where nothing that the law and all that it calls make is longer than what came in: it says more and counts as full. Else prove '..UptoSaid'. A law counts once. -/
mutual
def uptoBulk {H : Type} : DataW H → Nat
  | .lit (.string bytes) => bytes.length + 1
  | .lit _ => 1
  | .nil => 1
  | .ptr d => uptoBulk d + 1
  | .slice elems spare => uptoBulkAll elems + uptoBulkAll spare + 1
  | .agg parts => uptoBulkAll parts + 1
  | .iface _ d => uptoBulk d + 1
  | .map entries => uptoBulkEntries entries + 1
  | .held _ => 1
def uptoBulkAll {H : Type} : List (DataW H) → Nat
  | [] => 0
  | d :: r => uptoBulk d + uptoBulkAll r
def uptoBulkEntries {H : Type} : List (Lit × DataW H) → Nat
  | [] => 0
  | x :: r => uptoBulkEntry x + uptoBulkEntries r
def uptoBulkEntry {H : Type} : Lit × DataW H → Nat
  | (.string bytes, d) => bytes.length + uptoBulk d + 1
  | (_, d) => uptoBulk d + 1
 end
def uptoSmall : (H : Type) → List (DataW H) → Bool := fun _ ds => decide (uptoBulkAll ds ≤ 1048576)
def OpenSpec.upto (s : _root_.Go.ChangeSpec) : _root_.Go.OpenSpec := { _root_.Go.OpenSpec.ofChange s with cond := some uptoSmall }

/-- 'callboylaw26.SnapTells', WHERE WHAT IT READS IS OF BULK AT MOST 1048576: true; the input reads as it did. -/
def snapTellsUptoRow : OpenClaim := { program := "ythlhbgedidipkaagreat", sum := "da9eb5d307ba7af892b9c5c67b6a1810315d47b2f1c4c2e253aa8803fbf33e66", func := "callboy/callboylaw26.SnapTells", spec := "snapTells", inPlace := ["internal/bytealg.IndexByteString", "internal/bytealg.IndexString", "internal/bytealg.abigen_runtime_cmpstring"], unfollowed := true, recurses := true, named := ["internal/bytealg.MaxLen"], apart := false, narrowed := true }
def SnapTellsUptoSaid : Prop := snapTellsUptoRow.holds Tryz.pinned (OpenSpec.upto snapTellsSpec)

/-- 'callboylaw12.DeframeFeeds', WHERE WHAT IT READS IS OF BULK AT MOST 1048576: true; the input reads as it did. -/
def deframeFeedsUptoRow : OpenClaim := { program := "ythlhbgedidipkaagreat", sum := "da9eb5d307ba7af892b9c5c67b6a1810315d47b2f1c4c2e253aa8803fbf33e66", func := "callboy/callboylaw12.DeframeFeeds", spec := "deframeFeeds", inPlace := ["internal/bytealg.IndexByteString", "internal/bytealg.IndexString", "internal/abi.NoEscape"], unfollowed := true, recurses := true, named := ["internal/bytealg.MaxLen"], apart := false, narrowed := true }
def DeframeFeedsUptoSaid : Prop := deframeFeedsUptoRow.holds Tryz.pinned (OpenSpec.upto deframeFeedsSpec)

/-- 'callboylaw12.DeframeEncodes', WHERE WHAT IT READS IS OF BULK AT MOST 1048576: true; the input reads as it did. -/
def deframeEncodesUptoRow : OpenClaim := { program := "ythlhbgedidipkaagreat", sum := "da9eb5d307ba7af892b9c5c67b6a1810315d47b2f1c4c2e253aa8803fbf33e66", func := "callboy/callboylaw12.DeframeEncodes", spec := "deframeEncodes", inPlace := ["internal/bytealg.IndexByteString", "internal/bytealg.IndexString", "internal/abi.NoEscape"], unfollowed := true, recurses := true, named := ["internal/bytealg.MaxLen"], apart := false, narrowed := true }
def DeframeEncodesUptoSaid : Prop := deframeEncodesUptoRow.holds Tryz.pinned (OpenSpec.upto deframeEncodesSpec)

/-- 'callboylaw20.ItemTells', WHERE WHAT IT READS IS OF BULK AT MOST 1048576: true; the input reads as it did. -/
def itemTellsUptoRow : OpenClaim := { program := "ythlhbgedidipkaagreat", sum := "da9eb5d307ba7af892b9c5c67b6a1810315d47b2f1c4c2e253aa8803fbf33e66", func := "callboy/callboylaw20.ItemTells", spec := "itemTells", inPlace := ["internal/bytealg.IndexByteString", "internal/bytealg.IndexString", "internal/bytealg.abigen_runtime_cmpstring"], unfollowed := true, recurses := true, named := ["internal/bytealg.MaxLen"], apart := false, narrowed := true }
def ItemTellsUptoSaid : Prop := itemTellsUptoRow.holds Tryz.pinned (OpenSpec.upto itemTellsSpec)

/-- 'callboylaw20.ItemReads', WHERE WHAT IT READS IS OF BULK AT MOST 1048576: true; the input reads as it did. -/
def itemReadsUptoRow : OpenClaim := { program := "ythlhbgedidipkaagreat", sum := "da9eb5d307ba7af892b9c5c67b6a1810315d47b2f1c4c2e253aa8803fbf33e66", func := "callboy/callboylaw20.ItemReads", spec := "itemReads", inPlace := ["internal/bytealg.IndexByteString", "internal/bytealg.IndexString", "internal/bytealg.abigen_runtime_cmpstring"], unfollowed := true, recurses := true, named := ["internal/bytealg.MaxLen"], apart := false, narrowed := true }
def ItemReadsUptoSaid : Prop := itemReadsUptoRow.holds Tryz.pinned (OpenSpec.upto itemReadsSpec)

/-- 'callboylaw35.ViewRuns', WHERE WHAT IT READS IS OF BULK AT MOST 1048576: true; the input reads as it did. -/
def viewRunsUptoRow : OpenClaim := { program := "ythlhbgedidipkaagreat", sum := "da9eb5d307ba7af892b9c5c67b6a1810315d47b2f1c4c2e253aa8803fbf33e66", func := "callboy/callboylaw35.ViewRuns", spec := "viewRuns", inPlace := ["internal/bytealg.abigen_runtime_cmpstring", "internal/bytealg.IndexByteString", "internal/bytealg.IndexString", "slices.overlaps[callboy/view.Row]", "slices.overlaps[string]", "slices.overlaps[callboy/view.Contact]"], unfollowed := true, recurses := true, named := ["internal/bytealg.MaxLen"], apart := false, narrowed := true }
def ViewRunsUptoSaid : Prop := viewRunsUptoRow.holds Tryz.pinned (OpenSpec.upto viewRunsSpec)

/-- 'callboylaw35.ViewSnap', WHERE WHAT IT READS IS OF BULK AT MOST 1048576: true; the input reads as it did. -/
def viewSnapUptoRow : OpenClaim := { program := "ythlhbgedidipkaagreat", sum := "da9eb5d307ba7af892b9c5c67b6a1810315d47b2f1c4c2e253aa8803fbf33e66", func := "callboy/callboylaw35.ViewSnap", spec := "viewSnap", inPlace := ["internal/bytealg.abigen_runtime_cmpstring", "internal/bytealg.IndexByteString", "internal/bytealg.IndexString", "slices.overlaps[callboy/view.Row]", "slices.overlaps[string]", "slices.overlaps[callboy/view.Contact]"], unfollowed := true, recurses := true, named := ["internal/bytealg.MaxLen"], apart := false, narrowed := true }
def ViewSnapUptoSaid : Prop := viewSnapUptoRow.holds Tryz.pinned (OpenSpec.upto viewSnapSpec)

/-- 'callboylaw35.ViewTwice', WHERE WHAT IT READS IS OF BULK AT MOST 1048576: true; the input reads as it did. -/
def viewTwiceUptoRow : OpenClaim := { program := "ythlhbgedidipkaagreat", sum := "da9eb5d307ba7af892b9c5c67b6a1810315d47b2f1c4c2e253aa8803fbf33e66", func := "callboy/callboylaw35.ViewTwice", spec := "viewTwice", inPlace := ["internal/bytealg.abigen_runtime_cmpstring", "internal/bytealg.IndexByteString", "internal/bytealg.IndexString", "slices.overlaps[callboy/view.Row]", "slices.overlaps[string]", "slices.overlaps[callboy/view.Contact]"], unfollowed := true, recurses := true, named := ["internal/bytealg.MaxLen"], apart := false, narrowed := true }
def ViewTwiceUptoSaid : Prop := viewTwiceUptoRow.holds Tryz.pinned (OpenSpec.upto viewTwiceSpec)

end Rows
end Go.Proofs.YthlhbgedidipkaaGreat
