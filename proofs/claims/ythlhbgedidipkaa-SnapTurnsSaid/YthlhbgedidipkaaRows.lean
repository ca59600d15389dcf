/-
  No cell of these rows narrows 'for every input' (looked for: loops, veiled, ifaces, maps, wideKeys, modest, calm, conditions, laid).
  DERIVED. THE GIVEN ROWS OF THIS SEAT. 6 by the template 'for every input the law returns true; each argument reads behind the call as it read before'; 0 by the template 'total and deterministic' (their statements: YthlhbgedidipkaaTotals.lean).
  GIVEN WITH THE SEED: the statements are not yours to turn. If you find one false, say at which input.
  Laid BY PROGRAM, IN A SANDBOX (cutbox-rows.mjs): the forced cells as the released guide's own fill.sh prints them over the translation 9d956314440fa557… (all of the seat's roots in one cut). By AI agents, Wed Nov 11 2026. No macro, syntax, notation, axiom, sorry.
-/
import Derived.Test.YthlhbgedidipkaaChecked
import GoSem.Claim
import GoSem.ClaimJoined
import GoSem.ClaimMapViews
import Derived.JoinedTies
import Derived.KernelRfl
namespace Go.Proofs.Ythlhbgedidipkaa
/- THE CELL 'sum', in the pinned program and in every row, IS THE sha256 OF THE DUMP (.gsa) THAT YthlhbgedidipkaaProg.lean LOADS. Nothing in Lean hashes anything: it is a label: what it is worth is what the hold of that sum in a sandbox is worth. -/
noncomputable def Try.pinned : Pinned := { name := "ythlhbgedidipkaa", sum := "9d956314440fa557fcfdce047418501c6b2e2340285b6e916e88266b6554cded", checked := Try.checked }
namespace Rows
def none {H : Type} : Left H := { results := [], args := [] }

/-- 'callboylaw26.SnapWhole': WHATEVER THE INPUT: true; the input reads as it did. -/
def snapWholeSpec : ChangeSpec := { name := "snapWhole", fn := fun _ => fun
  | [d1, d2] => { results := [.lit (.bool true)], args := [d1, d2] }
  | _ => none }
def snapWholeRow : OpenClaim := { program := "ythlhbgedidipkaa", sum := "9d956314440fa557fcfdce047418501c6b2e2340285b6e916e88266b6554cded", func := "callboy/callboylaw26.SnapWhole", spec := "snapWhole", inPlace := ["internal/bytealg.IndexByteString", "internal/bytealg.IndexString", "internal/bytealg.abigen_runtime_cmpstring"], unfollowed := true, recurses := true, named := ["internal/bytealg.MaxLen"], apart := false }
def SnapWholeSaid : Prop := snapWholeRow.holds Try.pinned (OpenSpec.ofChange snapWholeSpec)

/-- ITS FALSE NEIGHBOUR: 'it returns false'. Refute it at one input. -/
def snapWholeWrong : ChangeSpec := { name := "snapWhole", fn := fun _ => fun
  | [d1, d2] => { results := [.lit (.bool false)], args := [d1, d2] }
  | _ => none }
def SnapWholeWrongFalsely : Prop := snapWholeRow.holds Try.pinned (OpenSpec.ofChange snapWholeWrong)

/-- 'callboylaw26.SnapTurns': WHATEVER THE INPUT: true; the input reads as it did. -/
def snapTurnsSpec : ChangeSpec := { name := "snapTurns", fn := fun _ => fun
  | [d1, d2] => { results := [.lit (.bool true)], args := [d1, d2] }
  | _ => none }
def snapTurnsRow : OpenClaim := { program := "ythlhbgedidipkaa", sum := "9d956314440fa557fcfdce047418501c6b2e2340285b6e916e88266b6554cded", func := "callboy/callboylaw26.SnapTurns", spec := "snapTurns", inPlace := ["internal/bytealg.IndexByteString", "internal/bytealg.IndexString", "internal/bytealg.abigen_runtime_cmpstring"], unfollowed := true, recurses := true, named := ["internal/bytealg.MaxLen"], apart := false }
def SnapTurnsSaid : Prop := snapTurnsRow.holds Try.pinned (OpenSpec.ofChange snapTurnsSpec)

/-- ITS FALSE NEIGHBOUR: 'it returns false'. Refute it at one input. -/
def snapTurnsWrong : ChangeSpec := { name := "snapTurns", fn := fun _ => fun
  | [d1, d2] => { results := [.lit (.bool false)], args := [d1, d2] }
  | _ => none }
def SnapTurnsWrongFalsely : Prop := snapTurnsRow.holds Try.pinned (OpenSpec.ofChange snapTurnsWrong)

/-- 'callboylaw12.DeframePieces': WHATEVER THE INPUT: true; the input reads as it did. -/
def deframePiecesSpec : ChangeSpec := { name := "deframePieces", fn := fun _ => fun
  | [d1, d2] => { results := [.lit (.bool true)], args := [d1, d2] }
  | _ => none }
def deframePiecesRow : OpenClaim := { program := "ythlhbgedidipkaa", sum := "9d956314440fa557fcfdce047418501c6b2e2340285b6e916e88266b6554cded", func := "callboy/callboylaw12.DeframePieces", spec := "deframePieces", inPlace := ["internal/bytealg.IndexByteString", "internal/bytealg.IndexString", "internal/abi.NoEscape"], unfollowed := true, recurses := true, named := ["internal/bytealg.MaxLen"], apart := false }
def DeframePiecesSaid : Prop := deframePiecesRow.holds Try.pinned (OpenSpec.ofChange deframePiecesSpec)

/-- ITS FALSE NEIGHBOUR: 'it returns false'. Refute it at one input. -/
def deframePiecesWrong : ChangeSpec := { name := "deframePieces", fn := fun _ => fun
  | [d1, d2] => { results := [.lit (.bool false)], args := [d1, d2] }
  | _ => none }
def DeframePiecesWrongFalsely : Prop := deframePiecesRow.holds Try.pinned (OpenSpec.ofChange deframePiecesWrong)

/-- 'callboylaw12.DeframeBack': WHATEVER THE INPUT: true; the input reads as it did. -/
def deframeBackSpec : ChangeSpec := { name := "deframeBack", fn := fun _ => fun
  | [d] => { results := [.lit (.bool true)], args := [d] }
  | _ => none }
def deframeBackRow : OpenClaim := { program := "ythlhbgedidipkaa", sum := "9d956314440fa557fcfdce047418501c6b2e2340285b6e916e88266b6554cded", func := "callboy/callboylaw12.DeframeBack", spec := "deframeBack", inPlace := ["internal/bytealg.IndexByteString", "internal/bytealg.IndexString", "internal/abi.NoEscape"], unfollowed := true, recurses := true, named := ["internal/bytealg.MaxLen"], apart := false }
def DeframeBackSaid : Prop := deframeBackRow.holds Try.pinned (OpenSpec.ofChange deframeBackSpec)

/-- ITS FALSE NEIGHBOUR: 'it returns false'. Refute it at one input. -/
def deframeBackWrong : ChangeSpec := { name := "deframeBack", fn := fun _ => fun
  | [d] => { results := [.lit (.bool false)], args := [d] }
  | _ => none }
def DeframeBackWrongFalsely : Prop := deframeBackRow.holds Try.pinned (OpenSpec.ofChange deframeBackWrong)

/-- 'callboylaw20.ItemSorts': WHATEVER THE INPUT: true; the input reads as it did. -/
def itemSortsSpec : ChangeSpec := { name := "itemSorts", fn := fun _ => fun
  | [d] => { results := [.lit (.bool true)], args := [d] }
  | _ => none }
def itemSortsRow : OpenClaim := { program := "ythlhbgedidipkaa", sum := "9d956314440fa557fcfdce047418501c6b2e2340285b6e916e88266b6554cded", func := "callboy/callboylaw20.ItemSorts", spec := "itemSorts", inPlace := ["internal/bytealg.IndexByteString", "internal/bytealg.IndexString", "internal/bytealg.abigen_runtime_cmpstring"], unfollowed := true, recurses := true, named := ["internal/bytealg.MaxLen"], apart := false }
def ItemSortsSaid : Prop := itemSortsRow.holds Try.pinned (OpenSpec.ofChange itemSortsSpec)

/-- ITS FALSE NEIGHBOUR: 'it returns false'. Refute it at one input. -/
def itemSortsWrong : ChangeSpec := { name := "itemSorts", fn := fun _ => fun
  | [d] => { results := [.lit (.bool false)], args := [d] }
  | _ => none }
def ItemSortsWrongFalsely : Prop := itemSortsRow.holds Try.pinned (OpenSpec.ofChange itemSortsWrong)

/-- 'callboylaw20.ItemBack': WHATEVER THE INPUT: true; the input reads as it did. -/
def itemBackSpec : ChangeSpec := { name := "itemBack", fn := fun _ => fun
  | [d1, d2] => { results := [.lit (.bool true)], args := [d1, d2] }
  | _ => none }
def itemBackRow : OpenClaim := { program := "ythlhbgedidipkaa", sum := "9d956314440fa557fcfdce047418501c6b2e2340285b6e916e88266b6554cded", func := "callboy/callboylaw20.ItemBack", spec := "itemBack", inPlace := ["internal/bytealg.IndexByteString", "internal/bytealg.IndexString", "internal/bytealg.abigen_runtime_cmpstring"], unfollowed := true, recurses := true, named := ["internal/bytealg.MaxLen"], apart := false }
def ItemBackSaid : Prop := itemBackRow.holds Try.pinned (OpenSpec.ofChange itemBackSpec)

/-- ITS FALSE NEIGHBOUR: 'it returns false'. Refute it at one input. -/
def itemBackWrong : ChangeSpec := { name := "itemBack", fn := fun _ => fun
  | [d1, d2] => { results := [.lit (.bool false)], args := [d1, d2] }
  | _ => none }
def ItemBackWrongFalsely : Prop := itemBackRow.holds Try.pinned (OpenSpec.ofChange itemBackWrong)

/- THE SECOND FORM. 'bulk': how many values and letters a reading holds, each counted each time it is reached (what is shared counts as often as it is met; a slice's spare places count too). A statement '..UptoSaid' is the law's where the arguments, and the package variables that the reading takes, are together of bulk at most 1048576: NARROWER than '..Said'. Prove '..Said' where nothing that the law and all that it calls make is longer than what came in: it says more and counts as full. Else prove '..UptoSaid'. A law counts once. -/
mutual
def uptoBulk {H : Type} : DataW H → Nat
  | .lit (.string bytes) => bytes.length + 1
  | .lit _ => 1
  | .nil => 1
  | .ptr d => uptoBulk d + 1
  | .slice elems spare => uptoBulkAll elems + uptoBulkAll spare + 1
  | .agg parts => uptoBulkAll parts + 1
  | .iface _ d => uptoBulk d + 1
  | .map entries => uptoBulkEntries entries + 1
  | .held _ => 1
def uptoBulkAll {H : Type} : List (DataW H) → Nat
  | [] => 0
  | d :: r => uptoBulk d + uptoBulkAll r
def uptoBulkEntries {H : Type} : List (Lit × DataW H) → Nat
  | [] => 0
  | x :: r => uptoBulkEntry x + uptoBulkEntries r
def uptoBulkEntry {H : Type} : Lit × DataW H → Nat
  | (.string bytes, d) => bytes.length + uptoBulk d + 1
  | (_, d) => uptoBulk d + 1
 end
def uptoSmall : (H : Type) → List (DataW H) → Bool := fun _ ds => decide (uptoBulkAll ds ≤ 1048576)
def OpenSpec.upto (s : _root_.Go.ChangeSpec) : _root_.Go.OpenSpec := { _root_.Go.OpenSpec.ofChange s with cond := some uptoSmall }

/-- 'callboylaw26.SnapWhole', WHERE WHAT IT READS IS OF BULK AT MOST 1048576: true; the input reads as it did. -/
def snapWholeUptoRow : OpenClaim := { program := "ythlhbgedidipkaa", sum := "9d956314440fa557fcfdce047418501c6b2e2340285b6e916e88266b6554cded", func := "callboy/callboylaw26.SnapWhole", spec := "snapWhole", inPlace := ["internal/bytealg.IndexByteString", "internal/bytealg.IndexString", "internal/bytealg.abigen_runtime_cmpstring"], unfollowed := true, recurses := true, named := ["internal/bytealg.MaxLen"], apart := false, narrowed := true }
def SnapWholeUptoSaid : Prop := snapWholeUptoRow.holds Try.pinned (OpenSpec.upto snapWholeSpec)

/-- 'callboylaw26.SnapTurns', WHERE WHAT IT READS IS OF BULK AT MOST 1048576: true; the input reads as it did. -/
def snapTurnsUptoRow : OpenClaim := { program := "ythlhbgedidipkaa", sum := "9d956314440fa557fcfdce047418501c6b2e2340285b6e916e88266b6554cded", func := "callboy/callboylaw26.SnapTurns", spec := "snapTurns", inPlace := ["internal/bytealg.IndexByteString", "internal/bytealg.IndexString", "internal/bytealg.abigen_runtime_cmpstring"], unfollowed := true, recurses := true, named := ["internal/bytealg.MaxLen"], apart := false, narrowed := true }
def SnapTurnsUptoSaid : Prop := snapTurnsUptoRow.holds Try.pinned (OpenSpec.upto snapTurnsSpec)

/-- 'callboylaw12.DeframePieces', WHERE WHAT IT READS IS OF BULK AT MOST 1048576: true; the input reads as it did. -/
def deframePiecesUptoRow : OpenClaim := { program := "ythlhbgedidipkaa", sum := "9d956314440fa557fcfdce047418501c6b2e2340285b6e916e88266b6554cded", func := "callboy/callboylaw12.DeframePieces", spec := "deframePieces", inPlace := ["internal/bytealg.IndexByteString", "internal/bytealg.IndexString", "internal/abi.NoEscape"], unfollowed := true, recurses := true, named := ["internal/bytealg.MaxLen"], apart := false, narrowed := true }
def DeframePiecesUptoSaid : Prop := deframePiecesUptoRow.holds Try.pinned (OpenSpec.upto deframePiecesSpec)

/-- 'callboylaw12.DeframeBack', WHERE WHAT IT READS IS OF BULK AT MOST 1048576: true; the input reads as it did. -/
def deframeBackUptoRow : OpenClaim := { program := "ythlhbgedidipkaa", sum := "9d956314440fa557fcfdce047418501c6b2e2340285b6e916e88266b6554cded", func := "callboy/callboylaw12.DeframeBack", spec := "deframeBack", inPlace := ["internal/bytealg.IndexByteString", "internal/bytealg.IndexString", "internal/abi.NoEscape"], unfollowed := true, recurses := true, named := ["internal/bytealg.MaxLen"], apart := false, narrowed := true }
def DeframeBackUptoSaid : Prop := deframeBackUptoRow.holds Try.pinned (OpenSpec.upto deframeBackSpec)

/-- 'callboylaw20.ItemSorts', WHERE WHAT IT READS IS OF BULK AT MOST 1048576: true; the input reads as it did. -/
def itemSortsUptoRow : OpenClaim := { program := "ythlhbgedidipkaa", sum := "9d956314440fa557fcfdce047418501c6b2e2340285b6e916e88266b6554cded", func := "callboy/callboylaw20.ItemSorts", spec := "itemSorts", inPlace := ["internal/bytealg.IndexByteString", "internal/bytealg.IndexString", "internal/bytealg.abigen_runtime_cmpstring"], unfollowed := true, recurses := true, named := ["internal/bytealg.MaxLen"], apart := false, narrowed := true }
def ItemSortsUptoSaid : Prop := itemSortsUptoRow.holds Try.pinned (OpenSpec.upto itemSortsSpec)

/-- 'callboylaw20.ItemBack', WHERE WHAT IT READS IS OF BULK AT MOST 1048576: true; the input reads as it did. -/
def itemBackUptoRow : OpenClaim := { program := "ythlhbgedidipkaa", sum := "9d956314440fa557fcfdce047418501c6b2e2340285b6e916e88266b6554cded", func := "callboy/callboylaw20.ItemBack", spec := "itemBack", inPlace := ["internal/bytealg.IndexByteString", "internal/bytealg.IndexString", "internal/bytealg.abigen_runtime_cmpstring"], unfollowed := true, recurses := true, named := ["internal/bytealg.MaxLen"], apart := false, narrowed := true }
def ItemBackUptoSaid : Prop := itemBackUptoRow.holds Try.pinned (OpenSpec.upto itemBackSpec)

end Rows
end Go.Proofs.Ythlhbgedidipkaa
