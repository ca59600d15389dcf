/-
  No cell of these rows narrows 'for every input' (looked for: loops, veiled, ifaces, maps, wideKeys, modest, calm, conditions, laid).
  DERIVED. THE GIVEN ROWS OF THIS SEAT. 9 by the template 'for every input the law returns true; each argument reads behind the call as it read before'; 0 by the template 'total and deterministic' (their statements: YtljeinlapkgjeaaTotals.lean).
  GIVEN WITH THE SEED: the statements are not yours to turn. If you find one false, say at which input.
  Laid BY PROGRAM, IN A SANDBOX (cutbox-rows.mjs): the forced cells as the released guide's own fill.sh prints them over the translation bc0cab79d48516e5… (all of the seat's roots in one cut). By AI agents, Wed Nov 11 2026. No macro, syntax, notation, axiom, sorry.
-/
import Derived.Test.YtljeinlapkgjeaaChecked
import GoSem.Claim
import GoSem.ClaimJoined
import GoSem.ClaimMapViews
import Derived.JoinedTies
import Derived.KernelRfl
namespace Go.Proofs.Ytljeinlapkgjeaa
/- THE CELL 'sum', in the pinned program and in every row, IS THE sha256 OF THE DUMP (.gsa) THAT YtljeinlapkgjeaaProg.lean LOADS. Nothing in Lean hashes anything: it is a label: what it is worth is what the hold of that sum in a sandbox is worth. -/
noncomputable def Try.pinned : Pinned := { name := "ytljeinlapkgjeaa", sum := "bc0cab79d48516e5fdf66fa1c240c86ddb4946b0e90ecbb28d9b764f88d2b5f8", checked := Try.checked }
namespace Rows
def none {H : Type} : Left H := { results := [], args := [] }

/-- 'callboylaw23.PresTells': WHATEVER THE INPUT: true; the input reads as it did. -/
def presTellsSpec : ChangeSpec := { name := "presTells", fn := fun _ => fun
  | [d1, d2, d3] => { results := [.lit (.bool true)], args := [d1, d2, d3] }
  | _ => none }
def presTellsRow : OpenClaim := { program := "ytljeinlapkgjeaa", sum := "bc0cab79d48516e5fdf66fa1c240c86ddb4946b0e90ecbb28d9b764f88d2b5f8", func := "callboy/callboylaw23.PresTells", spec := "presTells", inPlace := ["internal/bytealg.IndexByteString", "internal/bytealg.IndexString"], unfollowed := true, recurses := true, named := ["internal/bytealg.MaxLen"], apart := false }
def PresTellsSaid : Prop := presTellsRow.holds Try.pinned (OpenSpec.ofChange presTellsSpec)

/-- ITS FALSE NEIGHBOUR: 'it returns false'. Refute it at one input. -/
def presTellsWrong : ChangeSpec := { name := "presTells", fn := fun _ => fun
  | [d1, d2, d3] => { results := [.lit (.bool false)], args := [d1, d2, d3] }
  | _ => none }
def PresTellsWrongFalsely : Prop := presTellsRow.holds Try.pinned (OpenSpec.ofChange presTellsWrong)

/-- 'callboylaw23.PresSays': WHATEVER THE INPUT: true; the input reads as it did. -/
def presSaysSpec : ChangeSpec := { name := "presSays", fn := fun _ => fun
  | [d1, d2, d3] => { results := [.lit (.bool true)], args := [d1, d2, d3] }
  | _ => none }
def presSaysRow : OpenClaim := { program := "ytljeinlapkgjeaa", sum := "bc0cab79d48516e5fdf66fa1c240c86ddb4946b0e90ecbb28d9b764f88d2b5f8", func := "callboy/callboylaw23.PresSays", spec := "presSays", inPlace := ["internal/bytealg.IndexByteString", "internal/bytealg.IndexString"], unfollowed := true, recurses := true, named := ["internal/bytealg.MaxLen"], apart := false }
def PresSaysSaid : Prop := presSaysRow.holds Try.pinned (OpenSpec.ofChange presSaysSpec)

/-- ITS FALSE NEIGHBOUR: 'it returns false'. Refute it at one input. -/
def presSaysWrong : ChangeSpec := { name := "presSays", fn := fun _ => fun
  | [d1, d2, d3] => { results := [.lit (.bool false)], args := [d1, d2, d3] }
  | _ => none }
def PresSaysWrongFalsely : Prop := presSaysRow.holds Try.pinned (OpenSpec.ofChange presSaysWrong)

/-- 'callboylaw23.PresBack': WHATEVER THE INPUT: true; the input reads as it did. -/
def presBackSpec : ChangeSpec := { name := "presBack", fn := fun _ => fun
  | [d1, d2, d3] => { results := [.lit (.bool true)], args := [d1, d2, d3] }
  | _ => none }
def presBackRow : OpenClaim := { program := "ytljeinlapkgjeaa", sum := "bc0cab79d48516e5fdf66fa1c240c86ddb4946b0e90ecbb28d9b764f88d2b5f8", func := "callboy/callboylaw23.PresBack", spec := "presBack", inPlace := ["internal/bytealg.IndexByteString", "internal/bytealg.IndexString"], unfollowed := true, recurses := true, named := ["internal/bytealg.MaxLen"], apart := false }
def PresBackSaid : Prop := presBackRow.holds Try.pinned (OpenSpec.ofChange presBackSpec)

/-- ITS FALSE NEIGHBOUR: 'it returns false'. Refute it at one input. -/
def presBackWrong : ChangeSpec := { name := "presBack", fn := fun _ => fun
  | [d1, d2, d3] => { results := [.lit (.bool false)], args := [d1, d2, d3] }
  | _ => none }
def PresBackWrongFalsely : Prop := presBackRow.holds Try.pinned (OpenSpec.ofChange presBackWrong)

/-- 'callboylaw23.PresOrder': WHATEVER THE INPUT: true; the input reads as it did. -/
def presOrderSpec : ChangeSpec := { name := "presOrder", fn := fun _ => fun
  | [d1, d2, d3] => { results := [.lit (.bool true)], args := [d1, d2, d3] }
  | _ => none }
def presOrderRow : OpenClaim := { program := "ytljeinlapkgjeaa", sum := "bc0cab79d48516e5fdf66fa1c240c86ddb4946b0e90ecbb28d9b764f88d2b5f8", func := "callboy/callboylaw23.PresOrder", spec := "presOrder", inPlace := ["internal/bytealg.IndexByteString", "internal/bytealg.IndexString"], unfollowed := true, recurses := true, named := ["internal/bytealg.MaxLen"], apart := false }
def PresOrderSaid : Prop := presOrderRow.holds Try.pinned (OpenSpec.ofChange presOrderSpec)

/-- ITS FALSE NEIGHBOUR: 'it returns false'. Refute it at one input. -/
def presOrderWrong : ChangeSpec := { name := "presOrder", fn := fun _ => fun
  | [d1, d2, d3] => { results := [.lit (.bool false)], args := [d1, d2, d3] }
  | _ => none }
def PresOrderWrongFalsely : Prop := presOrderRow.holds Try.pinned (OpenSpec.ofChange presOrderWrong)

/-- 'callboylaw10.StanzaBack': WHATEVER THE INPUT: true; the input reads as it did. -/
def stanzaBackSpec : ChangeSpec := { name := "stanzaBack", fn := fun _ => fun
  | [d1, d2] => { results := [.lit (.bool true)], args := [d1, d2] }
  | _ => none }
def stanzaBackRow : OpenClaim := { program := "ytljeinlapkgjeaa", sum := "bc0cab79d48516e5fdf66fa1c240c86ddb4946b0e90ecbb28d9b764f88d2b5f8", func := "callboy/callboylaw10.StanzaBack", spec := "stanzaBack", inPlace := ["internal/bytealg.IndexByteString", "internal/bytealg.IndexString"], unfollowed := true, recurses := true, named := ["internal/bytealg.MaxLen"], apart := false }
def StanzaBackSaid : Prop := stanzaBackRow.holds Try.pinned (OpenSpec.ofChange stanzaBackSpec)

/-- ITS FALSE NEIGHBOUR: 'it returns false'. Refute it at one input. -/
def stanzaBackWrong : ChangeSpec := { name := "stanzaBack", fn := fun _ => fun
  | [d1, d2] => { results := [.lit (.bool false)], args := [d1, d2] }
  | _ => none }
def StanzaBackWrongFalsely : Prop := stanzaBackRow.holds Try.pinned (OpenSpec.ofChange stanzaBackWrong)

/-- 'callboylaw10.StanzaUnlike': WHATEVER THE INPUT: true; the input reads as it did. -/
def stanzaUnlikeSpec : ChangeSpec := { name := "stanzaUnlike", fn := fun _ => fun
  | [d1, d2] => { results := [.lit (.bool true)], args := [d1, d2] }
  | _ => none }
def stanzaUnlikeRow : OpenClaim := { program := "ytljeinlapkgjeaa", sum := "bc0cab79d48516e5fdf66fa1c240c86ddb4946b0e90ecbb28d9b764f88d2b5f8", func := "callboy/callboylaw10.StanzaUnlike", spec := "stanzaUnlike", inPlace := ["internal/bytealg.IndexByteString", "internal/bytealg.IndexString"], unfollowed := true, recurses := true, named := ["internal/bytealg.MaxLen"], apart := false }
def StanzaUnlikeSaid : Prop := stanzaUnlikeRow.holds Try.pinned (OpenSpec.ofChange stanzaUnlikeSpec)

/-- ITS FALSE NEIGHBOUR: 'it returns false'. Refute it at one input. -/
def stanzaUnlikeWrong : ChangeSpec := { name := "stanzaUnlike", fn := fun _ => fun
  | [d1, d2] => { results := [.lit (.bool false)], args := [d1, d2] }
  | _ => none }
def StanzaUnlikeWrongFalsely : Prop := stanzaUnlikeRow.holds Try.pinned (OpenSpec.ofChange stanzaUnlikeWrong)

/-- 'callboylaw26.SnapWhole': WHATEVER THE INPUT: true; the input reads as it did. -/
def snapWholeSpec : ChangeSpec := { name := "snapWhole", fn := fun _ => fun
  | [d1, d2] => { results := [.lit (.bool true)], args := [d1, d2] }
  | _ => none }
def snapWholeRow : OpenClaim := { program := "ytljeinlapkgjeaa", sum := "bc0cab79d48516e5fdf66fa1c240c86ddb4946b0e90ecbb28d9b764f88d2b5f8", func := "callboy/callboylaw26.SnapWhole", spec := "snapWhole", inPlace := ["internal/bytealg.IndexByteString", "internal/bytealg.IndexString", "internal/bytealg.abigen_runtime_cmpstring"], unfollowed := true, recurses := true, named := ["internal/bytealg.MaxLen"], apart := false }
def SnapWholeSaid : Prop := snapWholeRow.holds Try.pinned (OpenSpec.ofChange snapWholeSpec)

/-- ITS FALSE NEIGHBOUR: 'it returns false'. Refute it at one input. -/
def snapWholeWrong : ChangeSpec := { name := "snapWhole", fn := fun _ => fun
  | [d1, d2] => { results := [.lit (.bool false)], args := [d1, d2] }
  | _ => none }
def SnapWholeWrongFalsely : Prop := snapWholeRow.holds Try.pinned (OpenSpec.ofChange snapWholeWrong)

/-- 'callboylaw24.BookKeeps': WHATEVER THE INPUT: true; the input reads as it did. -/
def bookKeepsSpec : ChangeSpec := { name := "bookKeeps", fn := fun _ => fun
  | [d] => { results := [.lit (.bool true)], args := [d] }
  | _ => none }
def bookKeepsRow : OpenClaim := { program := "ytljeinlapkgjeaa", sum := "bc0cab79d48516e5fdf66fa1c240c86ddb4946b0e90ecbb28d9b764f88d2b5f8", func := "callboy/callboylaw24.BookKeeps", spec := "bookKeeps", inPlace := ["internal/bytealg.IndexByteString", "internal/bytealg.IndexString", "internal/bytealg.abigen_runtime_cmpstring"], unfollowed := true, recurses := true, named := ["internal/bytealg.MaxLen"], apart := false }
def BookKeepsSaid : Prop := bookKeepsRow.holds Try.pinned (OpenSpec.ofChange bookKeepsSpec)

/-- ITS FALSE NEIGHBOUR: 'it returns false'. Refute it at one input. -/
def bookKeepsWrong : ChangeSpec := { name := "bookKeeps", fn := fun _ => fun
  | [d] => { results := [.lit (.bool false)], args := [d] }
  | _ => none }
def BookKeepsWrongFalsely : Prop := bookKeepsRow.holds Try.pinned (OpenSpec.ofChange bookKeepsWrong)

/-- 'callboylaw24.BookNext': WHATEVER THE INPUT: true; the input reads as it did. -/
def bookNextSpec : ChangeSpec := { name := "bookNext", fn := fun _ => fun
  | [d] => { results := [.lit (.bool true)], args := [d] }
  | _ => none }
def bookNextRow : OpenClaim := { program := "ytljeinlapkgjeaa", sum := "bc0cab79d48516e5fdf66fa1c240c86ddb4946b0e90ecbb28d9b764f88d2b5f8", func := "callboy/callboylaw24.BookNext", spec := "bookNext", inPlace := ["internal/bytealg.IndexByteString", "internal/bytealg.IndexString", "internal/bytealg.abigen_runtime_cmpstring"], unfollowed := true, recurses := true, named := ["internal/bytealg.MaxLen"], apart := false }
def BookNextSaid : Prop := bookNextRow.holds Try.pinned (OpenSpec.ofChange bookNextSpec)

/-- ITS FALSE NEIGHBOUR: 'it returns false'. Refute it at one input. -/
def bookNextWrong : ChangeSpec := { name := "bookNext", fn := fun _ => fun
  | [d] => { results := [.lit (.bool false)], args := [d] }
  | _ => none }
def BookNextWrongFalsely : Prop := bookNextRow.holds Try.pinned (OpenSpec.ofChange bookNextWrong)

/- THE SECOND FORM. 'bulk': how many values and letters a reading holds, each counted each time it is reached (what is shared counts as often as it is met; a slice's spare places count too). A statement '..UptoSaid' is the law's where the arguments, and the package variables that the reading takes, are together of bulk at most 1048576: NARROWER than '..Said'. Prove '..Said' where nothing that the law and all that it calls make is longer than what came in: it says more and counts as full. Else prove '..UptoSaid'. A law counts once. -/
mutual
def uptoBulk {H : Type} : DataW H → Nat
  | .lit (.string bytes) => bytes.length + 1
  | .lit _ => 1
  | .nil => 1
  | .ptr d => uptoBulk d + 1
  | .slice elems spare => uptoBulkAll elems + uptoBulkAll spare + 1
  | .agg parts => uptoBulkAll parts + 1
  | .iface _ d => uptoBulk d + 1
  | .map entries => uptoBulkEntries entries + 1
  | .held _ => 1
def uptoBulkAll {H : Type} : List (DataW H) → Nat
  | [] => 0
  | d :: r => uptoBulk d + uptoBulkAll r
def uptoBulkEntries {H : Type} : List (Lit × DataW H) → Nat
  | [] => 0
  | x :: r => uptoBulkEntry x + uptoBulkEntries r
def uptoBulkEntry {H : Type} : Lit × DataW H → Nat
  | (.string bytes, d) => bytes.length + uptoBulk d + 1
  | (_, d) => uptoBulk d + 1
 end
def uptoSmall : (H : Type) → List (DataW H) → Bool := fun _ ds => decide (uptoBulkAll ds ≤ 1048576)
def OpenSpec.upto (s : _root_.Go.ChangeSpec) : _root_.Go.OpenSpec := { _root_.Go.OpenSpec.ofChange s with cond := some uptoSmall }

/-- 'callboylaw23.PresTells', WHERE WHAT IT READS IS OF BULK AT MOST 1048576: true; the input reads as it did. -/
def presTellsUptoRow : OpenClaim := { program := "ytljeinlapkgjeaa", sum := "bc0cab79d48516e5fdf66fa1c240c86ddb4946b0e90ecbb28d9b764f88d2b5f8", func := "callboy/callboylaw23.PresTells", spec := "presTells", inPlace := ["internal/bytealg.IndexByteString", "internal/bytealg.IndexString"], unfollowed := true, recurses := true, named := ["internal/bytealg.MaxLen"], apart := false, narrowed := true }
def PresTellsUptoSaid : Prop := presTellsUptoRow.holds Try.pinned (OpenSpec.upto presTellsSpec)

/-- 'callboylaw23.PresSays', WHERE WHAT IT READS IS OF BULK AT MOST 1048576: true; the input reads as it did. -/
def presSaysUptoRow : OpenClaim := { program := "ytljeinlapkgjeaa", sum := "bc0cab79d48516e5fdf66fa1c240c86ddb4946b0e90ecbb28d9b764f88d2b5f8", func := "callboy/callboylaw23.PresSays", spec := "presSays", inPlace := ["internal/bytealg.IndexByteString", "internal/bytealg.IndexString"], unfollowed := true, recurses := true, named := ["internal/bytealg.MaxLen"], apart := false, narrowed := true }
def PresSaysUptoSaid : Prop := presSaysUptoRow.holds Try.pinned (OpenSpec.upto presSaysSpec)

/-- 'callboylaw23.PresBack', WHERE WHAT IT READS IS OF BULK AT MOST 1048576: true; the input reads as it did. -/
def presBackUptoRow : OpenClaim := { program := "ytljeinlapkgjeaa", sum := "bc0cab79d48516e5fdf66fa1c240c86ddb4946b0e90ecbb28d9b764f88d2b5f8", func := "callboy/callboylaw23.PresBack", spec := "presBack", inPlace := ["internal/bytealg.IndexByteString", "internal/bytealg.IndexString"], unfollowed := true, recurses := true, named := ["internal/bytealg.MaxLen"], apart := false, narrowed := true }
def PresBackUptoSaid : Prop := presBackUptoRow.holds Try.pinned (OpenSpec.upto presBackSpec)

/-- 'callboylaw23.PresOrder', WHERE WHAT IT READS IS OF BULK AT MOST 1048576: true; the input reads as it did. -/
def presOrderUptoRow : OpenClaim := { program := "ytljeinlapkgjeaa", sum := "bc0cab79d48516e5fdf66fa1c240c86ddb4946b0e90ecbb28d9b764f88d2b5f8", func := "callboy/callboylaw23.PresOrder", spec := "presOrder", inPlace := ["internal/bytealg.IndexByteString", "internal/bytealg.IndexString"], unfollowed := true, recurses := true, named := ["internal/bytealg.MaxLen"], apart := false, narrowed := true }
def PresOrderUptoSaid : Prop := presOrderUptoRow.holds Try.pinned (OpenSpec.upto presOrderSpec)

/-- 'callboylaw10.StanzaBack', WHERE WHAT IT READS IS OF BULK AT MOST 1048576: true; the input reads as it did. -/
def stanzaBackUptoRow : OpenClaim := { program := "ytljeinlapkgjeaa", sum := "bc0cab79d48516e5fdf66fa1c240c86ddb4946b0e90ecbb28d9b764f88d2b5f8", func := "callboy/callboylaw10.StanzaBack", spec := "stanzaBack", inPlace := ["internal/bytealg.IndexByteString", "internal/bytealg.IndexString"], unfollowed := true, recurses := true, named := ["internal/bytealg.MaxLen"], apart := false, narrowed := true }
def StanzaBackUptoSaid : Prop := stanzaBackUptoRow.holds Try.pinned (OpenSpec.upto stanzaBackSpec)

/-- 'callboylaw10.StanzaUnlike', WHERE WHAT IT READS IS OF BULK AT MOST 1048576: true; the input reads as it did. -/
def stanzaUnlikeUptoRow : OpenClaim := { program := "ytljeinlapkgjeaa", sum := "bc0cab79d48516e5fdf66fa1c240c86ddb4946b0e90ecbb28d9b764f88d2b5f8", func := "callboy/callboylaw10.StanzaUnlike", spec := "stanzaUnlike", inPlace := ["internal/bytealg.IndexByteString", "internal/bytealg.IndexString"], unfollowed := true, recurses := true, named := ["internal/bytealg.MaxLen"], apart := false, narrowed := true }
def StanzaUnlikeUptoSaid : Prop := stanzaUnlikeUptoRow.holds Try.pinned (OpenSpec.upto stanzaUnlikeSpec)

/-- 'callboylaw26.SnapWhole', WHERE WHAT IT READS IS OF BULK AT MOST 1048576: true; the input reads as it did. -/
def snapWholeUptoRow : OpenClaim := { program := "ytljeinlapkgjeaa", sum := "bc0cab79d48516e5fdf66fa1c240c86ddb4946b0e90ecbb28d9b764f88d2b5f8", func := "callboy/callboylaw26.SnapWhole", spec := "snapWhole", inPlace := ["internal/bytealg.IndexByteString", "internal/bytealg.IndexString", "internal/bytealg.abigen_runtime_cmpstring"], unfollowed := true, recurses := true, named := ["internal/bytealg.MaxLen"], apart := false, narrowed := true }
def SnapWholeUptoSaid : Prop := snapWholeUptoRow.holds Try.pinned (OpenSpec.upto snapWholeSpec)

/-- 'callboylaw24.BookKeeps', WHERE WHAT IT READS IS OF BULK AT MOST 1048576: true; the input reads as it did. -/
def bookKeepsUptoRow : OpenClaim := { program := "ytljeinlapkgjeaa", sum := "bc0cab79d48516e5fdf66fa1c240c86ddb4946b0e90ecbb28d9b764f88d2b5f8", func := "callboy/callboylaw24.BookKeeps", spec := "bookKeeps", inPlace := ["internal/bytealg.IndexByteString", "internal/bytealg.IndexString", "internal/bytealg.abigen_runtime_cmpstring"], unfollowed := true, recurses := true, named := ["internal/bytealg.MaxLen"], apart := false, narrowed := true }
def BookKeepsUptoSaid : Prop := bookKeepsUptoRow.holds Try.pinned (OpenSpec.upto bookKeepsSpec)

/-- 'callboylaw24.BookNext', WHERE WHAT IT READS IS OF BULK AT MOST 1048576: true; the input reads as it did. -/
def bookNextUptoRow : OpenClaim := { program := "ytljeinlapkgjeaa", sum := "bc0cab79d48516e5fdf66fa1c240c86ddb4946b0e90ecbb28d9b764f88d2b5f8", func := "callboy/callboylaw24.BookNext", spec := "bookNext", inPlace := ["internal/bytealg.IndexByteString", "internal/bytealg.IndexString", "internal/bytealg.abigen_runtime_cmpstring"], unfollowed := true, recurses := true, named := ["internal/bytealg.MaxLen"], apart := false, narrowed := true }
def BookNextUptoSaid : Prop := bookNextUptoRow.holds Try.pinned (OpenSpec.upto bookNextSpec)

end Rows
end Go.Proofs.Ytljeinlapkgjeaa
