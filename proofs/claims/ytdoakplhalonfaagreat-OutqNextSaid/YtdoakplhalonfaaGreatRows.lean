/-
  No cell of these rows narrows 'for every input' (looked for: loops, veiled, ifaces, maps, wideKeys, modest, calm, conditions, laid).
  DERIVED. THE GIVEN ROWS OF THIS SEAT. 4 by the template 'for every input the law returns true; each argument reads behind the call as it read before'; 0 by the template 'total and deterministic' (their statements: YtdoakplhalonfaaGreatTotals.lean).
  GIVEN WITH THE SEED: the statements are not yours to turn. If you find one false, say at which input.
  Laid BY PROGRAM, IN A SANDBOX (cutbox-rows.mjs): the forced cells as the released guide's own fill.sh prints them over the translation 96d3187a375b978f… (all of the seat's roots in one cut). By AI agents, Wed Nov 11 2026. No macro, syntax, notation, axiom, sorry.
-/
import Derived.Test.YtdoakplhalonfaaGreatChecked
import GoSem.Claim
import GoSem.ClaimJoined
import GoSem.ClaimMapViews
import Derived.JoinedTies
import Derived.KernelRfl
namespace Go.Proofs.YtdoakplhalonfaaGreat
/- THE CELL 'sum', in the pinned program and in every row, IS THE sha256 OF THE DUMP (.gsa) THAT YtdoakplhalonfaaGreatProg.lean LOADS. Nothing in Lean hashes anything: it is a label: what it is worth is what the hold of that sum in a sandbox is worth. -/
noncomputable def Tryz.pinned : Pinned := { name := "ytdoakplhalonfaagreat", sum := "96d3187a375b978fc22db78e93e693e7bd725639fbfe71e6e2f6b22ea6f080ef", checked := Tryz.checked }
namespace Rows
def none {H : Type} : Left H := { results := [], args := [] }

/-- 'callboylaw27.OutqChanges': WHATEVER THE INPUT: true; the input reads as it did. -/
def outqChangesSpec : ChangeSpec := { name := "outqChanges", fn := fun _ => fun
  | [d1, d2, d3] => { results := [.lit (.bool true)], args := [d1, d2, d3] }
  | _ => none }
def outqChangesRow : OpenClaim := { program := "ytdoakplhalonfaagreat", sum := "96d3187a375b978fc22db78e93e693e7bd725639fbfe71e6e2f6b22ea6f080ef", func := "callboy/callboylaw27.OutqChanges", spec := "outqChanges", inPlace := ["internal/bytealg.IndexByteString", "internal/bytealg.IndexString", "internal/bytealg.abigen_runtime_cmpstring", "slices.overlaps[callboy/mail.Entry]"], unfollowed := true, recurses := true, named := ["internal/bytealg.MaxLen"], apart := false }
def OutqChangesSaid : Prop := outqChangesRow.holds Tryz.pinned (OpenSpec.ofChange outqChangesSpec)

/-- ITS FALSE NEIGHBOUR: 'it returns false'. Refute it at one input. -/
def outqChangesWrong : ChangeSpec := { name := "outqChanges", fn := fun _ => fun
  | [d1, d2, d3] => { results := [.lit (.bool false)], args := [d1, d2, d3] }
  | _ => none }
def OutqChangesWrongFalsely : Prop := outqChangesRow.holds Tryz.pinned (OpenSpec.ofChange outqChangesWrong)

/-- 'callboylaw27.OutqNext': WHATEVER THE INPUT: true; the input reads as it did. -/
def outqNextSpec : ChangeSpec := { name := "outqNext", fn := fun _ => fun
  | [d1, d2, d3] => { results := [.lit (.bool true)], args := [d1, d2, d3] }
  | _ => none }
def outqNextRow : OpenClaim := { program := "ytdoakplhalonfaagreat", sum := "96d3187a375b978fc22db78e93e693e7bd725639fbfe71e6e2f6b22ea6f080ef", func := "callboy/callboylaw27.OutqNext", spec := "outqNext", inPlace := ["internal/bytealg.IndexByteString", "internal/bytealg.IndexString", "internal/bytealg.abigen_runtime_cmpstring", "slices.overlaps[callboy/mail.Entry]"], unfollowed := true, recurses := true, named := ["internal/bytealg.MaxLen"], apart := false }
def OutqNextSaid : Prop := outqNextRow.holds Tryz.pinned (OpenSpec.ofChange outqNextSpec)

/-- ITS FALSE NEIGHBOUR: 'it returns false'. Refute it at one input. -/
def outqNextWrong : ChangeSpec := { name := "outqNext", fn := fun _ => fun
  | [d1, d2, d3] => { results := [.lit (.bool false)], args := [d1, d2, d3] }
  | _ => none }
def OutqNextWrongFalsely : Prop := outqNextRow.holds Tryz.pinned (OpenSpec.ofChange outqNextWrong)

/-- 'callboylaw27.OutqShort': WHATEVER THE INPUT: true; the input reads as it did. -/
def outqShortSpec : ChangeSpec := { name := "outqShort", fn := fun _ => fun
  | [d1, d2] => { results := [.lit (.bool true)], args := [d1, d2] }
  | _ => none }
def outqShortRow : OpenClaim := { program := "ytdoakplhalonfaagreat", sum := "96d3187a375b978fc22db78e93e693e7bd725639fbfe71e6e2f6b22ea6f080ef", func := "callboy/callboylaw27.OutqShort", spec := "outqShort", inPlace := ["internal/bytealg.IndexByteString", "internal/bytealg.IndexString", "internal/bytealg.abigen_runtime_cmpstring", "slices.overlaps[callboy/mail.Entry]"], unfollowed := true, recurses := true, named := ["internal/bytealg.MaxLen"], apart := false }
def OutqShortSaid : Prop := outqShortRow.holds Tryz.pinned (OpenSpec.ofChange outqShortSpec)

/-- ITS FALSE NEIGHBOUR: 'it returns false'. Refute it at one input. -/
def outqShortWrong : ChangeSpec := { name := "outqShort", fn := fun _ => fun
  | [d1, d2] => { results := [.lit (.bool false)], args := [d1, d2] }
  | _ => none }
def OutqShortWrongFalsely : Prop := outqShortRow.holds Tryz.pinned (OpenSpec.ofChange outqShortWrong)

/-- 'callboylaw27.OutqView': WHATEVER THE INPUT: true; the input reads as it did. -/
def outqViewSpec : ChangeSpec := { name := "outqView", fn := fun _ => fun
  | [d1, d2] => { results := [.lit (.bool true)], args := [d1, d2] }
  | _ => none }
def outqViewRow : OpenClaim := { program := "ytdoakplhalonfaagreat", sum := "96d3187a375b978fc22db78e93e693e7bd725639fbfe71e6e2f6b22ea6f080ef", func := "callboy/callboylaw27.OutqView", spec := "outqView", inPlace := ["internal/bytealg.IndexByteString", "internal/bytealg.IndexString", "internal/bytealg.abigen_runtime_cmpstring", "slices.overlaps[callboy/mail.Entry]"], unfollowed := true, recurses := true, named := ["internal/bytealg.MaxLen"], apart := false }
def OutqViewSaid : Prop := outqViewRow.holds Tryz.pinned (OpenSpec.ofChange outqViewSpec)

/-- ITS FALSE NEIGHBOUR: 'it returns false'. Refute it at one input. -/
def outqViewWrong : ChangeSpec := { name := "outqView", fn := fun _ => fun
  | [d1, d2] => { results := [.lit (.bool false)], args := [d1, d2] }
  | _ => none }
def OutqViewWrongFalsely : Prop := outqViewRow.holds Tryz.pinned (OpenSpec.ofChange outqViewWrong)

/- THE SECOND FORM. 'bulk': how many values and letters a reading holds, each counted each time it is reached (what is shared counts as often as it is met; a slice's spare places count too). A statement '..UptoSaid' is the law's where the arguments, and the package variables that the reading takes, are together of bulk at most 1048576: NARROWER than '..Said'. Prove '..Said' where nothing that the law and all that it calls make is longer than what came in: it says more and counts as full. Else prove '..UptoSaid'. A law counts once. -/
mutual
def uptoBulk {H : Type} : DataW H → Nat
  | .lit (.string bytes) => bytes.length + 1
  | .lit _ => 1
  | .nil => 1
  | .ptr d => uptoBulk d + 1
  | .slice elems spare => uptoBulkAll elems + uptoBulkAll spare + 1
  | .agg parts => uptoBulkAll parts + 1
  | .iface _ d => uptoBulk d + 1
  | .map entries => uptoBulkEntries entries + 1
  | .held _ => 1
def uptoBulkAll {H : Type} : List (DataW H) → Nat
  | [] => 0
  | d :: r => uptoBulk d + uptoBulkAll r
def uptoBulkEntries {H : Type} : List (Lit × DataW H) → Nat
  | [] => 0
  | x :: r => uptoBulkEntry x + uptoBulkEntries r
def uptoBulkEntry {H : Type} : Lit × DataW H → Nat
  | (.string bytes, d) => bytes.length + uptoBulk d + 1
  | (_, d) => uptoBulk d + 1
 end
def uptoSmall : (H : Type) → List (DataW H) → Bool := fun _ ds => decide (uptoBulkAll ds ≤ 1048576)
def OpenSpec.upto (s : _root_.Go.ChangeSpec) : _root_.Go.OpenSpec := { _root_.Go.OpenSpec.ofChange s with cond := some uptoSmall }

/-- 'callboylaw27.OutqChanges', WHERE WHAT IT READS IS OF BULK AT MOST 1048576: true; the input reads as it did. -/
def outqChangesUptoRow : OpenClaim := { program := "ytdoakplhalonfaagreat", sum := "96d3187a375b978fc22db78e93e693e7bd725639fbfe71e6e2f6b22ea6f080ef", func := "callboy/callboylaw27.OutqChanges", spec := "outqChanges", inPlace := ["internal/bytealg.IndexByteString", "internal/bytealg.IndexString", "internal/bytealg.abigen_runtime_cmpstring", "slices.overlaps[callboy/mail.Entry]"], unfollowed := true, recurses := true, named := ["internal/bytealg.MaxLen"], apart := false, narrowed := true }
def OutqChangesUptoSaid : Prop := outqChangesUptoRow.holds Tryz.pinned (OpenSpec.upto outqChangesSpec)

/-- 'callboylaw27.OutqNext', WHERE WHAT IT READS IS OF BULK AT MOST 1048576: true; the input reads as it did. -/
def outqNextUptoRow : OpenClaim := { program := "ytdoakplhalonfaagreat", sum := "96d3187a375b978fc22db78e93e693e7bd725639fbfe71e6e2f6b22ea6f080ef", func := "callboy/callboylaw27.OutqNext", spec := "outqNext", inPlace := ["internal/bytealg.IndexByteString", "internal/bytealg.IndexString", "internal/bytealg.abigen_runtime_cmpstring", "slices.overlaps[callboy/mail.Entry]"], unfollowed := true, recurses := true, named := ["internal/bytealg.MaxLen"], apart := false, narrowed := true }
def OutqNextUptoSaid : Prop := outqNextUptoRow.holds Tryz.pinned (OpenSpec.upto outqNextSpec)

/-- 'callboylaw27.OutqShort', WHERE WHAT IT READS IS OF BULK AT MOST 1048576: true; the input reads as it did. -/
def outqShortUptoRow : OpenClaim := { program := "ytdoakplhalonfaagreat", sum := "96d3187a375b978fc22db78e93e693e7bd725639fbfe71e6e2f6b22ea6f080ef", func := "callboy/callboylaw27.OutqShort", spec := "outqShort", inPlace := ["internal/bytealg.IndexByteString", "internal/bytealg.IndexString", "internal/bytealg.abigen_runtime_cmpstring", "slices.overlaps[callboy/mail.Entry]"], unfollowed := true, recurses := true, named := ["internal/bytealg.MaxLen"], apart := false, narrowed := true }
def OutqShortUptoSaid : Prop := outqShortUptoRow.holds Tryz.pinned (OpenSpec.upto outqShortSpec)

/-- 'callboylaw27.OutqView', WHERE WHAT IT READS IS OF BULK AT MOST 1048576: true; the input reads as it did. -/
def outqViewUptoRow : OpenClaim := { program := "ytdoakplhalonfaagreat", sum := "96d3187a375b978fc22db78e93e693e7bd725639fbfe71e6e2f6b22ea6f080ef", func := "callboy/callboylaw27.OutqView", spec := "outqView", inPlace := ["internal/bytealg.IndexByteString", "internal/bytealg.IndexString", "internal/bytealg.abigen_runtime_cmpstring", "slices.overlaps[callboy/mail.Entry]"], unfollowed := true, recurses := true, named := ["internal/bytealg.MaxLen"], apart := false, narrowed := true }
def OutqViewUptoSaid : Prop := outqViewUptoRow.holds Tryz.pinned (OpenSpec.upto outqViewSpec)

end Rows
end Go.Proofs.YtdoakplhalonfaaGreat
