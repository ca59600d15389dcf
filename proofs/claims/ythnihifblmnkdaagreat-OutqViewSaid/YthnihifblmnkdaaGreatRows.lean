/-
  No cell of these rows narrows 'for every input' (looked for: loops, veiled, ifaces, maps, wideKeys, modest, calm, conditions, laid).
  DERIVED. THE GIVEN ROWS OF THIS SEAT. 3 by the template 'for every input the law returns true; each argument reads behind the call as it read before'; 0 by the template 'total and deterministic' (their statements: YthnihifblmnkdaaGreatTotals.lean).
  GIVEN WITH THE SEED: the statements are not yours to turn. If you find one false, say at which input.
  Laid BY PROGRAM, IN A SANDBOX (cutbox-rows.mjs): the forced cells as the released guide's own fill.sh prints them over the translation 92c01e52bf13a69b… (all of the seat's roots in one cut). By AI agents, Wed Nov 11 2026. No macro, syntax, notation, axiom, sorry.
-/
import Derived.Test.YthnihifblmnkdaaGreatChecked
import GoSem.Claim
import GoSem.ClaimJoined
import GoSem.ClaimMapViews
import Derived.JoinedTies
import Derived.KernelRfl
namespace Go.Proofs.YthnihifblmnkdaaGreat
/- THE CELL 'sum', in the pinned program and in every row, IS THE sha256 OF THE DUMP (.gsa) THAT YthnihifblmnkdaaGreatProg.lean LOADS. Nothing in Lean hashes anything: it is a label: what it is worth is what the hold of that sum in a sandbox is worth. -/
noncomputable def Tryz.pinned : Pinned := { name := "ythnihifblmnkdaagreat", sum := "92c01e52bf13a69b2307f944d75566dfe89c6a32b4b2e4b1b1e3176cf3160769", checked := Tryz.checked }
namespace Rows
def none {H : Type} : Left H := { results := [], args := [] }

/-- 'callboylaw27.OutqChanges': WHATEVER THE INPUT: true; the input reads as it did. -/
def outqChangesSpec : ChangeSpec := { name := "outqChanges", fn := fun _ => fun
  | [d1, d2, d3] => { results := [.lit (.bool true)], args := [d1, d2, d3] }
  | _ => none }
def outqChangesRow : OpenClaim := { program := "ythnihifblmnkdaagreat", sum := "92c01e52bf13a69b2307f944d75566dfe89c6a32b4b2e4b1b1e3176cf3160769", func := "callboy/callboylaw27.OutqChanges", spec := "outqChanges", inPlace := ["internal/bytealg.IndexByteString", "internal/bytealg.IndexString", "internal/bytealg.abigen_runtime_cmpstring", "slices.overlaps[callboy/mail.Entry]"], unfollowed := true, recurses := true, named := ["internal/bytealg.MaxLen"], apart := false }
def OutqChangesSaid : Prop := outqChangesRow.holds Tryz.pinned (OpenSpec.ofChange outqChangesSpec)

/-- ITS FALSE NEIGHBOUR: 'it returns false'. Refute it at one input. -/
def outqChangesWrong : ChangeSpec := { name := "outqChanges", fn := fun _ => fun
  | [d1, d2, d3] => { results := [.lit (.bool false)], args := [d1, d2, d3] }
  | _ => none }
def OutqChangesWrongFalsely : Prop := outqChangesRow.holds Tryz.pinned (OpenSpec.ofChange outqChangesWrong)

/-- 'callboylaw27.OutqShort': WHATEVER THE INPUT: true; the input reads as it did. -/
def outqShortSpec : ChangeSpec := { name := "outqShort", fn := fun _ => fun
  | [d1, d2] => { results := [.lit (.bool true)], args := [d1, d2] }
  | _ => none }
def outqShortRow : OpenClaim := { program := "ythnihifblmnkdaagreat", sum := "92c01e52bf13a69b2307f944d75566dfe89c6a32b4b2e4b1b1e3176cf3160769", func := "callboy/callboylaw27.OutqShort", spec := "outqShort", inPlace := ["internal/bytealg.IndexByteString", "internal/bytealg.IndexString", "internal/bytealg.abigen_runtime_cmpstring", "slices.overlaps[callboy/mail.Entry]"], unfollowed := true, recurses := true, named := ["internal/bytealg.MaxLen"], apart := false }
def OutqShortSaid : Prop := outqShortRow.holds Tryz.pinned (OpenSpec.ofChange outqShortSpec)

/-- ITS FALSE NEIGHBOUR: 'it returns false'. Refute it at one input. -/
def outqShortWrong : ChangeSpec := { name := "outqShort", fn := fun _ => fun
  | [d1, d2] => { results := [.lit (.bool false)], args := [d1, d2] }
  | _ => none }
def OutqShortWrongFalsely : Prop := outqShortRow.holds Tryz.pinned (OpenSpec.ofChange outqShortWrong)

/-- 'callboylaw27.OutqView': WHATEVER THE INPUT: true; the input reads as it did. -/
def outqViewSpec : ChangeSpec := { name := "outqView", fn := fun _ => fun
  | [d1, d2] => { results := [.lit (.bool true)], args := [d1, d2] }
  | _ => none }
def outqViewRow : OpenClaim := { program := "ythnihifblmnkdaagreat", sum := "92c01e52bf13a69b2307f944d75566dfe89c6a32b4b2e4b1b1e3176cf3160769", func := "callboy/callboylaw27.OutqView", spec := "outqView", inPlace := ["internal/bytealg.IndexByteString", "internal/bytealg.IndexString", "internal/bytealg.abigen_runtime_cmpstring", "slices.overlaps[callboy/mail.Entry]"], unfollowed := true, recurses := true, named := ["internal/bytealg.MaxLen"], apart := false }
def OutqViewSaid : Prop := outqViewRow.holds Tryz.pinned (OpenSpec.ofChange outqViewSpec)

/-- ITS FALSE NEIGHBOUR: 'it returns false'. Refute it at one input. -/
def outqViewWrong : ChangeSpec := { name := "outqView", fn := fun _ => fun
  | [d1, d2] => { results := [.lit (.bool false)], args := [d1, d2] }
  | _ => none }
def OutqViewWrongFalsely : Prop := outqViewRow.holds Tryz.pinned (OpenSpec.ofChange outqViewWrong)

/- THE SECOND FORM. 'bulk': how many values and letters a reading holds, each counted each time it is reached (what is shared counts as often as it is met; a slice's spare places count too). A statement '..UptoSaid' is the law's where the arguments, and the package variables that the reading takes, are together of bulk at most 1048576: NARROWER than '..Said'. Prove '..Said' where nothing that the law and all that it calls make is longer than what came in: it says more and counts as full. Else prove '..UptoSaid'. A law counts once. -/
mutual
def uptoBulk {H : Type} : DataW H → Nat
  | .lit (.string bytes) => bytes.length + 1
  | .lit _ => 1
  | .nil => 1
  | .ptr d => uptoBulk d + 1
  | .slice elems spare => uptoBulkAll elems + uptoBulkAll spare + 1
  | .agg parts => uptoBulkAll parts + 1
  | .iface _ d => uptoBulk d + 1
  | .map entries => uptoBulkEntries entries + 1
  | .held _ => 1
def uptoBulkAll {H : Type} : List (DataW H) → Nat
  | [] => 0
  | d :: r => uptoBulk d + uptoBulkAll r
def uptoBulkEntries {H : Type} : List (Lit × DataW H) → Nat
  | [] => 0
  | x :: r => uptoBulkEntry x + uptoBulkEntries r
def uptoBulkEntry {H : Type} : Lit × DataW H → Nat
  | (.string bytes, d) => bytes.length + uptoBulk d + 1
  | (_, d) => uptoBulk d + 1
 end
def uptoSmall : (H : Type) → List (DataW H) → Bool := fun _ ds => decide (uptoBulkAll ds ≤ 1048576)
def OpenSpec.upto (s : _root_.Go.ChangeSpec) : _root_.Go.OpenSpec := { _root_.Go.OpenSpec.ofChange s with cond := some uptoSmall }

/-- 'callboylaw27.OutqChanges', WHERE WHAT IT READS IS OF BULK AT MOST 1048576: true; the input reads as it did. -/
def outqChangesUptoRow : OpenClaim := { program := "ythnihifblmnkdaagreat", sum := "92c01e52bf13a69b2307f944d75566dfe89c6a32b4b2e4b1b1e3176cf3160769", func := "callboy/callboylaw27.OutqChanges", spec := "outqChanges", inPlace := ["internal/bytealg.IndexByteString", "internal/bytealg.IndexString", "internal/bytealg.abigen_runtime_cmpstring", "slices.overlaps[callboy/mail.Entry]"], unfollowed := true, recurses := true, named := ["internal/bytealg.MaxLen"], apart := false, narrowed := true }
def OutqChangesUptoSaid : Prop := outqChangesUptoRow.holds Tryz.pinned (OpenSpec.upto outqChangesSpec)

/-- 'callboylaw27.OutqShort', WHERE WHAT IT READS IS OF BULK AT MOST 1048576: true; the input reads as it did. -/
def outqShortUptoRow : OpenClaim := { program := "ythnihifblmnkdaagreat", sum := "92c01e52bf13a69b2307f944d75566dfe89c6a32b4b2e4b1b1e3176cf3160769", func := "callboy/callboylaw27.OutqShort", spec := "outqShort", inPlace := ["internal/bytealg.IndexByteString", "internal/bytealg.IndexString", "internal/bytealg.abigen_runtime_cmpstring", "slices.overlaps[callboy/mail.Entry]"], unfollowed := true, recurses := true, named := ["internal/bytealg.MaxLen"], apart := false, narrowed := true }
def OutqShortUptoSaid : Prop := outqShortUptoRow.holds Tryz.pinned (OpenSpec.upto outqShortSpec)

/-- 'callboylaw27.OutqView', WHERE WHAT IT READS IS OF BULK AT MOST 1048576: true; the input reads as it did. -/
def outqViewUptoRow : OpenClaim := { program := "ythnihifblmnkdaagreat", sum := "92c01e52bf13a69b2307f944d75566dfe89c6a32b4b2e4b1b1e3176cf3160769", func := "callboy/callboylaw27.OutqView", spec := "outqView", inPlace := ["internal/bytealg.IndexByteString", "internal/bytealg.IndexString", "internal/bytealg.abigen_runtime_cmpstring", "slices.overlaps[callboy/mail.Entry]"], unfollowed := true, recurses := true, named := ["internal/bytealg.MaxLen"], apart := false, narrowed := true }
def OutqViewUptoSaid : Prop := outqViewUptoRow.holds Tryz.pinned (OpenSpec.upto outqViewSpec)

end Rows
end Go.Proofs.YthnihifblmnkdaaGreat
