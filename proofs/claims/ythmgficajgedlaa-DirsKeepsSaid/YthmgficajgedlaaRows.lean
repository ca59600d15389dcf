/-
  No cell of these rows narrows 'for every input' (looked for: loops, veiled, ifaces, maps, wideKeys, modest, calm, conditions, laid).
  DERIVED. THE GIVEN ROWS OF THIS SEAT. 8 by the template 'for every input the law returns true; each argument reads behind the call as it read before'; 0 by the template 'total and deterministic' (their statements: YthmgficajgedlaaTotals.lean).
  GIVEN WITH THE SEED: the statements are not yours to turn. If you find one false, say at which input.
  Laid BY PROGRAM, IN A SANDBOX (cutbox-rows.mjs): the forced cells as the released guide's own fill.sh prints them over the translation 1ab98f19a1d65bfb… (all of the seat's roots in one cut). By AI agents, Wed Nov 11 2026. No macro, syntax, notation, axiom, sorry.
-/
import Derived.Test.YthmgficajgedlaaChecked
import GoSem.Claim
import GoSem.ClaimJoined
import GoSem.ClaimMapViews
import Derived.JoinedTies
import Derived.KernelRfl
namespace Go.Proofs.Ythmgficajgedlaa
/- THE CELL 'sum', in the pinned program and in every row, IS THE sha256 OF THE DUMP (.gsa) THAT YthmgficajgedlaaProg.lean LOADS. Nothing in Lean hashes anything: it is a label: what it is worth is what the hold of that sum in a sandbox is worth. -/
noncomputable def Try.pinned : Pinned := { name := "ythmgficajgedlaa", sum := "1ab98f19a1d65bfb9cb5ff7d33a22a852c4d2709c5d97f8571df7d6f71a24c16", checked := Try.checked }
namespace Rows
def none {H : Type} : Left H := { results := [], args := [] }

/-- 'callboylaw26.SnapWhole': WHATEVER THE INPUT: true; the input reads as it did. -/
def snapWholeSpec : ChangeSpec := { name := "snapWhole", fn := fun _ => fun
  | [d1, d2] => { results := [.lit (.bool true)], args := [d1, d2] }
  | _ => none }
def snapWholeRow : OpenClaim := { program := "ythmgficajgedlaa", sum := "1ab98f19a1d65bfb9cb5ff7d33a22a852c4d2709c5d97f8571df7d6f71a24c16", func := "callboy/callboylaw26.SnapWhole", spec := "snapWhole", inPlace := ["internal/bytealg.IndexByteString", "internal/bytealg.IndexString", "internal/bytealg.abigen_runtime_cmpstring"], unfollowed := true, recurses := true, named := ["internal/bytealg.MaxLen"], apart := false }
def SnapWholeSaid : Prop := snapWholeRow.holds Try.pinned (OpenSpec.ofChange snapWholeSpec)

/-- ITS FALSE NEIGHBOUR: 'it returns false'. Refute it at one input. -/
def snapWholeWrong : ChangeSpec := { name := "snapWhole", fn := fun _ => fun
  | [d1, d2] => { results := [.lit (.bool false)], args := [d1, d2] }
  | _ => none }
def SnapWholeWrongFalsely : Prop := snapWholeRow.holds Try.pinned (OpenSpec.ofChange snapWholeWrong)

/-- 'callboylaw26.SnapTurns': WHATEVER THE INPUT: true; the input reads as it did. -/
def snapTurnsSpec : ChangeSpec := { name := "snapTurns", fn := fun _ => fun
  | [d1, d2] => { results := [.lit (.bool true)], args := [d1, d2] }
  | _ => none }
def snapTurnsRow : OpenClaim := { program := "ythmgficajgedlaa", sum := "1ab98f19a1d65bfb9cb5ff7d33a22a852c4d2709c5d97f8571df7d6f71a24c16", func := "callboy/callboylaw26.SnapTurns", spec := "snapTurns", inPlace := ["internal/bytealg.IndexByteString", "internal/bytealg.IndexString", "internal/bytealg.abigen_runtime_cmpstring"], unfollowed := true, recurses := true, named := ["internal/bytealg.MaxLen"], apart := false }
def SnapTurnsSaid : Prop := snapTurnsRow.holds Try.pinned (OpenSpec.ofChange snapTurnsSpec)

/-- ITS FALSE NEIGHBOUR: 'it returns false'. Refute it at one input. -/
def snapTurnsWrong : ChangeSpec := { name := "snapTurns", fn := fun _ => fun
  | [d1, d2] => { results := [.lit (.bool false)], args := [d1, d2] }
  | _ => none }
def SnapTurnsWrongFalsely : Prop := snapTurnsRow.holds Try.pinned (OpenSpec.ofChange snapTurnsWrong)

/-- 'callboylaw29.DirsTells': WHATEVER THE INPUT: true; the input reads as it did. -/
def dirsTellsSpec : ChangeSpec := { name := "dirsTells", fn := fun _ => fun
  | [d1, d2, d3] => { results := [.lit (.bool true)], args := [d1, d2, d3] }
  | _ => none }
def dirsTellsRow : OpenClaim := { program := "ythmgficajgedlaa", sum := "1ab98f19a1d65bfb9cb5ff7d33a22a852c4d2709c5d97f8571df7d6f71a24c16", func := "callboy/callboylaw29.DirsTells", spec := "dirsTells", inPlace := ["internal/bytealg.IndexByteString", "internal/bytealg.IndexString", "internal/bytealg.abigen_runtime_cmpstring", "slices.overlaps[callboy/dirs.Arrow]"], unfollowed := true, recurses := true, named := ["internal/bytealg.MaxLen"], apart := false }
def DirsTellsSaid : Prop := dirsTellsRow.holds Try.pinned (OpenSpec.ofChange dirsTellsSpec)

/-- ITS FALSE NEIGHBOUR: 'it returns false'. Refute it at one input. -/
def dirsTellsWrong : ChangeSpec := { name := "dirsTells", fn := fun _ => fun
  | [d1, d2, d3] => { results := [.lit (.bool false)], args := [d1, d2, d3] }
  | _ => none }
def DirsTellsWrongFalsely : Prop := dirsTellsRow.holds Try.pinned (OpenSpec.ofChange dirsTellsWrong)

/-- 'callboylaw29.DirsKeeps': WHATEVER THE INPUT: true; the input reads as it did. -/
def dirsKeepsSpec : ChangeSpec := { name := "dirsKeeps", fn := fun _ => fun
  | [d] => { results := [.lit (.bool true)], args := [d] }
  | _ => none }
def dirsKeepsRow : OpenClaim := { program := "ythmgficajgedlaa", sum := "1ab98f19a1d65bfb9cb5ff7d33a22a852c4d2709c5d97f8571df7d6f71a24c16", func := "callboy/callboylaw29.DirsKeeps", spec := "dirsKeeps", inPlace := ["internal/bytealg.IndexByteString", "internal/bytealg.IndexString", "internal/bytealg.abigen_runtime_cmpstring", "slices.overlaps[callboy/dirs.Arrow]"], unfollowed := true, recurses := true, named := ["internal/bytealg.MaxLen"], apart := false }
def DirsKeepsSaid : Prop := dirsKeepsRow.holds Try.pinned (OpenSpec.ofChange dirsKeepsSpec)

/-- ITS FALSE NEIGHBOUR: 'it returns false'. Refute it at one input. -/
def dirsKeepsWrong : ChangeSpec := { name := "dirsKeeps", fn := fun _ => fun
  | [d] => { results := [.lit (.bool false)], args := [d] }
  | _ => none }
def DirsKeepsWrongFalsely : Prop := dirsKeepsRow.holds Try.pinned (OpenSpec.ofChange dirsKeepsWrong)

/-- 'callboylaw29.DirsBack': WHATEVER THE INPUT: true; the input reads as it did. -/
def dirsBackSpec : ChangeSpec := { name := "dirsBack", fn := fun _ => fun
  | [d1, d2, d3] => { results := [.lit (.bool true)], args := [d1, d2, d3] }
  | _ => none }
def dirsBackRow : OpenClaim := { program := "ythmgficajgedlaa", sum := "1ab98f19a1d65bfb9cb5ff7d33a22a852c4d2709c5d97f8571df7d6f71a24c16", func := "callboy/callboylaw29.DirsBack", spec := "dirsBack", inPlace := ["internal/bytealg.IndexByteString", "internal/bytealg.IndexString", "internal/bytealg.abigen_runtime_cmpstring", "slices.overlaps[callboy/dirs.Arrow]"], unfollowed := true, recurses := true, named := ["internal/bytealg.MaxLen"], apart := false }
def DirsBackSaid : Prop := dirsBackRow.holds Try.pinned (OpenSpec.ofChange dirsBackSpec)

/-- ITS FALSE NEIGHBOUR: 'it returns false'. Refute it at one input. -/
def dirsBackWrong : ChangeSpec := { name := "dirsBack", fn := fun _ => fun
  | [d1, d2, d3] => { results := [.lit (.bool false)], args := [d1, d2, d3] }
  | _ => none }
def DirsBackWrongFalsely : Prop := dirsBackRow.holds Try.pinned (OpenSpec.ofChange dirsBackWrong)

/-- 'callboylaw25.MailLast': WHATEVER THE INPUT: true; the input reads as it did. -/
def mailLastSpec : ChangeSpec := { name := "mailLast", fn := fun _ => fun
  | [d] => { results := [.lit (.bool true)], args := [d] }
  | _ => none }
def mailLastRow : OpenClaim := { program := "ythmgficajgedlaa", sum := "1ab98f19a1d65bfb9cb5ff7d33a22a852c4d2709c5d97f8571df7d6f71a24c16", func := "callboy/callboylaw25.MailLast", spec := "mailLast", inPlace := ["internal/bytealg.IndexByteString", "internal/bytealg.IndexString", "slices.overlaps[callboy/mail.Entry]"], unfollowed := true, recurses := true, named := ["internal/bytealg.MaxLen"], apart := false }
def MailLastSaid : Prop := mailLastRow.holds Try.pinned (OpenSpec.ofChange mailLastSpec)

/-- ITS FALSE NEIGHBOUR: 'it returns false'. Refute it at one input. -/
def mailLastWrong : ChangeSpec := { name := "mailLast", fn := fun _ => fun
  | [d] => { results := [.lit (.bool false)], args := [d] }
  | _ => none }
def MailLastWrongFalsely : Prop := mailLastRow.holds Try.pinned (OpenSpec.ofChange mailLastWrong)

/-- 'callboylaw25.MailFirst': WHATEVER THE INPUT: true; the input reads as it did. -/
def mailFirstSpec : ChangeSpec := { name := "mailFirst", fn := fun _ => fun
  | [d] => { results := [.lit (.bool true)], args := [d] }
  | _ => none }
def mailFirstRow : OpenClaim := { program := "ythmgficajgedlaa", sum := "1ab98f19a1d65bfb9cb5ff7d33a22a852c4d2709c5d97f8571df7d6f71a24c16", func := "callboy/callboylaw25.MailFirst", spec := "mailFirst", inPlace := ["internal/bytealg.IndexByteString", "internal/bytealg.IndexString", "slices.overlaps[callboy/mail.Entry]"], unfollowed := true, recurses := true, named := ["internal/bytealg.MaxLen"], apart := false }
def MailFirstSaid : Prop := mailFirstRow.holds Try.pinned (OpenSpec.ofChange mailFirstSpec)

/-- ITS FALSE NEIGHBOUR: 'it returns false'. Refute it at one input. -/
def mailFirstWrong : ChangeSpec := { name := "mailFirst", fn := fun _ => fun
  | [d] => { results := [.lit (.bool false)], args := [d] }
  | _ => none }
def MailFirstWrongFalsely : Prop := mailFirstRow.holds Try.pinned (OpenSpec.ofChange mailFirstWrong)

/-- 'callboylaw21.RosterSees': WHATEVER THE INPUT: true; the input reads as it did. -/
def rosterSeesSpec : ChangeSpec := { name := "rosterSees", fn := fun _ => fun
  | [d] => { results := [.lit (.bool true)], args := [d] }
  | _ => none }
def rosterSeesRow : OpenClaim := { program := "ythmgficajgedlaa", sum := "1ab98f19a1d65bfb9cb5ff7d33a22a852c4d2709c5d97f8571df7d6f71a24c16", func := "callboy/callboylaw21.RosterSees", spec := "rosterSees", inPlace := ["internal/bytealg.IndexByteString", "internal/bytealg.IndexString", "internal/bytealg.abigen_runtime_cmpstring", "slices.overlaps[callboy/item.Item]"], unfollowed := true, recurses := true, named := ["internal/bytealg.MaxLen"], apart := false }
def RosterSeesSaid : Prop := rosterSeesRow.holds Try.pinned (OpenSpec.ofChange rosterSeesSpec)

/-- ITS FALSE NEIGHBOUR: 'it returns false'. Refute it at one input. -/
def rosterSeesWrong : ChangeSpec := { name := "rosterSees", fn := fun _ => fun
  | [d] => { results := [.lit (.bool false)], args := [d] }
  | _ => none }
def RosterSeesWrongFalsely : Prop := rosterSeesRow.holds Try.pinned (OpenSpec.ofChange rosterSeesWrong)

/- THE SECOND FORM. 'bulk': how many values and letters a reading holds, each counted each time it is reached (what is shared counts as often as it is met; a slice's spare places count too). A statement '..UptoSaid' is the law's where the arguments, and the package variables that the reading takes, are together of bulk at most 1048576: NARROWER than '..Said'. Prove '..Said' where nothing that the law and all that it calls make is longer than what came in: it says more and counts as full. Else prove '..UptoSaid'. A law counts once. -/
mutual
def uptoBulk {H : Type} : DataW H → Nat
  | .lit (.string bytes) => bytes.length + 1
  | .lit _ => 1
  | .nil => 1
  | .ptr d => uptoBulk d + 1
  | .slice elems spare => uptoBulkAll elems + uptoBulkAll spare + 1
  | .agg parts => uptoBulkAll parts + 1
  | .iface _ d => uptoBulk d + 1
  | .map entries => uptoBulkEntries entries + 1
  | .held _ => 1
def uptoBulkAll {H : Type} : List (DataW H) → Nat
  | [] => 0
  | d :: r => uptoBulk d + uptoBulkAll r
def uptoBulkEntries {H : Type} : List (Lit × DataW H) → Nat
  | [] => 0
  | x :: r => uptoBulkEntry x + uptoBulkEntries r
def uptoBulkEntry {H : Type} : Lit × DataW H → Nat
  | (.string bytes, d) => bytes.length + uptoBulk d + 1
  | (_, d) => uptoBulk d + 1
 end
def uptoSmall : (H : Type) → List (DataW H) → Bool := fun _ ds => decide (uptoBulkAll ds ≤ 1048576)
def OpenSpec.upto (s : _root_.Go.ChangeSpec) : _root_.Go.OpenSpec := { _root_.Go.OpenSpec.ofChange s with cond := some uptoSmall }

/-- 'callboylaw26.SnapWhole', WHERE WHAT IT READS IS OF BULK AT MOST 1048576: true; the input reads as it did. -/
def snapWholeUptoRow : OpenClaim := { program := "ythmgficajgedlaa", sum := "1ab98f19a1d65bfb9cb5ff7d33a22a852c4d2709c5d97f8571df7d6f71a24c16", func := "callboy/callboylaw26.SnapWhole", spec := "snapWhole", inPlace := ["internal/bytealg.IndexByteString", "internal/bytealg.IndexString", "internal/bytealg.abigen_runtime_cmpstring"], unfollowed := true, recurses := true, named := ["internal/bytealg.MaxLen"], apart := false, narrowed := true }
def SnapWholeUptoSaid : Prop := snapWholeUptoRow.holds Try.pinned (OpenSpec.upto snapWholeSpec)

/-- 'callboylaw26.SnapTurns', WHERE WHAT IT READS IS OF BULK AT MOST 1048576: true; the input reads as it did. -/
def snapTurnsUptoRow : OpenClaim := { program := "ythmgficajgedlaa", sum := "1ab98f19a1d65bfb9cb5ff7d33a22a852c4d2709c5d97f8571df7d6f71a24c16", func := "callboy/callboylaw26.SnapTurns", spec := "snapTurns", inPlace := ["internal/bytealg.IndexByteString", "internal/bytealg.IndexString", "internal/bytealg.abigen_runtime_cmpstring"], unfollowed := true, recurses := true, named := ["internal/bytealg.MaxLen"], apart := false, narrowed := true }
def SnapTurnsUptoSaid : Prop := snapTurnsUptoRow.holds Try.pinned (OpenSpec.upto snapTurnsSpec)

/-- 'callboylaw29.DirsTells', WHERE WHAT IT READS IS OF BULK AT MOST 1048576: true; the input reads as it did. -/
def dirsTellsUptoRow : OpenClaim := { program := "ythmgficajgedlaa", sum := "1ab98f19a1d65bfb9cb5ff7d33a22a852c4d2709c5d97f8571df7d6f71a24c16", func := "callboy/callboylaw29.DirsTells", spec := "dirsTells", inPlace := ["internal/bytealg.IndexByteString", "internal/bytealg.IndexString", "internal/bytealg.abigen_runtime_cmpstring", "slices.overlaps[callboy/dirs.Arrow]"], unfollowed := true, recurses := true, named := ["internal/bytealg.MaxLen"], apart := false, narrowed := true }
def DirsTellsUptoSaid : Prop := dirsTellsUptoRow.holds Try.pinned (OpenSpec.upto dirsTellsSpec)

/-- 'callboylaw29.DirsKeeps', WHERE WHAT IT READS IS OF BULK AT MOST 1048576: true; the input reads as it did. -/
def dirsKeepsUptoRow : OpenClaim := { program := "ythmgficajgedlaa", sum := "1ab98f19a1d65bfb9cb5ff7d33a22a852c4d2709c5d97f8571df7d6f71a24c16", func := "callboy/callboylaw29.DirsKeeps", spec := "dirsKeeps", inPlace := ["internal/bytealg.IndexByteString", "internal/bytealg.IndexString", "internal/bytealg.abigen_runtime_cmpstring", "slices.overlaps[callboy/dirs.Arrow]"], unfollowed := true, recurses := true, named := ["internal/bytealg.MaxLen"], apart := false, narrowed := true }
def DirsKeepsUptoSaid : Prop := dirsKeepsUptoRow.holds Try.pinned (OpenSpec.upto dirsKeepsSpec)

/-- 'callboylaw29.DirsBack', WHERE WHAT IT READS IS OF BULK AT MOST 1048576: true; the input reads as it did. -/
def dirsBackUptoRow : OpenClaim := { program := "ythmgficajgedlaa", sum := "1ab98f19a1d65bfb9cb5ff7d33a22a852c4d2709c5d97f8571df7d6f71a24c16", func := "callboy/callboylaw29.DirsBack", spec := "dirsBack", inPlace := ["internal/bytealg.IndexByteString", "internal/bytealg.IndexString", "internal/bytealg.abigen_runtime_cmpstring", "slices.overlaps[callboy/dirs.Arrow]"], unfollowed := true, recurses := true, named := ["internal/bytealg.MaxLen"], apart := false, narrowed := true }
def DirsBackUptoSaid : Prop := dirsBackUptoRow.holds Try.pinned (OpenSpec.upto dirsBackSpec)

/-- 'callboylaw25.MailLast', WHERE WHAT IT READS IS OF BULK AT MOST 1048576: true; the input reads as it did. -/
def mailLastUptoRow : OpenClaim := { program := "ythmgficajgedlaa", sum := "1ab98f19a1d65bfb9cb5ff7d33a22a852c4d2709c5d97f8571df7d6f71a24c16", func := "callboy/callboylaw25.MailLast", spec := "mailLast", inPlace := ["internal/bytealg.IndexByteString", "internal/bytealg.IndexString", "slices.overlaps[callboy/mail.Entry]"], unfollowed := true, recurses := true, named := ["internal/bytealg.MaxLen"], apart := false, narrowed := true }
def MailLastUptoSaid : Prop := mailLastUptoRow.holds Try.pinned (OpenSpec.upto mailLastSpec)

/-- 'callboylaw25.MailFirst', WHERE WHAT IT READS IS OF BULK AT MOST 1048576: true; the input reads as it did. -/
def mailFirstUptoRow : OpenClaim := { program := "ythmgficajgedlaa", sum := "1ab98f19a1d65bfb9cb5ff7d33a22a852c4d2709c5d97f8571df7d6f71a24c16", func := "callboy/callboylaw25.MailFirst", spec := "mailFirst", inPlace := ["internal/bytealg.IndexByteString", "internal/bytealg.IndexString", "slices.overlaps[callboy/mail.Entry]"], unfollowed := true, recurses := true, named := ["internal/bytealg.MaxLen"], apart := false, narrowed := true }
def MailFirstUptoSaid : Prop := mailFirstUptoRow.holds Try.pinned (OpenSpec.upto mailFirstSpec)

/-- 'callboylaw21.RosterSees', WHERE WHAT IT READS IS OF BULK AT MOST 1048576: true; the input reads as it did. -/
def rosterSeesUptoRow : OpenClaim := { program := "ythmgficajgedlaa", sum := "1ab98f19a1d65bfb9cb5ff7d33a22a852c4d2709c5d97f8571df7d6f71a24c16", func := "callboy/callboylaw21.RosterSees", spec := "rosterSees", inPlace := ["internal/bytealg.IndexByteString", "internal/bytealg.IndexString", "internal/bytealg.abigen_runtime_cmpstring", "slices.overlaps[callboy/item.Item]"], unfollowed := true, recurses := true, named := ["internal/bytealg.MaxLen"], apart := false, narrowed := true }
def RosterSeesUptoSaid : Prop := rosterSeesUptoRow.holds Try.pinned (OpenSpec.upto rosterSeesSpec)

end Rows
end Go.Proofs.Ythmgficajgedlaa
