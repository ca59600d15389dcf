/-
  No cell of these rows narrows 'for every input' (looked for: loops, veiled, ifaces, maps, wideKeys, modest, calm, conditions, laid).
  DERIVED. THE GIVEN ROWS OF THIS SEAT. 4 by the template 'for every input the law returns true; each argument reads behind the call as it read before'; 0 by the template 'total and deterministic' (their statements: YthmgficajgedlaaGreatTotals.lean).
  GIVEN WITH THE SEED: the statements are not yours to turn. If you find one false, say at which input.
  Laid BY PROGRAM, IN A SANDBOX (cutbox-rows.mjs): the forced cells as the released guide's own fill.sh prints them over the translation d9ae803f819e398e… (all of the seat's roots in one cut). By AI agents, Wed Nov 11 2026. No macro, syntax, notation, axiom, sorry.
-/
import Derived.Test.YthmgficajgedlaaGreatChecked
import GoSem.Claim
import GoSem.ClaimJoined
import GoSem.ClaimMapViews
import Derived.JoinedTies
import Derived.KernelRfl
namespace Go.Proofs.YthmgficajgedlaaGreat
/- THE CELL 'sum', in the pinned program and in every row, IS THE sha256 OF THE DUMP (.gsa) THAT YthmgficajgedlaaGreatProg.lean LOADS. Nothing in Lean hashes anything: it is a label: what it is worth is what the hold of that sum in a sandbox is worth. -/
noncomputable def Tryz.pinned : Pinned := { name := "ythmgficajgedlaagreat", sum := "d9ae803f819e398e3690d4e01f965584c877fa1682127ba86d0b10a47a3715ff", checked := Tryz.checked }
namespace Rows
def none {H : Type} : Left H := { results := [], args := [] }

/-- 'callboylaw26.SnapTells': WHATEVER THE INPUT: true; the input reads as it did. -/
def snapTellsSpec : ChangeSpec := { name := "snapTells", fn := fun _ => fun
  | [d1, d2] => { results := [.lit (.bool true)], args := [d1, d2] }
  | _ => none }
def snapTellsRow : OpenClaim := { program := "ythmgficajgedlaagreat", sum := "d9ae803f819e398e3690d4e01f965584c877fa1682127ba86d0b10a47a3715ff", func := "callboy/callboylaw26.SnapTells", spec := "snapTells", inPlace := ["internal/bytealg.IndexByteString", "internal/bytealg.IndexString", "internal/bytealg.abigen_runtime_cmpstring"], unfollowed := true, recurses := true, named := ["internal/bytealg.MaxLen"], apart := false }
def SnapTellsSaid : Prop := snapTellsRow.holds Tryz.pinned (OpenSpec.ofChange snapTellsSpec)

/-- ITS FALSE NEIGHBOUR: 'it returns false'. Refute it at one input. -/
def snapTellsWrong : ChangeSpec := { name := "snapTells", fn := fun _ => fun
  | [d1, d2] => { results := [.lit (.bool false)], args := [d1, d2] }
  | _ => none }
def SnapTellsWrongFalsely : Prop := snapTellsRow.holds Tryz.pinned (OpenSpec.ofChange snapTellsWrong)

/-- 'callboylaw29.DirsChanges': WHATEVER THE INPUT: true; the input reads as it did. -/
def dirsChangesSpec : ChangeSpec := { name := "dirsChanges", fn := fun _ => fun
  | [d1, d2, d3] => { results := [.lit (.bool true)], args := [d1, d2, d3] }
  | _ => none }
def dirsChangesRow : OpenClaim := { program := "ythmgficajgedlaagreat", sum := "d9ae803f819e398e3690d4e01f965584c877fa1682127ba86d0b10a47a3715ff", func := "callboy/callboylaw29.DirsChanges", spec := "dirsChanges", inPlace := ["internal/bytealg.IndexByteString", "internal/bytealg.IndexString", "internal/bytealg.abigen_runtime_cmpstring", "slices.overlaps[callboy/dirs.Arrow]"], unfollowed := true, recurses := true, named := ["internal/bytealg.MaxLen"], apart := false }
def DirsChangesSaid : Prop := dirsChangesRow.holds Tryz.pinned (OpenSpec.ofChange dirsChangesSpec)

/-- ITS FALSE NEIGHBOUR: 'it returns false'. Refute it at one input. -/
def dirsChangesWrong : ChangeSpec := { name := "dirsChanges", fn := fun _ => fun
  | [d1, d2, d3] => { results := [.lit (.bool false)], args := [d1, d2, d3] }
  | _ => none }
def DirsChangesWrongFalsely : Prop := dirsChangesRow.holds Tryz.pinned (OpenSpec.ofChange dirsChangesWrong)

/-- 'callboylaw20.ItemTells': WHATEVER THE INPUT: true; the input reads as it did. -/
def itemTellsSpec : ChangeSpec := { name := "itemTells", fn := fun _ => fun
  | [d1, d2] => { results := [.lit (.bool true)], args := [d1, d2] }
  | _ => none }
def itemTellsRow : OpenClaim := { program := "ythmgficajgedlaagreat", sum := "d9ae803f819e398e3690d4e01f965584c877fa1682127ba86d0b10a47a3715ff", func := "callboy/callboylaw20.ItemTells", spec := "itemTells", inPlace := ["internal/bytealg.IndexByteString", "internal/bytealg.IndexString", "internal/bytealg.abigen_runtime_cmpstring"], unfollowed := true, recurses := true, named := ["internal/bytealg.MaxLen"], apart := false }
def ItemTellsSaid : Prop := itemTellsRow.holds Tryz.pinned (OpenSpec.ofChange itemTellsSpec)

/-- ITS FALSE NEIGHBOUR: 'it returns false'. Refute it at one input. -/
def itemTellsWrong : ChangeSpec := { name := "itemTells", fn := fun _ => fun
  | [d1, d2] => { results := [.lit (.bool false)], args := [d1, d2] }
  | _ => none }
def ItemTellsWrongFalsely : Prop := itemTellsRow.holds Tryz.pinned (OpenSpec.ofChange itemTellsWrong)

/-- 'callboylaw21.RosterChanges': WHATEVER THE INPUT: true; the input reads as it did. -/
def rosterChangesSpec : ChangeSpec := { name := "rosterChanges", fn := fun _ => fun
  | [d1, d2] => { results := [.lit (.bool true)], args := [d1, d2] }
  | _ => none }
def rosterChangesRow : OpenClaim := { program := "ythmgficajgedlaagreat", sum := "d9ae803f819e398e3690d4e01f965584c877fa1682127ba86d0b10a47a3715ff", func := "callboy/callboylaw21.RosterChanges", spec := "rosterChanges", inPlace := ["internal/bytealg.IndexByteString", "internal/bytealg.IndexString", "internal/bytealg.abigen_runtime_cmpstring", "slices.overlaps[callboy/item.Item]"], unfollowed := true, recurses := true, named := ["internal/bytealg.MaxLen"], apart := false }
def RosterChangesSaid : Prop := rosterChangesRow.holds Tryz.pinned (OpenSpec.ofChange rosterChangesSpec)

/-- ITS FALSE NEIGHBOUR: 'it returns false'. Refute it at one input. -/
def rosterChangesWrong : ChangeSpec := { name := "rosterChanges", fn := fun _ => fun
  | [d1, d2] => { results := [.lit (.bool false)], args := [d1, d2] }
  | _ => none }
def RosterChangesWrongFalsely : Prop := rosterChangesRow.holds Tryz.pinned (OpenSpec.ofChange rosterChangesWrong)

/- THE SECOND FORM. 'bulk': how many values and letters a reading holds, each counted each time it is reached (what is shared counts as often as it is met; a slice's spare places count too). A statement '..UptoSaid' is the law's where the arguments, and the package variables that the reading takes, are together of bulk at most 1048576: NARROWER than '..Said'. Prove '..Said' where nothing that the law and all that it calls make is longer than what came in: it says more and counts as full. Else prove '..UptoSaid'. A law counts once. -/
mutual
def uptoBulk {H : Type} : DataW H → Nat
  | .lit (.string bytes) => bytes.length + 1
  | .lit _ => 1
  | .nil => 1
  | .ptr d => uptoBulk d + 1
  | .slice elems spare => uptoBulkAll elems + uptoBulkAll spare + 1
  | .agg parts => uptoBulkAll parts + 1
  | .iface _ d => uptoBulk d + 1
  | .map entries => uptoBulkEntries entries + 1
  | .held _ => 1
def uptoBulkAll {H : Type} : List (DataW H) → Nat
  | [] => 0
  | d :: r => uptoBulk d + uptoBulkAll r
def uptoBulkEntries {H : Type} : List (Lit × DataW H) → Nat
  | [] => 0
  | x :: r => uptoBulkEntry x + uptoBulkEntries r
def uptoBulkEntry {H : Type} : Lit × DataW H → Nat
  | (.string bytes, d) => bytes.length + uptoBulk d + 1
  | (_, d) => uptoBulk d + 1
 end
def uptoSmall : (H : Type) → List (DataW H) → Bool := fun _ ds => decide (uptoBulkAll ds ≤ 1048576)
def OpenSpec.upto (s : _root_.Go.ChangeSpec) : _root_.Go.OpenSpec := { _root_.Go.OpenSpec.ofChange s with cond := some uptoSmall }

/-- 'callboylaw26.SnapTells', WHERE WHAT IT READS IS OF BULK AT MOST 1048576: true; the input reads as it did. -/
def snapTellsUptoRow : OpenClaim := { program := "ythmgficajgedlaagreat", sum := "d9ae803f819e398e3690d4e01f965584c877fa1682127ba86d0b10a47a3715ff", func := "callboy/callboylaw26.SnapTells", spec := "snapTells", inPlace := ["internal/bytealg.IndexByteString", "internal/bytealg.IndexString", "internal/bytealg.abigen_runtime_cmpstring"], unfollowed := true, recurses := true, named := ["internal/bytealg.MaxLen"], apart := false, narrowed := true }
def SnapTellsUptoSaid : Prop := snapTellsUptoRow.holds Tryz.pinned (OpenSpec.upto snapTellsSpec)

/-- 'callboylaw29.DirsChanges', WHERE WHAT IT READS IS OF BULK AT MOST 1048576: true; the input reads as it did. -/
def dirsChangesUptoRow : OpenClaim := { program := "ythmgficajgedlaagreat", sum := "d9ae803f819e398e3690d4e01f965584c877fa1682127ba86d0b10a47a3715ff", func := "callboy/callboylaw29.DirsChanges", spec := "dirsChanges", inPlace := ["internal/bytealg.IndexByteString", "internal/bytealg.IndexString", "internal/bytealg.abigen_runtime_cmpstring", "slices.overlaps[callboy/dirs.Arrow]"], unfollowed := true, recurses := true, named := ["internal/bytealg.MaxLen"], apart := false, narrowed := true }
def DirsChangesUptoSaid : Prop := dirsChangesUptoRow.holds Tryz.pinned (OpenSpec.upto dirsChangesSpec)

/-- 'callboylaw20.ItemTells', WHERE WHAT IT READS IS OF BULK AT MOST 1048576: true; the input reads as it did. -/
def itemTellsUptoRow : OpenClaim := { program := "ythmgficajgedlaagreat", sum := "d9ae803f819e398e3690d4e01f965584c877fa1682127ba86d0b10a47a3715ff", func := "callboy/callboylaw20.ItemTells", spec := "itemTells", inPlace := ["internal/bytealg.IndexByteString", "internal/bytealg.IndexString", "internal/bytealg.abigen_runtime_cmpstring"], unfollowed := true, recurses := true, named := ["internal/bytealg.MaxLen"], apart := false, narrowed := true }
def ItemTellsUptoSaid : Prop := itemTellsUptoRow.holds Tryz.pinned (OpenSpec.upto itemTellsSpec)

/-- 'callboylaw21.RosterChanges', WHERE WHAT IT READS IS OF BULK AT MOST 1048576: true; the input reads as it did. -/
def rosterChangesUptoRow : OpenClaim := { program := "ythmgficajgedlaagreat", sum := "d9ae803f819e398e3690d4e01f965584c877fa1682127ba86d0b10a47a3715ff", func := "callboy/callboylaw21.RosterChanges", spec := "rosterChanges", inPlace := ["internal/bytealg.IndexByteString", "internal/bytealg.IndexString", "internal/bytealg.abigen_runtime_cmpstring", "slices.overlaps[callboy/item.Item]"], unfollowed := true, recurses := true, named := ["internal/bytealg.MaxLen"], apart := false, narrowed := true }
def RosterChangesUptoSaid : Prop := rosterChangesUptoRow.holds Tryz.pinned (OpenSpec.upto rosterChangesSpec)

end Rows
end Go.Proofs.YthmgficajgedlaaGreat
