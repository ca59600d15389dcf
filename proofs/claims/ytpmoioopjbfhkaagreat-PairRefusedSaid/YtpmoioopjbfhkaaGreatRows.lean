/-
  No cell of these rows narrows 'for every input' (looked for: loops, veiled, ifaces, maps, wideKeys, modest, calm, conditions, laid).
  DERIVED. THE GIVEN ROWS OF THIS SEAT. 8 by the template 'for every input the law returns true; each argument reads behind the call as it read before'; 0 by the template 'total and deterministic' (their statements: YtpmoioopjbfhkaaGreatTotals.lean).
  GIVEN WITH THE SEED: the statements are not yours to turn. If you find one false, say at which input.
  Laid BY PROGRAM, IN A SANDBOX (cutbox-rows.mjs): the forced cells as the released guide's own fill.sh prints them over the translation cb457eb5eaf40e9b… (all of the seat's roots in one cut). By AI agents, Wed Nov 11 2026. No macro, syntax, notation, axiom, sorry.
-/
import Derived.Test.YtpmoioopjbfhkaaGreatChecked
import GoSem.Claim
import GoSem.ClaimJoined
import GoSem.ClaimMapViews
import Derived.JoinedTies
import Derived.KernelRfl
namespace Go.Proofs.YtpmoioopjbfhkaaGreat
/- THE CELL 'sum', in the pinned program and in every row, IS THE sha256 OF THE DUMP (.gsa) THAT YtpmoioopjbfhkaaGreatProg.lean LOADS. Nothing in Lean hashes anything: it is a label: what it is worth is what the hold of that sum in a sandbox is worth. -/
noncomputable def Tryz.pinned : Pinned := { name := "ytpmoioopjbfhkaagreat", sum := "cb457eb5eaf40e9b7c35163adc1d184a73b85a2676dcd2ae105cff1649ce4107", checked := Tryz.checked }
namespace Rows
def none {H : Type} : Left H := { results := [], args := [] }

/-- 'callboylaw20.ItemTells': WHATEVER THE INPUT: true; the input reads as it did. -/
def itemTellsSpec : ChangeSpec := { name := "itemTells", fn := fun _ => fun
  | [d1, d2] => { results := [.lit (.bool true)], args := [d1, d2] }
  | _ => none }
def itemTellsRow : OpenClaim := { program := "ytpmoioopjbfhkaagreat", sum := "cb457eb5eaf40e9b7c35163adc1d184a73b85a2676dcd2ae105cff1649ce4107", func := "callboy/callboylaw20.ItemTells", spec := "itemTells", inPlace := ["internal/bytealg.IndexByteString", "internal/bytealg.IndexString", "internal/bytealg.abigen_runtime_cmpstring"], unfollowed := true, recurses := true, named := ["internal/bytealg.MaxLen"], apart := false }
def ItemTellsSaid : Prop := itemTellsRow.holds Tryz.pinned (OpenSpec.ofChange itemTellsSpec)

/-- ITS FALSE NEIGHBOUR: 'it returns false'. Refute it at one input. -/
def itemTellsWrong : ChangeSpec := { name := "itemTells", fn := fun _ => fun
  | [d1, d2] => { results := [.lit (.bool false)], args := [d1, d2] }
  | _ => none }
def ItemTellsWrongFalsely : Prop := itemTellsRow.holds Tryz.pinned (OpenSpec.ofChange itemTellsWrong)

/-- 'callboylaw20.ItemReads': WHATEVER THE INPUT: true; the input reads as it did. -/
def itemReadsSpec : ChangeSpec := { name := "itemReads", fn := fun _ => fun
  | [d1, d2] => { results := [.lit (.bool true)], args := [d1, d2] }
  | _ => none }
def itemReadsRow : OpenClaim := { program := "ytpmoioopjbfhkaagreat", sum := "cb457eb5eaf40e9b7c35163adc1d184a73b85a2676dcd2ae105cff1649ce4107", func := "callboy/callboylaw20.ItemReads", spec := "itemReads", inPlace := ["internal/bytealg.IndexByteString", "internal/bytealg.IndexString", "internal/bytealg.abigen_runtime_cmpstring"], unfollowed := true, recurses := true, named := ["internal/bytealg.MaxLen"], apart := false }
def ItemReadsSaid : Prop := itemReadsRow.holds Tryz.pinned (OpenSpec.ofChange itemReadsSpec)

/-- ITS FALSE NEIGHBOUR: 'it returns false'. Refute it at one input. -/
def itemReadsWrong : ChangeSpec := { name := "itemReads", fn := fun _ => fun
  | [d1, d2] => { results := [.lit (.bool false)], args := [d1, d2] }
  | _ => none }
def ItemReadsWrongFalsely : Prop := itemReadsRow.holds Tryz.pinned (OpenSpec.ofChange itemReadsWrong)

/-- 'callboylaw21.RosterChanges': WHATEVER THE INPUT: true; the input reads as it did. -/
def rosterChangesSpec : ChangeSpec := { name := "rosterChanges", fn := fun _ => fun
  | [d1, d2] => { results := [.lit (.bool true)], args := [d1, d2] }
  | _ => none }
def rosterChangesRow : OpenClaim := { program := "ytpmoioopjbfhkaagreat", sum := "cb457eb5eaf40e9b7c35163adc1d184a73b85a2676dcd2ae105cff1649ce4107", func := "callboy/callboylaw21.RosterChanges", spec := "rosterChanges", inPlace := ["internal/bytealg.IndexByteString", "internal/bytealg.IndexString", "internal/bytealg.abigen_runtime_cmpstring", "slices.overlaps[callboy/item.Item]"], unfollowed := true, recurses := true, named := ["internal/bytealg.MaxLen"], apart := false }
def RosterChangesSaid : Prop := rosterChangesRow.holds Tryz.pinned (OpenSpec.ofChange rosterChangesSpec)

/-- ITS FALSE NEIGHBOUR: 'it returns false'. Refute it at one input. -/
def rosterChangesWrong : ChangeSpec := { name := "rosterChanges", fn := fun _ => fun
  | [d1, d2] => { results := [.lit (.bool false)], args := [d1, d2] }
  | _ => none }
def RosterChangesWrongFalsely : Prop := rosterChangesRow.holds Tryz.pinned (OpenSpec.ofChange rosterChangesWrong)

/-- 'callboylaw35.ViewRuns': WHATEVER THE INPUT: true; the input reads as it did. -/
def viewRunsSpec : ChangeSpec := { name := "viewRuns", fn := fun _ => fun
  | [d] => { results := [.lit (.bool true)], args := [d] }
  | _ => none }
def viewRunsRow : OpenClaim := { program := "ytpmoioopjbfhkaagreat", sum := "cb457eb5eaf40e9b7c35163adc1d184a73b85a2676dcd2ae105cff1649ce4107", func := "callboy/callboylaw35.ViewRuns", spec := "viewRuns", inPlace := ["internal/bytealg.abigen_runtime_cmpstring", "internal/bytealg.IndexByteString", "internal/bytealg.IndexString", "slices.overlaps[callboy/view.Row]", "slices.overlaps[string]", "slices.overlaps[callboy/view.Contact]"], unfollowed := true, recurses := true, named := ["internal/bytealg.MaxLen"], apart := false }
def ViewRunsSaid : Prop := viewRunsRow.holds Tryz.pinned (OpenSpec.ofChange viewRunsSpec)

/-- ITS FALSE NEIGHBOUR: 'it returns false'. Refute it at one input. -/
def viewRunsWrong : ChangeSpec := { name := "viewRuns", fn := fun _ => fun
  | [d] => { results := [.lit (.bool false)], args := [d] }
  | _ => none }
def ViewRunsWrongFalsely : Prop := viewRunsRow.holds Tryz.pinned (OpenSpec.ofChange viewRunsWrong)

/-- 'callboylaw22.PairSays': WHATEVER THE INPUT: true; the input reads as it did. -/
def pairSaysSpec : ChangeSpec := { name := "pairSays", fn := fun _ => fun
  | [d1, d2, d3] => { results := [.lit (.bool true)], args := [d1, d2, d3] }
  | _ => none }
def pairSaysRow : OpenClaim := { program := "ytpmoioopjbfhkaagreat", sum := "cb457eb5eaf40e9b7c35163adc1d184a73b85a2676dcd2ae105cff1649ce4107", func := "callboy/callboylaw22.PairSays", spec := "pairSays", inPlace := ["internal/bytealg.IndexByteString", "internal/bytealg.IndexString", "internal/bytealg.abigen_runtime_cmpstring", "slices.overlaps[callboy/item.Item]"], unfollowed := true, recurses := true, named := ["internal/bytealg.MaxLen"], apart := false }
def PairSaysSaid : Prop := pairSaysRow.holds Tryz.pinned (OpenSpec.ofChange pairSaysSpec)

/-- ITS FALSE NEIGHBOUR: 'it returns false'. Refute it at one input. -/
def pairSaysWrong : ChangeSpec := { name := "pairSays", fn := fun _ => fun
  | [d1, d2, d3] => { results := [.lit (.bool false)], args := [d1, d2, d3] }
  | _ => none }
def PairSaysWrongFalsely : Prop := pairSaysRow.holds Tryz.pinned (OpenSpec.ofChange pairSaysWrong)

/-- 'callboylaw22.PairRuns': WHATEVER THE INPUT: true; the input reads as it did. -/
def pairRunsSpec : ChangeSpec := { name := "pairRuns", fn := fun _ => fun
  | [d1, d2, d3] => { results := [.lit (.bool true)], args := [d1, d2, d3] }
  | _ => none }
def pairRunsRow : OpenClaim := { program := "ytpmoioopjbfhkaagreat", sum := "cb457eb5eaf40e9b7c35163adc1d184a73b85a2676dcd2ae105cff1649ce4107", func := "callboy/callboylaw22.PairRuns", spec := "pairRuns", inPlace := ["internal/bytealg.IndexByteString", "internal/bytealg.IndexString", "internal/bytealg.abigen_runtime_cmpstring", "slices.overlaps[callboy/item.Item]"], unfollowed := true, recurses := true, named := ["internal/bytealg.MaxLen"], apart := false }
def PairRunsSaid : Prop := pairRunsRow.holds Tryz.pinned (OpenSpec.ofChange pairRunsSpec)

/-- ITS FALSE NEIGHBOUR: 'it returns false'. Refute it at one input. -/
def pairRunsWrong : ChangeSpec := { name := "pairRuns", fn := fun _ => fun
  | [d1, d2, d3] => { results := [.lit (.bool false)], args := [d1, d2, d3] }
  | _ => none }
def PairRunsWrongFalsely : Prop := pairRunsRow.holds Tryz.pinned (OpenSpec.ofChange pairRunsWrong)

/-- 'callboylaw22.PairRefused': WHATEVER THE INPUT: true; the input reads as it did. -/
def pairRefusedSpec : ChangeSpec := { name := "pairRefused", fn := fun _ => fun
  | [d1, d2] => { results := [.lit (.bool true)], args := [d1, d2] }
  | _ => none }
def pairRefusedRow : OpenClaim := { program := "ytpmoioopjbfhkaagreat", sum := "cb457eb5eaf40e9b7c35163adc1d184a73b85a2676dcd2ae105cff1649ce4107", func := "callboy/callboylaw22.PairRefused", spec := "pairRefused", inPlace := ["internal/bytealg.IndexByteString", "internal/bytealg.IndexString", "internal/bytealg.abigen_runtime_cmpstring", "slices.overlaps[callboy/item.Item]"], unfollowed := true, recurses := true, named := ["internal/bytealg.MaxLen"], apart := false }
def PairRefusedSaid : Prop := pairRefusedRow.holds Tryz.pinned (OpenSpec.ofChange pairRefusedSpec)

/-- ITS FALSE NEIGHBOUR: 'it returns false'. Refute it at one input. -/
def pairRefusedWrong : ChangeSpec := { name := "pairRefused", fn := fun _ => fun
  | [d1, d2] => { results := [.lit (.bool false)], args := [d1, d2] }
  | _ => none }
def PairRefusedWrongFalsely : Prop := pairRefusedRow.holds Tryz.pinned (OpenSpec.ofChange pairRefusedWrong)

/-- 'callboylaw21.RosterReplay': WHATEVER THE INPUT: true; the input reads as it did. -/
def rosterReplaySpec : ChangeSpec := { name := "rosterReplay", fn := fun _ => fun
  | [d1, d2] => { results := [.lit (.bool true)], args := [d1, d2] }
  | _ => none }
def rosterReplayRow : OpenClaim := { program := "ytpmoioopjbfhkaagreat", sum := "cb457eb5eaf40e9b7c35163adc1d184a73b85a2676dcd2ae105cff1649ce4107", func := "callboy/callboylaw21.RosterReplay", spec := "rosterReplay", inPlace := ["internal/bytealg.IndexByteString", "internal/bytealg.IndexString", "internal/bytealg.abigen_runtime_cmpstring", "slices.overlaps[callboy/item.Item]"], unfollowed := true, recurses := true, named := ["internal/bytealg.MaxLen"], apart := false }
def RosterReplaySaid : Prop := rosterReplayRow.holds Tryz.pinned (OpenSpec.ofChange rosterReplaySpec)

/-- ITS FALSE NEIGHBOUR: 'it returns false'. Refute it at one input. -/
def rosterReplayWrong : ChangeSpec := { name := "rosterReplay", fn := fun _ => fun
  | [d1, d2] => { results := [.lit (.bool false)], args := [d1, d2] }
  | _ => none }
def RosterReplayWrongFalsely : Prop := rosterReplayRow.holds Tryz.pinned (OpenSpec.ofChange rosterReplayWrong)

/- THE SECOND FORM. 'bulk': how many values and letters a reading holds, each counted each time it is reached (what is shared counts as often as it is met; a slice's spare places count too). A statement '..UptoSaid' is the law's where the arguments, and the package variables that the reading takes, are together of bulk at most 1048576: NARROWER than '..Said'. Prove '..Said' where nothing that the law and all that it calls make is longer than what came in: it says more and counts as full. Else prove '..UptoSaid'. A law counts once. -/
mutual
def uptoBulk {H : Type} : DataW H → Nat
  | .lit (.string bytes) => bytes.length + 1
  | .lit _ => 1
  | .nil => 1
  | .ptr d => uptoBulk d + 1
  | .slice elems spare => uptoBulkAll elems + uptoBulkAll spare + 1
  | .agg parts => uptoBulkAll parts + 1
  | .iface _ d => uptoBulk d + 1
  | .map entries => uptoBulkEntries entries + 1
  | .held _ => 1
def uptoBulkAll {H : Type} : List (DataW H) → Nat
  | [] => 0
  | d :: r => uptoBulk d + uptoBulkAll r
def uptoBulkEntries {H : Type} : List (Lit × DataW H) → Nat
  | [] => 0
  | x :: r => uptoBulkEntry x + uptoBulkEntries r
def uptoBulkEntry {H : Type} : Lit × DataW H → Nat
  | (.string bytes, d) => bytes.length + uptoBulk d + 1
  | (_, d) => uptoBulk d + 1
 end
def uptoSmall : (H : Type) → List (DataW H) → Bool := fun _ ds => decide (uptoBulkAll ds ≤ 1048576)
def OpenSpec.upto (s : _root_.Go.ChangeSpec) : _root_.Go.OpenSpec := { _root_.Go.OpenSpec.ofChange s with cond := some uptoSmall }

/-- 'callboylaw20.ItemTells', WHERE WHAT IT READS IS OF BULK AT MOST 1048576: true; the input reads as it did. -/
def itemTellsUptoRow : OpenClaim := { program := "ytpmoioopjbfhkaagreat", sum := "cb457eb5eaf40e9b7c35163adc1d184a73b85a2676dcd2ae105cff1649ce4107", func := "callboy/callboylaw20.ItemTells", spec := "itemTells", inPlace := ["internal/bytealg.IndexByteString", "internal/bytealg.IndexString", "internal/bytealg.abigen_runtime_cmpstring"], unfollowed := true, recurses := true, named := ["internal/bytealg.MaxLen"], apart := false, narrowed := true }
def ItemTellsUptoSaid : Prop := itemTellsUptoRow.holds Tryz.pinned (OpenSpec.upto itemTellsSpec)

/-- 'callboylaw20.ItemReads', WHERE WHAT IT READS IS OF BULK AT MOST 1048576: true; the input reads as it did. -/
def itemReadsUptoRow : OpenClaim := { program := "ytpmoioopjbfhkaagreat", sum := "cb457eb5eaf40e9b7c35163adc1d184a73b85a2676dcd2ae105cff1649ce4107", func := "callboy/callboylaw20.ItemReads", spec := "itemReads", inPlace := ["internal/bytealg.IndexByteString", "internal/bytealg.IndexString", "internal/bytealg.abigen_runtime_cmpstring"], unfollowed := true, recurses := true, named := ["internal/bytealg.MaxLen"], apart := false, narrowed := true }
def ItemReadsUptoSaid : Prop := itemReadsUptoRow.holds Tryz.pinned (OpenSpec.upto itemReadsSpec)

/-- 'callboylaw21.RosterChanges', WHERE WHAT IT READS IS OF BULK AT MOST 1048576: true; the input reads as it did. -/
def rosterChangesUptoRow : OpenClaim := { program := "ytpmoioopjbfhkaagreat", sum := "cb457eb5eaf40e9b7c35163adc1d184a73b85a2676dcd2ae105cff1649ce4107", func := "callboy/callboylaw21.RosterChanges", spec := "rosterChanges", inPlace := ["internal/bytealg.IndexByteString", "internal/bytealg.IndexString", "internal/bytealg.abigen_runtime_cmpstring", "slices.overlaps[callboy/item.Item]"], unfollowed := true, recurses := true, named := ["internal/bytealg.MaxLen"], apart := false, narrowed := true }
def RosterChangesUptoSaid : Prop := rosterChangesUptoRow.holds Tryz.pinned (OpenSpec.upto rosterChangesSpec)

/-- 'callboylaw35.ViewRuns', WHERE WHAT IT READS IS OF BULK AT MOST 1048576: true; the input reads as it did. -/
def viewRunsUptoRow : OpenClaim := { program := "ytpmoioopjbfhkaagreat", sum := "cb457eb5eaf40e9b7c35163adc1d184a73b85a2676dcd2ae105cff1649ce4107", func := "callboy/callboylaw35.ViewRuns", spec := "viewRuns", inPlace := ["internal/bytealg.abigen_runtime_cmpstring", "internal/bytealg.IndexByteString", "internal/bytealg.IndexString", "slices.overlaps[callboy/view.Row]", "slices.overlaps[string]", "slices.overlaps[callboy/view.Contact]"], unfollowed := true, recurses := true, named := ["internal/bytealg.MaxLen"], apart := false, narrowed := true }
def ViewRunsUptoSaid : Prop := viewRunsUptoRow.holds Tryz.pinned (OpenSpec.upto viewRunsSpec)

/-- 'callboylaw22.PairSays', WHERE WHAT IT READS IS OF BULK AT MOST 1048576: true; the input reads as it did. -/
def pairSaysUptoRow : OpenClaim := { program := "ytpmoioopjbfhkaagreat", sum := "cb457eb5eaf40e9b7c35163adc1d184a73b85a2676dcd2ae105cff1649ce4107", func := "callboy/callboylaw22.PairSays", spec := "pairSays", inPlace := ["internal/bytealg.IndexByteString", "internal/bytealg.IndexString", "internal/bytealg.abigen_runtime_cmpstring", "slices.overlaps[callboy/item.Item]"], unfollowed := true, recurses := true, named := ["internal/bytealg.MaxLen"], apart := false, narrowed := true }
def PairSaysUptoSaid : Prop := pairSaysUptoRow.holds Tryz.pinned (OpenSpec.upto pairSaysSpec)

/-- 'callboylaw22.PairRuns', WHERE WHAT IT READS IS OF BULK AT MOST 1048576: true; the input reads as it did. -/
def pairRunsUptoRow : OpenClaim := { program := "ytpmoioopjbfhkaagreat", sum := "cb457eb5eaf40e9b7c35163adc1d184a73b85a2676dcd2ae105cff1649ce4107", func := "callboy/callboylaw22.PairRuns", spec := "pairRuns", inPlace := ["internal/bytealg.IndexByteString", "internal/bytealg.IndexString", "internal/bytealg.abigen_runtime_cmpstring", "slices.overlaps[callboy/item.Item]"], unfollowed := true, recurses := true, named := ["internal/bytealg.MaxLen"], apart := false, narrowed := true }
def PairRunsUptoSaid : Prop := pairRunsUptoRow.holds Tryz.pinned (OpenSpec.upto pairRunsSpec)

/-- 'callboylaw22.PairRefused', WHERE WHAT IT READS IS OF BULK AT MOST 1048576: true; the input reads as it did. -/
def pairRefusedUptoRow : OpenClaim := { program := "ytpmoioopjbfhkaagreat", sum := "cb457eb5eaf40e9b7c35163adc1d184a73b85a2676dcd2ae105cff1649ce4107", func := "callboy/callboylaw22.PairRefused", spec := "pairRefused", inPlace := ["internal/bytealg.IndexByteString", "internal/bytealg.IndexString", "internal/bytealg.abigen_runtime_cmpstring", "slices.overlaps[callboy/item.Item]"], unfollowed := true, recurses := true, named := ["internal/bytealg.MaxLen"], apart := false, narrowed := true }
def PairRefusedUptoSaid : Prop := pairRefusedUptoRow.holds Tryz.pinned (OpenSpec.upto pairRefusedSpec)

/-- 'callboylaw21.RosterReplay', WHERE WHAT IT READS IS OF BULK AT MOST 1048576: true; the input reads as it did. -/
def rosterReplayUptoRow : OpenClaim := { program := "ytpmoioopjbfhkaagreat", sum := "cb457eb5eaf40e9b7c35163adc1d184a73b85a2676dcd2ae105cff1649ce4107", func := "callboy/callboylaw21.RosterReplay", spec := "rosterReplay", inPlace := ["internal/bytealg.IndexByteString", "internal/bytealg.IndexString", "internal/bytealg.abigen_runtime_cmpstring", "slices.overlaps[callboy/item.Item]"], unfollowed := true, recurses := true, named := ["internal/bytealg.MaxLen"], apart := false, narrowed := true }
def RosterReplayUptoSaid : Prop := rosterReplayUptoRow.holds Tryz.pinned (OpenSpec.upto rosterReplaySpec)

end Rows
end Go.Proofs.YtpmoioopjbfhkaaGreat
