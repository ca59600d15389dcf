/-
  No cell of these rows narrows 'for every input' (looked for: loops, veiled, ifaces, maps, wideKeys, modest, calm, conditions, laid).
  DERIVED. THE GIVEN ROWS OF THIS SEAT. 4 by the template 'for every input the law returns true; each argument reads behind the call as it read before'; 0 by the template 'total and deterministic' (their statements: YtpmoioopjbfhkaaTotals.lean).
  GIVEN WITH THE SEED: the statements are not yours to turn. If you find one false, say at which input.
  Laid BY PROGRAM, IN A SANDBOX (cutbox-rows.mjs): the forced cells as the released guide's own fill.sh prints them over the translation ee334434baa70146… (all of the seat's roots in one cut). By AI agents, Wed Nov 11 2026. No macro, syntax, notation, axiom, sorry.
-/
import Derived.Test.YtpmoioopjbfhkaaChecked
import GoSem.Claim
import GoSem.ClaimJoined
import GoSem.ClaimMapViews
import Derived.JoinedTies
import Derived.KernelRfl
namespace Go.Proofs.Ytpmoioopjbfhkaa
/- THE CELL 'sum', in the pinned program and in every row, IS THE sha256 OF THE DUMP (.gsa) THAT YtpmoioopjbfhkaaProg.lean LOADS. Nothing in Lean hashes anything: it is a label: what it is worth is what the hold of that sum in a sandbox is worth. -/
noncomputable def Try.pinned : Pinned := { name := "ytpmoioopjbfhkaa", sum := "ee334434baa70146d6ccdb896ec8281cf2e1f73173d0bb2f82ec62bca31ad355", checked := Try.checked }
namespace Rows
def none {H : Type} : Left H := { results := [], args := [] }

/-- 'callboylaw20.ItemSorts': WHATEVER THE INPUT: true; the input reads as it did. -/
def itemSortsSpec : ChangeSpec := { name := "itemSorts", fn := fun _ => fun
  | [d] => { results := [.lit (.bool true)], args := [d] }
  | _ => none }
def itemSortsRow : OpenClaim := { program := "ytpmoioopjbfhkaa", sum := "ee334434baa70146d6ccdb896ec8281cf2e1f73173d0bb2f82ec62bca31ad355", func := "callboy/callboylaw20.ItemSorts", spec := "itemSorts", inPlace := ["internal/bytealg.IndexByteString", "internal/bytealg.IndexString", "internal/bytealg.abigen_runtime_cmpstring"], unfollowed := true, recurses := true, named := ["internal/bytealg.MaxLen"], apart := false }
def ItemSortsSaid : Prop := itemSortsRow.holds Try.pinned (OpenSpec.ofChange itemSortsSpec)

/-- ITS FALSE NEIGHBOUR: 'it returns false'. Refute it at one input. -/
def itemSortsWrong : ChangeSpec := { name := "itemSorts", fn := fun _ => fun
  | [d] => { results := [.lit (.bool false)], args := [d] }
  | _ => none }
def ItemSortsWrongFalsely : Prop := itemSortsRow.holds Try.pinned (OpenSpec.ofChange itemSortsWrong)

/-- 'callboylaw21.RosterSees': WHATEVER THE INPUT: true; the input reads as it did. -/
def rosterSeesSpec : ChangeSpec := { name := "rosterSees", fn := fun _ => fun
  | [d] => { results := [.lit (.bool true)], args := [d] }
  | _ => none }
def rosterSeesRow : OpenClaim := { program := "ytpmoioopjbfhkaa", sum := "ee334434baa70146d6ccdb896ec8281cf2e1f73173d0bb2f82ec62bca31ad355", func := "callboy/callboylaw21.RosterSees", spec := "rosterSees", inPlace := ["internal/bytealg.IndexByteString", "internal/bytealg.IndexString", "internal/bytealg.abigen_runtime_cmpstring", "slices.overlaps[callboy/item.Item]"], unfollowed := true, recurses := true, named := ["internal/bytealg.MaxLen"], apart := false }
def RosterSeesSaid : Prop := rosterSeesRow.holds Try.pinned (OpenSpec.ofChange rosterSeesSpec)

/-- ITS FALSE NEIGHBOUR: 'it returns false'. Refute it at one input. -/
def rosterSeesWrong : ChangeSpec := { name := "rosterSees", fn := fun _ => fun
  | [d] => { results := [.lit (.bool false)], args := [d] }
  | _ => none }
def RosterSeesWrongFalsely : Prop := rosterSeesRow.holds Try.pinned (OpenSpec.ofChange rosterSeesWrong)

/-- 'callboylaw20.ItemBack': WHATEVER THE INPUT: true; the input reads as it did. -/
def itemBackSpec : ChangeSpec := { name := "itemBack", fn := fun _ => fun
  | [d1, d2] => { results := [.lit (.bool true)], args := [d1, d2] }
  | _ => none }
def itemBackRow : OpenClaim := { program := "ytpmoioopjbfhkaa", sum := "ee334434baa70146d6ccdb896ec8281cf2e1f73173d0bb2f82ec62bca31ad355", func := "callboy/callboylaw20.ItemBack", spec := "itemBack", inPlace := ["internal/bytealg.IndexByteString", "internal/bytealg.IndexString", "internal/bytealg.abigen_runtime_cmpstring"], unfollowed := true, recurses := true, named := ["internal/bytealg.MaxLen"], apart := false }
def ItemBackSaid : Prop := itemBackRow.holds Try.pinned (OpenSpec.ofChange itemBackSpec)

/-- ITS FALSE NEIGHBOUR: 'it returns false'. Refute it at one input. -/
def itemBackWrong : ChangeSpec := { name := "itemBack", fn := fun _ => fun
  | [d1, d2] => { results := [.lit (.bool false)], args := [d1, d2] }
  | _ => none }
def ItemBackWrongFalsely : Prop := itemBackRow.holds Try.pinned (OpenSpec.ofChange itemBackWrong)

/-- 'callboylaw22.PairAgree': WHATEVER THE INPUT: true; the input reads as it did. -/
def pairAgreeSpec : ChangeSpec := { name := "pairAgree", fn := fun _ => fun
  | [d] => { results := [.lit (.bool true)], args := [d] }
  | _ => none }
def pairAgreeRow : OpenClaim := { program := "ytpmoioopjbfhkaa", sum := "ee334434baa70146d6ccdb896ec8281cf2e1f73173d0bb2f82ec62bca31ad355", func := "callboy/callboylaw22.PairAgree", spec := "pairAgree", inPlace := ["internal/bytealg.IndexByteString", "internal/bytealg.IndexString", "internal/bytealg.abigen_runtime_cmpstring", "slices.overlaps[callboy/item.Item]"], unfollowed := true, recurses := true, named := ["internal/bytealg.MaxLen"], apart := false }
def PairAgreeSaid : Prop := pairAgreeRow.holds Try.pinned (OpenSpec.ofChange pairAgreeSpec)

/-- ITS FALSE NEIGHBOUR: 'it returns false'. Refute it at one input. -/
def pairAgreeWrong : ChangeSpec := { name := "pairAgree", fn := fun _ => fun
  | [d] => { results := [.lit (.bool false)], args := [d] }
  | _ => none }
def PairAgreeWrongFalsely : Prop := pairAgreeRow.holds Try.pinned (OpenSpec.ofChange pairAgreeWrong)

/- THE SECOND FORM. 'bulk': how many values and letters a reading holds, each counted each time it is reached (what is shared counts as often as it is met; a slice's spare places count too). A statement '..UptoSaid' is the law's where the arguments, and the package variables that the reading takes, are together of bulk at most 1048576: NARROWER than '..Said'. Prove '..Said' where nothing that the law and all that it calls make is longer than what came in: it says more and counts as full. Else prove '..UptoSaid'. A law counts once. -/
mutual
def uptoBulk {H : Type} : DataW H → Nat
  | .lit (.string bytes) => bytes.length + 1
  | .lit _ => 1
  | .nil => 1
  | .ptr d => uptoBulk d + 1
  | .slice elems spare => uptoBulkAll elems + uptoBulkAll spare + 1
  | .agg parts => uptoBulkAll parts + 1
  | .iface _ d => uptoBulk d + 1
  | .map entries => uptoBulkEntries entries + 1
  | .held _ => 1
def uptoBulkAll {H : Type} : List (DataW H) → Nat
  | [] => 0
  | d :: r => uptoBulk d + uptoBulkAll r
def uptoBulkEntries {H : Type} : List (Lit × DataW H) → Nat
  | [] => 0
  | x :: r => uptoBulkEntry x + uptoBulkEntries r
def uptoBulkEntry {H : Type} : Lit × DataW H → Nat
  | (.string bytes, d) => bytes.length + uptoBulk d + 1
  | (_, d) => uptoBulk d + 1
 end
def uptoSmall : (H : Type) → List (DataW H) → Bool := fun _ ds => decide (uptoBulkAll ds ≤ 1048576)
def OpenSpec.upto (s : _root_.Go.ChangeSpec) : _root_.Go.OpenSpec := { _root_.Go.OpenSpec.ofChange s with cond := some uptoSmall }

/-- 'callboylaw20.ItemSorts', WHERE WHAT IT READS IS OF BULK AT MOST 1048576: true; the input reads as it did. -/
def itemSortsUptoRow : OpenClaim := { program := "ytpmoioopjbfhkaa", sum := "ee334434baa70146d6ccdb896ec8281cf2e1f73173d0bb2f82ec62bca31ad355", func := "callboy/callboylaw20.ItemSorts", spec := "itemSorts", inPlace := ["internal/bytealg.IndexByteString", "internal/bytealg.IndexString", "internal/bytealg.abigen_runtime_cmpstring"], unfollowed := true, recurses := true, named := ["internal/bytealg.MaxLen"], apart := false, narrowed := true }
def ItemSortsUptoSaid : Prop := itemSortsUptoRow.holds Try.pinned (OpenSpec.upto itemSortsSpec)

/-- 'callboylaw21.RosterSees', WHERE WHAT IT READS IS OF BULK AT MOST 1048576: true; the input reads as it did. -/
def rosterSeesUptoRow : OpenClaim := { program := "ytpmoioopjbfhkaa", sum := "ee334434baa70146d6ccdb896ec8281cf2e1f73173d0bb2f82ec62bca31ad355", func := "callboy/callboylaw21.RosterSees", spec := "rosterSees", inPlace := ["internal/bytealg.IndexByteString", "internal/bytealg.IndexString", "internal/bytealg.abigen_runtime_cmpstring", "slices.overlaps[callboy/item.Item]"], unfollowed := true, recurses := true, named := ["internal/bytealg.MaxLen"], apart := false, narrowed := true }
def RosterSeesUptoSaid : Prop := rosterSeesUptoRow.holds Try.pinned (OpenSpec.upto rosterSeesSpec)

/-- 'callboylaw20.ItemBack', WHERE WHAT IT READS IS OF BULK AT MOST 1048576: true; the input reads as it did. -/
def itemBackUptoRow : OpenClaim := { program := "ytpmoioopjbfhkaa", sum := "ee334434baa70146d6ccdb896ec8281cf2e1f73173d0bb2f82ec62bca31ad355", func := "callboy/callboylaw20.ItemBack", spec := "itemBack", inPlace := ["internal/bytealg.IndexByteString", "internal/bytealg.IndexString", "internal/bytealg.abigen_runtime_cmpstring"], unfollowed := true, recurses := true, named := ["internal/bytealg.MaxLen"], apart := false, narrowed := true }
def ItemBackUptoSaid : Prop := itemBackUptoRow.holds Try.pinned (OpenSpec.upto itemBackSpec)

/-- 'callboylaw22.PairAgree', WHERE WHAT IT READS IS OF BULK AT MOST 1048576: true; the input reads as it did. -/
def pairAgreeUptoRow : OpenClaim := { program := "ytpmoioopjbfhkaa", sum := "ee334434baa70146d6ccdb896ec8281cf2e1f73173d0bb2f82ec62bca31ad355", func := "callboy/callboylaw22.PairAgree", spec := "pairAgree", inPlace := ["internal/bytealg.IndexByteString", "internal/bytealg.IndexString", "internal/bytealg.abigen_runtime_cmpstring", "slices.overlaps[callboy/item.Item]"], unfollowed := true, recurses := true, named := ["internal/bytealg.MaxLen"], apart := false, narrowed := true }
def PairAgreeUptoSaid : Prop := pairAgreeUptoRow.holds Try.pinned (OpenSpec.upto pairAgreeSpec)

end Rows
end Go.Proofs.Ytpmoioopjbfhkaa
