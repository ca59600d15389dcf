/-
  No cell of these rows narrows 'for every input' (looked for: loops, veiled, ifaces, maps, wideKeys, modest, calm, conditions, laid).
  DERIVED. THE GIVEN ROWS OF THIS SEAT. 4 by the template 'for every input the law returns true; each argument reads behind the call as it read before'; 0 by the template 'total and deterministic' (their statements: YtmmmcpeickfolaaTotals.lean).
  GIVEN WITH THE SEED: the statements are not yours to turn. If you find one false, say at which input.
  Laid BY PROGRAM, IN A SANDBOX (cutbox-rows.mjs): the forced cells as the released guide's own fill.sh prints them over the translation 829c52c53acf6f37… (all of the seat's roots in one cut). By AI agents, Wed Nov 11 2026. No macro, syntax, notation, axiom, sorry.
-/
import Derived.Test.YtmmmcpeickfolaaChecked
import GoSem.Claim
import GoSem.ClaimJoined
import GoSem.ClaimMapViews
import Derived.JoinedTies
import Derived.KernelRfl
namespace Go.Proofs.Ytmmmcpeickfolaa
/- THE CELL 'sum', in the pinned program and in every row, IS THE sha256 OF THE DUMP (.gsa) THAT YtmmmcpeickfolaaProg.lean LOADS. Nothing in Lean hashes anything: it is a label: what it is worth is what the hold of that sum in a sandbox is worth. -/
noncomputable def Try.pinned : Pinned := { name := "ytmmmcpeickfolaa", sum := "829c52c53acf6f37effba1b8992177dd86f13e83b517b9b6c30b1b103c2469ce", checked := Try.checked }
namespace Rows
def none {H : Type} : Left H := { results := [], args := [] }

/-- 'callboylaw12.DeframePieces': WHATEVER THE INPUT: true; the input reads as it did. -/
def deframePiecesSpec : ChangeSpec := { name := "deframePieces", fn := fun _ => fun
  | [d1, d2] => { results := [.lit (.bool true)], args := [d1, d2] }
  | _ => none }
def deframePiecesRow : OpenClaim := { program := "ytmmmcpeickfolaa", sum := "829c52c53acf6f37effba1b8992177dd86f13e83b517b9b6c30b1b103c2469ce", func := "callboy/callboylaw12.DeframePieces", spec := "deframePieces", inPlace := ["internal/bytealg.IndexByteString", "internal/bytealg.IndexString", "internal/abi.NoEscape"], unfollowed := true, recurses := true, named := ["internal/bytealg.MaxLen"], apart := false }
def DeframePiecesSaid : Prop := deframePiecesRow.holds Try.pinned (OpenSpec.ofChange deframePiecesSpec)

/-- ITS FALSE NEIGHBOUR: 'it returns false'. Refute it at one input. -/
def deframePiecesWrong : ChangeSpec := { name := "deframePieces", fn := fun _ => fun
  | [d1, d2] => { results := [.lit (.bool false)], args := [d1, d2] }
  | _ => none }
def DeframePiecesWrongFalsely : Prop := deframePiecesRow.holds Try.pinned (OpenSpec.ofChange deframePiecesWrong)

/-- 'callboylaw12.DeframeBack': WHATEVER THE INPUT: true; the input reads as it did. -/
def deframeBackSpec : ChangeSpec := { name := "deframeBack", fn := fun _ => fun
  | [d] => { results := [.lit (.bool true)], args := [d] }
  | _ => none }
def deframeBackRow : OpenClaim := { program := "ytmmmcpeickfolaa", sum := "829c52c53acf6f37effba1b8992177dd86f13e83b517b9b6c30b1b103c2469ce", func := "callboy/callboylaw12.DeframeBack", spec := "deframeBack", inPlace := ["internal/bytealg.IndexByteString", "internal/bytealg.IndexString", "internal/abi.NoEscape"], unfollowed := true, recurses := true, named := ["internal/bytealg.MaxLen"], apart := false }
def DeframeBackSaid : Prop := deframeBackRow.holds Try.pinned (OpenSpec.ofChange deframeBackSpec)

/-- ITS FALSE NEIGHBOUR: 'it returns false'. Refute it at one input. -/
def deframeBackWrong : ChangeSpec := { name := "deframeBack", fn := fun _ => fun
  | [d] => { results := [.lit (.bool false)], args := [d] }
  | _ => none }
def DeframeBackWrongFalsely : Prop := deframeBackRow.holds Try.pinned (OpenSpec.ofChange deframeBackWrong)

/-- 'callboylaw21.RosterSees': WHATEVER THE INPUT: true; the input reads as it did. -/
def rosterSeesSpec : ChangeSpec := { name := "rosterSees", fn := fun _ => fun
  | [d] => { results := [.lit (.bool true)], args := [d] }
  | _ => none }
def rosterSeesRow : OpenClaim := { program := "ytmmmcpeickfolaa", sum := "829c52c53acf6f37effba1b8992177dd86f13e83b517b9b6c30b1b103c2469ce", func := "callboy/callboylaw21.RosterSees", spec := "rosterSees", inPlace := ["internal/bytealg.IndexByteString", "internal/bytealg.IndexString", "internal/bytealg.abigen_runtime_cmpstring", "slices.overlaps[callboy/item.Item]"], unfollowed := true, recurses := true, named := ["internal/bytealg.MaxLen"], apart := false }
def RosterSeesSaid : Prop := rosterSeesRow.holds Try.pinned (OpenSpec.ofChange rosterSeesSpec)

/-- ITS FALSE NEIGHBOUR: 'it returns false'. Refute it at one input. -/
def rosterSeesWrong : ChangeSpec := { name := "rosterSees", fn := fun _ => fun
  | [d] => { results := [.lit (.bool false)], args := [d] }
  | _ => none }
def RosterSeesWrongFalsely : Prop := rosterSeesRow.holds Try.pinned (OpenSpec.ofChange rosterSeesWrong)

/-- 'callboylaw22.PairAgree': WHATEVER THE INPUT: true; the input reads as it did. -/
def pairAgreeSpec : ChangeSpec := { name := "pairAgree", fn := fun _ => fun
  | [d] => { results := [.lit (.bool true)], args := [d] }
  | _ => none }
def pairAgreeRow : OpenClaim := { program := "ytmmmcpeickfolaa", sum := "829c52c53acf6f37effba1b8992177dd86f13e83b517b9b6c30b1b103c2469ce", func := "callboy/callboylaw22.PairAgree", spec := "pairAgree", inPlace := ["internal/bytealg.IndexByteString", "internal/bytealg.IndexString", "internal/bytealg.abigen_runtime_cmpstring", "slices.overlaps[callboy/item.Item]"], unfollowed := true, recurses := true, named := ["internal/bytealg.MaxLen"], apart := false }
def PairAgreeSaid : Prop := pairAgreeRow.holds Try.pinned (OpenSpec.ofChange pairAgreeSpec)

/-- ITS FALSE NEIGHBOUR: 'it returns false'. Refute it at one input. -/
def pairAgreeWrong : ChangeSpec := { name := "pairAgree", fn := fun _ => fun
  | [d] => { results := [.lit (.bool false)], args := [d] }
  | _ => none }
def PairAgreeWrongFalsely : Prop := pairAgreeRow.holds Try.pinned (OpenSpec.ofChange pairAgreeWrong)

/- THE SECOND FORM. 'bulk': how many values and letters a reading holds, each counted each time it is reached (what is shared counts as often as it is met; a slice's spare places count too). A statement '..UptoSaid' is the law's where the arguments, and the package variables that the reading takes, are together of bulk at most 1048576: NARROWER than '..Said'. Prove '..Said' where nothing that the law and all that it calls make is longer than what came in: it says more and counts as full. Else prove '..UptoSaid'. A law counts once. -/
mutual
def uptoBulk {H : Type} : DataW H → Nat
  | .lit (.string bytes) => bytes.length + 1
  | .lit _ => 1
  | .nil => 1
  | .ptr d => uptoBulk d + 1
  | .slice elems spare => uptoBulkAll elems + uptoBulkAll spare + 1
  | .agg parts => uptoBulkAll parts + 1
  | .iface _ d => uptoBulk d + 1
  | .map entries => uptoBulkEntries entries + 1
  | .held _ => 1
def uptoBulkAll {H : Type} : List (DataW H) → Nat
  | [] => 0
  | d :: r => uptoBulk d + uptoBulkAll r
def uptoBulkEntries {H : Type} : List (Lit × DataW H) → Nat
  | [] => 0
  | x :: r => uptoBulkEntry x + uptoBulkEntries r
def uptoBulkEntry {H : Type} : Lit × DataW H → Nat
  | (.string bytes, d) => bytes.length + uptoBulk d + 1
  | (_, d) => uptoBulk d + 1
 end
def uptoSmall : (H : Type) → List (DataW H) → Bool := fun _ ds => decide (uptoBulkAll ds ≤ 1048576)
def OpenSpec.upto (s : _root_.Go.ChangeSpec) : _root_.Go.OpenSpec := { _root_.Go.OpenSpec.ofChange s with cond := some uptoSmall }

/-- 'callboylaw12.DeframePieces', WHERE WHAT IT READS IS OF BULK AT MOST 1048576: true; the input reads as it did. -/
def deframePiecesUptoRow : OpenClaim := { program := "ytmmmcpeickfolaa", sum := "829c52c53acf6f37effba1b8992177dd86f13e83b517b9b6c30b1b103c2469ce", func := "callboy/callboylaw12.DeframePieces", spec := "deframePieces", inPlace := ["internal/bytealg.IndexByteString", "internal/bytealg.IndexString", "internal/abi.NoEscape"], unfollowed := true, recurses := true, named := ["internal/bytealg.MaxLen"], apart := false, narrowed := true }
def DeframePiecesUptoSaid : Prop := deframePiecesUptoRow.holds Try.pinned (OpenSpec.upto deframePiecesSpec)

/-- 'callboylaw12.DeframeBack', WHERE WHAT IT READS IS OF BULK AT MOST 1048576: true; the input reads as it did. -/
def deframeBackUptoRow : OpenClaim := { program := "ytmmmcpeickfolaa", sum := "829c52c53acf6f37effba1b8992177dd86f13e83b517b9b6c30b1b103c2469ce", func := "callboy/callboylaw12.DeframeBack", spec := "deframeBack", inPlace := ["internal/bytealg.IndexByteString", "internal/bytealg.IndexString", "internal/abi.NoEscape"], unfollowed := true, recurses := true, named := ["internal/bytealg.MaxLen"], apart := false, narrowed := true }
def DeframeBackUptoSaid : Prop := deframeBackUptoRow.holds Try.pinned (OpenSpec.upto deframeBackSpec)

/-- 'callboylaw21.RosterSees', WHERE WHAT IT READS IS OF BULK AT MOST 1048576: true; the input reads as it did. -/
def rosterSeesUptoRow : OpenClaim := { program := "ytmmmcpeickfolaa", sum := "829c52c53acf6f37effba1b8992177dd86f13e83b517b9b6c30b1b103c2469ce", func := "callboy/callboylaw21.RosterSees", spec := "rosterSees", inPlace := ["internal/bytealg.IndexByteString", "internal/bytealg.IndexString", "internal/bytealg.abigen_runtime_cmpstring", "slices.overlaps[callboy/item.Item]"], unfollowed := true, recurses := true, named := ["internal/bytealg.MaxLen"], apart := false, narrowed := true }
def RosterSeesUptoSaid : Prop := rosterSeesUptoRow.holds Try.pinned (OpenSpec.upto rosterSeesSpec)

/-- 'callboylaw22.PairAgree', WHERE WHAT IT READS IS OF BULK AT MOST 1048576: true; the input reads as it did. -/
def pairAgreeUptoRow : OpenClaim := { program := "ytmmmcpeickfolaa", sum := "829c52c53acf6f37effba1b8992177dd86f13e83b517b9b6c30b1b103c2469ce", func := "callboy/callboylaw22.PairAgree", spec := "pairAgree", inPlace := ["internal/bytealg.IndexByteString", "internal/bytealg.IndexString", "internal/bytealg.abigen_runtime_cmpstring", "slices.overlaps[callboy/item.Item]"], unfollowed := true, recurses := true, named := ["internal/bytealg.MaxLen"], apart := false, narrowed := true }
def PairAgreeUptoSaid : Prop := pairAgreeUptoRow.holds Try.pinned (OpenSpec.upto pairAgreeSpec)

end Rows
end Go.Proofs.Ytmmmcpeickfolaa
