/-
  No cell of these rows narrows 'for every input' (looked for: loops, veiled, ifaces, maps, wideKeys, modest, calm, conditions, laid).
  DERIVED. THE GIVEN ROWS OF THIS SEAT. 4 by the template 'for every input the law returns true; each argument reads behind the call as it read before'; 0 by the template 'total and deterministic' (their statements: YtdbigmjlhkgeoaaGreatTotals.lean).
  GIVEN WITH THE SEED: the statements are not yours to turn. If you find one false, say at which input.
  Laid BY PROGRAM, IN A SANDBOX (cutbox-rows.mjs): the forced cells as the released guide's own fill.sh prints them over the translation be08acbf7c301054… (all of the seat's roots in one cut). By AI agents, Wed Nov 11 2026. No macro, syntax, notation, axiom, sorry.
-/
import Derived.Test.YtdbigmjlhkgeoaaGreatChecked
import GoSem.Claim
import GoSem.ClaimJoined
import GoSem.ClaimMapViews
import Derived.JoinedTies
import Derived.KernelRfl
namespace Go.Proofs.YtdbigmjlhkgeoaaGreat
/- THE CELL 'sum', in the pinned program and in every row, IS THE sha256 OF THE DUMP (.gsa) THAT YtdbigmjlhkgeoaaGreatProg.lean LOADS. Nothing in Lean hashes anything: it is a label: what it is worth is what the hold of that sum in a sandbox is worth. -/
noncomputable def Tryz.pinned : Pinned := { name := "ytdbigmjlhkgeoaagreat", sum := "be08acbf7c30105470823378290ac355b81eaa1be61c1cfcf258bc7d0df27b64", checked := Tryz.checked }
namespace Rows
def none {H : Type} : Left H := { results := [], args := [] }

/-- 'callboylaw31.ConnsChanges': WHATEVER THE INPUT: true; the input reads as it did. -/
def connsChangesSpec : ChangeSpec := { name := "connsChanges", fn := fun _ => fun
  | [d1, d2] => { results := [.lit (.bool true)], args := [d1, d2] }
  | _ => none }
def connsChangesRow : OpenClaim := { program := "ytdbigmjlhkgeoaagreat", sum := "be08acbf7c30105470823378290ac355b81eaa1be61c1cfcf258bc7d0df27b64", func := "callboy/callboylaw31.ConnsChanges", spec := "connsChanges", inPlace := ["internal/bytealg.IndexByteString", "internal/bytealg.IndexString", "slices.overlaps[callboy/conns.Conn]"], unfollowed := true, recurses := true, named := ["internal/bytealg.MaxLen"], apart := false }
def ConnsChangesSaid : Prop := connsChangesRow.holds Tryz.pinned (OpenSpec.ofChange connsChangesSpec)

/-- ITS FALSE NEIGHBOUR: 'it returns false'. Refute it at one input. -/
def connsChangesWrong : ChangeSpec := { name := "connsChanges", fn := fun _ => fun
  | [d1, d2] => { results := [.lit (.bool false)], args := [d1, d2] }
  | _ => none }
def ConnsChangesWrongFalsely : Prop := connsChangesRow.holds Tryz.pinned (OpenSpec.ofChange connsChangesWrong)

/-- 'callboylaw31.ConnsTells': WHATEVER THE INPUT: true; the input reads as it did. -/
def connsTellsSpec : ChangeSpec := { name := "connsTells", fn := fun _ => fun
  | [d1, d2, d3] => { results := [.lit (.bool true)], args := [d1, d2, d3] }
  | _ => none }
def connsTellsRow : OpenClaim := { program := "ytdbigmjlhkgeoaagreat", sum := "be08acbf7c30105470823378290ac355b81eaa1be61c1cfcf258bc7d0df27b64", func := "callboy/callboylaw31.ConnsTells", spec := "connsTells", inPlace := ["internal/bytealg.IndexByteString", "internal/bytealg.IndexString", "slices.overlaps[callboy/conns.Conn]"], unfollowed := true, recurses := true, named := ["internal/bytealg.MaxLen"], apart := false }
def ConnsTellsSaid : Prop := connsTellsRow.holds Tryz.pinned (OpenSpec.ofChange connsTellsSpec)

/-- ITS FALSE NEIGHBOUR: 'it returns false'. Refute it at one input. -/
def connsTellsWrong : ChangeSpec := { name := "connsTells", fn := fun _ => fun
  | [d1, d2, d3] => { results := [.lit (.bool false)], args := [d1, d2, d3] }
  | _ => none }
def ConnsTellsWrongFalsely : Prop := connsTellsRow.holds Tryz.pinned (OpenSpec.ofChange connsTellsWrong)

/-- 'callboylaw31.ConnsKeeps': WHATEVER THE INPUT: true; the input reads as it did. -/
def connsKeepsSpec : ChangeSpec := { name := "connsKeeps", fn := fun _ => fun
  | [d] => { results := [.lit (.bool true)], args := [d] }
  | _ => none }
def connsKeepsRow : OpenClaim := { program := "ytdbigmjlhkgeoaagreat", sum := "be08acbf7c30105470823378290ac355b81eaa1be61c1cfcf258bc7d0df27b64", func := "callboy/callboylaw31.ConnsKeeps", spec := "connsKeeps", inPlace := ["internal/bytealg.IndexByteString", "internal/bytealg.IndexString", "slices.overlaps[callboy/conns.Conn]"], unfollowed := true, recurses := true, named := ["internal/bytealg.MaxLen"], apart := false }
def ConnsKeepsSaid : Prop := connsKeepsRow.holds Tryz.pinned (OpenSpec.ofChange connsKeepsSpec)

/-- ITS FALSE NEIGHBOUR: 'it returns false'. Refute it at one input. -/
def connsKeepsWrong : ChangeSpec := { name := "connsKeeps", fn := fun _ => fun
  | [d] => { results := [.lit (.bool false)], args := [d] }
  | _ => none }
def ConnsKeepsWrongFalsely : Prop := connsKeepsRow.holds Tryz.pinned (OpenSpec.ofChange connsKeepsWrong)

/-- 'callboylaw31.ConnsBack': WHATEVER THE INPUT: true; the input reads as it did. -/
def connsBackSpec : ChangeSpec := { name := "connsBack", fn := fun _ => fun
  | [d1, d2, d3] => { results := [.lit (.bool true)], args := [d1, d2, d3] }
  | _ => none }
def connsBackRow : OpenClaim := { program := "ytdbigmjlhkgeoaagreat", sum := "be08acbf7c30105470823378290ac355b81eaa1be61c1cfcf258bc7d0df27b64", func := "callboy/callboylaw31.ConnsBack", spec := "connsBack", inPlace := ["internal/bytealg.IndexByteString", "internal/bytealg.IndexString", "slices.overlaps[callboy/conns.Conn]"], unfollowed := true, recurses := true, named := ["internal/bytealg.MaxLen"], apart := false }
def ConnsBackSaid : Prop := connsBackRow.holds Tryz.pinned (OpenSpec.ofChange connsBackSpec)

/-- ITS FALSE NEIGHBOUR: 'it returns false'. Refute it at one input. -/
def connsBackWrong : ChangeSpec := { name := "connsBack", fn := fun _ => fun
  | [d1, d2, d3] => { results := [.lit (.bool false)], args := [d1, d2, d3] }
  | _ => none }
def ConnsBackWrongFalsely : Prop := connsBackRow.holds Tryz.pinned (OpenSpec.ofChange connsBackWrong)

/- THE SECOND FORM. 'bulk': how many values and letters a reading holds, each counted each time it is reached (what is shared counts as often as it is met; a slice's spare places count too). A statement '..UptoSaid' is the law's where the arguments, and the package variables that the reading takes, are together of bulk at most 1048576: NARROWER than '..Said'. Prove '..Said' where nothing that the law and all that it calls make is longer than what came in: it says more and counts as full. Else prove '..UptoSaid'. A law counts once. -/
mutual
def uptoBulk {H : Type} : DataW H → Nat
  | .lit (.string bytes) => bytes.length + 1
  | .lit _ => 1
  | .nil => 1
  | .ptr d => uptoBulk d + 1
  | .slice elems spare => uptoBulkAll elems + uptoBulkAll spare + 1
  | .agg parts => uptoBulkAll parts + 1
  | .iface _ d => uptoBulk d + 1
  | .map entries => uptoBulkEntries entries + 1
  | .held _ => 1
def uptoBulkAll {H : Type} : List (DataW H) → Nat
  | [] => 0
  | d :: r => uptoBulk d + uptoBulkAll r
def uptoBulkEntries {H : Type} : List (Lit × DataW H) → Nat
  | [] => 0
  | x :: r => uptoBulkEntry x + uptoBulkEntries r
def uptoBulkEntry {H : Type} : Lit × DataW H → Nat
  | (.string bytes, d) => bytes.length + uptoBulk d + 1
  | (_, d) => uptoBulk d + 1
 end
def uptoSmall : (H : Type) → List (DataW H) → Bool := fun _ ds => decide (uptoBulkAll ds ≤ 1048576)
def OpenSpec.upto (s : _root_.Go.ChangeSpec) : _root_.Go.OpenSpec := { _root_.Go.OpenSpec.ofChange s with cond := some uptoSmall }

/-- 'callboylaw31.ConnsChanges', WHERE WHAT IT READS IS OF BULK AT MOST 1048576: true; the input reads as it did. -/
def connsChangesUptoRow : OpenClaim := { program := "ytdbigmjlhkgeoaagreat", sum := "be08acbf7c30105470823378290ac355b81eaa1be61c1cfcf258bc7d0df27b64", func := "callboy/callboylaw31.ConnsChanges", spec := "connsChanges", inPlace := ["internal/bytealg.IndexByteString", "internal/bytealg.IndexString", "slices.overlaps[callboy/conns.Conn]"], unfollowed := true, recurses := true, named := ["internal/bytealg.MaxLen"], apart := false, narrowed := true }
def ConnsChangesUptoSaid : Prop := connsChangesUptoRow.holds Tryz.pinned (OpenSpec.upto connsChangesSpec)

/-- 'callboylaw31.ConnsTells', WHERE WHAT IT READS IS OF BULK AT MOST 1048576: true; the input reads as it did. -/
def connsTellsUptoRow : OpenClaim := { program := "ytdbigmjlhkgeoaagreat", sum := "be08acbf7c30105470823378290ac355b81eaa1be61c1cfcf258bc7d0df27b64", func := "callboy/callboylaw31.ConnsTells", spec := "connsTells", inPlace := ["internal/bytealg.IndexByteString", "internal/bytealg.IndexString", "slices.overlaps[callboy/conns.Conn]"], unfollowed := true, recurses := true, named := ["internal/bytealg.MaxLen"], apart := false, narrowed := true }
def ConnsTellsUptoSaid : Prop := connsTellsUptoRow.holds Tryz.pinned (OpenSpec.upto connsTellsSpec)

/-- 'callboylaw31.ConnsKeeps', WHERE WHAT IT READS IS OF BULK AT MOST 1048576: true; the input reads as it did. -/
def connsKeepsUptoRow : OpenClaim := { program := "ytdbigmjlhkgeoaagreat", sum := "be08acbf7c30105470823378290ac355b81eaa1be61c1cfcf258bc7d0df27b64", func := "callboy/callboylaw31.ConnsKeeps", spec := "connsKeeps", inPlace := ["internal/bytealg.IndexByteString", "internal/bytealg.IndexString", "slices.overlaps[callboy/conns.Conn]"], unfollowed := true, recurses := true, named := ["internal/bytealg.MaxLen"], apart := false, narrowed := true }
def ConnsKeepsUptoSaid : Prop := connsKeepsUptoRow.holds Tryz.pinned (OpenSpec.upto connsKeepsSpec)

/-- 'callboylaw31.ConnsBack', WHERE WHAT IT READS IS OF BULK AT MOST 1048576: true; the input reads as it did. -/
def connsBackUptoRow : OpenClaim := { program := "ytdbigmjlhkgeoaagreat", sum := "be08acbf7c30105470823378290ac355b81eaa1be61c1cfcf258bc7d0df27b64", func := "callboy/callboylaw31.ConnsBack", spec := "connsBack", inPlace := ["internal/bytealg.IndexByteString", "internal/bytealg.IndexString", "slices.overlaps[callboy/conns.Conn]"], unfollowed := true, recurses := true, named := ["internal/bytealg.MaxLen"], apart := false, narrowed := true }
def ConnsBackUptoSaid : Prop := connsBackUptoRow.holds Tryz.pinned (OpenSpec.upto connsBackSpec)

end Rows
end Go.Proofs.YtdbigmjlhkgeoaaGreat
