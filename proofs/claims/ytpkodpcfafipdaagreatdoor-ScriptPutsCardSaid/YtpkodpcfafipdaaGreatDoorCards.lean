/-
  DERIVED. GIVEN WITH THE SEED: THE CARDS: each row of YtpkodpcfafipdaaGreatDoorRows.lean that lists a variable, with what it lists TIED to the program's text (the seventh form; the later family's looks); each row that meets fmt, with fmt's text TOLD by the authors' own Lean function (tested against real Go, not proved from fmt's source: count such statements apart). THE CARD IS WHAT COUNTS. Prove the row's statement (the work); the ties are given (YtpkodpcfafipdaaGreatDoorTie.lean); close each card by the builder's one call (the guide's Derived/Test/ToyasCard.lean, 'card_holds'). Laid BY PROGRAM, IN A SANDBOX (cutbox-door.mjs). By AI agents, Wed Nov 11 2026. No macro, syntax, notation, axiom, sorry.
-/
import Derived.Test.YtpkodpcfafipdaaGreatDoorRows
import GoSem.ClaimSeven
namespace Go.Proofs.YtpkodpcfafipdaaGreatDoor
namespace Rows

/-- THE TIED CARD OF 'callboylaw34.ScriptPuts'. -/
def scriptPutsCard : Claim7 := { stood := { row := scriptPutsRow, standIns := [], harness := (true, "b34428b0a97d58a873ab92e4dc0e02c775658cf3aefdffac65478ff7e8d23d6a"), looks := false }, kinds := [], alts := [], laidByText := true, laidKinds := [.data, .data, .data], laidTests := true, laidLooks := .later }
def ScriptPutsCardSaid : Prop := Claim7.holds Tryz.pinned (.plain (OpenSpec.ofChange scriptPutsSpec)) scriptPutsCard

/-- THE SECOND FORM's CARD OF 'callboylaw34.ScriptPuts'. -/
def scriptPutsUptoCard : Claim7 := { stood := { row := scriptPutsUptoRow, standIns := [], harness := (true, "b34428b0a97d58a873ab92e4dc0e02c775658cf3aefdffac65478ff7e8d23d6a"), looks := false }, kinds := [], alts := [], laidByText := true, laidKinds := [.data, .data, .data], laidTests := true, laidLooks := .later }
def ScriptPutsUptoCardSaid : Prop := Claim7.holds Tryz.pinned (.plain (OpenSpec.upto scriptPutsSpec)) scriptPutsUptoCard
end Rows
end Go.Proofs.YtpkodpcfafipdaaGreatDoor
