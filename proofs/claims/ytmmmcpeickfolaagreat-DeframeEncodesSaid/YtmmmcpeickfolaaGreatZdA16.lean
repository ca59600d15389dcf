/- A part of the proof: 2 texts joined. -/
import Derived.Test.YtmmmcpeickfolaaGreatZdA15
set_option linter.all false
namespace Go.Proofs.YtmmmcpeickfolaaGreat
open Go.RowKit
structure CloRoads (P:Program) (k:FuncId) (es:Nat) (E:TypeId):Prop where
 some_:∀ (A:Addr) (n c:Nat) (cs:List Value) (w:World),0 < n→n≤1000000→cs.length=n * es→(∀ j v,cs[j]?=some v→w.cell? (A.add j)=some v)→(∀ v ∈ cs,v.oneCell'=true) →
  Calls P k #[.slice (some A) n c] w fun e w'=>∃ ZS:Array Value,e=.returned (.slice (some ⟨w.heap.size + 1,0,none⟩) n (grownCap (w.alloc (.cells #[] E)) n 0 E))∧w'=(w.alloc (.cells #[] E)).drew.alloc (.cells (cs.toArray++ZS) E)∧grownCap (w.alloc (.cells #[] E)) n 0 E * es≤(cs.toArray++ZS).size
 zero_:∀ (A:Addr) (c:Nat) (w:World),Calls P k #[.slice (some A) 0 c] w fun e w'=>e=.returned (.slice (some ⟨w.heap.size,0,none⟩) 0 0)∧∃ q,w'=(w.alloc (.cells #[] E)).drewN q
 nil_:∀ (n c:Nat) (w:World),Calls P k #[.slice none n c] w fun e w'=>e=.returned (.slice none 0 0)∧w'=w
section
variable {β : Type} {r : β} {P : Program} {st : List Slot}
end
end Go.Proofs.YtmmmcpeickfolaaGreat

namespace Go.Proofs.YtmmmcpeickfolaaGreat
open Go.RowKit
end Go.Proofs.YtmmmcpeickfolaaGreat

