/- A part of the proof: 2 texts joined. -/
import Derived.Test.YtljeinlapkgjeaaPtA11
set_option linter.all false
/- Better is an order; the best and the last of three. -/
namespace Go.Proofs.Ytljeinlapkgjeaa
theorem better_irr (a : PresD) : betterL a a = false := by
  cases a; simp [betterL, newerL]
theorem better_asym (a b : PresD) (h : betterL a b = true) : betterL b a = false := by
  revert h
  simp only [betterL, newerL]
  cases a.on <;> cases b.on <;> simp
  by_cases h : a.prio = b.prio
  · simp [h]; omega
  · have : ¬ b.prio = a.prio := fun e => h e.symm
    simp [h, this]; omega
theorem better_trans (a b c : PresD) (h : betterL a b = true) (h2 : betterL b c = true) : betterL a c = true := by
  revert h h2
  simp only [betterL, newerL]
  cases a.on <;> cases b.on <;> cases c.on <;> simp
  grind
theorem best3 (a b c : PresD) : (bestTo [a, b, c] 3 = -1 ∧ a.on = false ∧ b.on = false ∧ c.on = false) ∨ (bestTo [a, b, c] 3 = 0 ∧ a.on = true ∧ betterL b a = false ∧ betterL c a = false) ∨ (bestTo [a, b, c] 3 = 1 ∧ b.on = true ∧ betterL a b = false ∧ betterL c b = false) ∨ (bestTo [a, b, c] 3 = 2 ∧ c.on = true ∧ betterL a c = false ∧ betterL b c = false) := by
  have off : ∀ x y : PresD, x.on = false → betterL x y = false := by intro x y h; simp [betterL, h]
  have o1 := off a b
  have o2 := off a c
  have o3 := off b a
  have o4 := off b c
  have o5 := off c a
  have o6 := off c b
  have s1 := better_asym b a
  have s2 := better_asym c a
  have s3 := better_asym c b
  have t1 := better_trans b c a
  have t2 := better_trans c b a
  have t3 := better_trans a c b
  clear off
  cases ha : a.on <;> cases hb : b.on <;> cases hc : c.on <;> simp [bestTo, ha, hb, hc] at * <;>
    cases hba : betterL b a <;> cases hca : betterL c a <;> cases hcb : betterL c b <;> simp_all
  all_goals (cases h1 : betterL b c <;> cases h2 : betterL a c <;> simp_all)
theorem last3 (a b c : PresD) : (lastTo [a, b, c] 3 = a ∧ newerL b a = false ∧ newerL c a = false) ∨ (lastTo [a, b, c] 3 = b ∧ newerL a b = false ∧ newerL c b = false) ∨ (lastTo [a, b, c] 3 = c ∧ newerL a c = false ∧ newerL b c = false) := by
  simp [lastTo]
  grind [newerL]
theorem newer_irr (a : PresD) : newerL a a = false := by simp [newerL]
end Go.Proofs.Ytljeinlapkgjeaa
/- Loops of few rounds, one by one. -/
namespace Go.Proofs.Ytljeinlapkgjeaa
open Go.RowKit
section
variable {P : Program} {n0 : Nat} {fr : List V} {st : List Slot} {Q : AExit → List V → List Slot → Prop} {a : ACode} {j : Nat}
def unrQ (P : Program) (n0 : Nat) (a : ACode) (Q : AExit → List V → List Slot → Prop) (j : Nat) : AExit → List V → List Slot → Prop := fun e fr' st' => match e with | .normal => unr n0 (fun Q fr st => AW P n0 a Q fr st) Q j fr' st' | e => Q e fr' st'
theorem w_unr' (j : Nat) (h : AW P n0 a (unrQ P n0 a Q j) fr st) : AW P n0 (.loop a) Q fr st := w_unr h
theorem q_unrN (h : AW P n0 a (unrQ P n0 a Q j) fr st) : unrQ P n0 a Q (j + 1) .normal fr st := h
theorem q_unrR (h : Q .ret fr st) : unrQ P n0 a Q j .ret fr st := h
theorem q_unrE {i : Nat} (h : Q (.exit i) fr st) : unrQ P n0 a Q j (.exit i) fr st := h
end
theorem better_off (x y : PresD) (h : x.on = false) : betterL x y = false := by simp [betterL, h]
end Go.Proofs.Ytljeinlapkgjeaa
