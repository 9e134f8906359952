/- Part of a proof: see the last text. -/
import Derived.Test.YtglncfhcgkihbaaGreatDoorF00
set_option linter.unusedVariables false
set_option linter.unusedSimpArgs false
namespace Go.Proofs.YtglncfhcgkihbaaGreatDoor
open Go.Eng Go.Wh
set_option maxRecDepth 20000
set_option linter.unusedSimpArgs false
set_option linter.unusedVariables false
attribute [local irreducible] AG CallA CallT AWp PCall ACall AgC
theorem body_split (a : List UInt8) : ∃ p, a = p ++ body a ∧ (p = [] ∧ a.head? ≠ some 45 ∨ p = [45] ∧ a.head? = some 45) := by
  unfold body
  by_cases h : a.head? = some 45
  · rw [if_pos h]
    cases a with
    | nil => simp at h
    | cons c t => simp at h; subst h; exact ⟨[45], rfl, .inr ⟨rfl, rfl⟩⟩
  · rw [if_neg h]; exact ⟨[], rfl, .inl ⟨rfl, h⟩⟩
end Go.Proofs.YtglncfhcgkihbaaGreatDoor
