/- Part of a proof: see the last text. -/
import Derived.Test.YtglncfhcgkihbaaGreatDoorWF
import Derived.Test.YtglncfhcgkihbaaGreatDoorMA
import Derived.Test.YtglncfhcgkihbaaGreatDoorED
import Derived.Lib.TrimByte
set_option linter.unusedVariables false
set_option linter.unusedSimpArgs false
namespace Go.Proofs.YtglncfhcgkihbaaGreatDoor
open Go.Eng Go.Wh
set_option maxRecDepth 20000
set_option linter.unusedSimpArgs false
set_option linter.unusedVariables false
attribute [local irreducible] AG CallA CallT AWp PCall ACall AgC
theorem numOk_parts {a : List UInt8} (h : numOk a = true) : (∀ c ∈ body a, isD c = true) ∧ (body a).length ≤ 400 ∧ body a ≠ [] ∧ ((body a).head? = some 48 → a = [48]) := by
  unfold numOk at h
  simp only [Bool.and_eq_true, decide_eq_true_eq, List.all_eq_true, Bool.not_eq_true', Bool.and_eq_false_imp, decide_eq_false_iff_not, ne_eq] at h
  refine ⟨h.2, h.1.1.2, h.1.1.1, fun h1 => ?_⟩
  have := h.1.2 h1
  exact Decidable.not_not.1 this
theorem numV_neg {a : List UInt8} (h : numOk a = true) : decide (numV a < 0) = decide (a.head? = some 45) := by
  obtain ⟨h1, h2, h3, h4⟩ := numOk_parts h
  refine decide_eq_decide.2 ?_
  unfold numV
  by_cases hc : a.head? = some 45
  · rw [if_pos hc]
    have : 0 < decVal (body a) := decVal_pos h3 (fun h5 => by rw [h4 h5] at hc; simp at hc) h1
    simp [hc]; omega
  · rw [if_neg hc]; simp [hc]
theorem u45 (c : UInt8) : (c.toNat : Int) = 45 ↔ c = 45 := ⟨fun h => UInt8.toNat_inj.1 (by simpa using (by exact_mod_cast h : c.toNat = 45)), fun h => by rw [h]; rfl⟩
end Go.Proofs.YtglncfhcgkihbaaGreatDoor
