/- Part of a proof: see the last text. -/
import Derived.Test.YtglncfhcgkihbaaGreatDoorF00
import Derived.Test.YtglncfhcgkihbaaGreatDoorF01
import Derived.Test.YtglncfhcgkihbaaGreatDoorF02
import Derived.Test.YtglncfhcgkihbaaGreatDoorF03
import Derived.Test.YtglncfhcgkihbaaGreatDoorF04
import Derived.Test.YtglncfhcgkihbaaGreatDoorF05
import Derived.Test.YtglncfhcgkihbaaGreatDoorF06
import Derived.Test.YtglncfhcgkihbaaGreatDoorF07
import Derived.Test.YtglncfhcgkihbaaGreatDoorF08
import Derived.Test.YtglncfhcgkihbaaGreatDoorF09
import Derived.Test.YtglncfhcgkihbaaGreatDoorF11
set_option linter.unusedVariables false
set_option linter.unusedSimpArgs false
namespace Go.Proofs.YtglncfhcgkihbaaGreatDoor
open Go.Eng Go.Wh
set_option maxRecDepth 20000
set_option linter.unusedSimpArgs false
set_option linter.unusedVariables false
attribute [local irreducible] AG CallA CallT AWp PCall ACall AgC
theorem u64_mod (n : Int) {m : Int} (hm : 0 < m) : 0 ≤ (IntKind.u64.wrap n).tmod m ∧ (IntKind.u64.wrap n).tmod m < m := by
  have h0 : 0 ≤ IntKind.u64.wrap n := by
    rw [show IntKind.u64.wrap n = n % 18446744073709551616 by simp [IntKind.wrap, IntKind.bits, IntKind.signed]]
    omega
  obtain ⟨m1, _, m3, m4, _⟩ := div_mod_of (B := m) (n := IntKind.u64.wrap n) hm h0
  rw [m1]; exact ⟨m3, m4⟩
end Go.Proofs.YtglncfhcgkihbaaGreatDoor
