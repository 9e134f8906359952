/- Part of a proof: see the last text. -/
import Derived.Test.YtglncfhcgkihbaaGreatDoorF00
import Derived.Test.YtglncfhcgkihbaaGreatDoorF01
import Derived.Test.YtglncfhcgkihbaaGreatDoorF02
import Derived.Test.YtglncfhcgkihbaaGreatDoorF04
import Derived.Test.YtglncfhcgkihbaaGreatDoorF05
set_option linter.unusedVariables false
set_option linter.unusedSimpArgs false
namespace Go.Proofs.YtglncfhcgkihbaaGreatDoor
open Go.Eng Go.Wh
set_option maxRecDepth 20000
set_option linter.unusedSimpArgs false
set_option linter.unusedVariables false
attribute [local irreducible] AG CallA CallT AWp PCall ACall AgC
open Go.RowKit in
theorem decVal_cons (c : UInt8) (s : List UInt8) : decVal (c :: s) = dgt c * 10 ^ s.length + decVal s := by
  have := decVal_app [c] s
  rw [show decVal [c] = dgt c by simp [decVal]] at this
  exact this
end Go.Proofs.YtglncfhcgkihbaaGreatDoor
