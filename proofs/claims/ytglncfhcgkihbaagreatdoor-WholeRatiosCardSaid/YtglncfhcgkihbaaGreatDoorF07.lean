/- Part of a proof: see the last text. -/
import Derived.Test.YtglncfhcgkihbaaGreatDoorF00
import Derived.Test.YtglncfhcgkihbaaGreatDoorF01
import Derived.Test.YtglncfhcgkihbaaGreatDoorF02
import Derived.Test.YtglncfhcgkihbaaGreatDoorF03
import Derived.Test.YtglncfhcgkihbaaGreatDoorF05
import Derived.Test.YtglncfhcgkihbaaGreatDoorF06
set_option linter.unusedVariables false
set_option linter.unusedSimpArgs false
namespace Go.Proofs.YtglncfhcgkihbaaGreatDoor
open Go.Eng Go.Wh
set_option maxRecDepth 20000
set_option linter.unusedSimpArgs false
set_option linter.unusedVariables false
attribute [local irreducible] AG CallA CallT AWp PCall ACall AgC
theorem long2 (a b : List UInt8) : PCall Tryz.prog 10 [.sl 1 [cS a, cS b]] fun r => r = dB (decide (3000 < a.length) || decide (3000 < b.length)) := by
  have := long_spec' [a, b] (by simp)
  simp only [List.any_cons, List.any_nil, Bool.or_false] at this
  exact this
theorem made_len (l : List Int) {m : Nat} (h0 : 1 ≤ m) (h1 : m ≤ 400) : (Lib.itoa (madeN l m)).length ≤ 1000000000 := by
  have := itoa_len (bd_madeN l h0 h1) h0; omega
end Go.Proofs.YtglncfhcgkihbaaGreatDoor
