/- Part of a proof: see the last text. -/
import Derived.Test.YtglncfhcgkihbaaGreatDoorF00
import Derived.Test.YtglncfhcgkihbaaGreatDoorF01
import Derived.Test.YtglncfhcgkihbaaGreatDoorF02
import Derived.Test.YtglncfhcgkihbaaGreatDoorF03
import Derived.Test.YtglncfhcgkihbaaGreatDoorF05
import Derived.Test.YtglncfhcgkihbaaGreatDoorF06
import Derived.Test.YtglncfhcgkihbaaGreatDoorF07
set_option linter.unusedVariables false
set_option linter.unusedSimpArgs false
namespace Go.Proofs.YtglncfhcgkihbaaGreatDoor
open Go.Eng Go.Wh
set_option maxRecDepth 20000
set_option linter.unusedSimpArgs false
set_option linter.unusedVariables false
attribute [local irreducible] AG CallA CallT AWp PCall ACall AgC
theorem rtold_spec (n : Int) (hn : sz 10 n ≤ 1000000) : PCall Tryz.prog 47 [dNum n] fun r => r = if dlen n ≤ 400 then .tup [dS (Lib.itoa n), dI 0] else .tup [dS [], dI 2] := by 
  refine pcall_of Tryz.func47 rfl rfl Tryz.ntmps47 (rs := [.tmp 2, .tmp 3]) (tys := [9, 31]) rfl rfl (by simp) ?_
  have hl := long_iff n
  have hsz : sz 10 n = (dg 10 n.natAbs).length := rfl
  (refine awp_sr fun KK hKK => ?_; simp [go_sem]; ((repeat' (first|(refine ag_x ?_;simp [go_sem])|intro _|refine And.intro ?_ ?_|(apply hKK;clear hKK KK)));all_goals first|refine Hold.mk ?_|omega|with_reducible assumption|(simp only [InR] at *;omega)|skip))
  refine awp_seq_k fun K1 hK1 => ?_
  (refine awp_sr fun KK hKK => ?_; simp [go_sem]; ((repeat' (first|(refine ag_x ?_;simp [go_sem])|intro _|refine And.intro ?_ ?_|(apply hKK;clear hKK KK)));all_goals first|refine Hold.mk ?_|omega|with_reducible assumption|(simp only [InR] at *;omega)|skip))
  (refine awp_if fun T F hT hF => ?_; simp [go_sem]; refine BR.intro (fun h2 => hT ?_) (fun h2 => hF ?_); all_goals clear hT hF T F; try simp at h2) 
  · have : ¬ dlen n ≤ 400 := by omega
    (refine awp_sr fun KK hKK => ?_; simp [go_sem]; ((repeat' (first|(refine ag_x ?_;simp [go_sem])|intro _|refine And.intro ?_ ?_|(apply hKK;clear hKK KK)));all_goals first|refine Hold.mk ?_|omega|with_reducible assumption|(simp only [InR] at *;omega)|skip))
    (refine awp_ret ?_; simp [go_sem, this])
  · have : dlen n ≤ 400 := by omega
    refine awp_skip ?_
    refine hK1 _ ?_; clear hK1
    (refine awp_sr fun KK hKK => ?_; simp [go_sem]; ((repeat' (first|(refine ag_x ?_;simp [go_sem])|intro _|refine And.intro ?_ ?_|(apply hKK;clear hKK KK)));all_goals first|refine Hold.mk ?_|omega|with_reducible assumption|(simp only [InR] at *;omega)|skip))
    ((try refine CallT.toA ?_); refine callT_m (by first | exact .inl ⟨rfl, rfl⟩ | exact .inr rfl) (by simp [go_sem]) ?_; intro args ha; simp [go_sem] at ha; subst ha; refine ⟨_, (show_spec n hn), ?_⟩; rintro _ rfl; simp [go_sem]; ((repeat' (first|(refine ag_x ?_;simp [go_sem])|intro _|refine And.intro ?_ ?_|(apply hKK;clear hKK KK)));all_goals first|refine Hold.mk ?_|omega|with_reducible assumption|(simp only [InR] at *;omega)|skip))
    (refine awp_ret ?_; simp [go_sem, this])
end Go.Proofs.YtglncfhcgkihbaaGreatDoor
