/- Part of a proof: see the last text. -/
import Derived.Test.YtglncfhcgkihbaaGreatDoorF00
import Derived.Test.YtglncfhcgkihbaaGreatDoorF01
import Derived.Test.YtglncfhcgkihbaaGreatDoorF02
import Derived.Test.YtglncfhcgkihbaaGreatDoorF03
import Derived.Test.YtglncfhcgkihbaaGreatDoorF04
import Derived.Test.YtglncfhcgkihbaaGreatDoorF05
import Derived.Test.YtglncfhcgkihbaaGreatDoorF06
import Derived.Test.YtglncfhcgkihbaaGreatDoorF07
import Derived.Test.YtglncfhcgkihbaaGreatDoorF08
set_option linter.unusedVariables false
set_option linter.unusedSimpArgs false
namespace Go.Proofs.YtglncfhcgkihbaaGreatDoor
open Go.Eng Go.Wh
set_option maxRecDepth 20000
set_option linter.unusedSimpArgs false
set_option linter.unusedVariables false
attribute [local irreducible] AG CallA CallT AWp PCall ACall AgC
theorem rgcd_spec (a b : Nat) (ha : (dg 10 a).length ≤ 900000) (hb : (dg 10 b).length ≤ 900000) : PCall Tryz.prog 104 [dIs (dg 10 a), dIs (dg 10 b)] fun r => r = dIs (dg 10 (Nat.gcd a b)) := by 
  refine pcall_of Tryz.func104 rfl rfl Tryz.ntmps104 (rs := [.tmp 4]) (tys := [22]) rfl rfl (by simp) ?_
  (refine awp_sr fun KK hKK => ?_; simp [go_sem]; ((repeat' (first|(refine ag_x ?_;simp [go_sem])|intro _|refine And.intro ?_ ?_|(apply hKK;clear hKK KK)));all_goals first|refine Hold.mk ?_|omega|with_reducible assumption|(simp only [InR] at *;omega)|skip))
  refine awp_seq_k fun K1 hK1 => ?_
  refine awp_block ?_
  refine awp_loop (σ := Nat × Nat) (fun x => ⟨[(0, dIs (dg 10 x.1)), (1, dIs (dg 10 x.2))], []⟩) (fun x => Nat.gcd x.1 x.2 = Nat.gcd a b ∧ (dg 10 x.1).length ≤ 900000 ∧ (dg 10 x.2).length ≤ 900000) (fun x => x.2) (a, b) ?_ ?_ ?_
  · (refine cov_of ?_ ?_ <;> simp [go_sem])
  · exact ⟨rfl, ha, hb⟩
  rintro ⟨x, y⟩ ⟨hg, hx, hy⟩
  simp only at hg hx hy
  refine awp_seq_k fun K2 hK2 => ?_
  (refine awp_sr fun KK hKK => ?_; simp [go_sem]; ((repeat' (first|(refine ag_x ?_;simp [go_sem])|intro _|refine And.intro ?_ ?_|(apply hKK;clear hKK KK)));all_goals first|refine Hold.mk ?_|omega|with_reducible assumption|(simp only [InR] at *;omega)|skip))
  (refine awp_if fun T F hT hF => ?_; simp [go_sem]; refine BR.intro (fun h3 => hT ?_) (fun h3 => hF ?_); all_goals clear hT hF T F; try simp at h3) 
  · refine awp_skip ?_
    refine hK2 _ ?_; clear hK2
    have hy0 : y ≠ 0 := fun h => by rw [h, dg_zero] at h3; simp at h3
    have dv := rparts_spec x y hy0 hx hy
    have hlt := Nat.mod_lt x (Nat.pos_of_ne_zero hy0)
    have hgn : Nat.gcd y (x % y) = Nat.gcd x y := by rw [Nat.gcd_comm x y, Nat.gcd_rec y x, Nat.gcd_comm]
    have hlm : (dg 10 (x % y)).length ≤ 900000 := Nat.le_trans (dgT_le (Nat.le_of_lt hlt)) hy
    generalize x / y = q at *
    generalize x % y = r at *
    refine awp_block ?_
    (refine awp_sr fun KK hKK => ?_; simp [go_sem]; ((repeat' (first|(refine ag_x ?_;simp [go_sem])|intro _|refine And.intro ?_ ?_|(apply hKK;clear hKK KK)));all_goals first|refine Hold.mk ?_|omega|with_reducible assumption|(simp only [InR] at *;omega)|skip))
    ((try refine CallT.toA ?_); refine callT_m (by first | exact .inl ⟨rfl, rfl⟩ | exact .inr rfl) (by simp [go_sem]) ?_; intro args ha; simp [go_sem] at ha; subst ha; refine ⟨_, dv, ?_⟩; rintro _ rfl; simp [go_sem]; ((repeat' (first|(refine ag_x ?_;simp [go_sem])|intro _|refine And.intro ?_ ?_|(apply hKK;clear hKK KK)));all_goals first|refine Hold.mk ?_|omega|with_reducible assumption|(simp only [InR] at *;omega)|skip))
    (refine awp_sr fun KK hKK => ?_; simp [go_sem]; ((repeat' (first|(refine ag_x ?_;simp [go_sem])|intro _|refine And.intro ?_ ?_|(apply hKK;clear hKK KK)));all_goals first|refine Hold.mk ?_|omega|with_reducible assumption|(simp only [InR] at *;omega)|skip))
    (refine awp_r fun KK hKK => ?_; simp [go_sem]; ((repeat' (first|(refine ag_x ?_;simp [go_sem])|intro _|refine And.intro ?_ ?_|(apply hKK;clear hKK KK)));all_goals first|refine Hold.mk ?_|omega|with_reducible assumption|(simp only [InR] at *;omega)|skip))
    refine ⟨(y, r), ?_, ⟨by rw [hgn]; exact hg, hy, hlm⟩, by simp only; omega⟩
    (refine cov_of ?_ ?_ <;> simp [go_sem])
  · refine awp_exit ?_
    simp only [go_sem]
    refine hK1 _ ?_; clear hK1
    have hy0 : y = 0 := (dg_nil (B := 10) (by decide)).1 (by simpa using h3)
    subst hy0
    rw [Nat.gcd_zero_right] at hg
    rw [← hg]
    (refine awp_sr fun KK hKK => ?_; simp [go_sem]; ((repeat' (first|(refine ag_x ?_;simp [go_sem])|intro _|refine And.intro ?_ ?_|(apply hKK;clear hKK KK)));all_goals first|refine Hold.mk ?_|omega|with_reducible assumption|(simp only [InR] at *;omega)|skip))
    (refine awp_ret ?_; simp [go_sem])
end Go.Proofs.YtglncfhcgkihbaaGreatDoor
