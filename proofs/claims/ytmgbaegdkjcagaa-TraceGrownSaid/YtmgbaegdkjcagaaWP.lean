/- Part of a proof: see the last text. -/
import Derived.Test.YtmgbaegdkjcagaaWO
import Derived.Test.YtmgbaegdkjcagaaWI
set_option linter.unusedVariables false
set_option linter.unusedSimpArgs false
namespace Go.Proofs.Ytmgbaegdkjcagaa
open Go.Eng
set_option maxRecDepth 20000
set_option linter.unusedSimpArgs false
set_option linter.unusedVariables false
attribute [local irreducible] AG CallA CallT AWp PCall ACall AgC

theorem better_ok (t : Tr) (hok : trOk t = true) : PCall Try.prog 34 [dTr t] fun r => ∃ b, Bet t b ∧ r = .tup [dTr b, dI 0] :=
  (better_spec t).mono fun r h => by
    rcases h with ⟨_, h⟩ | ⟨h, _⟩
    · exact h
    · rw [hok] at h; cases h

set_option maxHeartbeats 16000000 in
theorem traceBetter_spec (l : List Int) (fuel : Int) : PCall Try.prog 11 [dIs l, dI fuel] fun r => r = dB true := by 
  refine pcall_of Try.func11 rfl rfl Try.ntmps11 (rs := [.tmp 4]) (tys := [4]) rfl rfl (by simp) ?_
  have hn := umod_bounds fuel (show (0 : Int) < 200 by decide)
  have en : (IntKind.u64.wrap fuel).tmod 200 = umod fuel 200 := rfl
  generalize umod fuel 200 = n at hn en
  (refine awp_sr fun KK hKK => ?_; simp [go_sem]; ((repeat' (first|(refine ag_x ?_;simp [go_sem])|intro _|refine And.intro ?_ ?_|(apply hKK;clear hKK KK)));all_goals first|refine Hold.mk ?_|omega|with_reducible assumption|(simp only [InR] at *;omega)|skip))
  (refine awp_sr fun KK hKK => ?_; simp [go_sem]; ((repeat' (first|(refine ag_x ?_;simp [go_sem])|intro _|refine And.intro ?_ ?_|(apply hKK;clear hKK KK)));all_goals first|refine Hold.mk ?_|omega|with_reducible assumption|(simp only [InR] at *;omega)|skip))
  ((try refine CallT.toA ?_); refine callT_m (by first | exact .inl ⟨rfl, rfl⟩ | exact .inr rfl) (by simp [go_sem]) ?_; intro args ha; simp [go_sem] at ha; subst ha; refine ⟨_, (grown_spec l), ?_⟩; rintro _ ⟨t, ws, hF, rfl⟩; simp [go_sem]; ((repeat' (first|(refine ag_x ?_;simp [go_sem])|intro _|refine And.intro ?_ ?_|(apply hKK;clear hKK KK)));all_goals first|refine Hold.mk ?_|omega|with_reducible assumption|(simp only [InR] at *;omega)|skip))
  rename_i go
  refine awp_frzbox 5 rfl rfl ?_
  simp only [go_sem]
  obtain ⟨b1, b2, b3, b4⟩ := hF.bounds
  have hok := hF.ok
  obtain ⟨hr1, hr2, hcl, hel⟩ := trOk_regs hok
  have hfn := hF.fit (n := n) (by omega) (by omega)
  have hsl := runV_slots hfn
  (refine awp_sr fun KK hKK => ?_; simp [go_sem, en]; ((repeat' (first|(refine ag_x ?_;simp [go_sem, en])|intro _|refine And.intro ?_ ?_|(apply hKK;clear hKK KK)));all_goals first|refine Hold.mk ?_|omega|with_reducible assumption|(simp only [InR] at *;omega)|skip))
  (refine awp_sr fun KK hKK => ?_; simp [go_sem]; ((repeat' (first|(refine ag_x ?_;simp [go_sem])|intro _|refine And.intro ?_ ?_|(apply hKK;clear hKK KK)));all_goals first|refine Hold.mk ?_|omega|with_reducible assumption|(simp only [InR] at *;omega)|skip))
  ((try refine CallT.toA ?_); refine callT_m (by first | exact .inl ⟨rfl, rfl⟩ | exact .inr rfl) (by simp [go_sem]) ?_; intro args ha; simp [go_sem] at ha; subst ha; refine ⟨_, (back_spec t b1 b2 b3), ?_⟩; rintro _ rfl; simp [go_sem]; ((repeat' (first|(refine ag_x ?_;simp [go_sem])|intro _|refine And.intro ?_ ?_|(apply hKK;clear hKK KK)));all_goals first|refine Hold.mk ?_|omega|with_reducible assumption|(simp only [InR] at *;omega)|skip))
  ((try refine CallT.toA ?_); refine callT_m (by first | exact .inl ⟨rfl, rfl⟩ | exact .inr rfl) (by simp [go_sem]) ?_; intro args ha; simp [go_sem] at ha; subst ha; refine ⟨_, (better_ok t hok), ?_⟩; rintro _ ⟨⟨br, bc, be⟩, hB, rfl⟩; simp [go_sem]; ((repeat' (first|(refine ag_x ?_;simp [go_sem])|intro _|refine And.intro ?_ ?_|(apply hKK;clear hKK KK)));all_goals first|refine Hold.mk ?_|omega|with_reducible assumption|(simp only [InR] at *;omega)|skip))
  obtain ⟨hbok, hbr, hbe, hbl, hrun⟩ := hB
  simp only at hbr hbe hbl
  subst hbr hbe
  rename_i gb
  refine awp_frzbox 8 rfl rfl ?_
  simp only [go_sem]
  have hal := hrun ws n hfn
  have hbf := fit_same (t := t) (p := ⟨t.regs, bc, t.exits⟩) hbok rfl hfn
  have hbc : (⟨t.regs, bc, t.exits⟩ : Tr).code.length ≤ 500 := by simp only; omega
  obtain ⟨ra, hra⟩ : ∃ r, runV t ws n = r := ⟨_, rfl⟩
  obtain ⟨rb, hrb⟩ : ∃ r, runV ⟨t.regs, bc, t.exits⟩ ws n = r := ⟨_, rfl⟩
  rw [hra, hrb] at hal
  rw [hra] at hsl
  refine awp_seq_k fun K1 hK1 => ?_
  ((refine awp_dr (.qs [0, 1, 2, 3] (.one 4 (.qs [5, 6, 7, 8, 10, 9, 11, 12, 13, 14, 15, 18, 16, 17, 19, 20, 21, 22, 23, 24, 30, 32, 25, 26, 31, 33, 34] (.kp 27 (.qs [28, 29] (.one 35 (.qs [36, 37] (.nil)))))))) (by kernel_rfl) ?_ ?_ ?_ ?_); (kernel_rfl); (exact (by decide +kernel)); (kernel_rfl); intro KK hKK; ((repeat' (first|(refine ag_x ?_;simp [go_sem])|refine adr_nil ?_|refine adr_two ?_ ?_|refine adr_kp2 ?_ ?_|((first|refine adr_qs fun KK hKK=>?_|refine adr_y fun KK hKK=>?_);simp [go_sem])|intro _|refine And.intro ?_ ?_|(apply hKK;clear hKK KK)));all_goals first|refine Hold.mk ?_|omega|with_reducible assumption|(simp only [InR] at *;omega)|skip))
  (refine agc_f (dI 0) (by first | exact .inl ⟨rfl, rfl⟩ | exact .inr rfl) ?_ rfl ?_; (intro hc args ha; simp [go_sem] at ha; subst ha; exact (by have h := check_spec ⟨t.regs, bc, t.exits⟩; rw [if_pos hbok] at h; exact h)); simp [go_sem, show ¬ t.code.length < bc.length by omega]; ((repeat' (first|(refine ag_x ?_;simp [go_sem, show ¬ t.code.length < bc.length by omega])|refine adr_nil ?_|refine adr_two ?_ ?_|refine adr_kp2 ?_ ?_|((first|refine adr_qs fun KK hKK=>?_|refine adr_y fun KK hKK=>?_);simp [go_sem, show ¬ t.code.length < bc.length by omega])|intro _|refine And.intro ?_ ?_|(apply hKK;clear hKK KK)));all_goals first|refine Hold.mk ?_|omega|with_reducible assumption|(simp only [InR] at *;omega)|skip))
  (refine agc_m (dTr ⟨t.regs, bc, t.exits⟩) (by first | exact .inl ⟨rfl, rfl⟩ | exact .inr rfl) (by simp [go_sem]) ?_ ?_; (intro hc args ha; simp [go_sem] at ha; subst ha; exact (as_spec ⟨t.regs, bc, t.exits⟩ hbc b2 b3)); simp [go_sem, show ¬ t.code.length < bc.length by omega]; ((repeat' (first|(refine ag_x ?_;simp [go_sem, show ¬ t.code.length < bc.length by omega])|refine adr_nil ?_|refine adr_two ?_ ?_|refine adr_kp2 ?_ ?_|((first|refine adr_qs fun KK hKK=>?_|refine adr_y fun KK hKK=>?_);simp [go_sem, show ¬ t.code.length < bc.length by omega])|intro _|refine And.intro ?_ ?_|(apply hKK;clear hKK KK)));all_goals first|refine Hold.mk ?_|omega|with_reducible assumption|(simp only [InR] at *;omega)|skip))
  (refine agc_f (dB true) (by first | exact .inl ⟨rfl, rfl⟩ | exact .inr rfl) ?_ rfl ?_; (intro hc args ha; simp [go_sem] at ha; subst ha; exact (by have h := rsame_spec ⟨t.regs, [], t.exits⟩ ⟨t.regs, [], t.exits⟩; rw [decide_eq_true (Eq.refl _)] at h; exact h)); simp [go_sem]; ((repeat' (first|(refine ag_x ?_;simp [go_sem])|refine adr_nil ?_|refine adr_two ?_ ?_|refine adr_kp2 ?_ ?_|((first|refine adr_qs fun KK hKK=>?_|refine adr_y fun KK hKK=>?_);simp [go_sem])|intro _|refine And.intro ?_ ?_|(apply hKK;clear hKK KK)));all_goals first|refine Hold.mk ?_|omega|with_reducible assumption|(simp only [InR] at *;omega)|skip))
  (refine awp_if fun T F hT hF => ?_; simp [go_sem]; refine hF ?_; clear hT hF T F)
  refine awp_skip ?_
  refine hK1 _ ?_; clear hK1
  (refine awp_sr fun KK hKK => ?_; simp [go_sem]; ((repeat' (first|(refine ag_x ?_;simp [go_sem])|intro _|refine And.intro ?_ ?_|(apply hKK;clear hKK KK)));all_goals first|refine Hold.mk ?_|omega|with_reducible assumption|(simp only [InR] at *;omega)|skip))
  ((try refine CallT.toA ?_); refine callT_m (by first | exact .inl ⟨rfl, rfl⟩ | exact .inr rfl) (by simp [go_sem]) ?_; intro args ha; simp [go_sem] at ha; subst ha; refine ⟨_, (run_spec ⟨t.regs, bc, t.exits⟩ ws n), ?_⟩; rintro _ rfl; simp [go_sem, hrb, hbf]; ((repeat' (first|(refine ag_x ?_;simp [go_sem, hrb, hbf])|intro _|refine And.intro ?_ ?_|(apply hKK;clear hKK KK)));all_goals first|refine Hold.mk ?_|omega|with_reducible assumption|(simp only [InR] at *;omega)|skip))
  rename_i gr
  refine awp_frzbox 10 rfl rfl ?_
  simp only [go_sem]
  (refine awp_sr fun KK hKK => ?_; simp [go_sem]; ((repeat' (first|(refine ag_x ?_;simp [go_sem])|intro _|refine And.intro ?_ ?_|(apply hKK;clear hKK KK)));all_goals first|refine Hold.mk ?_|omega|with_reducible assumption|(simp only [InR] at *;omega)|skip))
  ((try refine CallT.toA ?_); refine callT_m (by first | exact .inl ⟨rfl, rfl⟩ | exact .inr rfl) (by simp [go_sem]) ?_; intro args ha; simp [go_sem] at ha; subst ha; refine ⟨_, (rrun_spec t ws n (by omega)), ?_⟩; rintro _ rfl; simp [go_sem, hra, hfn]; ((repeat' (first|(refine ag_x ?_;simp [go_sem, hra, hfn])|intro _|refine And.intro ?_ ?_|(apply hKK;clear hKK KK)));all_goals first|refine Hold.mk ?_|omega|with_reducible assumption|(simp only [InR] at *;omega)|skip))
  rename_i gs
  refine awp_frzbox 12 rfl rfl ?_
  simp only [go_sem]
  refine awp_seq_k fun K2 hK2 => ?_
  (refine awp_sr fun KK hKK => ?_; simp [go_sem]; ((repeat' (first|(refine ag_x ?_;simp [go_sem])|intro _|refine And.intro ?_ ?_|(apply hKK;clear hKK KK)));all_goals first|refine Hold.mk ?_|omega|with_reducible assumption|(simp only [InR] at *;omega)|skip))
  (refine awp_if fun T F hT hF => ?_; simp [go_sem]; refine hF ?_; clear hT hF T F)
  refine awp_skip ?_
  refine hK2 _ ?_; clear hK2
  (refine awp_sr fun KK hKK => ?_; simp [go_sem]; ((repeat' (first|(refine ag_x ?_;simp [go_sem])|intro _|refine And.intro ?_ ?_|(apply hKK;clear hKK KK)));all_goals first|refine Hold.mk ?_|omega|with_reducible assumption|(simp only [InR] at *;omega)|skip))
  ((try refine CallT.toA ?_); refine callT_m (by first | exact .inl ⟨rfl, rfl⟩ | exact .inr rfl) (by simp [go_sem]) ?_; intro args ha; simp [go_sem] at ha; subst ha; refine ⟨_, (alike_spec t rb ra hok hal hsl), ?_⟩; rintro _ rfl; simp [go_sem]; ((repeat' (first|(refine ag_x ?_;simp [go_sem])|intro _|refine And.intro ?_ ?_|(apply hKK;clear hKK KK)));all_goals first|refine Hold.mk ?_|omega|with_reducible assumption|(simp only [InR] at *;omega)|skip))
  (refine agc_f (dB true) (by first | exact .inl ⟨rfl, rfl⟩ | exact .inr rfl) ?_ rfl ?_; (intro hc args ha; simp [go_sem] at ha; subst ha; exact sane_spec); simp [go_sem]; ((repeat' (first|(refine ag_x ?_;simp [go_sem])|intro _|refine And.intro ?_ ?_|(apply hKK;clear hKK KK)));all_goals first|refine Hold.mk ?_|omega|with_reducible assumption|(simp only [InR] at *;omega)|skip))
  (refine awp_ret ?_; simp [go_sem])

end Go.Proofs.Ytmgbaegdkjcagaa
