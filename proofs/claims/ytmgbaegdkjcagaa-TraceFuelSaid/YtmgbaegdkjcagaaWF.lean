/- Part of a proof: see the last text. -/
import Derived.Test.YtmgbaegdkjcagaaWE
set_option linter.unusedVariables false
set_option linter.unusedSimpArgs false
namespace Go.Proofs.Ytmgbaegdkjcagaa
open Go.Eng
set_option maxRecDepth 20000
attribute [local irreducible] AG CallA CallT AWp PCall ACall AgC

/-- a number modulo m, taken without its sign -/
def umod (x m : Int) : Int := (IntKind.u64.wrap x).tmod m
theorem umod_bounds (x : Int) {m : Int} (h : 0 < m) : 0 ≤ umod x m ∧ umod x m < m :=
  ⟨Int.tmod_nonneg _ (u64_wrap_bounds x).1, Int.tmod_lt_of_pos _ h⟩
theorem Fit.fit {t : Tr} {ws : List Int} (h : Fit t ws) {n : Int} (h0 : 0 ≤ n) (h1 : n ≤ 10000) : fitOk t ws n = true := by
  simp [fitOk, h.ok, h.len, h0, h1, h.words]
theorem Fit.bounds {t : Tr} {ws : List Int} (h : Fit t ws) : t.code.length ≤ 500 ∧ t.exits.length ≤ 100 ∧ (∀ x ∈ t.exits, x.slots.length ≤ 2000) ∧ ws.length ≤ 20 := by
  have := trOk_regs h.ok
  have := h.len
  refine ⟨by have := h.code; omega, by have := h.exits; omega, fun x hx => by have := h.slots x hx; omega, by omega⟩

set_option maxHeartbeats 8000000 in
theorem traceFuel_spec (l : List Int) (fuel more : Int) : PCall Try.prog 4 [dIs l, dI fuel, dI more] fun r => r = dB true := by 
  refine pcall_of Try.func4 rfl rfl Try.ntmps4 (rs := [.tmp 6]) (tys := [4]) rfl rfl (by simp) ?_
  have hn := umod_bounds fuel (show (0 : Int) < 100 by decide)
  have hm := umod_bounds more (show (0 : Int) < 100 by decide)
  have en : (IntKind.u64.wrap fuel).tmod 100 = umod fuel 100 := rfl
  have em : (IntKind.u64.wrap more).tmod 100 = umod more 100 := rfl
  generalize umod fuel 100 = n at hn en
  generalize umod more 100 = m at hm em
  (refine awp_sr fun KK hKK => ?_; simp [go_sem]; ((repeat' (first | (refine ag_c ?_; simp [go_sem]) | (refine ag_b ?_; simp [go_sem]) | (refine ag_m ?_; simp [go_sem]) | (refine ag_a ?_; simp [go_sem]) | (refine ag_w ?_; simp [go_sem]) | intro _ | refine And.intro ?_ ?_ | (refine hKK _ ?_; clear hKK KK) | (refine hKK _ _ ?_; clear hKK KK) | refine adr_nil ?_ | ((refine adr_qs fun KK hKK => ?_); simp [go_sem]) | ((refine adr_kp fun KK hKK => ?_); simp [go_sem]) | ((refine adr_one fun KK hKK => ?_); simp [go_sem]) | refine adr_two ?_ ?_)); all_goals first | (refine Hold.mk ?_) | omega | (with_reducible assumption) | (simp only [InR] at *; omega) | skip))
  (refine awp_sr fun KK hKK => ?_; simp [go_sem]; ((repeat' (first | (refine ag_c ?_; simp [go_sem]) | (refine ag_b ?_; simp [go_sem]) | (refine ag_m ?_; simp [go_sem]) | (refine ag_a ?_; simp [go_sem]) | (refine ag_w ?_; simp [go_sem]) | intro _ | refine And.intro ?_ ?_ | (refine hKK _ ?_; clear hKK KK) | (refine hKK _ _ ?_; clear hKK KK) | refine adr_nil ?_ | ((refine adr_qs fun KK hKK => ?_); simp [go_sem]) | ((refine adr_kp fun KK hKK => ?_); simp [go_sem]) | ((refine adr_one fun KK hKK => ?_); simp [go_sem]) | refine adr_two ?_ ?_)); all_goals first | (refine Hold.mk ?_) | omega | (with_reducible assumption) | (simp only [InR] at *; omega) | skip))
  cp (grown_spec l) ⟨t, ws, hF, rfl⟩
  rename_i go
  refine awp_frzbox 7 rfl rfl ?_
  simp only [go_sem]
  obtain ⟨b1, b2, b3, b4⟩ := hF.bounds
  (refine awp_sr fun KK hKK => ?_; simp [go_sem]; ((repeat' (first | (refine ag_c ?_; simp [go_sem]) | (refine ag_b ?_; simp [go_sem]) | (refine ag_m ?_; simp [go_sem]) | (refine ag_a ?_; simp [go_sem]) | (refine ag_w ?_; simp [go_sem]) | intro _ | refine And.intro ?_ ?_ | (refine hKK _ ?_; clear hKK KK) | (refine hKK _ _ ?_; clear hKK KK) | refine adr_nil ?_ | ((refine adr_qs fun KK hKK => ?_); simp [go_sem]) | ((refine adr_kp fun KK hKK => ?_); simp [go_sem]) | ((refine adr_one fun KK hKK => ?_); simp [go_sem]) | refine adr_two ?_ ?_)); all_goals first | (refine Hold.mk ?_) | omega | (with_reducible assumption) | (simp only [InR] at *; omega) | skip))
  ((try refine CallT.toA ?_); refine callT_m (by first | exact .inl ⟨rfl, rfl⟩ | exact .inr rfl) (by simp [go_sem]) ?_; intro args ha; simp [go_sem] at ha; subst ha; refine ⟨_, (back_spec t b1 b2 b3), ?_⟩; rintro _ rfl; simp [go_sem]; ((repeat' (first | (refine ag_c ?_; simp [go_sem]) | (refine ag_b ?_; simp [go_sem]) | (refine ag_m ?_; simp [go_sem]) | (refine ag_a ?_; simp [go_sem]) | (refine ag_w ?_; simp [go_sem]) | intro _ | refine And.intro ?_ ?_ | (refine hKK _ ?_; clear hKK KK) | (refine hKK _ _ ?_; clear hKK KK) | refine adr_nil ?_ | ((refine adr_qs fun KK hKK => ?_); simp [go_sem]) | ((refine adr_kp fun KK hKK => ?_); simp [go_sem]) | ((refine adr_one fun KK hKK => ?_); simp [go_sem]) | refine adr_two ?_ ?_)); all_goals first | (refine Hold.mk ?_) | omega | (with_reducible assumption) | (simp only [InR] at *; omega) | skip))
  rename_i gt
  refine awp_frzbox 9 rfl rfl ?_
  simp only [go_sem]
  (refine awp_sr fun KK hKK => ?_; simp [go_sem, en]; ((repeat' (first | (refine ag_c ?_; simp [go_sem, en]) | (refine ag_b ?_; simp [go_sem, en]) | (refine ag_m ?_; simp [go_sem, en]) | (refine ag_a ?_; simp [go_sem, en]) | (refine ag_w ?_; simp [go_sem, en]) | intro _ | refine And.intro ?_ ?_ | (refine hKK _ ?_; clear hKK KK) | (refine hKK _ _ ?_; clear hKK KK) | refine adr_nil ?_ | ((refine adr_qs fun KK hKK => ?_); simp [go_sem, en]) | ((refine adr_kp fun KK hKK => ?_); simp [go_sem, en]) | ((refine adr_one fun KK hKK => ?_); simp [go_sem, en]) | refine adr_two ?_ ?_)); all_goals first | (refine Hold.mk ?_) | omega | (with_reducible assumption) | (simp only [InR] at *; omega) | skip))
  (refine awp_sr fun KK hKK => ?_; simp [go_sem, em]; ((repeat' (first | (refine ag_c ?_; simp [go_sem, em]) | (refine ag_b ?_; simp [go_sem, em]) | (refine ag_m ?_; simp [go_sem, em]) | (refine ag_a ?_; simp [go_sem, em]) | (refine ag_w ?_; simp [go_sem, em]) | intro _ | refine And.intro ?_ ?_ | (refine hKK _ ?_; clear hKK KK) | (refine hKK _ _ ?_; clear hKK KK) | refine adr_nil ?_ | ((refine adr_qs fun KK hKK => ?_); simp [go_sem, em]) | ((refine adr_kp fun KK hKK => ?_); simp [go_sem, em]) | ((refine adr_one fun KK hKK => ?_); simp [go_sem, em]) | refine adr_two ?_ ?_)); all_goals first | (refine Hold.mk ?_) | omega | (with_reducible assumption) | (simp only [InR] at *; omega) | skip))
  have hfn := hF.fit (n := n) (by omega) (by omega)
  have hfm := hF.fit (n := n + m) (by omega) (by omega)
  obtain ⟨ra, hra⟩ : ∃ r, runV t ws n = r := ⟨_, rfl⟩
  obtain ⟨rb, hrb⟩ : ∃ r, runV t ws (n + m) = r := ⟨_, rfl⟩
  obtain ⟨h1, h2, h3, h4⟩ : ra.told <+: rb.told ∧ ra.rounds ≤ rb.rounds ∧ ra.rounds ≤ n ∧ (0 ≤ ra.exit → ra = rb) := by
    rw [← hra, ← hrb]
    simp only [runV, hfn, hfm, if_true]
    rw [show (n + m).toNat = n.toNat + m.toNat by omega]
    obtain ⟨q1, q2, q3, q4⟩ := goRounds_more t m.toNat n.toNat 0 ws []
    exact ⟨q1, q2, by simp at q3; omega, q4⟩
  have h1l := h1.length_le
  have h1t : ra.told = rb.told.take ra.told.length := List.prefix_iff_eq_take.1 h1
  (refine awp_sr fun KK hKK => ?_; simp [go_sem]; ((repeat' (first | (refine ag_c ?_; simp [go_sem]) | (refine ag_b ?_; simp [go_sem]) | (refine ag_m ?_; simp [go_sem]) | (refine ag_a ?_; simp [go_sem]) | (refine ag_w ?_; simp [go_sem]) | intro _ | refine And.intro ?_ ?_ | (refine hKK _ ?_; clear hKK KK) | (refine hKK _ _ ?_; clear hKK KK) | refine adr_nil ?_ | ((refine adr_qs fun KK hKK => ?_); simp [go_sem]) | ((refine adr_kp fun KK hKK => ?_); simp [go_sem]) | ((refine adr_one fun KK hKK => ?_); simp [go_sem]) | refine adr_two ?_ ?_)); all_goals first | (refine Hold.mk ?_) | omega | (with_reducible assumption) | (simp only [InR] at *; omega) | skip))
  ((try refine CallT.toA ?_); refine callT_m (by first | exact .inl ⟨rfl, rfl⟩ | exact .inr rfl) (by simp [go_sem]) ?_; intro args ha; simp [go_sem] at ha; subst ha; refine ⟨_, (run_spec t ws n), ?_⟩; rintro _ rfl; simp [go_sem, hra, hfn]; ((repeat' (first | (refine ag_c ?_; simp [go_sem, hra, hfn]) | (refine ag_b ?_; simp [go_sem, hra, hfn]) | (refine ag_m ?_; simp [go_sem, hra, hfn]) | (refine ag_a ?_; simp [go_sem, hra, hfn]) | (refine ag_w ?_; simp [go_sem, hra, hfn]) | intro _ | refine And.intro ?_ ?_ | (refine hKK _ ?_; clear hKK KK) | (refine hKK _ _ ?_; clear hKK KK) | refine adr_nil ?_ | ((refine adr_qs fun KK hKK => ?_); simp [go_sem, hra, hfn]) | ((refine adr_kp fun KK hKK => ?_); simp [go_sem, hra, hfn]) | ((refine adr_one fun KK hKK => ?_); simp [go_sem, hra, hfn]) | refine adr_two ?_ ?_)); all_goals first | (refine Hold.mk ?_) | omega | (with_reducible assumption) | (simp only [InR] at *; omega) | skip))
  rename_i ga
  refine awp_frzbox 12 rfl rfl ?_
  simp only [go_sem]
  (refine awp_sr fun KK hKK => ?_; simp [go_sem]; ((repeat' (first | (refine ag_c ?_; simp [go_sem]) | (refine ag_b ?_; simp [go_sem]) | (refine ag_m ?_; simp [go_sem]) | (refine ag_a ?_; simp [go_sem]) | (refine ag_w ?_; simp [go_sem]) | intro _ | refine And.intro ?_ ?_ | (refine hKK _ ?_; clear hKK KK) | (refine hKK _ _ ?_; clear hKK KK) | refine adr_nil ?_ | ((refine adr_qs fun KK hKK => ?_); simp [go_sem]) | ((refine adr_kp fun KK hKK => ?_); simp [go_sem]) | ((refine adr_one fun KK hKK => ?_); simp [go_sem]) | refine adr_two ?_ ?_)); all_goals first | (refine Hold.mk ?_) | omega | (with_reducible assumption) | (simp only [InR] at *; omega) | skip))
  ((try refine CallT.toA ?_); refine callT_m (by first | exact .inl ⟨rfl, rfl⟩ | exact .inr rfl) (by simp [go_sem]) ?_; intro args ha; simp [go_sem] at ha; subst ha; refine ⟨_, (run_spec t ws (n + m)), ?_⟩; rintro _ rfl; simp [go_sem, hrb, hfm]; ((repeat' (first | (refine ag_c ?_; simp [go_sem, hrb, hfm]) | (refine ag_b ?_; simp [go_sem, hrb, hfm]) | (refine ag_m ?_; simp [go_sem, hrb, hfm]) | (refine ag_a ?_; simp [go_sem, hrb, hfm]) | (refine ag_w ?_; simp [go_sem, hrb, hfm]) | intro _ | refine And.intro ?_ ?_ | (refine hKK _ ?_; clear hKK KK) | (refine hKK _ _ ?_; clear hKK KK) | refine adr_nil ?_ | ((refine adr_qs fun KK hKK => ?_); simp [go_sem, hrb, hfm]) | ((refine adr_kp fun KK hKK => ?_); simp [go_sem, hrb, hfm]) | ((refine adr_one fun KK hKK => ?_); simp [go_sem, hrb, hfm]) | refine adr_two ?_ ?_)); all_goals first | (refine Hold.mk ?_) | omega | (with_reducible assumption) | (simp only [InR] at *; omega) | skip))
  rename_i gb
  refine awp_frzbox 14 rfl rfl ?_
  simp only [go_sem]
  refine awp_seq_k fun K1 hK1 => ?_
  ((refine awp_dr (.qs [0, 1, 2, 3, 4, 5, 6, 7, 10, 8, 9, 11, 12, 13, 14, 15, 16, 18, 20, 17, 19, 21, 22, 23] (.one 24 (.qs [25, 26, 27, 28, 30, 29, 31, 32, 33, 34, 35, 37, 36, 38, 39] (.nil)))) (by kernel_rfl) ?_ ?_ ?_ ?_); (kernel_rfl); (exact (by decide +kernel)); (kernel_rfl); intro KK hKK; ((repeat' (first | (refine ag_c ?_; simp [go_sem]) | (refine ag_b ?_; simp [go_sem]) | (refine ag_m ?_; simp [go_sem]) | (refine ag_a ?_; simp [go_sem]) | (refine ag_w ?_; simp [go_sem]) | intro _ | refine And.intro ?_ ?_ | (refine hKK _ ?_; clear hKK KK) | (refine hKK _ _ ?_; clear hKK KK) | refine adr_nil ?_ | ((refine adr_qs fun KK hKK => ?_); simp [go_sem]) | ((refine adr_kp fun KK hKK => ?_); simp [go_sem]) | ((refine adr_one fun KK hKK => ?_); simp [go_sem]) | refine adr_two ?_ ?_)); all_goals first | (refine Hold.mk ?_) | omega | (with_reducible assumption) | (simp only [InR] at *; omega) | skip))
  (refine agc_f (dB true) (by first | exact .inl ⟨rfl, rfl⟩ | exact .inr rfl) ?_ rfl ?_; (intro hc args ha; simp [go_sem] at ha; subst ha; exact (by have h := ints_spec ra.told (rb.told.take ra.told.length); rw [decide_eq_true h1t] at h; simpa only [dIs, List.map_take] using h)); simp [go_sem]; ((repeat' (first | (refine ag_c ?_; simp [go_sem]) | (refine ag_b ?_; simp [go_sem]) | (refine ag_m ?_; simp [go_sem]) | (refine ag_a ?_; simp [go_sem]) | (refine ag_w ?_; simp [go_sem]) | intro _ | refine And.intro ?_ ?_ | (refine hKK _ ?_; clear hKK KK) | (refine hKK _ _ ?_; clear hKK KK) | refine adr_nil ?_ | ((refine adr_qs fun KK hKK => ?_); simp [go_sem]) | ((refine adr_kp fun KK hKK => ?_); simp [go_sem]) | ((refine adr_one fun KK hKK => ?_); simp [go_sem]) | refine adr_two ?_ ?_)); all_goals first | (refine Hold.mk ?_) | omega | (with_reducible assumption) | (simp only [InR] at *; omega) | skip))
  (refine awp_if fun T F hT hF => ?_; simp [go_sem]; refine BR.intro (fun h5 => hT ?_) (fun h5 => hF ?_); all_goals clear hT hF T F; try simp at h5) 
  · omega
  · refine awp_skip ?_
    refine hK1 _ ?_; clear hK1
    refine awp_seq_k fun K3 hK3 => ?_
    (refine awp_sr fun KK hKK => ?_; simp [go_sem]; ((repeat' (first | (refine ag_c ?_; simp [go_sem]) | (refine ag_b ?_; simp [go_sem]) | (refine ag_m ?_; simp [go_sem]) | (refine ag_a ?_; simp [go_sem]) | (refine ag_w ?_; simp [go_sem]) | intro _ | refine And.intro ?_ ?_ | (refine hKK _ ?_; clear hKK KK) | (refine hKK _ _ ?_; clear hKK KK) | refine adr_nil ?_ | ((refine adr_qs fun KK hKK => ?_); simp [go_sem]) | ((refine adr_kp fun KK hKK => ?_); simp [go_sem]) | ((refine adr_one fun KK hKK => ?_); simp [go_sem]) | refine adr_two ?_ ?_)); all_goals first | (refine Hold.mk ?_) | omega | (with_reducible assumption) | (simp only [InR] at *; omega) | skip))
    (refine agc_f (dB (decide (ra.slots = rb.slots))) (by first | exact .inl ⟨rfl, rfl⟩ | exact .inr rfl) ?_ rfl ?_; (intro hc args ha; simp [go_sem] at ha; subst ha; exact (ints_spec _ _)); simp [go_sem]; ((repeat' (first | (refine ag_c ?_; simp [go_sem]) | (refine ag_b ?_; simp [go_sem]) | (refine ag_m ?_; simp [go_sem]) | (refine ag_a ?_; simp [go_sem]) | (refine ag_w ?_; simp [go_sem]) | intro _ | refine And.intro ?_ ?_ | (refine hKK _ ?_; clear hKK KK) | (refine hKK _ _ ?_; clear hKK KK) | refine adr_nil ?_ | ((refine adr_qs fun KK hKK => ?_); simp [go_sem]) | ((refine adr_kp fun KK hKK => ?_); simp [go_sem]) | ((refine adr_one fun KK hKK => ?_); simp [go_sem]) | refine adr_two ?_ ?_)); all_goals first | (refine Hold.mk ?_) | omega | (with_reducible assumption) | (simp only [InR] at *; omega) | skip))
    (refine agc_f (dB (decide (ra.told = rb.told))) (by first | exact .inl ⟨rfl, rfl⟩ | exact .inr rfl) ?_ rfl ?_; (intro hc args ha; simp [go_sem] at ha; subst ha; exact (ints_spec _ _)); simp [go_sem]; ((repeat' (first | (refine ag_c ?_; simp [go_sem]) | (refine ag_b ?_; simp [go_sem]) | (refine ag_m ?_; simp [go_sem]) | (refine ag_a ?_; simp [go_sem]) | (refine ag_w ?_; simp [go_sem]) | intro _ | refine And.intro ?_ ?_ | (refine hKK _ ?_; clear hKK KK) | (refine hKK _ _ ?_; clear hKK KK) | refine adr_nil ?_ | ((refine adr_qs fun KK hKK => ?_); simp [go_sem]) | ((refine adr_kp fun KK hKK => ?_); simp [go_sem]) | ((refine adr_one fun KK hKK => ?_); simp [go_sem]) | refine adr_two ?_ ?_)); all_goals first | (refine Hold.mk ?_) | omega | (with_reducible assumption) | (simp only [InR] at *; omega) | skip))
    (refine awp_if fun T F hT hF => ?_; simp [go_sem]; refine BR.intro (fun h6 => hT ?_) (fun h6 => hF ?_); all_goals clear hT hF T F; try simp at h6) 
    · exfalso
      have := h4 h6.1
      subst this
      simp at h6
    · refine awp_skip ?_
      refine hK3 _ ?_; clear hK3
      (refine awp_sr fun KK hKK => ?_; simp [go_sem]; ((repeat' (first | (refine ag_c ?_; simp [go_sem]) | (refine ag_b ?_; simp [go_sem]) | (refine ag_m ?_; simp [go_sem]) | (refine ag_a ?_; simp [go_sem]) | (refine ag_w ?_; simp [go_sem]) | intro _ | refine And.intro ?_ ?_ | (refine hKK _ ?_; clear hKK KK) | (refine hKK _ _ ?_; clear hKK KK) | refine adr_nil ?_ | ((refine adr_qs fun KK hKK => ?_); simp [go_sem]) | ((refine adr_kp fun KK hKK => ?_); simp [go_sem]) | ((refine adr_one fun KK hKK => ?_); simp [go_sem]) | refine adr_two ?_ ?_)); all_goals first | (refine Hold.mk ?_) | omega | (with_reducible assumption) | (simp only [InR] at *; omega) | skip))
      ((try refine CallT.toA ?_); refine callT_f (by first | exact .inl ⟨rfl, rfl⟩ | exact .inr rfl) ?_; intro args ha; simp [go_sem] at ha; subst ha; refine ⟨_, sane_spec, ?_⟩; rintro _ rfl; refine ⟨rfl, ?_⟩; simp [go_sem]; ((repeat' (first | (refine ag_c ?_; simp [go_sem]) | (refine ag_b ?_; simp [go_sem]) | (refine ag_m ?_; simp [go_sem]) | (refine ag_a ?_; simp [go_sem]) | (refine ag_w ?_; simp [go_sem]) | intro _ | refine And.intro ?_ ?_ | (refine hKK _ ?_; clear hKK KK) | (refine hKK _ _ ?_; clear hKK KK) | refine adr_nil ?_ | ((refine adr_qs fun KK hKK => ?_); simp [go_sem]) | ((refine adr_kp fun KK hKK => ?_); simp [go_sem]) | ((refine adr_one fun KK hKK => ?_); simp [go_sem]) | refine adr_two ?_ ?_)); all_goals first | (refine Hold.mk ?_) | omega | (with_reducible assumption) | (simp only [InR] at *; omega) | skip))
      (refine awp_ret ?_; simp [go_sem])
end Go.Proofs.Ytmgbaegdkjcagaa
