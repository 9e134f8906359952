/- Part of a proof: see the last text. -/
import Derived.Test.YtglncfhcgkihbaaGreatDoorF00
import Derived.Test.YtglncfhcgkihbaaGreatDoorF01
import Derived.Test.YtglncfhcgkihbaaGreatDoorF02
import Derived.Test.YtglncfhcgkihbaaGreatDoorF03
import Derived.Test.YtglncfhcgkihbaaGreatDoorF04
import Derived.Test.YtglncfhcgkihbaaGreatDoorF05
import Derived.Test.YtglncfhcgkihbaaGreatDoorF06
import Derived.Test.YtglncfhcgkihbaaGreatDoorF07
import Derived.Test.YtglncfhcgkihbaaGreatDoorF08
import Derived.Test.YtglncfhcgkihbaaGreatDoorF09
import Derived.Test.YtglncfhcgkihbaaGreatDoorF11
import Derived.Test.YtglncfhcgkihbaaGreatDoorF13
import Derived.Test.YtglncfhcgkihbaaGreatDoorF15
import Derived.Test.YtglncfhcgkihbaaGreatDoorF16
import Derived.Test.YtglncfhcgkihbaaGreatDoorF17
import Derived.Test.YtglncfhcgkihbaaGreatDoorF19
set_option linter.unusedVariables false
set_option linter.unusedSimpArgs false
namespace Go.Proofs.YtglncfhcgkihbaaGreatDoor
open Go.Eng Go.Wh
set_option maxRecDepth 20000
set_option linter.unusedSimpArgs false
set_option linter.unusedVariables false
attribute [local irreducible] AG CallA CallT AWp PCall ACall AgC
/-- what IsRatio asks -/
def ratW (num den : List UInt8) : Bool := (numOk num && numOk den) && !(decide (num = [48]) || decide (den.head? = some 45) || decide (den = [48]) || decide (den = [49])) && (Nat.gcd (numV num).natAbs (numV den).natAbs == 1)
theorem ratV_cut {s : List UInt8} (h : numOk s = false) : ratV s = if (Lib.cut s [47]).2.2 = true ∧ ratW (Lib.cut s [47]).1 (Lib.cut s [47]).2.1 = true then some (numV (Lib.cut s [47]).1, numV (Lib.cut s [47]).2.1) else none := by
  cases hc : (Lib.cut s [47]).2.2 with
  | false =>
    have := cut_no hc
    unfold ratV
    rw [this]
    simp [h]
  | true =>
    unfold ratV ratW
    rw [hc]
    generalize (Lib.cut s [47]).1 = num at *
    generalize (Lib.cut s [47]).2.1 = den at *
    cases hn : numOk num with
    | false => simp
    | true =>
      cases hd : numOk den with
      | false => simp
      | true =>
        by_cases h0 : num = [48]
        · subst h0
          have e : (numV [48]).natAbs = 0 := by decide
          simp only [e, Nat.gcd_zero_left]
          have : (decide (den = [49]) = true ∨ ((numV den).natAbs == 1) = false ∨ decide (den.head? = some 45) = true) := by
            by_cases h1 : (numV den).natAbs = 1
            · by_cases h2 : den.head? = some 45
              · exact .inr (.inr (by simpa using h2))
              · left
                have h3 : numV den = 1 := by
                  have := numV_neg hd
                  have h4 : ¬ numV den < 0 := by
                    intro h5
                    have := this.symm.trans (decide_eq_true h5)
                    simp at this; exact h2 this
                  omega
                have := itoa_num hd
                rw [h3] at this
                rw [← this]
                simp [(itoa_one 1).2 rfl]
                exact (itoa_one 1).2 rfl
            · exact .inr (.inl (by simpa using h1))
          rcases this with h | h | h <;> simp [h]
        · simp [h0]
theorem dgT_cons {G : Nat} (h : G ≠ 0) : ∃ d r, dg 10 G = d :: r ∧ ((r.length = 0 ∧ d = 1) ↔ G = 1) := by
  refine ⟨((G % 10 : Nat) : Int), dg 10 (G / 10), dg_pos (by decide) h, ?_⟩
  rw [List.length_eq_zero_iff, dg_nil (B := 10) (by decide)]
  omega
set_option maxHeartbeats 8000000 in
theorem isRatio_spec (s : List UInt8) (hl : s.length ≤ 1000000000) : PCall Tryz.prog 137 [dS s] fun r => ∃ p q : Int, r = .tup [dRatT p q, dB ((Lib.cut s [47]).2.2 && ratW (Lib.cut s [47]).1 (Lib.cut s [47]).2.1)] ∧ ((Lib.cut s [47]).2.2 = true ∧ ratW (Lib.cut s [47]).1 (Lib.cut s [47]).2.1 = true → p = numV (Lib.cut s [47]).1 ∧ q = numV (Lib.cut s [47]).2.1) := by 
  refine pcall_of Tryz.func137 rfl rfl Tryz.ntmps137 (rs := [.cell 2 81, .tmp 3]) (tys := [81, 4]) rfl rfl (by simp) ?_
  obtain ⟨hc1, hc2⟩ := cut_len s [47]
  have hcut := cut_spec s [47] (by omega)
  generalize (Lib.cut s [47]).1 = num at *
  generalize (Lib.cut s [47]).2.1 = den at *
  generalize (Lib.cut s [47]).2.2 = isR at *
  have hv := rall2 num den (by omega) (by omega)
  (refine awp_sr fun KK hKK => ?_; simp [go_sem]; ((repeat' (first|(refine ag_x ?_;simp [go_sem])|intro _|refine And.intro ?_ ?_|(apply hKK;clear hKK KK)));all_goals first|refine Hold.mk ?_|omega|with_reducible assumption|(simp only [InR] at *;omega)|skip))
  rename_i g2
  (refine awp_sr fun KK hKK => ?_; simp [go_sem]; ((repeat' (first|(refine ag_x ?_;simp [go_sem])|intro _|refine And.intro ?_ ?_|(apply hKK;clear hKK KK)));all_goals first|refine Hold.mk ?_|omega|with_reducible assumption|(simp only [InR] at *;omega)|skip))
  ((try refine CallT.toA ?_); refine callT_m (by first | exact .inl ⟨rfl, rfl⟩ | exact .inr rfl) (by simp [go_sem]) ?_; intro args ha; simp [go_sem] at ha; subst ha; refine ⟨_, hcut, ?_⟩; rintro _ rfl; simp [go_sem]; ((repeat' (first|(refine ag_x ?_;simp [go_sem])|intro _|refine And.intro ?_ ?_|(apply hKK;clear hKK KK)));all_goals first|refine Hold.mk ?_|omega|with_reducible assumption|(simp only [InR] at *;omega)|skip))
  refine awp_seq_k fun K1 hK1 => ?_
  (refine awp_sr fun KK hKK => ?_; simp [go_sem]; ((repeat' (first|(refine ag_x ?_;simp [go_sem])|intro _|refine And.intro ?_ ?_|(apply hKK;clear hKK KK)));all_goals first|refine Hold.mk ?_|omega|with_reducible assumption|(simp only [InR] at *;omega)|skip))
  cases isR with
  | false =>
    (refine awp_if fun T F hT hF => ?_; simp [go_sem]; refine hT ?_; clear hT hF T F)
    (refine awp_sr fun KK hKK => ?_; simp [go_sem]; ((repeat' (first|(refine ag_x ?_;simp [go_sem])|intro _|refine And.intro ?_ ?_|(apply hKK;clear hKK KK)));all_goals first|refine Hold.mk ?_|omega|with_reducible assumption|(simp only [InR] at *;omega)|skip))
    (refine awp_ret ?_; simp [go_sem])
    first | exact ⟨0, by decide, by simp [dg_zero], 0, by decide, by simp [dg_zero]⟩ | exact ⟨0, by decide, by simp [dg_zero]⟩ | exact ⟨⟨0, by decide, by simp [dg_zero]⟩, ⟨0, by decide, by simp [dg_zero]⟩⟩ | trace_state
  | true =>
    (refine awp_if fun T F hT hF => ?_; simp [go_sem]; refine hF ?_; clear hT hF T F)
    refine awp_skip ?_
    refine hK1 _ ?_; clear hK1
    simp only [Bool.true_and, true_and]
    cases hok : (numOk num && numOk den) with
    | false =>
      rw [hok] at hv
      have hw : ratW num den = false := by unfold ratW; rw [hok]; simp
      rw [hw]
      refine awp_seq_k fun K3 hK3 => ?_
      (refine awp_sr fun KK hKK => ?_; simp [go_sem]; ((repeat' (first|(refine ag_x ?_;simp [go_sem])|intro _|refine And.intro ?_ ?_|(apply hKK;clear hKK KK)));all_goals first|refine Hold.mk ?_|omega|with_reducible assumption|(simp only [InR] at *;omega)|skip))
      ((try refine CallT.toA ?_); refine callT_z (by first | exact .inl ⟨rfl, rfl⟩ | exact .inr rfl) rfl (by simp [go_sem]) (by simp [go_sem]) ?_; intro args ha; simp [go_sem] at ha; subst ha; refine ⟨_, hv, ?_⟩; rintro _ rfl; simp [go_sem]; ((repeat' (first|(refine ag_false (by simp [go_sem, undef]) (by simp [go_sem]) ?_;simp [go_sem])|intro _|refine And.intro ?_ ?_|(apply hKK;clear hKK KK)));all_goals first|refine Hold.mk ?_|omega|with_reducible assumption|(simp only [InR] at *;omega)|skip))
      (refine awp_if fun T F hT hF => ?_; simp [go_sem]; refine hT ?_; clear hT hF T F)
      (refine awp_sr fun KK hKK => ?_; simp [go_sem]; ((repeat' (first|(refine ag_x ?_;simp [go_sem])|intro _|refine And.intro ?_ ?_|(apply hKK;clear hKK KK)));all_goals first|refine Hold.mk ?_|omega|with_reducible assumption|(simp only [InR] at *;omega)|skip))
      (refine awp_ret ?_; simp [go_sem])
      first | exact ⟨0, by decide, by simp [dg_zero], 0, by decide, by simp [dg_zero]⟩ | exact ⟨0, by decide, by simp [dg_zero]⟩ | exact ⟨⟨0, by decide, by simp [dg_zero]⟩, ⟨0, by decide, by simp [dg_zero]⟩⟩ | trace_state
    | true =>
      rw [hok] at hv
      have hw0 : ratW num den = (!(decide (num = [48]) || decide (den.head? = some 45) || decide (den = [48]) || decide (den = [49])) && (Nat.gcd (numV num).natAbs (numV den).natAbs == 1)) := by unfold ratW; rw [hok]; simp
      simp only [Bool.and_eq_true] at hok
      have r1 := rread_spec num hok.1
      have r2 := rread_spec den hok.2
      have s1 := szT_numOk hok.1
      have s2 := szT_numOk hok.2
      have hz := num0 hok.2
      obtain ⟨c, t, hat⟩ : ∃ c t, den = c :: t := by
        cases den with
        | nil => exact absurd rfl (numOk_ne hok.2)
        | cons c t => exact ⟨c, t, rfl⟩
      have hc0 : den.head? = some c := by rw [hat]; rfl
      have hc0' : den[0]? = some c := by rw [hat]; rfl
      have h45 := u45 c
      rw [hc0] at hw0
      have hgs := rgcd_spec (numV num).natAbs (numV den).natAbs (Nat.le_trans s1 (by omega)) (Nat.le_trans s2 (by omega))
      have hgne : (numV den).natAbs ≠ 0 → Nat.gcd (numV num).natAbs (numV den).natAbs ≠ 0 := fun h => Nat.pos_iff_ne_zero.1 (Nat.gcd_pos_of_pos_right _ (Nat.pos_of_ne_zero h))
      have hgl : (numV den).natAbs ≠ 0 → (dg 10 (Nat.gcd (numV num).natAbs (numV den).natAbs)).length ≤ 400 := fun h => Nat.le_trans (dgT_le (Nat.gcd_le_right _ (Nat.pos_of_ne_zero h))) s2
      generalize ratW num den = W at *
      generalize numV num = m at *
      generalize numV den = n at *
      generalize Nat.gcd m.natAbs n.natAbs = G at *
      refine awp_seq_k fun K3 hK3 => ?_
      (refine awp_sr fun KK hKK => ?_; simp [go_sem]; ((repeat' (first|(refine ag_x ?_;simp [go_sem])|intro _|refine And.intro ?_ ?_|(apply hKK;clear hKK KK)));all_goals first|refine Hold.mk ?_|omega|with_reducible assumption|(simp only [InR] at *;omega)|skip))
      ((try refine CallT.toA ?_); refine callT_z (by first | exact .inl ⟨rfl, rfl⟩ | exact .inr rfl) rfl (by simp [go_sem]) (by simp [go_sem]) ?_; intro args ha; simp [go_sem] at ha; subst ha; refine ⟨_, hv, ?_⟩; rintro _ rfl; simp [go_sem, hc0']; ((repeat' (first|(refine ag_x ?_;simp [go_sem, hc0'])|intro _|refine And.intro ?_ ?_|(apply hKK;clear hKK KK)));all_goals first|refine Hold.mk ?_|omega|with_reducible assumption|(simp only [InR] at *;omega)|skip))
      (refine awp_if fun T F hT hF => ?_; simp [go_sem]; refine BR.intro (fun h4 => hT ?_) (fun h4 => hF ?_); all_goals clear hT hF T F; try simp at h4) 
      · have hw : W = false := by
          rw [hw0]
          rcases h4 with ((h | h) | h) | h
          · simp [h]
          · simp [h45.1 h]
          · simp [h]
          · simp [h]
        rw [hw]
        (refine awp_sr fun KK hKK => ?_; simp [go_sem]; ((repeat' (first|(refine ag_x ?_;simp [go_sem])|intro _|refine And.intro ?_ ?_|(apply hKK;clear hKK KK)));all_goals first|refine Hold.mk ?_|omega|with_reducible assumption|(simp only [InR] at *;omega)|skip))
        (refine awp_ret ?_; simp [go_sem])
        first | exact ⟨0, by decide, by simp [dg_zero], 0, by decide, by simp [dg_zero]⟩ | exact ⟨0, by decide, by simp [dg_zero]⟩ | exact ⟨⟨0, by decide, by simp [dg_zero]⟩, ⟨0, by decide, by simp [dg_zero]⟩⟩ | trace_state
      · have hn0 : n.natAbs ≠ 0 := fun h => h4.1.2 (hz.2 (by omega))
        have hw : W = (G == 1) := by
          have q1 : ¬ c = 45 := fun h => h4.1.1.2 (h45.2 h)
          rw [hw0]; simp [h4.1.1.1, q1, h4.1.2, h4.2]
        obtain ⟨d0, rest, hdg, hiff⟩ := dgT_cons (hgne hn0)
        have hGW : W = decide (rest.length = 0 ∧ d0 = 1) := by
          rw [hw]
          refine Bool.eq_iff_iff.2 ?_
          simp only [beq_iff_eq, decide_eq_true_eq]
          exact hiff.symm
        rw [hdg] at hgs
        have hrl : rest.length ≤ 1000 := by
          have := hgl hn0
          rw [hdg, List.length_cons] at this; omega
        refine awp_skip ?_
        refine hK3 _ ?_; clear hK3
        rw [hGW]
        (refine awp_sr fun KK hKK => ?_; simp [go_sem]; ((repeat' (first|(refine ag_x ?_;simp [go_sem])|intro _|refine And.intro ?_ ?_|(apply hKK;clear hKK KK)));all_goals first|refine Hold.mk ?_|omega|with_reducible assumption|(simp only [InR] at *;omega)|skip))
        ((try refine CallT.toA ?_); refine callT_m (by first | exact .inl ⟨rfl, rfl⟩ | exact .inr rfl) (by simp [go_sem]) ?_; intro args ha; simp [go_sem] at ha; subst ha; refine ⟨_, r1, ?_⟩; rintro _ rfl; simp [go_sem]; ((repeat' (first|(refine ag_x ?_;simp [go_sem])|intro _|refine And.intro ?_ ?_|(apply hKK;clear hKK KK)));all_goals first|refine Hold.mk ?_|omega|with_reducible assumption|(simp only [InR] at *;omega)|skip))
        ((try refine CallT.toA ?_); refine callT_m (by first | exact .inl ⟨rfl, rfl⟩ | exact .inr rfl) (by simp [go_sem]) ?_; intro args ha; simp [go_sem] at ha; subst ha; refine ⟨_, r2, ?_⟩; rintro _ rfl; simp [go_sem]; ((repeat' (first|(refine ag_x ?_;simp [go_sem])|intro _|refine And.intro ?_ ?_|(apply hKK;clear hKK KK)));all_goals first|refine Hold.mk ?_|omega|with_reducible assumption|(simp only [InR] at *;omega)|skip))
        ((refine awp_dr (.qs [1, 2, 4, 5, 0, 3, 6] (.kp 7 (.qs [8, 9, 10, 11, 12] (.nb (.qs [14, 15, 13, 16] (.kp 17 (.qs [18] (.nb (.kq 19 (.qs [20, 21] (.one 22 (.qs [23] (.nil)))) 22 (.qs [19, 20, 21, 23] (.nil))))))))))) (by kernel_rfl) ?_ ?_ ?_ ?_); (kernel_rfl); (exact (by decide +kernel)); (kernel_rfl); intro KK hKK; ((repeat' (first|(refine ag_x ?_;simp [go_sem])|refine adr_nil ?_|refine adr_two ?_ ?_|refine adr_kq ?_ ?_|refine adr_three ?_ ?_ ?_|refine adr_four ?_ ?_ ?_ ?_|refine adr_kp2 ?_ ?_|refine adr_kp3 ?_ ?_ ?_|((first|refine adr_qs fun KK hKK=>?_|refine adr_y fun KK hKK=>?_);simp [go_sem])|intro _|refine And.intro ?_ ?_|(apply hKK;clear hKK KK)));all_goals first|refine Hold.mk ?_|omega|with_reducible assumption|(simp only [InR] at *;omega)|skip))
        ((try refine CallT.toA ?_); refine callT_m (by first | exact .inl ⟨rfl, rfl⟩ | exact .inr rfl) (by simp [go_sem]) ?_; intro args ha; simp [go_sem] at ha; subst ha; refine ⟨_, hgs, ?_⟩; rintro _ rfl; simp [go_sem]; ((repeat' (first|(refine ag_x ?_;simp [go_sem])|refine adr_nil ?_|refine adr_two ?_ ?_|refine adr_kq ?_ ?_|refine adr_three ?_ ?_ ?_|refine adr_four ?_ ?_ ?_ ?_|refine adr_kp2 ?_ ?_|refine adr_kp3 ?_ ?_ ?_|((first|refine adr_qs fun KK hKK=>?_|refine adr_y fun KK hKK=>?_);simp [go_sem])|intro _|refine And.intro ?_ ?_|(apply hKK;clear hKK KK)));all_goals first|refine Hold.mk ?_|omega|with_reducible assumption|(simp only [InR] at *;omega)|skip))
        (refine agc_m (.sl 1 (cI d0 :: rest.map cI)) (by first | exact .inl ⟨rfl, rfl⟩ | exact .inr rfl) (by simp [go_sem]) ?_ ?_; (intro hc args ha; simp [go_sem] at ha; subst ha; exact hgs); simp [go_sem]; ((repeat' (first|(refine ag_x ?_;simp [go_sem])|refine adr_nil ?_|refine adr_two ?_ ?_|refine adr_kq ?_ ?_|refine adr_three ?_ ?_ ?_|refine adr_four ?_ ?_ ?_ ?_|refine adr_kp2 ?_ ?_|refine adr_kp3 ?_ ?_ ?_|((first|refine adr_qs fun KK hKK=>?_|refine adr_y fun KK hKK=>?_);simp [go_sem])|intro _|refine And.intro ?_ ?_|(apply hKK;clear hKK KK)));all_goals first|refine Hold.mk ?_|omega|with_reducible assumption|(simp only [InR] at *;omega)|skip))
        all_goals (refine awp_ret ?_; simp [go_sem])
        all_goals (refine ⟨m, n, ⟨⟨Iff.rfl, rfl, Iff.rfl, rfl⟩, ?_⟩, fun _ _ => ⟨rfl, rfl⟩⟩; congr 1; exact decide_eq_decide.2 ⟨fun h => by rw [← List.length_eq_zero_iff]; omega, fun h => by rw [h]; simp⟩)
set_option maxHeartbeats 4000000 in
theorem rReadRatio_spec (s : List UInt8) (hl : s.length ≤ 1000000000) : PCall Tryz.prog 115 [dS s] fun r => ∃ p q : Int, r = .tup [dRatT p q, dB (ratV s).isSome] ∧ ∀ v, ratV s = some v → p = v.1 ∧ q = v.2 := by 
  refine pcall_of Tryz.func115 rfl rfl Tryz.ntmps115 (rs := [.cell 2 81, .tmp 3]) (tys := [81, 4]) rfl rfl (by simp) ?_
  have v := rvalid_spec s hl
  cases hok : numOk s with
  | true =>
    rw [hok] at v
    have r1 := rread_spec s hok
    rw [ratV_num hok]
    generalize numV s = m at *
    (refine awp_sr fun KK hKK => ?_; simp [go_sem]; ((repeat' (first|(refine ag_x ?_;simp [go_sem])|intro _|refine And.intro ?_ ?_|(apply hKK;clear hKK KK)));all_goals first|refine Hold.mk ?_|omega|with_reducible assumption|(simp only [InR] at *;omega)|skip))
    refine awp_seq_k fun K1 hK1 => ?_
    (refine awp_sr fun KK hKK => ?_; simp [go_sem]; ((repeat' (first|(refine ag_x ?_;simp [go_sem])|intro _|refine And.intro ?_ ?_|(apply hKK;clear hKK KK)));all_goals first|refine Hold.mk ?_|omega|with_reducible assumption|(simp only [InR] at *;omega)|skip))
    ((try refine CallT.toA ?_); refine callT_m (by first | exact .inl ⟨rfl, rfl⟩ | exact .inr rfl) (by simp [go_sem]) ?_; intro args ha; simp [go_sem] at ha; subst ha; refine ⟨_, v, ?_⟩; rintro _ rfl; simp [go_sem]; ((repeat' (first|(refine ag_x ?_;simp [go_sem])|intro _|refine And.intro ?_ ?_|(apply hKK;clear hKK KK)));all_goals first|refine Hold.mk ?_|omega|with_reducible assumption|(simp only [InR] at *;omega)|skip))
    (refine awp_if fun T F hT hF => ?_; simp [go_sem]; refine hT ?_; clear hT hF T F)
    (refine awp_sr fun KK hKK => ?_; simp [go_sem]; ((repeat' (first|(refine ag_x ?_;simp [go_sem])|intro _|refine And.intro ?_ ?_|(apply hKK;clear hKK KK)));all_goals first|refine Hold.mk ?_|omega|with_reducible assumption|(simp only [InR] at *;omega)|skip))
    ((try refine CallT.toA ?_); refine callT_m (by first | exact .inl ⟨rfl, rfl⟩ | exact .inr rfl) (by simp [go_sem]) ?_; intro args ha; simp [go_sem] at ha; subst ha; refine ⟨_, r1, ?_⟩; rintro _ rfl; simp [go_sem]; ((repeat' (first|(refine ag_x ?_;simp [go_sem])|intro _|refine And.intro ?_ ?_|(apply hKK;clear hKK KK)));all_goals first|refine Hold.mk ?_|omega|with_reducible assumption|(simp only [InR] at *;omega)|skip))
    have e1 : dg 10 (Int.natAbs 1) = [1] := dgT_one
    (refine awp_ret ?_; simp [go_sem])
    rw [dgT_one]; rfl
  | false =>
    rw [hok] at v
    have I := isRatio_spec s hl
    rw [ratV_cut hok]
    generalize (Lib.cut s [47]).1 = num at *
    generalize (Lib.cut s [47]).2.1 = den at *
    generalize (Lib.cut s [47]).2.2 = isR at *
    generalize ratW num den = W at *
    generalize numV num = m at *
    generalize numV den = n at *
    (refine awp_sr fun KK hKK => ?_; simp [go_sem]; ((repeat' (first|(refine ag_x ?_;simp [go_sem])|intro _|refine And.intro ?_ ?_|(apply hKK;clear hKK KK)));all_goals first|refine Hold.mk ?_|omega|with_reducible assumption|(simp only [InR] at *;omega)|skip))
    refine awp_seq_k fun K1 hK1 => ?_
    (refine awp_sr fun KK hKK => ?_; simp [go_sem]; ((repeat' (first|(refine ag_x ?_;simp [go_sem])|intro _|refine And.intro ?_ ?_|(apply hKK;clear hKK KK)));all_goals first|refine Hold.mk ?_|omega|with_reducible assumption|(simp only [InR] at *;omega)|skip))
    ((try refine CallT.toA ?_); refine callT_m (by first | exact .inl ⟨rfl, rfl⟩ | exact .inr rfl) (by simp [go_sem]) ?_; intro args ha; simp [go_sem] at ha; subst ha; refine ⟨_, v, ?_⟩; rintro _ rfl; simp [go_sem]; ((repeat' (first|(refine ag_x ?_;simp [go_sem])|intro _|refine And.intro ?_ ?_|(apply hKK;clear hKK KK)));all_goals first|refine Hold.mk ?_|omega|with_reducible assumption|(simp only [InR] at *;omega)|skip))
    (refine awp_if fun T F hT hF => ?_; simp [go_sem]; refine hF ?_; clear hT hF T F)
    refine awp_skip ?_
    refine hK1 _ ?_; clear hK1
    (refine awp_sr fun KK hKK => ?_; simp [go_sem]; ((repeat' (first|(refine ag_x ?_;simp [go_sem])|intro _|refine And.intro ?_ ?_|(apply hKK;clear hKK KK)));all_goals first|refine Hold.mk ?_|omega|with_reducible assumption|(simp only [InR] at *;omega)|skip))
    ((try refine CallT.toA ?_); refine callT_m (by first | exact .inl ⟨rfl, rfl⟩ | exact .inr rfl) (by simp [go_sem]) ?_; intro args ha; simp [go_sem] at ha; subst ha; refine ⟨_, I, ?_⟩; rintro _ ⟨p, q, rfl, hx⟩; simp [go_sem]; ((repeat' (first|(refine ag_x ?_;simp [go_sem])|intro _|refine And.intro ?_ ?_|(apply hKK;clear hKK KK)));all_goals first|refine Hold.mk ?_|omega|with_reducible assumption|(simp only [InR] at *;omega)|skip))
    (refine awp_ret ?_; simp [go_sem])
    refine ⟨p, q, ⟨⟨Iff.rfl, rfl, Iff.rfl, rfl⟩, ?_⟩, fun h1 h2 => hx ⟨h1, h2⟩⟩
    cases isR <;> cases W <;> simp
set_option maxHeartbeats 4000000 in
theorem reduced_spec (a b : Int) (hb : b ≠ 0) (ha1 : sz 10 a ≤ 900000) (hb1 : sz 10 b ≤ 900000) : PCall Tryz.prog 70 [dNum a, dNum b] fun r => r = dRatT (redN a b) (redD a b) := by 
  refine pcall_of Tryz.func70 rfl rfl Tryz.ntmps70 (rs := [.cell 4 81]) (tys := [81]) rfl rfl (by simp) ?_
  have ha1 : (dg 10 a.natAbs).length ≤ 900000 := ha1
  have hb1 : (dg 10 b.natAbs).length ≤ 900000 := hb1
  have G0 := rgcd_spec a.natAbs b.natAbs ha1 hb1
  have hG0 : Nat.gcd a.natAbs b.natAbs ≠ 0 := Nat.pos_iff_ne_zero.1 (Nat.gcd_pos_of_pos_right _ (by omega))
  have hGl : (dg 10 (Nat.gcd a.natAbs b.natAbs)).length ≤ 900000 := Nat.le_trans (dgT_le (Nat.gcd_le_right _ (by omega))) hb1
  have P1 := rparts_spec a.natAbs (Nat.gcd a.natAbs b.natAbs) hG0 ha1 hGl
  have P2 := rparts_spec b.natAbs (Nat.gcd a.natAbs b.natAbs) hG0 hb1 hGl
  have S1 := signed_as (decide (a < 0) != decide (b < 0)) (a.natAbs / Nat.gcd a.natAbs b.natAbs) (m := redN a b) rfl
  have hD : dg 10 (b.natAbs / Nat.gcd a.natAbs b.natAbs) = dg 10 (redD a b).natAbs := by unfold redD; rw [Int.natAbs_natCast]
  have hDn := redD_nonneg a b
  rw [hD] at P2
  generalize redN a b = p at *
  generalize redD a b = q at *
  generalize a.natAbs / Nat.gcd a.natAbs b.natAbs = x1 at *
  generalize a.natAbs % Nat.gcd a.natAbs b.natAbs = x2 at *
  generalize b.natAbs % Nat.gcd a.natAbs b.natAbs = x3 at *
  generalize Nat.gcd a.natAbs b.natAbs = G at *
  have hDn' : decide (q < 0) = false := by simpa using hDn
  (refine awp_sr fun KK hKK => ?_; simp [go_sem]; ((repeat' (first|(refine ag_x ?_;simp [go_sem])|intro _|refine And.intro ?_ ?_|(apply hKK;clear hKK KK)));all_goals first|refine Hold.mk ?_|omega|with_reducible assumption|(simp only [InR] at *;omega)|skip))
  (refine awp_sr fun KK hKK => ?_; simp [go_sem]; ((repeat' (first|(refine ag_x ?_;simp [go_sem])|intro _|refine And.intro ?_ ?_|(apply hKK;clear hKK KK)));all_goals first|refine Hold.mk ?_|omega|with_reducible assumption|(simp only [InR] at *;omega)|skip))
  ((try refine CallT.toA ?_); refine callT_m (by first | exact .inl ⟨rfl, rfl⟩ | exact .inr rfl) (by simp [go_sem]) ?_; intro args ha; simp [go_sem] at ha; subst ha; refine ⟨_, G0, ?_⟩; rintro _ rfl; simp [go_sem]; ((repeat' (first|(refine ag_x ?_;simp [go_sem])|intro _|refine And.intro ?_ ?_|(apply hKK;clear hKK KK)));all_goals first|refine Hold.mk ?_|omega|with_reducible assumption|(simp only [InR] at *;omega)|skip))
  (refine awp_sr fun KK hKK => ?_; simp [go_sem]; ((repeat' (first|(refine ag_x ?_;simp [go_sem])|intro _|refine And.intro ?_ ?_|(apply hKK;clear hKK KK)));all_goals first|refine Hold.mk ?_|omega|with_reducible assumption|(simp only [InR] at *;omega)|skip))
  ((try refine CallT.toA ?_); refine callT_m (by first | exact .inl ⟨rfl, rfl⟩ | exact .inr rfl) (by simp [go_sem]) ?_; intro args ha; simp [go_sem] at ha; subst ha; refine ⟨_, P1, ?_⟩; rintro _ rfl; simp [go_sem]; ((repeat' (first|(refine ag_x ?_;simp [go_sem])|intro _|refine And.intro ?_ ?_|(apply hKK;clear hKK KK)));all_goals first|refine Hold.mk ?_|omega|with_reducible assumption|(simp only [InR] at *;omega)|skip))
  (refine awp_sr fun KK hKK => ?_; simp [go_sem]; ((repeat' (first|(refine ag_x ?_;simp [go_sem])|intro _|refine And.intro ?_ ?_|(apply hKK;clear hKK KK)));all_goals first|refine Hold.mk ?_|omega|with_reducible assumption|(simp only [InR] at *;omega)|skip))
  ((try refine CallT.toA ?_); refine callT_m (by first | exact .inl ⟨rfl, rfl⟩ | exact .inr rfl) (by simp [go_sem]) ?_; intro args ha; simp [go_sem] at ha; subst ha; refine ⟨_, P2, ?_⟩; rintro _ rfl; simp [go_sem]; ((repeat' (first|(refine ag_x ?_;simp [go_sem])|intro _|refine And.intro ?_ ?_|(apply hKK;clear hKK KK)));all_goals first|refine Hold.mk ?_|omega|with_reducible assumption|(simp only [InR] at *;omega)|skip))
  (refine awp_sr fun KK hKK => ?_; simp [go_sem]; ((repeat' (first|(refine ag_x ?_;simp [go_sem])|intro _|refine And.intro ?_ ?_|(apply hKK;clear hKK KK)));all_goals first|refine Hold.mk ?_|omega|with_reducible assumption|(simp only [InR] at *;omega)|skip))
  ((try refine CallT.toA ?_); refine callT_m (by first | exact .inl ⟨rfl, rfl⟩ | exact .inr rfl) (by simp [go_sem]) ?_; intro args ha; simp [go_sem] at ha; subst ha; refine ⟨_, S1, ?_⟩; rintro _ rfl; simp [go_sem]; ((repeat' (first|(refine ag_x ?_;simp [go_sem])|intro _|refine And.intro ?_ ?_|(apply hKK;clear hKK KK)));all_goals first|refine Hold.mk ?_|omega|with_reducible assumption|(simp only [InR] at *;omega)|skip))
  (refine awp_ret ?_; simp [go_sem, hDn'])
theorem rational_spec (p q : Int) (hq : ¬ q < 0) (hq0 : q ≠ 0) (hp1 : sz 10 p ≤ 1000000) (hq1 : sz 10 q ≤ 1000000) : PCall Tryz.prog 69 [dRatT p q] fun r => r = textR p q := by 
  refine pcall_of Tryz.func69 rfl rfl Tryz.ntmps69 (rs := [.tmp 2, .tmp 3]) (tys := [9, 31]) rfl rfl (by simp) ?_
  unfold textR
  have l1 := long_iff p
  have l2 := long_iff q
  have T1 := show_spec p hp1
  have T2 := show_spec q hq1
  have hpl : (Lib.itoa p).length ≤ dlen p + 1 := by
    rw [itoa_abs, List.length_append]; unfold dlen; split <;> simp <;> omega
  have hql : (Lib.itoa q).length ≤ dlen q + 1 := by
    rw [itoa_abs, List.length_append]; unfold dlen; split <;> simp <;> omega
  generalize Lib.itoa p = tp at *
  generalize Lib.itoa q = tq at *
  have e1 : (dg 10 p.natAbs).length = sz 10 p := rfl
  obtain ⟨d0, rest, hdg, hiff⟩ := dgT_cons (G := q.natAbs) (by omega)
  have e2 : sz 10 q = rest.length + 1 := by unfold sz; rw [hdg]; rfl
  have hiff : (rest.length = 0 ∧ d0 = 1) ↔ q = 1 := by rw [hiff]; omega
  (refine awp_sr fun KK hKK => ?_; simp [go_sem]; ((repeat' (first|(refine ag_x ?_;simp [go_sem])|intro _|refine And.intro ?_ ?_|(apply hKK;clear hKK KK)));all_goals first|refine Hold.mk ?_|omega|with_reducible assumption|(simp only [InR] at *;omega)|skip))
  rw [hdg]
  refine awp_seq_k fun K1 hK1 => ?_
  (refine awp_sr fun KK hKK => ?_; simp [go_sem]; ((repeat' (first|(refine ag_x ?_;simp [go_sem])|intro _|refine And.intro ?_ ?_|(apply hKK;clear hKK KK)));all_goals first|refine Hold.mk ?_|omega|with_reducible assumption|(simp only [InR] at *;omega)|skip))
  (refine awp_if fun T F hT hF => ?_; simp [go_sem]; refine BR.intro (fun h2 => hT ?_) (fun h2 => hF ?_); all_goals clear hT hF T F; try simp at h2) 
  · (refine awp_sr fun KK hKK => ?_; simp [go_sem]; ((repeat' (first|(refine ag_x ?_;simp [go_sem])|intro _|refine And.intro ?_ ?_|(apply hKK;clear hKK KK)));all_goals first|refine Hold.mk ?_|omega|with_reducible assumption|(simp only [InR] at *;omega)|skip))
    (refine awp_ret ?_; simp [go_sem])
    intro h5 h6
    exfalso; omega
  · refine awp_skip ?_
    refine hK1 _ ?_; clear hK1
    rw [if_neg (by omega)]
    refine awp_seq_k fun K3 hK3 => ?_
    (refine awp_sr fun KK hKK => ?_; simp [go_sem]; ((repeat' (first|(refine ag_x ?_;simp [go_sem])|intro _|refine And.intro ?_ ?_|(apply hKK;clear hKK KK)));all_goals first|refine Hold.mk ?_|omega|with_reducible assumption|(simp only [InR] at *;omega)|skip))
    (refine awp_if fun T F hT hF => ?_; simp [go_sem]; refine BR.intro (fun h4 => hT ?_) (fun h4 => hF ?_); all_goals clear hT hF T F; try simp at h4) 
    · have hq1 : q = 1 := hiff.1 ⟨by omega, by omega⟩
      rw [if_pos hq1]
      (refine awp_sr fun KK hKK => ?_; simp [go_sem]; ((repeat' (first|(refine ag_x ?_;simp [go_sem])|intro _|refine And.intro ?_ ?_|(apply hKK;clear hKK KK)));all_goals first|refine Hold.mk ?_|omega|with_reducible assumption|(simp only [InR] at *;omega)|skip))
      ((try refine CallT.toA ?_); refine callT_m (by first | exact .inl ⟨rfl, rfl⟩ | exact .inr rfl) (by simp [go_sem]) ?_; intro args ha; simp [go_sem] at ha; subst ha; refine ⟨_, T1, ?_⟩; rintro _ rfl; simp [go_sem]; ((repeat' (first|(refine ag_x ?_;simp [go_sem])|intro _|refine And.intro ?_ ?_|(apply hKK;clear hKK KK)));all_goals first|refine Hold.mk ?_|omega|with_reducible assumption|(simp only [InR] at *;omega)|skip))
      (refine awp_ret ?_; simp [go_sem])
    · have hq1 : ¬ q = 1 := fun h => by have := hiff.2 h; omega
      have T2 : PCall Tryz.prog 91 [.agg [dB (decide (q < 0)), .sl 1 (cI d0 :: rest.map cI)]] fun r => r = dS tq := by
        have := T2
        simp only [dNum, dIs, hdg, List.map_cons] at this
        exact this
      refine awp_skip ?_
      refine hK3 _ ?_; clear hK3
      rw [if_neg hq1]
      ((refine awp_dr (.qs [0, 4, 1, 5] (.kp 2 (.qs [3] (.kp 6 (.qs [7, 8, 9] (.nil)))))) (by kernel_rfl) ?_ ?_ ?_ ?_); (kernel_rfl); (exact (by decide +kernel)); (kernel_rfl); intro KK hKK; ((repeat' (first|(refine ag_x ?_;simp [go_sem])|refine adr_nil ?_|refine adr_two ?_ ?_|refine adr_kq ?_ ?_|refine adr_three ?_ ?_ ?_|refine adr_four ?_ ?_ ?_ ?_|refine adr_kp2 ?_ ?_|refine adr_kp3 ?_ ?_ ?_|((first|refine adr_qs fun KK hKK=>?_|refine adr_y fun KK hKK=>?_);simp [go_sem])|intro _|refine And.intro ?_ ?_|(apply hKK;clear hKK KK)));all_goals first|refine Hold.mk ?_|omega|with_reducible assumption|(simp only [InR] at *;omega)|skip))
      ((try refine CallT.toA ?_); refine callT_m (by first | exact .inl ⟨rfl, rfl⟩ | exact .inr rfl) (by simp [go_sem]) ?_; intro args ha; simp [go_sem] at ha; subst ha; refine ⟨_, T1, ?_⟩; rintro _ rfl; simp [go_sem]; ((repeat' (first|(refine ag_x ?_;simp [go_sem])|refine adr_nil ?_|refine adr_two ?_ ?_|refine adr_kq ?_ ?_|refine adr_three ?_ ?_ ?_|refine adr_four ?_ ?_ ?_ ?_|refine adr_kp2 ?_ ?_|refine adr_kp3 ?_ ?_ ?_|((first|refine adr_qs fun KK hKK=>?_|refine adr_y fun KK hKK=>?_);simp [go_sem])|intro _|refine And.intro ?_ ?_|(apply hKK;clear hKK KK)));all_goals first|refine Hold.mk ?_|omega|with_reducible assumption|(simp only [InR] at *;omega)|skip))
      ((try refine CallT.toA ?_); refine callT_m (by first | exact .inl ⟨rfl, rfl⟩ | exact .inr rfl) (by simp [go_sem]) ?_; intro args ha; simp [go_sem] at ha; subst ha; refine ⟨_, T2, ?_⟩; rintro _ rfl; simp [go_sem]; ((repeat' (first|(refine ag_x ?_;simp [go_sem])|refine adr_nil ?_|refine adr_two ?_ ?_|refine adr_kq ?_ ?_|refine adr_three ?_ ?_ ?_|refine adr_four ?_ ?_ ?_ ?_|refine adr_kp2 ?_ ?_|refine adr_kp3 ?_ ?_ ?_|((first|refine adr_qs fun KK hKK=>?_|refine adr_y fun KK hKK=>?_);simp [go_sem])|intro _|refine And.intro ?_ ?_|(apply hKK;clear hKK KK)));all_goals first|refine Hold.mk ?_|omega|with_reducible assumption|(simp only [InR] at *;omega)|skip))
      (refine awp_ret ?_; simp [go_sem])
      rw [show (⟨#[47]⟩ : ByteArray) = ⟨[47].toArray⟩ from rfl, app_mk, app_mk]
      simp
theorem rRatio_spec (a b : List UInt8) (ha : a.length ≤ 1000000000) (hb : b.length ≤ 1000000000) : PCall Tryz.prog 26 [dS a, dS b] fun r => r = resQ a b := by 
  refine pcall_of Tryz.func26 rfl rfl Tryz.ntmps26 (rs := [.tmp 4, .tmp 5]) (tys := [9, 31]) rfl rfl (by simp) ?_
  unfold resQ
  have hv := rall2 a b ha hb
  generalize hok : (numOk a && numOk b) = ok at *
  (refine awp_sr fun KK hKK => ?_; simp [go_sem]; ((repeat' (first|(refine ag_x ?_;simp [go_sem])|intro _|refine And.intro ?_ ?_|(apply hKK;clear hKK KK)));all_goals first|refine Hold.mk ?_|omega|with_reducible assumption|(simp only [InR] at *;omega)|skip))
  refine awp_seq_k fun K1 hK1 => ?_
  (refine awp_sr fun KK hKK => ?_; simp [go_sem]; ((repeat' (first|(refine ag_x ?_;simp [go_sem])|intro _|refine And.intro ?_ ?_|(apply hKK;clear hKK KK)));all_goals first|refine Hold.mk ?_|omega|with_reducible assumption|(simp only [InR] at *;omega)|skip))
  ((try refine CallT.toA ?_); refine callT_z (by first | exact .inl ⟨rfl, rfl⟩ | exact .inr rfl) rfl (by simp [go_sem]) (by simp [go_sem]) ?_; intro args ha; simp [go_sem] at ha; subst ha; refine ⟨_, hv, ?_⟩; rintro _ rfl; simp [go_sem]; ((repeat' (first|(refine ag_x ?_;simp [go_sem])|intro _|refine And.intro ?_ ?_|(apply hKK;clear hKK KK)));all_goals first|refine Hold.mk ?_|omega|with_reducible assumption|(simp only [InR] at *;omega)|skip))
  cases ok with
  | false =>
    (refine awp_if fun T F hT hF => ?_; simp [go_sem]; refine hT ?_; clear hT hF T F)
    (refine awp_sr fun KK hKK => ?_; simp [go_sem]; ((repeat' (first|(refine ag_x ?_;simp [go_sem])|intro _|refine And.intro ?_ ?_|(apply hKK;clear hKK KK)));all_goals first|refine Hold.mk ?_|omega|with_reducible assumption|(simp only [InR] at *;omega)|skip))
    (refine awp_ret ?_; simp [go_sem])
  | true =>
    (refine awp_if fun T F hT hF => ?_; simp [go_sem]; refine hF ?_; clear hT hF T F)
    refine awp_skip ?_
    refine hK1 _ ?_; clear hK1
    simp only [Bool.and_eq_true] at hok
    have r1 := rread_spec a hok.1
    have r2 := rread_spec b hok.2
    have hz := num0 hok.2
    have hsm := szT_numOk hok.1
    have hsn := szT_numOk hok.2
    generalize numV a = m at *
    generalize numV b = n at *
    refine awp_seq_k fun K3 hK3 => ?_
    (refine awp_sr fun KK hKK => ?_; simp [go_sem]; ((repeat' (first|(refine ag_x ?_;simp [go_sem])|intro _|refine And.intro ?_ ?_|(apply hKK;clear hKK KK)));all_goals first|refine Hold.mk ?_|omega|with_reducible assumption|(simp only [InR] at *;omega)|skip))
    (refine awp_if fun T F hT hF => ?_; simp [go_sem]; refine BR.intro (fun h3 => hT ?_) (fun h3 => hF ?_); all_goals clear hT hF T F; try simp at h3) 
    · (refine awp_sr fun KK hKK => ?_; simp [go_sem]; ((repeat' (first|(refine ag_x ?_;simp [go_sem])|intro _|refine And.intro ?_ ?_|(apply hKK;clear hKK KK)));all_goals first|refine Hold.mk ?_|omega|with_reducible assumption|(simp only [InR] at *;omega)|skip))
      (refine awp_ret ?_; simp [go_sem])
      exact fun h => absurd (hz.1 h3) h
    · refine awp_skip ?_
      refine hK3 _ ?_; clear hK3
      have hn0 : n ≠ 0 := fun h => h3 (hz.2 h)
      have R := reduced_spec m n hn0 (by omega) (by omega)
      have q1 := szT_abs_le (redN_abs m n)
      have q2 := szT_abs_le (redD_abs m n)
      have T := rational_spec (redN m n) (redD m n) (redD_nonneg m n) (redD_ne hn0) (by omega) (by omega)
      rw [if_pos rfl, if_neg hn0]
      generalize redN m n = p at *
      generalize redD m n = q at *
      obtain ⟨x, e, ht⟩ := textR_tup p q
      rw [ht] at T ⊢
      (refine awp_sr fun KK hKK => ?_; simp [go_sem]; ((repeat' (first|(refine ag_x ?_;simp [go_sem])|intro _|refine And.intro ?_ ?_|(apply hKK;clear hKK KK)));all_goals first|refine Hold.mk ?_|omega|with_reducible assumption|(simp only [InR] at *;omega)|skip))
      ((try refine CallT.toA ?_); refine callT_m (by first | exact .inl ⟨rfl, rfl⟩ | exact .inr rfl) (by simp [go_sem]) ?_; intro args ha; simp [go_sem] at ha; subst ha; refine ⟨_, r1, ?_⟩; rintro _ rfl; simp [go_sem]; ((repeat' (first|(refine ag_x ?_;simp [go_sem])|intro _|refine And.intro ?_ ?_|(apply hKK;clear hKK KK)));all_goals first|refine Hold.mk ?_|omega|with_reducible assumption|(simp only [InR] at *;omega)|skip))
      ((try refine CallT.toA ?_); refine callT_m (by first | exact .inl ⟨rfl, rfl⟩ | exact .inr rfl) (by simp [go_sem]) ?_; intro args ha; simp [go_sem] at ha; subst ha; refine ⟨_, r2, ?_⟩; rintro _ rfl; simp [go_sem]; ((repeat' (first|(refine ag_x ?_;simp [go_sem])|intro _|refine And.intro ?_ ?_|(apply hKK;clear hKK KK)));all_goals first|refine Hold.mk ?_|omega|with_reducible assumption|(simp only [InR] at *;omega)|skip))
      ((try refine CallT.toA ?_); refine callT_m (by first | exact .inl ⟨rfl, rfl⟩ | exact .inr rfl) (by simp [go_sem]) ?_; intro args ha; simp [go_sem] at ha; subst ha; refine ⟨_, R, ?_⟩; rintro _ rfl; simp [go_sem]; ((repeat' (first|(refine ag_x ?_;simp [go_sem])|intro _|refine And.intro ?_ ?_|(apply hKK;clear hKK KK)));all_goals first|refine Hold.mk ?_|omega|with_reducible assumption|(simp only [InR] at *;omega)|skip))
      ((try refine CallT.toA ?_); refine callT_m (by first | exact .inl ⟨rfl, rfl⟩ | exact .inr rfl) (by simp [go_sem]) ?_; intro args ha; simp [go_sem] at ha; subst ha; refine ⟨_, T, ?_⟩; rintro _ rfl; simp [go_sem]; ((repeat' (first|(refine ag_x ?_;simp [go_sem])|intro _|refine And.intro ?_ ?_|(apply hKK;clear hKK KK)));all_goals first|refine Hold.mk ?_|omega|with_reducible assumption|(simp only [InR] at *;omega)|skip))
      (refine awp_ret ?_; simp [go_sem])
set_option maxHeartbeats 4000000 in
theorem rRatioAdd_spec (a b : List UInt8) (ha : a.length ≤ 1000000000) (hb : b.length ≤ 1000000000) : PCall Tryz.prog 71 [dS a, dS b] fun r => r = resRA (fun p q r s => p * s + r * q) (fun p q r s => q * s) a b := by 
  refine pcall_of Tryz.func71 rfl rfl Tryz.ntmps71 (rs := [.tmp 4, .tmp 5]) (tys := [9, 31]) rfl rfl (by simp) ?_
  have A := rReadRatio_spec a ha
  have B := rReadRatio_spec b hb
  cases hx : ratV a with
  | none =>
    rw [hx] at A
    unfold resRA
    simp only [hx]
    (refine awp_sr fun KK hKK => ?_; simp [go_sem]; ((repeat' (first|(refine ag_x ?_;simp [go_sem])|intro _|refine And.intro ?_ ?_|(apply hKK;clear hKK KK)));all_goals first|refine Hold.mk ?_|omega|with_reducible assumption|(simp only [InR] at *;omega)|skip))
    (refine awp_sr fun KK hKK => ?_; simp [go_sem]; ((repeat' (first|(refine ag_x ?_;simp [go_sem])|intro _|refine And.intro ?_ ?_|(apply hKK;clear hKK KK)));all_goals first|refine Hold.mk ?_|omega|with_reducible assumption|(simp only [InR] at *;omega)|skip))
    ((try refine CallT.toA ?_); refine callT_m (by first | exact .inl ⟨rfl, rfl⟩ | exact .inr rfl) (by simp [go_sem]) ?_; intro args ha; simp [go_sem] at ha; subst ha; refine ⟨_, A, ?_⟩; rintro _ ⟨p1, q1, rfl, h1⟩; simp [go_sem]; ((repeat' (first|(refine ag_x ?_;simp [go_sem])|intro _|refine And.intro ?_ ?_|(apply hKK;clear hKK KK)));all_goals first|refine Hold.mk ?_|omega|with_reducible assumption|(simp only [InR] at *;omega)|skip))
    (refine awp_sr fun KK hKK => ?_; simp [go_sem]; ((repeat' (first|(refine ag_x ?_;simp [go_sem])|intro _|refine And.intro ?_ ?_|(apply hKK;clear hKK KK)));all_goals first|refine Hold.mk ?_|omega|with_reducible assumption|(simp only [InR] at *;omega)|skip))
    ((try refine CallT.toA ?_); refine callT_m (by first | exact .inl ⟨rfl, rfl⟩ | exact .inr rfl) (by simp [go_sem]) ?_; intro args ha; simp [go_sem] at ha; subst ha; refine ⟨_, B, ?_⟩; rintro _ ⟨p2, q2, rfl, h2⟩; simp [go_sem]; ((repeat' (first|(refine ag_x ?_;simp [go_sem])|intro _|refine And.intro ?_ ?_|(apply hKK;clear hKK KK)));all_goals first|refine Hold.mk ?_|omega|with_reducible assumption|(simp only [InR] at *;omega)|skip))
    refine awp_seq_k fun K1 hK1 => ?_
    (refine awp_sr fun KK hKK => ?_; simp [go_sem]; ((repeat' (first|(refine ag_x ?_;simp [go_sem])|intro _|refine And.intro ?_ ?_|(apply hKK;clear hKK KK)));all_goals first|refine Hold.mk ?_|omega|with_reducible assumption|(simp only [InR] at *;omega)|skip))
    (refine awp_if fun T F hT hF => ?_; simp [go_sem]; refine hT ?_; clear hT hF T F)
    (refine awp_sr fun KK hKK => ?_; simp [go_sem]; ((repeat' (first|(refine ag_x ?_;simp [go_sem])|intro _|refine And.intro ?_ ?_|(apply hKK;clear hKK KK)));all_goals first|refine Hold.mk ?_|omega|with_reducible assumption|(simp only [InR] at *;omega)|skip))
    (refine awp_ret ?_; simp [go_sem])
  | some v =>
    cases hy : ratV b with
    | none =>
      rw [hx] at A
      rw [hy] at B
      unfold resRA
      simp only [hx, hy]
      (refine awp_sr fun KK hKK => ?_; simp [go_sem]; ((repeat' (first|(refine ag_x ?_;simp [go_sem])|intro _|refine And.intro ?_ ?_|(apply hKK;clear hKK KK)));all_goals first|refine Hold.mk ?_|omega|with_reducible assumption|(simp only [InR] at *;omega)|skip))
      (refine awp_sr fun KK hKK => ?_; simp [go_sem]; ((repeat' (first|(refine ag_x ?_;simp [go_sem])|intro _|refine And.intro ?_ ?_|(apply hKK;clear hKK KK)));all_goals first|refine Hold.mk ?_|omega|with_reducible assumption|(simp only [InR] at *;omega)|skip))
      ((try refine CallT.toA ?_); refine callT_m (by first | exact .inl ⟨rfl, rfl⟩ | exact .inr rfl) (by simp [go_sem]) ?_; intro args ha; simp [go_sem] at ha; subst ha; refine ⟨_, A, ?_⟩; rintro _ ⟨p1, q1, rfl, h1⟩; simp [go_sem]; ((repeat' (first|(refine ag_x ?_;simp [go_sem])|intro _|refine And.intro ?_ ?_|(apply hKK;clear hKK KK)));all_goals first|refine Hold.mk ?_|omega|with_reducible assumption|(simp only [InR] at *;omega)|skip))
      (refine awp_sr fun KK hKK => ?_; simp [go_sem]; ((repeat' (first|(refine ag_x ?_;simp [go_sem])|intro _|refine And.intro ?_ ?_|(apply hKK;clear hKK KK)));all_goals first|refine Hold.mk ?_|omega|with_reducible assumption|(simp only [InR] at *;omega)|skip))
      ((try refine CallT.toA ?_); refine callT_m (by first | exact .inl ⟨rfl, rfl⟩ | exact .inr rfl) (by simp [go_sem]) ?_; intro args ha; simp [go_sem] at ha; subst ha; refine ⟨_, B, ?_⟩; rintro _ ⟨p2, q2, rfl, h2⟩; simp [go_sem]; ((repeat' (first|(refine ag_x ?_;simp [go_sem])|intro _|refine And.intro ?_ ?_|(apply hKK;clear hKK KK)));all_goals first|refine Hold.mk ?_|omega|with_reducible assumption|(simp only [InR] at *;omega)|skip))
      refine awp_seq_k fun K1 hK1 => ?_
      (refine awp_sr fun KK hKK => ?_; simp [go_sem]; ((repeat' (first|(refine ag_x ?_;simp [go_sem])|intro _|refine And.intro ?_ ?_|(apply hKK;clear hKK KK)));all_goals first|refine Hold.mk ?_|omega|with_reducible assumption|(simp only [InR] at *;omega)|skip))
      (refine awp_if fun T F hT hF => ?_; simp [go_sem]; refine hT ?_; clear hT hF T F)
      (refine awp_sr fun KK hKK => ?_; simp [go_sem]; ((repeat' (first|(refine ag_x ?_;simp [go_sem])|intro _|refine And.intro ?_ ?_|(apply hKK;clear hKK KK)));all_goals first|refine Hold.mk ?_|omega|with_reducible assumption|(simp only [InR] at *;omega)|skip))
      (refine awp_ret ?_; simp [go_sem])
    | some w =>
      rw [hx] at A
      rw [hy] at B
      obtain ⟨P1, Q1⟩ := v
      obtain ⟨P2, Q2⟩ := w
      obtain ⟨l1, l2, l3⟩ := ratV_ok hx
      obtain ⟨l4, l5, l6⟩ := ratV_ok hy
      unfold resRA
      simp only [hx, hy]
      have s1 := sz10_of_dlen l1
      have s2 := sz10_of_dlen l2
      have s3 := sz10_of_dlen l4
      have s4 := sz10_of_dlen l5
      have A : PCall Tryz.prog 115 [dS a] fun r => r = .tup [dRatT P1 Q1, dB true] := by
        refine A.mono ?_
        rintro r ⟨p1, q1, rfl, hh⟩
        obtain ⟨rfl, rfl⟩ := hh _ rfl
        rfl
      have B : PCall Tryz.prog 115 [dS b] fun r => r = .tup [dRatT P2 Q2, dB true] := by
        refine B.mono ?_
        rintro r ⟨p1, q1, rfl, hh⟩
        obtain ⟨rfl, rfl⟩ := hh _ rfl
        rfl
      have hQ0 : Q1 * Q2 ≠ 0 := Int.ne_of_gt (Int.mul_pos l3 l6)
      have m1 := sz_mul (B := 10) (by decide) P1 Q2
      have m2 := sz_mul (B := 10) (by decide) P2 Q1
      have m3 := sz_mul (B := 10) (by decide) Q1 Q2
      have m4 := sz_add (B := 10) (by decide) (P1 * Q2) (P2 * Q1)
      have m1 : sz 10 (P1 * Q2) ≤ _ := m1
      have m2 : sz 10 (P2 * Q1) ≤ _ := m2
      have m3 : sz 10 (Q1 * Q2) ≤ _ := m3
      have m4 : sz 10 (P1 * Q2 + P2 * Q1) ≤ max (sz 10 (P1 * Q2)) (sz 10 (P2 * Q1)) + 1 := m4
      have M1 := product_spec P1 Q2 (by omega) (by omega)
      have M2 := product_spec P2 Q1 (by omega) (by omega)
      have M3 := product_spec Q1 Q2 (by omega) (by omega)
      have M4 := sum_spec (P1 * Q2) (P2 * Q1) (by omega) (by omega)
      have R := reduced_spec (P1 * Q2 + P2 * Q1) (Q1 * Q2) hQ0 (by omega) (by omega)
      have q1 := szT_abs_le (redN_abs (P1 * Q2 + P2 * Q1) (Q1 * Q2))
      have q2 := szT_abs_le (redD_abs (P1 * Q2 + P2 * Q1) (Q1 * Q2))
      have T := rational_spec (redN (P1 * Q2 + P2 * Q1) (Q1 * Q2)) (redD (P1 * Q2 + P2 * Q1) (Q1 * Q2)) (redD_nonneg _ _) (redD_ne hQ0) (by omega) (by omega)
      generalize redN (P1 * Q2 + P2 * Q1) (Q1 * Q2) = N at *
      generalize redD (P1 * Q2 + P2 * Q1) (Q1 * Q2) = E at *
      generalize P1 * Q2 + P2 * Q1 = x4 at *
      generalize P1 * Q2 = x1 at *
      generalize P2 * Q1 = x2 at *
      generalize Q1 * Q2 = x3 at *
      obtain ⟨x, e, ht⟩ := textR_tup N E
      rw [ht] at T ⊢
      (refine awp_sr fun KK hKK => ?_; simp [go_sem]; ((repeat' (first|(refine ag_x ?_;simp [go_sem])|intro _|refine And.intro ?_ ?_|(apply hKK;clear hKK KK)));all_goals first|refine Hold.mk ?_|omega|with_reducible assumption|(simp only [InR] at *;omega)|skip))
      (refine awp_sr fun KK hKK => ?_; simp [go_sem]; ((repeat' (first|(refine ag_x ?_;simp [go_sem])|intro _|refine And.intro ?_ ?_|(apply hKK;clear hKK KK)));all_goals first|refine Hold.mk ?_|omega|with_reducible assumption|(simp only [InR] at *;omega)|skip))
      ((try refine CallT.toA ?_); refine callT_m (by first | exact .inl ⟨rfl, rfl⟩ | exact .inr rfl) (by simp [go_sem]) ?_; intro args ha; simp [go_sem] at ha; subst ha; refine ⟨_, A, ?_⟩; rintro _ rfl; simp [go_sem]; ((repeat' (first|(refine ag_x ?_;simp [go_sem])|intro _|refine And.intro ?_ ?_|(apply hKK;clear hKK KK)));all_goals first|refine Hold.mk ?_|omega|with_reducible assumption|(simp only [InR] at *;omega)|skip))
      (refine awp_sr fun KK hKK => ?_; simp [go_sem]; ((repeat' (first|(refine ag_x ?_;simp [go_sem])|intro _|refine And.intro ?_ ?_|(apply hKK;clear hKK KK)));all_goals first|refine Hold.mk ?_|omega|with_reducible assumption|(simp only [InR] at *;omega)|skip))
      ((try refine CallT.toA ?_); refine callT_m (by first | exact .inl ⟨rfl, rfl⟩ | exact .inr rfl) (by simp [go_sem]) ?_; intro args ha; simp [go_sem] at ha; subst ha; refine ⟨_, B, ?_⟩; rintro _ rfl; simp [go_sem]; ((repeat' (first|(refine ag_x ?_;simp [go_sem])|intro _|refine And.intro ?_ ?_|(apply hKK;clear hKK KK)));all_goals first|refine Hold.mk ?_|omega|with_reducible assumption|(simp only [InR] at *;omega)|skip))
      refine awp_seq_k fun K1 hK1 => ?_
      (refine awp_sr fun KK hKK => ?_; simp [go_sem]; ((repeat' (first|(refine ag_x ?_;simp [go_sem])|intro _|refine And.intro ?_ ?_|(apply hKK;clear hKK KK)));all_goals first|refine Hold.mk ?_|omega|with_reducible assumption|(simp only [InR] at *;omega)|skip))
      (refine awp_if fun T F hT hF => ?_; simp [go_sem]; refine hF ?_; clear hT hF T F)
      refine awp_skip ?_
      refine hK1 _ ?_; clear hK1
      ((refine awp_dr (.qs [0, 2, 5, 7, 11, 13, 1, 3, 6, 8, 12, 14] (.kp 4 (.kp 9 (.kp 10 (.kp 15 (.kp 16 (.kp 17 (.qs [18, 19, 20, 21] (.nil))))))))) (by kernel_rfl) ?_ ?_ ?_ ?_); (kernel_rfl); (exact (by decide +kernel)); (kernel_rfl); intro KK hKK; ((repeat' (first|(refine ag_x ?_;simp [go_sem])|refine adr_nil ?_|refine adr_two ?_ ?_|refine adr_kq ?_ ?_|refine adr_three ?_ ?_ ?_|refine adr_four ?_ ?_ ?_ ?_|refine adr_kp2 ?_ ?_|refine adr_kp3 ?_ ?_ ?_|((first|refine adr_qs fun KK hKK=>?_|refine adr_y fun KK hKK=>?_);simp [go_sem])|intro _|refine And.intro ?_ ?_|(apply hKK;clear hKK KK)));all_goals first|refine Hold.mk ?_|omega|with_reducible assumption|(simp only [InR] at *;omega)|skip))
      ((try refine CallT.toA ?_); refine callT_m (by first | exact .inl ⟨rfl, rfl⟩ | exact .inr rfl) (by simp [go_sem]) ?_; intro args ha; simp [go_sem] at ha; subst ha; refine ⟨_, M1, ?_⟩; rintro _ rfl; simp [go_sem]; ((repeat' (first|(refine ag_x ?_;simp [go_sem])|refine adr_nil ?_|refine adr_two ?_ ?_|refine adr_kq ?_ ?_|refine adr_three ?_ ?_ ?_|refine adr_four ?_ ?_ ?_ ?_|refine adr_kp2 ?_ ?_|refine adr_kp3 ?_ ?_ ?_|((first|refine adr_qs fun KK hKK=>?_|refine adr_y fun KK hKK=>?_);simp [go_sem])|intro _|refine And.intro ?_ ?_|(apply hKK;clear hKK KK)));all_goals first|refine Hold.mk ?_|omega|with_reducible assumption|(simp only [InR] at *;omega)|skip))
      ((try refine CallT.toA ?_); refine callT_m (by first | exact .inl ⟨rfl, rfl⟩ | exact .inr rfl) (by simp [go_sem]) ?_; intro args ha; simp [go_sem] at ha; subst ha; refine ⟨_, M2, ?_⟩; rintro _ rfl; simp [go_sem]; ((repeat' (first|(refine ag_x ?_;simp [go_sem])|refine adr_nil ?_|refine adr_two ?_ ?_|refine adr_kq ?_ ?_|refine adr_three ?_ ?_ ?_|refine adr_four ?_ ?_ ?_ ?_|refine adr_kp2 ?_ ?_|refine adr_kp3 ?_ ?_ ?_|((first|refine adr_qs fun KK hKK=>?_|refine adr_y fun KK hKK=>?_);simp [go_sem])|intro _|refine And.intro ?_ ?_|(apply hKK;clear hKK KK)));all_goals first|refine Hold.mk ?_|omega|with_reducible assumption|(simp only [InR] at *;omega)|skip))
      ((try refine CallT.toA ?_); refine callT_m (by first | exact .inl ⟨rfl, rfl⟩ | exact .inr rfl) (by simp [go_sem]) ?_; intro args ha; simp [go_sem] at ha; subst ha; refine ⟨_, M4, ?_⟩; rintro _ rfl; simp [go_sem]; ((repeat' (first|(refine ag_x ?_;simp [go_sem])|refine adr_nil ?_|refine adr_two ?_ ?_|refine adr_kq ?_ ?_|refine adr_three ?_ ?_ ?_|refine adr_four ?_ ?_ ?_ ?_|refine adr_kp2 ?_ ?_|refine adr_kp3 ?_ ?_ ?_|((first|refine adr_qs fun KK hKK=>?_|refine adr_y fun KK hKK=>?_);simp [go_sem])|intro _|refine And.intro ?_ ?_|(apply hKK;clear hKK KK)));all_goals first|refine Hold.mk ?_|omega|with_reducible assumption|(simp only [InR] at *;omega)|skip))
      ((try refine CallT.toA ?_); refine callT_m (by first | exact .inl ⟨rfl, rfl⟩ | exact .inr rfl) (by simp [go_sem]) ?_; intro args ha; simp [go_sem] at ha; subst ha; refine ⟨_, M3, ?_⟩; rintro _ rfl; simp [go_sem]; ((repeat' (first|(refine ag_x ?_;simp [go_sem])|refine adr_nil ?_|refine adr_two ?_ ?_|refine adr_kq ?_ ?_|refine adr_three ?_ ?_ ?_|refine adr_four ?_ ?_ ?_ ?_|refine adr_kp2 ?_ ?_|refine adr_kp3 ?_ ?_ ?_|((first|refine adr_qs fun KK hKK=>?_|refine adr_y fun KK hKK=>?_);simp [go_sem])|intro _|refine And.intro ?_ ?_|(apply hKK;clear hKK KK)));all_goals first|refine Hold.mk ?_|omega|with_reducible assumption|(simp only [InR] at *;omega)|skip))
      ((try refine CallT.toA ?_); refine callT_m (by first | exact .inl ⟨rfl, rfl⟩ | exact .inr rfl) (by simp [go_sem]) ?_; intro args ha; simp [go_sem] at ha; subst ha; refine ⟨_, R, ?_⟩; rintro _ rfl; simp [go_sem]; ((repeat' (first|(refine ag_x ?_;simp [go_sem])|refine adr_nil ?_|refine adr_two ?_ ?_|refine adr_kq ?_ ?_|refine adr_three ?_ ?_ ?_|refine adr_four ?_ ?_ ?_ ?_|refine adr_kp2 ?_ ?_|refine adr_kp3 ?_ ?_ ?_|((first|refine adr_qs fun KK hKK=>?_|refine adr_y fun KK hKK=>?_);simp [go_sem])|intro _|refine And.intro ?_ ?_|(apply hKK;clear hKK KK)));all_goals first|refine Hold.mk ?_|omega|with_reducible assumption|(simp only [InR] at *;omega)|skip))
      ((try refine CallT.toA ?_); refine callT_m (by first | exact .inl ⟨rfl, rfl⟩ | exact .inr rfl) (by simp [go_sem]) ?_; intro args ha; simp [go_sem] at ha; subst ha; refine ⟨_, T, ?_⟩; rintro _ rfl; simp [go_sem]; ((repeat' (first|(refine ag_x ?_;simp [go_sem])|refine adr_nil ?_|refine adr_two ?_ ?_|refine adr_kq ?_ ?_|refine adr_three ?_ ?_ ?_|refine adr_four ?_ ?_ ?_ ?_|refine adr_kp2 ?_ ?_|refine adr_kp3 ?_ ?_ ?_|((first|refine adr_qs fun KK hKK=>?_|refine adr_y fun KK hKK=>?_);simp [go_sem])|intro _|refine And.intro ?_ ?_|(apply hKK;clear hKK KK)));all_goals first|refine Hold.mk ?_|omega|with_reducible assumption|(simp only [InR] at *;omega)|skip))
      (refine awp_ret ?_; simp [go_sem])
set_option maxHeartbeats 4000000 in
theorem rRatioMul_spec (a b : List UInt8) (ha : a.length ≤ 1000000000) (hb : b.length ≤ 1000000000) : PCall Tryz.prog 72 [dS a, dS b] fun r => r = resRA (fun p q r s => p * r) (fun p q r s => q * s) a b := by 
  refine pcall_of Tryz.func72 rfl rfl Tryz.ntmps72 (rs := [.tmp 4, .tmp 5]) (tys := [9, 31]) rfl rfl (by simp) ?_
  have A := rReadRatio_spec a ha
  have B := rReadRatio_spec b hb
  cases hx : ratV a with
  | none =>
    rw [hx] at A
    unfold resRA
    simp only [hx]
    (refine awp_sr fun KK hKK => ?_; simp [go_sem]; ((repeat' (first|(refine ag_x ?_;simp [go_sem])|intro _|refine And.intro ?_ ?_|(apply hKK;clear hKK KK)));all_goals first|refine Hold.mk ?_|omega|with_reducible assumption|(simp only [InR] at *;omega)|skip))
    (refine awp_sr fun KK hKK => ?_; simp [go_sem]; ((repeat' (first|(refine ag_x ?_;simp [go_sem])|intro _|refine And.intro ?_ ?_|(apply hKK;clear hKK KK)));all_goals first|refine Hold.mk ?_|omega|with_reducible assumption|(simp only [InR] at *;omega)|skip))
    ((try refine CallT.toA ?_); refine callT_m (by first | exact .inl ⟨rfl, rfl⟩ | exact .inr rfl) (by simp [go_sem]) ?_; intro args ha; simp [go_sem] at ha; subst ha; refine ⟨_, A, ?_⟩; rintro _ ⟨p1, q1, rfl, h1⟩; simp [go_sem]; ((repeat' (first|(refine ag_x ?_;simp [go_sem])|intro _|refine And.intro ?_ ?_|(apply hKK;clear hKK KK)));all_goals first|refine Hold.mk ?_|omega|with_reducible assumption|(simp only [InR] at *;omega)|skip))
    (refine awp_sr fun KK hKK => ?_; simp [go_sem]; ((repeat' (first|(refine ag_x ?_;simp [go_sem])|intro _|refine And.intro ?_ ?_|(apply hKK;clear hKK KK)));all_goals first|refine Hold.mk ?_|omega|with_reducible assumption|(simp only [InR] at *;omega)|skip))
    ((try refine CallT.toA ?_); refine callT_m (by first | exact .inl ⟨rfl, rfl⟩ | exact .inr rfl) (by simp [go_sem]) ?_; intro args ha; simp [go_sem] at ha; subst ha; refine ⟨_, B, ?_⟩; rintro _ ⟨p2, q2, rfl, h2⟩; simp [go_sem]; ((repeat' (first|(refine ag_x ?_;simp [go_sem])|intro _|refine And.intro ?_ ?_|(apply hKK;clear hKK KK)));all_goals first|refine Hold.mk ?_|omega|with_reducible assumption|(simp only [InR] at *;omega)|skip))
    refine awp_seq_k fun K1 hK1 => ?_
    (refine awp_sr fun KK hKK => ?_; simp [go_sem]; ((repeat' (first|(refine ag_x ?_;simp [go_sem])|intro _|refine And.intro ?_ ?_|(apply hKK;clear hKK KK)));all_goals first|refine Hold.mk ?_|omega|with_reducible assumption|(simp only [InR] at *;omega)|skip))
    (refine awp_if fun T F hT hF => ?_; simp [go_sem]; refine hT ?_; clear hT hF T F)
    (refine awp_sr fun KK hKK => ?_; simp [go_sem]; ((repeat' (first|(refine ag_x ?_;simp [go_sem])|intro _|refine And.intro ?_ ?_|(apply hKK;clear hKK KK)));all_goals first|refine Hold.mk ?_|omega|with_reducible assumption|(simp only [InR] at *;omega)|skip))
    (refine awp_ret ?_; simp [go_sem])
  | some v =>
    cases hy : ratV b with
    | none =>
      rw [hx] at A
      rw [hy] at B
      unfold resRA
      simp only [hx, hy]
      (refine awp_sr fun KK hKK => ?_; simp [go_sem]; ((repeat' (first|(refine ag_x ?_;simp [go_sem])|intro _|refine And.intro ?_ ?_|(apply hKK;clear hKK KK)));all_goals first|refine Hold.mk ?_|omega|with_reducible assumption|(simp only [InR] at *;omega)|skip))
      (refine awp_sr fun KK hKK => ?_; simp [go_sem]; ((repeat' (first|(refine ag_x ?_;simp [go_sem])|intro _|refine And.intro ?_ ?_|(apply hKK;clear hKK KK)));all_goals first|refine Hold.mk ?_|omega|with_reducible assumption|(simp only [InR] at *;omega)|skip))
      ((try refine CallT.toA ?_); refine callT_m (by first | exact .inl ⟨rfl, rfl⟩ | exact .inr rfl) (by simp [go_sem]) ?_; intro args ha; simp [go_sem] at ha; subst ha; refine ⟨_, A, ?_⟩; rintro _ ⟨p1, q1, rfl, h1⟩; simp [go_sem]; ((repeat' (first|(refine ag_x ?_;simp [go_sem])|intro _|refine And.intro ?_ ?_|(apply hKK;clear hKK KK)));all_goals first|refine Hold.mk ?_|omega|with_reducible assumption|(simp only [InR] at *;omega)|skip))
      (refine awp_sr fun KK hKK => ?_; simp [go_sem]; ((repeat' (first|(refine ag_x ?_;simp [go_sem])|intro _|refine And.intro ?_ ?_|(apply hKK;clear hKK KK)));all_goals first|refine Hold.mk ?_|omega|with_reducible assumption|(simp only [InR] at *;omega)|skip))
      ((try refine CallT.toA ?_); refine callT_m (by first | exact .inl ⟨rfl, rfl⟩ | exact .inr rfl) (by simp [go_sem]) ?_; intro args ha; simp [go_sem] at ha; subst ha; refine ⟨_, B, ?_⟩; rintro _ ⟨p2, q2, rfl, h2⟩; simp [go_sem]; ((repeat' (first|(refine ag_x ?_;simp [go_sem])|intro _|refine And.intro ?_ ?_|(apply hKK;clear hKK KK)));all_goals first|refine Hold.mk ?_|omega|with_reducible assumption|(simp only [InR] at *;omega)|skip))
      refine awp_seq_k fun K1 hK1 => ?_
      (refine awp_sr fun KK hKK => ?_; simp [go_sem]; ((repeat' (first|(refine ag_x ?_;simp [go_sem])|intro _|refine And.intro ?_ ?_|(apply hKK;clear hKK KK)));all_goals first|refine Hold.mk ?_|omega|with_reducible assumption|(simp only [InR] at *;omega)|skip))
      (refine awp_if fun T F hT hF => ?_; simp [go_sem]; refine hT ?_; clear hT hF T F)
      (refine awp_sr fun KK hKK => ?_; simp [go_sem]; ((repeat' (first|(refine ag_x ?_;simp [go_sem])|intro _|refine And.intro ?_ ?_|(apply hKK;clear hKK KK)));all_goals first|refine Hold.mk ?_|omega|with_reducible assumption|(simp only [InR] at *;omega)|skip))
      (refine awp_ret ?_; simp [go_sem])
    | some w =>
      rw [hx] at A
      rw [hy] at B
      obtain ⟨P1, Q1⟩ := v
      obtain ⟨P2, Q2⟩ := w
      obtain ⟨l1, l2, l3⟩ := ratV_ok hx
      obtain ⟨l4, l5, l6⟩ := ratV_ok hy
      unfold resRA
      simp only [hx, hy]
      have s1 := sz10_of_dlen l1
      have s2 := sz10_of_dlen l2
      have s3 := sz10_of_dlen l4
      have s4 := sz10_of_dlen l5
      have A : PCall Tryz.prog 115 [dS a] fun r => r = .tup [dRatT P1 Q1, dB true] := by
        refine A.mono ?_
        rintro r ⟨p1, q1, rfl, hh⟩
        obtain ⟨rfl, rfl⟩ := hh _ rfl
        rfl
      have B : PCall Tryz.prog 115 [dS b] fun r => r = .tup [dRatT P2 Q2, dB true] := by
        refine B.mono ?_
        rintro r ⟨p1, q1, rfl, hh⟩
        obtain ⟨rfl, rfl⟩ := hh _ rfl
        rfl
      have hQ0 : Q1 * Q2 ≠ 0 := Int.ne_of_gt (Int.mul_pos l3 l6)
      have m1 : sz 10 (P1 * P2) ≤ _ := sz_mul (B := 10) (by decide) P1 P2
      have m3 : sz 10 (Q1 * Q2) ≤ _ := sz_mul (B := 10) (by decide) Q1 Q2
      have M1 := product_spec P1 P2 (by omega) (by omega)
      have M3 := product_spec Q1 Q2 (by omega) (by omega)
      have R := reduced_spec (P1 * P2) (Q1 * Q2) hQ0 (by omega) (by omega)
      have q1 := szT_abs_le (redN_abs (P1 * P2) (Q1 * Q2))
      have q2 := szT_abs_le (redD_abs (P1 * P2) (Q1 * Q2))
      have T := rational_spec (redN (P1 * P2) (Q1 * Q2)) (redD (P1 * P2) (Q1 * Q2)) (redD_nonneg _ _) (redD_ne hQ0) (by omega) (by omega)
      generalize redN (P1 * P2) (Q1 * Q2) = N at *
      generalize redD (P1 * P2) (Q1 * Q2) = E at *
      generalize P1 * P2 = x1 at *
      generalize Q1 * Q2 = x3 at *
      obtain ⟨x, e, ht⟩ := textR_tup N E
      rw [ht] at T ⊢
      (refine awp_sr fun KK hKK => ?_; simp [go_sem]; ((repeat' (first|(refine ag_x ?_;simp [go_sem])|intro _|refine And.intro ?_ ?_|(apply hKK;clear hKK KK)));all_goals first|refine Hold.mk ?_|omega|with_reducible assumption|(simp only [InR] at *;omega)|skip))
      (refine awp_sr fun KK hKK => ?_; simp [go_sem]; ((repeat' (first|(refine ag_x ?_;simp [go_sem])|intro _|refine And.intro ?_ ?_|(apply hKK;clear hKK KK)));all_goals first|refine Hold.mk ?_|omega|with_reducible assumption|(simp only [InR] at *;omega)|skip))
      ((try refine CallT.toA ?_); refine callT_m (by first | exact .inl ⟨rfl, rfl⟩ | exact .inr rfl) (by simp [go_sem]) ?_; intro args ha; simp [go_sem] at ha; subst ha; refine ⟨_, A, ?_⟩; rintro _ rfl; simp [go_sem]; ((repeat' (first|(refine ag_x ?_;simp [go_sem])|intro _|refine And.intro ?_ ?_|(apply hKK;clear hKK KK)));all_goals first|refine Hold.mk ?_|omega|with_reducible assumption|(simp only [InR] at *;omega)|skip))
      (refine awp_sr fun KK hKK => ?_; simp [go_sem]; ((repeat' (first|(refine ag_x ?_;simp [go_sem])|intro _|refine And.intro ?_ ?_|(apply hKK;clear hKK KK)));all_goals first|refine Hold.mk ?_|omega|with_reducible assumption|(simp only [InR] at *;omega)|skip))
      ((try refine CallT.toA ?_); refine callT_m (by first | exact .inl ⟨rfl, rfl⟩ | exact .inr rfl) (by simp [go_sem]) ?_; intro args ha; simp [go_sem] at ha; subst ha; refine ⟨_, B, ?_⟩; rintro _ rfl; simp [go_sem]; ((repeat' (first|(refine ag_x ?_;simp [go_sem])|intro _|refine And.intro ?_ ?_|(apply hKK;clear hKK KK)));all_goals first|refine Hold.mk ?_|omega|with_reducible assumption|(simp only [InR] at *;omega)|skip))
      refine awp_seq_k fun K1 hK1 => ?_
      (refine awp_sr fun KK hKK => ?_; simp [go_sem]; ((repeat' (first|(refine ag_x ?_;simp [go_sem])|intro _|refine And.intro ?_ ?_|(apply hKK;clear hKK KK)));all_goals first|refine Hold.mk ?_|omega|with_reducible assumption|(simp only [InR] at *;omega)|skip))
      (refine awp_if fun T F hT hF => ?_; simp [go_sem]; refine hF ?_; clear hT hF T F)
      refine awp_skip ?_
      refine hK1 _ ?_; clear hK1
      ((refine awp_dr (.qs [0, 2, 5, 7, 1, 3, 6, 8] (.kp 4 (.kp 9 (.kp 10 (.kp 11 (.qs [12, 13, 14, 15] (.nil))))))) (by kernel_rfl) ?_ ?_ ?_ ?_); (kernel_rfl); (exact (by decide +kernel)); (kernel_rfl); intro KK hKK; ((repeat' (first|(refine ag_x ?_;simp [go_sem])|refine adr_nil ?_|refine adr_two ?_ ?_|refine adr_kq ?_ ?_|refine adr_three ?_ ?_ ?_|refine adr_four ?_ ?_ ?_ ?_|refine adr_kp2 ?_ ?_|refine adr_kp3 ?_ ?_ ?_|((first|refine adr_qs fun KK hKK=>?_|refine adr_y fun KK hKK=>?_);simp [go_sem])|intro _|refine And.intro ?_ ?_|(apply hKK;clear hKK KK)));all_goals first|refine Hold.mk ?_|omega|with_reducible assumption|(simp only [InR] at *;omega)|skip))
      ((try refine CallT.toA ?_); refine callT_m (by first | exact .inl ⟨rfl, rfl⟩ | exact .inr rfl) (by simp [go_sem]) ?_; intro args ha; simp [go_sem] at ha; subst ha; refine ⟨_, M1, ?_⟩; rintro _ rfl; simp [go_sem]; ((repeat' (first|(refine ag_x ?_;simp [go_sem])|refine adr_nil ?_|refine adr_two ?_ ?_|refine adr_kq ?_ ?_|refine adr_three ?_ ?_ ?_|refine adr_four ?_ ?_ ?_ ?_|refine adr_kp2 ?_ ?_|refine adr_kp3 ?_ ?_ ?_|((first|refine adr_qs fun KK hKK=>?_|refine adr_y fun KK hKK=>?_);simp [go_sem])|intro _|refine And.intro ?_ ?_|(apply hKK;clear hKK KK)));all_goals first|refine Hold.mk ?_|omega|with_reducible assumption|(simp only [InR] at *;omega)|skip))
      ((try refine CallT.toA ?_); refine callT_m (by first | exact .inl ⟨rfl, rfl⟩ | exact .inr rfl) (by simp [go_sem]) ?_; intro args ha; simp [go_sem] at ha; subst ha; refine ⟨_, M3, ?_⟩; rintro _ rfl; simp [go_sem]; ((repeat' (first|(refine ag_x ?_;simp [go_sem])|refine adr_nil ?_|refine adr_two ?_ ?_|refine adr_kq ?_ ?_|refine adr_three ?_ ?_ ?_|refine adr_four ?_ ?_ ?_ ?_|refine adr_kp2 ?_ ?_|refine adr_kp3 ?_ ?_ ?_|((first|refine adr_qs fun KK hKK=>?_|refine adr_y fun KK hKK=>?_);simp [go_sem])|intro _|refine And.intro ?_ ?_|(apply hKK;clear hKK KK)));all_goals first|refine Hold.mk ?_|omega|with_reducible assumption|(simp only [InR] at *;omega)|skip))
      ((try refine CallT.toA ?_); refine callT_m (by first | exact .inl ⟨rfl, rfl⟩ | exact .inr rfl) (by simp [go_sem]) ?_; intro args ha; simp [go_sem] at ha; subst ha; refine ⟨_, R, ?_⟩; rintro _ rfl; simp [go_sem]; ((repeat' (first|(refine ag_x ?_;simp [go_sem])|refine adr_nil ?_|refine adr_two ?_ ?_|refine adr_kq ?_ ?_|refine adr_three ?_ ?_ ?_|refine adr_four ?_ ?_ ?_ ?_|refine adr_kp2 ?_ ?_|refine adr_kp3 ?_ ?_ ?_|((first|refine adr_qs fun KK hKK=>?_|refine adr_y fun KK hKK=>?_);simp [go_sem])|intro _|refine And.intro ?_ ?_|(apply hKK;clear hKK KK)));all_goals first|refine Hold.mk ?_|omega|with_reducible assumption|(simp only [InR] at *;omega)|skip))
      ((try refine CallT.toA ?_); refine callT_m (by first | exact .inl ⟨rfl, rfl⟩ | exact .inr rfl) (by simp [go_sem]) ?_; intro args ha; simp [go_sem] at ha; subst ha; refine ⟨_, T, ?_⟩; rintro _ rfl; simp [go_sem]; ((repeat' (first|(refine ag_x ?_;simp [go_sem])|refine adr_nil ?_|refine adr_two ?_ ?_|refine adr_kq ?_ ?_|refine adr_three ?_ ?_ ?_|refine adr_four ?_ ?_ ?_ ?_|refine adr_kp2 ?_ ?_|refine adr_kp3 ?_ ?_ ?_|((first|refine adr_qs fun KK hKK=>?_|refine adr_y fun KK hKK=>?_);simp [go_sem])|intro _|refine And.intro ?_ ?_|(apply hKK;clear hKK KK)));all_goals first|refine Hold.mk ?_|omega|with_reducible assumption|(simp only [InR] at *;omega)|skip))
      (refine awp_ret ?_; simp [go_sem])
set_option maxHeartbeats 4000000 in
theorem rRatioCmp_spec (a b : List UInt8) (ha : a.length ≤ 1000000000) (hb : b.length ≤ 1000000000) : PCall Tryz.prog 73 [dS a, dS b] fun r => r = resRC a b := by 
  refine pcall_of Tryz.func73 rfl rfl Tryz.ntmps73 (rs := [.tmp 4, .tmp 5]) (tys := [3, 31]) rfl rfl (by simp) ?_
  have A := rReadRatio_spec a ha
  have B := rReadRatio_spec b hb
  cases hx : ratV a with
  | none =>
    rw [hx] at A
    unfold resRC
    simp only [hx]
    (refine awp_sr fun KK hKK => ?_; simp [go_sem]; ((repeat' (first|(refine ag_x ?_;simp [go_sem])|intro _|refine And.intro ?_ ?_|(apply hKK;clear hKK KK)));all_goals first|refine Hold.mk ?_|omega|with_reducible assumption|(simp only [InR] at *;omega)|skip))
    (refine awp_sr fun KK hKK => ?_; simp [go_sem]; ((repeat' (first|(refine ag_x ?_;simp [go_sem])|intro _|refine And.intro ?_ ?_|(apply hKK;clear hKK KK)));all_goals first|refine Hold.mk ?_|omega|with_reducible assumption|(simp only [InR] at *;omega)|skip))
    ((try refine CallT.toA ?_); refine callT_m (by first | exact .inl ⟨rfl, rfl⟩ | exact .inr rfl) (by simp [go_sem]) ?_; intro args ha; simp [go_sem] at ha; subst ha; refine ⟨_, A, ?_⟩; rintro _ ⟨p1, q1, rfl, h1⟩; simp [go_sem]; ((repeat' (first|(refine ag_x ?_;simp [go_sem])|intro _|refine And.intro ?_ ?_|(apply hKK;clear hKK KK)));all_goals first|refine Hold.mk ?_|omega|with_reducible assumption|(simp only [InR] at *;omega)|skip))
    (refine awp_sr fun KK hKK => ?_; simp [go_sem]; ((repeat' (first|(refine ag_x ?_;simp [go_sem])|intro _|refine And.intro ?_ ?_|(apply hKK;clear hKK KK)));all_goals first|refine Hold.mk ?_|omega|with_reducible assumption|(simp only [InR] at *;omega)|skip))
    ((try refine CallT.toA ?_); refine callT_m (by first | exact .inl ⟨rfl, rfl⟩ | exact .inr rfl) (by simp [go_sem]) ?_; intro args ha; simp [go_sem] at ha; subst ha; refine ⟨_, B, ?_⟩; rintro _ ⟨p2, q2, rfl, h2⟩; simp [go_sem]; ((repeat' (first|(refine ag_x ?_;simp [go_sem])|intro _|refine And.intro ?_ ?_|(apply hKK;clear hKK KK)));all_goals first|refine Hold.mk ?_|omega|with_reducible assumption|(simp only [InR] at *;omega)|skip))
    refine awp_seq_k fun K1 hK1 => ?_
    (refine awp_sr fun KK hKK => ?_; simp [go_sem]; ((repeat' (first|(refine ag_x ?_;simp [go_sem])|intro _|refine And.intro ?_ ?_|(apply hKK;clear hKK KK)));all_goals first|refine Hold.mk ?_|omega|with_reducible assumption|(simp only [InR] at *;omega)|skip))
    (refine awp_if fun T F hT hF => ?_; simp [go_sem]; refine hT ?_; clear hT hF T F)
    (refine awp_sr fun KK hKK => ?_; simp [go_sem]; ((repeat' (first|(refine ag_x ?_;simp [go_sem])|intro _|refine And.intro ?_ ?_|(apply hKK;clear hKK KK)));all_goals first|refine Hold.mk ?_|omega|with_reducible assumption|(simp only [InR] at *;omega)|skip))
    (refine awp_ret ?_; simp [go_sem])
  | some v =>
    cases hy : ratV b with
    | none =>
      rw [hx] at A
      rw [hy] at B
      unfold resRC
      simp only [hx, hy]
      (refine awp_sr fun KK hKK => ?_; simp [go_sem]; ((repeat' (first|(refine ag_x ?_;simp [go_sem])|intro _|refine And.intro ?_ ?_|(apply hKK;clear hKK KK)));all_goals first|refine Hold.mk ?_|omega|with_reducible assumption|(simp only [InR] at *;omega)|skip))
      (refine awp_sr fun KK hKK => ?_; simp [go_sem]; ((repeat' (first|(refine ag_x ?_;simp [go_sem])|intro _|refine And.intro ?_ ?_|(apply hKK;clear hKK KK)));all_goals first|refine Hold.mk ?_|omega|with_reducible assumption|(simp only [InR] at *;omega)|skip))
      ((try refine CallT.toA ?_); refine callT_m (by first | exact .inl ⟨rfl, rfl⟩ | exact .inr rfl) (by simp [go_sem]) ?_; intro args ha; simp [go_sem] at ha; subst ha; refine ⟨_, A, ?_⟩; rintro _ ⟨p1, q1, rfl, h1⟩; simp [go_sem]; ((repeat' (first|(refine ag_x ?_;simp [go_sem])|intro _|refine And.intro ?_ ?_|(apply hKK;clear hKK KK)));all_goals first|refine Hold.mk ?_|omega|with_reducible assumption|(simp only [InR] at *;omega)|skip))
      (refine awp_sr fun KK hKK => ?_; simp [go_sem]; ((repeat' (first|(refine ag_x ?_;simp [go_sem])|intro _|refine And.intro ?_ ?_|(apply hKK;clear hKK KK)));all_goals first|refine Hold.mk ?_|omega|with_reducible assumption|(simp only [InR] at *;omega)|skip))
      ((try refine CallT.toA ?_); refine callT_m (by first | exact .inl ⟨rfl, rfl⟩ | exact .inr rfl) (by simp [go_sem]) ?_; intro args ha; simp [go_sem] at ha; subst ha; refine ⟨_, B, ?_⟩; rintro _ ⟨p2, q2, rfl, h2⟩; simp [go_sem]; ((repeat' (first|(refine ag_x ?_;simp [go_sem])|intro _|refine And.intro ?_ ?_|(apply hKK;clear hKK KK)));all_goals first|refine Hold.mk ?_|omega|with_reducible assumption|(simp only [InR] at *;omega)|skip))
      refine awp_seq_k fun K1 hK1 => ?_
      (refine awp_sr fun KK hKK => ?_; simp [go_sem]; ((repeat' (first|(refine ag_x ?_;simp [go_sem])|intro _|refine And.intro ?_ ?_|(apply hKK;clear hKK KK)));all_goals first|refine Hold.mk ?_|omega|with_reducible assumption|(simp only [InR] at *;omega)|skip))
      (refine awp_if fun T F hT hF => ?_; simp [go_sem]; refine hT ?_; clear hT hF T F)
      (refine awp_sr fun KK hKK => ?_; simp [go_sem]; ((repeat' (first|(refine ag_x ?_;simp [go_sem])|intro _|refine And.intro ?_ ?_|(apply hKK;clear hKK KK)));all_goals first|refine Hold.mk ?_|omega|with_reducible assumption|(simp only [InR] at *;omega)|skip))
      (refine awp_ret ?_; simp [go_sem])
    | some w =>
      rw [hx] at A
      rw [hy] at B
      obtain ⟨P1, Q1⟩ := v
      obtain ⟨P2, Q2⟩ := w
      obtain ⟨l1, l2, l3⟩ := ratV_ok hx
      obtain ⟨l4, l5, l6⟩ := ratV_ok hy
      unfold resRC
      simp only [hx, hy]
      have s1 := sz10_of_dlen l1
      have s2 := sz10_of_dlen l2
      have s3 := sz10_of_dlen l4
      have s4 := sz10_of_dlen l5
      have A : PCall Tryz.prog 115 [dS a] fun r => r = .tup [dRatT P1 Q1, dB true] := by
        refine A.mono ?_
        rintro r ⟨p1, q1, rfl, hh⟩
        obtain ⟨rfl, rfl⟩ := hh _ rfl
        rfl
      have B : PCall Tryz.prog 115 [dS b] fun r => r = .tup [dRatT P2 Q2, dB true] := by
        refine B.mono ?_
        rintro r ⟨p1, q1, rfl, hh⟩
        obtain ⟨rfl, rfl⟩ := hh _ rfl
        rfl
      have hQ0 : Q1 * Q2 ≠ 0 := Int.ne_of_gt (Int.mul_pos l3 l6)
      have m1 : sz 10 (P1 * Q2) ≤ _ := sz_mul (B := 10) (by decide) P1 Q2
      have m2 : sz 10 (P2 * Q1) ≤ _ := sz_mul (B := 10) (by decide) P2 Q1
      have M1 := product_spec P1 Q2 (by omega) (by omega)
      have M2 := product_spec P2 Q1 (by omega) (by omega)
      have OP := opp_spec (P2 * Q1)
      have hc := cmp_sum (P1 * Q2) (P2 * Q1)
      have m5 := sz_add (B := 10) (by decide) (P1 * Q2) (-(P2 * Q1))
      have m5 : sz 10 (P1 * Q2 + -(P2 * Q1)) ≤ max (sz 10 (P1 * Q2)) (sz 10 (-(P2 * Q1))) + 1 := m5
      rw [szT_neg] at m5
      have SU := sum_spec (P1 * Q2) (-(P2 * Q1)) (by omega) (by rw [szT_neg]; omega)
      have hll : (dg 10 (P1 * Q2 + -(P2 * Q1)).natAbs).length ≤ 1000000 := by show sz 10 _ ≤ _; omega
      rw [hc]
      generalize P1 * Q2 + -(P2 * Q1) = k at *
      generalize -(P2 * Q1) = nn at *
      generalize P1 * Q2 = x1 at *
      generalize P2 * Q1 = x2 at *
      (refine awp_sr fun KK hKK => ?_; simp [go_sem]; ((repeat' (first|(refine ag_x ?_;simp [go_sem])|intro _|refine And.intro ?_ ?_|(apply hKK;clear hKK KK)));all_goals first|refine Hold.mk ?_|omega|with_reducible assumption|(simp only [InR] at *;omega)|skip))
      (refine awp_sr fun KK hKK => ?_; simp [go_sem]; ((repeat' (first|(refine ag_x ?_;simp [go_sem])|intro _|refine And.intro ?_ ?_|(apply hKK;clear hKK KK)));all_goals first|refine Hold.mk ?_|omega|with_reducible assumption|(simp only [InR] at *;omega)|skip))
      ((try refine CallT.toA ?_); refine callT_m (by first | exact .inl ⟨rfl, rfl⟩ | exact .inr rfl) (by simp [go_sem]) ?_; intro args ha; simp [go_sem] at ha; subst ha; refine ⟨_, A, ?_⟩; rintro _ rfl; simp [go_sem]; ((repeat' (first|(refine ag_x ?_;simp [go_sem])|intro _|refine And.intro ?_ ?_|(apply hKK;clear hKK KK)));all_goals first|refine Hold.mk ?_|omega|with_reducible assumption|(simp only [InR] at *;omega)|skip))
      (refine awp_sr fun KK hKK => ?_; simp [go_sem]; ((repeat' (first|(refine ag_x ?_;simp [go_sem])|intro _|refine And.intro ?_ ?_|(apply hKK;clear hKK KK)));all_goals first|refine Hold.mk ?_|omega|with_reducible assumption|(simp only [InR] at *;omega)|skip))
      ((try refine CallT.toA ?_); refine callT_m (by first | exact .inl ⟨rfl, rfl⟩ | exact .inr rfl) (by simp [go_sem]) ?_; intro args ha; simp [go_sem] at ha; subst ha; refine ⟨_, B, ?_⟩; rintro _ rfl; simp [go_sem]; ((repeat' (first|(refine ag_x ?_;simp [go_sem])|intro _|refine And.intro ?_ ?_|(apply hKK;clear hKK KK)));all_goals first|refine Hold.mk ?_|omega|with_reducible assumption|(simp only [InR] at *;omega)|skip))
      refine awp_seq_k fun K1 hK1 => ?_
      (refine awp_sr fun KK hKK => ?_; simp [go_sem]; ((repeat' (first|(refine ag_x ?_;simp [go_sem])|intro _|refine And.intro ?_ ?_|(apply hKK;clear hKK KK)));all_goals first|refine Hold.mk ?_|omega|with_reducible assumption|(simp only [InR] at *;omega)|skip))
      (refine awp_if fun T F hT hF => ?_; simp [go_sem]; refine hF ?_; clear hT hF T F)
      refine awp_skip ?_
      refine hK1 _ ?_; clear hK1
      refine awp_seq_k fun K9 hK9 => ?_
      have tl : ∀ S' g, Cov S' ⟨[(10, .ptr 10 g 0)], [(10, g, .box [dB (decide (k < 0)), dIs (dg 10 k.natAbs)])]⟩ → K9 S' := fun S' g hS => by
        refine hK9 _ ?_; clear hK9
        refine awp_cov hS ?_; clear hS
        refine awp_seq_k fun K3 hK3 => ?_
        (refine awp_sr fun KK hKK => ?_; simp [go_sem]; ((repeat' (first|(refine ag_x ?_;simp [go_sem])|intro _|refine And.intro ?_ ?_|(apply hKK;clear hKK KK)));all_goals first|refine Hold.mk ?_|omega|with_reducible assumption|(simp only [InR] at *;omega)|skip))
        (refine awp_if fun T F hT hF => ?_; simp [go_sem]; refine BR.intro (fun h4 => hT ?_) (fun h4 => hF ?_); all_goals clear hT hF T F; try simp at h4) 
        · (refine awp_sr fun KK hKK => ?_; simp [go_sem]; ((repeat' (first|(refine ag_x ?_;simp [go_sem])|intro _|refine And.intro ?_ ?_|(apply hKK;clear hKK KK)));all_goals first|refine Hold.mk ?_|omega|with_reducible assumption|(simp only [InR] at *;omega)|skip))
          (refine awp_ret ?_; simp [go_sem, h4])
        · refine awp_skip ?_
          refine hK3 _ ?_; clear hK3
          (refine awp_sr fun KK hKK => ?_; simp [go_sem]; ((repeat' (first|(refine ag_x ?_;simp [go_sem])|intro _|refine And.intro ?_ ?_|(apply hKK;clear hKK KK)));all_goals first|refine Hold.mk ?_|omega|with_reducible assumption|(simp only [InR] at *;omega)|skip))
          (refine awp_ret ?_; simp [go_sem, h4])
          rw [if_neg (show ¬ k < 0 by omega)]
          split <;> omega
      clear hK9
      ((refine awp_d (.qs [0, 2, 5, 7, 1, 3, 6, 8] (.kp2 4 (.kp2 9 (.kp2 10 (.kp2 11 (.kp 12 (.one 13 (.nil))) 12 (.kp 11 (.one 13 (.nil)))) 12 (.kp 10 (.kp 11 (.one 13 (.nil))))) 12 (.kp 9 (.kp 10 (.kp 11 (.one 13 (.nil)))))) 12 (.kp 4 (.kp 9 (.kp 10 (.kp 11 (.one 13 (.nil)))))))) (by kernel_rfl) ?_ ?_ ?_ ?_); (kernel_rfl); (exact (by decide +kernel)); (kernel_rfl); intro KK hKK; ((repeat' (first|(refine ag_x ?_;simp [go_sem])|refine adr_nil ?_|refine adr_two ?_ ?_|refine adr_kq ?_ ?_|refine adr_three ?_ ?_ ?_|refine adr_four ?_ ?_ ?_ ?_|refine adr_kp2 ?_ ?_|refine adr_kp3 ?_ ?_ ?_|((first|refine adr_qs fun KK hKK=>?_|refine adr_y fun KK hKK=>?_);simp [go_sem])|intro _|refine And.intro ?_ ?_|(apply hKK;clear hKK KK)));all_goals first|refine Hold.mk ?_|omega|with_reducible assumption|(simp only [InR] at *;omega)|skip))
      all_goals (repeat' (first | ((try refine CallT.toA ?_); refine callT_m (by first | exact .inl ⟨rfl, rfl⟩ | exact .inr rfl) (by simp [go_sem]) ?_; intro args ha; simp [go_sem] at ha; subst ha; refine ⟨_, M1, ?_⟩; rintro _ rfl; simp [go_sem]; ((repeat' (first|(refine ag_x ?_;simp [go_sem])|refine adr_nil ?_|refine adr_two ?_ ?_|refine adr_kq ?_ ?_|refine adr_three ?_ ?_ ?_|refine adr_four ?_ ?_ ?_ ?_|refine adr_kp2 ?_ ?_|refine adr_kp3 ?_ ?_ ?_|((first|refine adr_qs fun KK hKK=>?_|refine adr_y fun KK hKK=>?_);simp [go_sem])|intro _|refine And.intro ?_ ?_|(apply hKK;clear hKK KK)));all_goals first|refine Hold.mk ?_|omega|with_reducible assumption|(simp only [InR] at *;omega)|skip)) | ((try refine CallT.toA ?_); refine callT_m (by first | exact .inl ⟨rfl, rfl⟩ | exact .inr rfl) (by simp [go_sem]) ?_; intro args ha; simp [go_sem] at ha; subst ha; refine ⟨_, M2, ?_⟩; rintro _ rfl; simp [go_sem]; ((repeat' (first|(refine ag_x ?_;simp [go_sem])|refine adr_nil ?_|refine adr_two ?_ ?_|refine adr_kq ?_ ?_|refine adr_three ?_ ?_ ?_|refine adr_four ?_ ?_ ?_ ?_|refine adr_kp2 ?_ ?_|refine adr_kp3 ?_ ?_ ?_|((first|refine adr_qs fun KK hKK=>?_|refine adr_y fun KK hKK=>?_);simp [go_sem])|intro _|refine And.intro ?_ ?_|(apply hKK;clear hKK KK)));all_goals first|refine Hold.mk ?_|omega|with_reducible assumption|(simp only [InR] at *;omega)|skip)) | ((try refine CallT.toA ?_); refine callT_m (by first | exact .inl ⟨rfl, rfl⟩ | exact .inr rfl) (by simp [go_sem]) ?_; intro args ha; simp [go_sem] at ha; subst ha; refine ⟨_, OP, ?_⟩; rintro _ rfl; simp [go_sem]; ((repeat' (first|(refine ag_x ?_;simp [go_sem])|refine adr_nil ?_|refine adr_two ?_ ?_|refine adr_kq ?_ ?_|refine adr_three ?_ ?_ ?_|refine adr_four ?_ ?_ ?_ ?_|refine adr_kp2 ?_ ?_|refine adr_kp3 ?_ ?_ ?_|((first|refine adr_qs fun KK hKK=>?_|refine adr_y fun KK hKK=>?_);simp [go_sem])|intro _|refine And.intro ?_ ?_|(apply hKK;clear hKK KK)));all_goals first|refine Hold.mk ?_|omega|with_reducible assumption|(simp only [InR] at *;omega)|skip)) | ((try refine CallT.toA ?_); refine callT_m (by first | exact .inl ⟨rfl, rfl⟩ | exact .inr rfl) (by simp [go_sem]) ?_; intro args ha; simp [go_sem] at ha; subst ha; refine ⟨_, SU, ?_⟩; rintro _ rfl; simp [go_sem]; ((repeat' (first|(refine ag_x ?_;simp [go_sem])|refine adr_nil ?_|refine adr_two ?_ ?_|refine adr_kq ?_ ?_|refine adr_three ?_ ?_ ?_|refine adr_four ?_ ?_ ?_ ?_|refine adr_kp2 ?_ ?_|refine adr_kp3 ?_ ?_ ?_|((first|refine adr_qs fun KK hKK=>?_|refine adr_y fun KK hKK=>?_);simp [go_sem])|intro _|refine And.intro ?_ ?_|(apply hKK;clear hKK KK)));all_goals first|refine Hold.mk ?_|omega|with_reducible assumption|(simp only [InR] at *;omega)|skip))))
      all_goals (rename_i ga; refine tl _ ga ?_; (refine cov_of ?_ ?_ <;> simp [go_sem]))
def resD (s : List UInt8) (n : Int) : D :=
  match ratV s with
  | some v => if 0 ≤ n ∧ n ≤ 100 then .tup [dS (decS v.1 v.2 n.toNat), dI 0] else .tup [dS [], dI 1]
  | none => .tup [dS [], dI 1]
theorem Decimal_bad (s : List UInt8) (n : Int) (hl : s.length ≤ 1000000000) (h : ratV s = none ∨ ¬ (0 ≤ n ∧ n ≤ 100)) : PCall Tryz.prog 36 [dS s, dI n] fun r => r = .tup [dS [], dI 1] := by 
  refine pcall_of Tryz.func36 rfl rfl Tryz.ntmps36 (rs := [.tmp 4, .tmp 5]) (tys := [9, 31]) rfl rfl (by simp) ?_
  have R := readRatio2_spec s hl
  have h : (ratV s).isSome = false ∨ ¬ (0 ≤ n ∧ n ≤ 100) := by
    rcases h with h | h
    · left; rw [h]; rfl
    · exact .inr h
  (refine awp_sr fun KK hKK => ?_; simp [go_sem]; ((repeat' (first|(refine ag_x ?_;simp [go_sem])|intro _|refine And.intro ?_ ?_|(apply hKK;clear hKK KK)));all_goals first|refine Hold.mk ?_|omega|with_reducible assumption|(simp only [InR] at *;omega)|skip))
  (refine awp_sr fun KK hKK => ?_; simp [go_sem]; ((repeat' (first|(refine ag_x ?_;simp [go_sem])|intro _|refine And.intro ?_ ?_|(apply hKK;clear hKK KK)));all_goals first|refine Hold.mk ?_|omega|with_reducible assumption|(simp only [InR] at *;omega)|skip))
  ((try refine CallT.toA ?_); refine callT_m (by first | exact .inl ⟨rfl, rfl⟩ | exact .inr rfl) (by simp [go_sem]) ?_; intro args ha; simp [go_sem] at ha; subst ha; refine ⟨_, R, ?_⟩; rintro _ ⟨p, q, rfl, hh⟩; simp [go_sem]; ((repeat' (first|(refine ag_x ?_;simp [go_sem])|intro _|refine And.intro ?_ ?_|(apply hKK;clear hKK KK)));all_goals first|refine Hold.mk ?_|omega|with_reducible assumption|(simp only [InR] at *;omega)|skip))
  refine awp_seq_k fun K1 hK1 => ?_
  (refine awp_sr fun KK hKK => ?_; simp [go_sem]; ((repeat' (first|(refine ag_x ?_;simp [go_sem])|intro _|refine And.intro ?_ ?_|(apply hKK;clear hKK KK)));all_goals first|refine Hold.mk ?_|omega|with_reducible assumption|(simp only [InR] at *;omega)|skip))
  (refine awp_if fun T F hT hF => ?_; simp [go_sem]; refine BR.intro (fun h2 => hT ?_) (fun h2 => hF ?_); all_goals clear hT hF T F; try simp at h2)
  · (refine awp_sr fun KK hKK => ?_; simp [go_sem]; ((repeat' (first|(refine ag_x ?_;simp [go_sem])|intro _|refine And.intro ?_ ?_|(apply hKK;clear hKK KK)));all_goals first|refine Hold.mk ?_|omega|with_reducible assumption|(simp only [InR] at *;omega)|skip))
    (refine awp_ret ?_; simp [go_sem])
  · exfalso
    rcases h with h | h
    · simp [h] at h2
    · omega
theorem Decimal_spec (s : List UInt8) (n : Int) (hl : s.length ≤ 1000000000) : PCall Tryz.prog 36 [dS s, dI n] fun r => r = resD s n := by
  unfold resD
  cases hr : ratV s with
  | none => exact Decimal_bad s n hl (.inl hr)
  | some v =>
    by_cases h : 0 ≤ n ∧ n ≤ 100
    · obtain ⟨p, q⟩ := v
      obtain ⟨l1, l2, l3⟩ := ratV_ok hr
      have := Decimal_ok s n.toNat hl (by omega) hr l3 (sz_of_dlen (k := 45) (by omega)) (sz_of_dlen (k := 45) (by omega))
      rw [show ((n.toNat : Nat) : Int) = n by omega] at this
      simp only [h, and_self, if_true]
      exact this
    · simp only [h, if_false]
      exact Decimal_bad s n hl (.inr h)
theorem decVal_zeros : ∀ {s : List UInt8}, (∀ c ∈ s, c = 48) → decVal s = 0
  | [], _ => rfl
  | c :: s, h => by
    rw [decVal_cons, decVal_zeros (fun x hx => h x (by simp [hx])), h c (by simp)]
    simp [dgt]
theorem dot_zero (k V : Nat) : Lib.trimS (dot2 k (dot1 k (Lib.decDigits V))) [48, 46] ≠ [] ↔ V ≠ 0 := by
  refine not_congr ?_
  rw [trimS_nil, List.all_eq_true]
  have hd := decDigits_isD V
  have hmem : ∀ x : UInt8, [48, 46].contains x = true ↔ x = 48 ∨ x = 46 := fun x => by simp
  have hrep : ∀ j, ∀ x ∈ Lib.repeatL [48] j, x = 48 := fun j => by
    induction j with
    | zero => intro x hx; simp [Lib.repeatL] at hx
    | succ j ih =>
      intro x hx
      have hx : x ∈ [48] ++ Lib.repeatL [48] j := hx
      rw [List.mem_append, List.mem_singleton] at hx
      rcases hx with rfl | hx
      · rfl
      · exact ih x hx
  have h1 : ∀ x, x ∈ Lib.decDigits V → x ∈ dot2 k (dot1 k (Lib.decDigits V)) := fun x hx => by
    have hx1 : x ∈ dot1 k (Lib.decDigits V) := by
      unfold dot1; split
      · exact List.mem_append.2 (.inr hx)
      · exact hx
    unfold dot2; split
    · rw [← List.take_append_drop ((dot1 k (Lib.decDigits V)).length - k) (dot1 k (Lib.decDigits V)), List.mem_append] at hx1
      rcases hx1 with h | h
      · exact List.mem_append.2 (.inl (List.mem_append.2 (.inl h)))
      · exact List.mem_append.2 (.inr h)
    · exact hx1
  have h2 : ∀ x, x ∈ dot2 k (dot1 k (Lib.decDigits V)) → x ∈ Lib.decDigits V ∨ x = 48 ∨ x = 46 := fun x hx => by
    have hx1 : x ∈ dot1 k (Lib.decDigits V) ∨ x = 46 := by
      unfold dot2 at hx; split at hx
      · rw [List.mem_append, List.mem_append, List.mem_singleton] at hx
        rcases hx with (h | h) | h
        · exact .inl (List.mem_of_mem_take h)
        · exact .inr h
        · exact .inl (List.mem_of_mem_drop h)
      · exact .inl hx
    rcases hx1 with h | h
    · unfold dot1 at h; split at h
      · rw [List.mem_append] at h
        rcases h with h | h
        · exact .inr (.inl (hrep _ x h))
        · exact .inl h
      · exact .inl h
    · exact .inr (.inr h)
  constructor
  · intro h
    have := decVal_zeros (s := Lib.decDigits V) fun c hc => by
      rcases (hmem c).1 (h c (h1 c hc)) with h' | h'
      · exact h'
      · have := hd c hc; rw [h'] at this; exact absurd this (by decide)
    rw [dec_dec] at this; exact this
  · rintro rfl x hx
    rw [hmem]
    rcases h2 x hx with h | h
    · have : Lib.decDigits 0 = [48] := by simp [Lib.decDigits]
      rw [this] at h; simp at h; exact .inl h
    · exact h
theorem dot3_eq (b : Bool) (k V : Nat) : dot3 b (dot2 k (dot1 k (Lib.decDigits V))) = if b = true ∧ V ≠ 0 then 45 :: dot2 k (dot1 k (Lib.decDigits V)) else dot2 k (dot1 k (Lib.decDigits V)) := by
  unfold dot3
  have := dot_zero k V
  by_cases hc : b = true ∧ V ≠ 0
  · rw [if_pos hc, if_pos ⟨hc.1, this.2 hc.2⟩]
  · rw [if_neg hc, if_neg (fun h => hc ⟨h.1, this.1 h.2⟩)]
theorem dgT_two : dg 10 2 = [2] := by rw [dg_pos (by decide) (by decide), show (2 : Nat) / 10 = 0 by decide, dg_zero]; rfl
theorem val_pad (k P : Nat) : val 10 (List.replicate k 0 ++ dg 10 P) = (P * 10 ^ k : Nat) := by
  rw [val_app, val_rep, vT, List.length_replicate]
  push_cast
  rw [Int.mul_comm]; omega
end Go.Proofs.YtglncfhcgkihbaaGreatDoor
