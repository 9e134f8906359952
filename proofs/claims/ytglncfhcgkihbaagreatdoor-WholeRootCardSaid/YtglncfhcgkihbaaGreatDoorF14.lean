/- Part of a proof: see the last text. -/
import Derived.Test.YtglncfhcgkihbaaGreatDoorF00
import Derived.Test.YtglncfhcgkihbaaGreatDoorF02
import Derived.Test.YtglncfhcgkihbaaGreatDoorF03
import Derived.Test.YtglncfhcgkihbaaGreatDoorF04
set_option linter.unusedVariables false
set_option linter.unusedSimpArgs false
namespace Go.Proofs.YtglncfhcgkihbaaGreatDoor
open Go.Eng Go.Wh
set_option maxRecDepth 20000
set_option linter.unusedSimpArgs false
set_option linter.unusedVariables false
attribute [local irreducible] AG CallA CallT AWp PCall ACall AgC
def gcdV (m n : Int) : Int := (Nat.gcd m.natAbs n.natAbs : Nat)
theorem gcd_le {m n : Int} : (gcdV m n).natAbs ≤ m.natAbs ∨ (gcdV m n).natAbs ≤ n.natAbs := by
  unfold gcdV
  rw [Int.natAbs_natCast]
  by_cases h0 : n.natAbs = 0
  · left; rw [h0, Nat.gcd_zero_right]; exact Nat.le_refl _
  · right; exact Nat.gcd_le_right _ (Nat.pos_of_ne_zero h0)
theorem gcdV_nonneg (m n : Int) : ¬ gcdV m n < 0 := by unfold gcdV; omega
theorem Gcd_spec (a b : List UInt8) (ha : a.length ≤ 1000000000) (hb : b.length ≤ 1000000000) : PCall Tryz.prog 23 [dS a, dS b] fun r => r = res2 a b gcdV := by 
  have h := two_spec a b ha hb 66 gcdV fun m n hm hn => ⟨by
      rcases gcd_le (m := m) (n := n) with h | h
      · have := sz_abs_le h; omega
      · have := sz_abs_le h; omega, by
      have h := gcd_spec m n (by omega) (by omega)
      rw [← dBigN] at h; exact h⟩
  obtain ⟨x, e, hr⟩ := res2_tup a b gcdV
  rw [hr] at h ⊢
  refine pcall_of Tryz.func23 rfl rfl Tryz.ntmps23 (rs := [.tmp 4, .tmp 5]) (tys := [9, 31]) rfl rfl (by simp) ?_
  (refine awp_sr fun KK hKK => ?_; simp [go_sem]; ((repeat' (first|(refine ag_x ?_;simp [go_sem])|intro _|refine And.intro ?_ ?_|(apply hKK;clear hKK KK)));all_goals first|refine Hold.mk ?_|omega|with_reducible assumption|(simp only [InR] at *;omega)|skip))
  (refine awp_sr fun KK hKK => ?_; simp [go_sem]; ((repeat' (first|(refine ag_x ?_;simp [go_sem])|intro _|refine And.intro ?_ ?_|(apply hKK;clear hKK KK)));all_goals first|refine Hold.mk ?_|omega|with_reducible assumption|(simp only [InR] at *;omega)|skip))
  ((try refine CallT.toA ?_); refine callT_m (by first | exact .inl ⟨rfl, rfl⟩ | exact .inr rfl) (by simp [go_sem]) ?_; intro args ha; simp [go_sem] at ha; subst ha; refine ⟨_, h, ?_⟩; rintro _ rfl; simp [go_sem]; ((repeat' (first|(refine ag_x ?_;simp [go_sem])|intro _|refine And.intro ?_ ?_|(apply hKK;clear hKK KK)));all_goals first|refine Hold.mk ?_|omega|with_reducible assumption|(simp only [InR] at *;omega)|skip))
  (refine awp_ret ?_; simp [go_sem])
def resR (a : List UInt8) : D := if numOk a = true ∧ a.head? ≠ some 45 then .tup [dS (Lib.itoa (Nat.sqrt (numV a).natAbs : Nat)), dI 0] else .tup [dS [], dI 1]
theorem sqrt_pos {N : Nat} (h : N ≠ 0) : 0 < N.sqrt := by
  have := sqrt_hi N
  rcases Nat.eq_zero_or_pos N.sqrt with h1 | h1
  · rw [h1] at this; omega
  · exact h1
theorem le_sqrt_of {x g : Nat} (h : g * g ≤ x) : g ≤ x.sqrt := by
  rcases Nat.lt_or_ge x.sqrt g with h' | h'
  · exfalso
    have := Nat.mul_le_mul (show x.sqrt + 1 ≤ g by omega) (show x.sqrt + 1 ≤ g by omega)
    have := sqrt_hi x
    omega
  · exact h'
theorem dgU_len {n k : Nat} (h : n < 1000000000 ^ k) : (dg U n).length ≤ k := dg_len_le (B := U) (by decide) h
theorem len_pow10 (k : Nat) : (dg U (10 ^ k)).length ≤ k + 1 := dgU_len (Nat.lt_of_le_of_lt (Nat.pow_le_pow_left (by decide : 10 ≤ 1000000000) k) (Nat.pow_lt_pow_right (by decide) (by omega)))
set_option maxHeartbeats 8000000 in
theorem Root_spec (a : List UInt8) (ha : a.length ≤ 1000000000) : PCall Tryz.prog 19 [dS a] fun r => r = resR a := by 
  refine pcall_of Tryz.func19 rfl rfl Tryz.ntmps19 (rs := [.tmp 2, .tmp 3]) (tys := [9, 31]) rfl rfl (by simp) ?_
  unfold resR
  have v := valid_spec a ha
  cases hok : numOk a with
  | false =>
    rw [hok] at v
    (refine awp_sr fun KK hKK => ?_; simp [go_sem]; ((repeat' (first|(refine ag_x ?_;simp [go_sem])|intro _|refine And.intro ?_ ?_|(apply hKK;clear hKK KK)));all_goals first|refine Hold.mk ?_|omega|with_reducible assumption|(simp only [InR] at *;omega)|skip))
    refine awp_seq_k fun K1 hK1 => ?_
    refine awp_sr fun KK hKK => ?_
    simp [go_sem]
    ((try refine CallT.toA ?_); refine callT_m (by first | exact .inl ⟨rfl, rfl⟩ | exact .inr rfl) (by simp [go_sem]) ?_; intro args ha; simp [go_sem] at ha; subst ha; refine ⟨_, v, ?_⟩; rintro _ rfl; simp [go_sem]; ((repeat' (first|(refine ag_false (by simp [go_sem, undef]) (by simp [go_sem]) ?_;simp [go_sem])|intro _|refine And.intro ?_ ?_|(apply hKK;clear hKK KK)));all_goals first|refine Hold.mk ?_|omega|with_reducible assumption|(simp only [InR] at *;omega)|skip))
    (refine awp_if fun T F hT hF => ?_; simp [go_sem]; refine hT ?_; clear hT hF T F)
    (refine awp_sr fun KK hKK => ?_; simp [go_sem]; ((repeat' (first|(refine ag_x ?_;simp [go_sem])|intro _|refine And.intro ?_ ?_|(apply hKK;clear hKK KK)));all_goals first|refine Hold.mk ?_|omega|with_reducible assumption|(simp only [InR] at *;omega)|skip))
    (refine awp_ret ?_; simp [go_sem])
  | true =>
    rw [hok] at v
    obtain ⟨h1, h2, h3, h4⟩ := numOk_parts hok
    have r1 := readOk_spec hok
    have sx := sz_numOk hok
    have hneg := numV_neg hok
    have habs := numV_abs a
    obtain ⟨c, t, hat⟩ : ∃ c t, a = c :: t := by
      cases a with
      | nil => exact absurd rfl (numOk_ne hok)
      | cons c t => exact ⟨c, t, rfl⟩
    have hc0 : a.head? = some c := by rw [hat]; rfl
    have hc0' : a[0]? = some c := by rw [hat]; rfl
    have h45 := u45 c
    by_cases hc : c = 45
    · (refine awp_sr fun KK hKK => ?_; simp [go_sem]; ((repeat' (first|(refine ag_x ?_;simp [go_sem])|intro _|refine And.intro ?_ ?_|(apply hKK;clear hKK KK)));all_goals first|refine Hold.mk ?_|omega|with_reducible assumption|(simp only [InR] at *;omega)|skip))
      refine awp_seq_k fun K1 hK1 => ?_
      have hcc := h45.2 hc
      rw [hc0, hc]
      (refine awp_sr fun KK hKK => ?_; simp [go_sem]; ((repeat' (first|(refine ag_x ?_;simp [go_sem])|intro _|refine And.intro ?_ ?_|(apply hKK;clear hKK KK)));all_goals first|refine Hold.mk ?_|omega|with_reducible assumption|(simp only [InR] at *;omega)|skip))
      ((try refine CallT.toA ?_); refine callT_m (by first | exact .inl ⟨rfl, rfl⟩ | exact .inr rfl) (by simp [go_sem]) ?_; intro args ha; simp [go_sem] at ha; subst ha; refine ⟨_, v, ?_⟩; rintro _ rfl; simp [go_sem, hc0', hcc]; ((repeat' (first|(refine ag_x ?_;simp [go_sem, hc0', hcc])|intro _|refine And.intro ?_ ?_|(apply hKK;clear hKK KK)));all_goals first|refine Hold.mk ?_|omega|with_reducible assumption|(simp only [InR] at *;omega)|skip))
      (refine awp_if fun T F hT hF => ?_; simp [go_sem]; refine hT ?_; clear hT hF T F)
      (refine awp_sr fun KK hKK => ?_; simp [go_sem]; ((repeat' (first|(refine ag_x ?_;simp [go_sem])|intro _|refine And.intro ?_ ?_|(apply hKK;clear hKK KK)));all_goals first|refine Hold.mk ?_|omega|with_reducible assumption|(simp only [InR] at *;omega)|skip))
      (refine awp_ret ?_; simp [go_sem])
    · have hcc : ¬ (c.toNat : Int) = 45 := fun h => hc (h45.1 h)
      have hb : body a = a := by unfold body; rw [if_neg (by rw [hc0]; simpa using hc)]
      have hneg' : decide (numV a < 0) = false := by rw [hneg, hc0]; simpa using hc
      rw [if_pos ⟨rfl, by rw [hc0]; simpa using hc⟩]
      have hlt := decVal_lt h1
      rw [← habs, hb] at hlt
      rw [hb] at h2
      have E : dBig (numV a) = nB (numV a).natAbs := by simp only [dBig, nB, hneg']
      rw [E] at r1
      have sx : (dg U (numV a).natAbs).length ≤ 45 := sx
      generalize (numV a).natAbs = N at *
      have hN0 := dg_nil (B := U) (n := N) (by decide)
      (refine awp_sr fun KK hKK => ?_; simp [go_sem]; ((repeat' (first|(refine ag_x ?_;simp [go_sem])|intro _|refine And.intro ?_ ?_|(apply hKK;clear hKK KK)));all_goals first|refine Hold.mk ?_|omega|with_reducible assumption|(simp only [InR] at *;omega)|skip))
      refine awp_seq_k fun K1 hK1 => ?_
      (refine awp_sr fun KK hKK => ?_; simp [go_sem]; ((repeat' (first|(refine ag_x ?_;simp [go_sem])|intro _|refine And.intro ?_ ?_|(apply hKK;clear hKK KK)));all_goals first|refine Hold.mk ?_|omega|with_reducible assumption|(simp only [InR] at *;omega)|skip))
      ((try refine CallT.toA ?_); refine callT_m (by first | exact .inl ⟨rfl, rfl⟩ | exact .inr rfl) (by simp [go_sem]) ?_; intro args ha; simp [go_sem] at ha; subst ha; refine ⟨_, v, ?_⟩; rintro _ rfl; simp [go_sem, hc0', hcc]; ((repeat' (first|(refine ag_x ?_;simp [go_sem, hc0', hcc])|intro _|refine And.intro ?_ ?_|(apply hKK;clear hKK KK)));all_goals first|refine Hold.mk ?_|omega|with_reducible assumption|(simp only [InR] at *;omega)|skip))
      (refine awp_if fun T F hT hF => ?_; simp [go_sem]; refine hF ?_; clear hT hF T F)
      refine awp_skip ?_
      refine hK1 _ ?_; clear hK1
      (refine awp_sr fun KK hKK => ?_; simp [go_sem]; ((repeat' (first|(refine ag_x ?_;simp [go_sem])|intro _|refine And.intro ?_ ?_|(apply hKK;clear hKK KK)));all_goals first|refine Hold.mk ?_|omega|with_reducible assumption|(simp only [InR] at *;omega)|skip))
      ((try refine CallT.toA ?_); refine callT_m (by first | exact .inl ⟨rfl, rfl⟩ | exact .inr rfl) (by simp [go_sem]) ?_; intro args ha; simp [go_sem] at ha; subst ha; refine ⟨_, r1, ?_⟩; rintro _ rfl; simp [go_sem]; ((repeat' (first|(refine ag_x ?_;simp [go_sem])|intro _|refine And.intro ?_ ?_|(apply hKK;clear hKK KK)));all_goals first|refine Hold.mk ?_|omega|with_reducible assumption|(simp only [InR] at *;omega)|skip))
      refine awp_seq_k fun K3 hK3 => ?_
      (refine awp_sr fun KK hKK => ?_; simp [go_sem]; ((repeat' (first|(refine ag_x ?_;simp [go_sem])|intro _|refine And.intro ?_ ?_|(apply hKK;clear hKK KK)));all_goals first|refine Hold.mk ?_|omega|with_reducible assumption|(simp only [InR] at *;omega)|skip))
      by_cases hz : N = 0
      · subst hz
        (refine awp_if fun T F hT hF => ?_; simp [go_sem, dg_zero]; refine hT ?_; clear hT hF T F)
        (refine awp_sr fun KK hKK => ?_; simp [go_sem]; ((repeat' (first|(refine ag_x ?_;simp [go_sem])|intro _|refine And.intro ?_ ?_|(apply hKK;clear hKK KK)));all_goals first|refine Hold.mk ?_|omega|with_reducible assumption|(simp only [InR] at *;omega)|skip))
        (refine awp_ret ?_; simp [go_sem])
        have e : Nat.sqrt 0 = 0 := by
          rcases Nat.eq_zero_or_pos (Nat.sqrt 0) with h | h
          · exact h
          · have q1 := sqrt_lo 0
            have q2 := Nat.mul_le_mul h h
            omega
        rw [e, itoa_abs]; simp [Lib.decDigits]
      · (refine awp_if fun T F hT hF => ?_; simp [go_sem, hN0, hz]; refine hF ?_; clear hT hF T F)
        refine awp_skip ?_
        refine hK3 _ ?_; clear hK3
        obtain ⟨k, hk⟩ : ∃ k, (a.length + 1) / 2 = k := ⟨_, rfl⟩
        have hkm : ((a.length : Int) + 1).tdiv 2 = (k : Int) := by
          rw [(div_mod_of (B := 2) (n := (a.length : Int) + 1) (by decide) (by omega)).2.1]; omega
        have hk1 : k ≤ 201 := by omega
        have RP := rep_spec [48] k (by omega) (by simp; omega)
        have T0 := tenN k (by omega)
        have hlen := rep_len k
        have h10 := len_pow10 k
        have hG0 : 0 < 10 ^ k := Nat.pow_pos (by decide)
        have hG1 : N < (10 ^ k + 1) * (10 ^ k + 1) := by
          have q1 : 10 ^ a.length ≤ 10 ^ (k + k) := Nat.pow_le_pow_right (by decide) (by omega)
          rw [Nat.pow_add] at q1
          have q2 : 10 ^ k * 10 ^ k ≤ (10 ^ k + 1) * (10 ^ k + 1) := Nat.mul_le_mul (by omega) (by omega)
          omega
        have hG2 := sqrt_le_of hG1
        generalize Lib.repeatL [48] k = rk at *
        generalize 10 ^ k = G at *
        have hne1 : (2 : Int) ≠ 0 := by decide
        (refine awp_sr fun KK hKK => ?_; simp [go_sem, hkm]; ((repeat' (first|(refine ag_x ?_;simp [go_sem, hkm])|intro _|refine And.intro ?_ ?_|(apply hKK;clear hKK KK)));all_goals first|refine Hold.mk ?_|omega|with_reducible assumption|(simp only [InR] at *;omega)|skip))
        ((try refine CallT.toA ?_); refine callT_m (by first | exact .inl ⟨rfl, rfl⟩ | exact .inr rfl) (by simp [go_sem]) ?_; intro args ha; simp [go_sem] at ha; subst ha; refine ⟨_, RP, ?_⟩; rintro _ rfl; simp [go_sem]; ((repeat' (first|(refine ag_x ?_;simp [go_sem])|intro _|refine And.intro ?_ ?_|(apply hKK;clear hKK KK)));all_goals first|refine Hold.mk ?_|omega|with_reducible assumption|(simp only [InR] at *;omega)|skip))
        ((try refine CallT.toA ?_); refine callT_m (by first | exact .inl ⟨rfl, rfl⟩ | exact .inr rfl) (by simp [go_sem]) ?_; intro args ha; simp [go_sem] at ha; subst ha; refine ⟨_, T0, ?_⟩; rintro _ rfl; simp [go_sem]; ((repeat' (first|(refine ag_x ?_;simp [go_sem])|intro _|refine And.intro ?_ ?_|(apply hKK;clear hKK KK)));all_goals first|refine Hold.mk ?_|omega|with_reducible assumption|(simp only [InR] at *;omega)|skip))
        rename_i g4 g5
        refine awp_block ?_
        refine awp_loop (σ := Nat) (fun g => ⟨[(4, .ptr 4 g4 0), (5, .ptr 5 g5 0)], [(4, g4, .box [dB false, dIs (dg U N)]), (5, g5, .box [dB false, dIs (dg U g)])]⟩) (fun g => 0 < g ∧ N.sqrt ≤ g ∧ g ≤ G) (fun g => g) G ?_ ?_ ?_
        · (refine cov_of ?_ ?_ <;> simp [go_sem])
        · exact ⟨hG0, hG2, Nat.le_refl _⟩
        rintro g ⟨q0, q1, q2⟩
        have hgl : (dg U g).length ≤ 202 := Nat.le_trans (dg_le q2) (by omega)
        have dv := divN N g (by omega) (by omega) (by omega)
        have ln := newton_ge (x := N) q0 (sqrt_lo N)
        have ls := newton_stop (x := N) q0
        have l1 : (dg U (N / g)).length ≤ 45 := Nat.le_trans (dg_le (Nat.div_le_self _ _)) sx
        generalize hQ : N / g = Q at *
        generalize N % g = R at *
        have ad := addN Q g (by omega) (by omega)
        have l2 := len_add l1 hgl
        have o2 := ofN 2 (by decide)
        have l3 : (dg U 2).length ≤ 1 := dgU_len (by decide)
        generalize hS : Q + g = S at *
        have d2 := divN S 2 (by decide) (by omega) (by omega)
        have cm := compare_spec ((S / 2 : Nat) : Int) (g : Int)
        have l4 : (dg U (S / 2)).length ≤ 400 := Nat.le_trans (dg_le (Nat.div_le_self _ _)) (by omega)
        generalize S / 2 = T at *
        generalize S % 2 = W at *
        rw [dBigN, dBigN] at cm
        have tx := textN g (by omega)
        refine awp_block ?_
        (refine awp_sr fun KK hKK => ?_; simp [go_sem]; ((repeat' (first|(refine ag_x ?_;simp [go_sem])|intro _|refine And.intro ?_ ?_|(apply hKK;clear hKK KK)));all_goals first|refine Hold.mk ?_|omega|with_reducible assumption|(simp only [InR] at *;omega)|skip))
        ((try refine CallT.toA ?_); refine callT_m (by first | exact .inl ⟨rfl, rfl⟩ | exact .inr rfl) (by simp [go_sem]) ?_; intro args ha; simp [go_sem] at ha; subst ha; refine ⟨_, dv, ?_⟩; rintro _ rfl; simp [go_sem]; ((repeat' (first|(refine ag_x ?_;simp [go_sem])|intro _|refine And.intro ?_ ?_|(apply hKK;clear hKK KK)));all_goals first|refine Hold.mk ?_|omega|with_reducible assumption|(simp only [InR] at *;omega)|skip))
        (refine awp_sr fun KK hKK => ?_; simp [go_sem]; ((repeat' (first|(refine ag_x ?_;simp [go_sem])|intro _|refine And.intro ?_ ?_|(apply hKK;clear hKK KK)));all_goals first|refine Hold.mk ?_|omega|with_reducible assumption|(simp only [InR] at *;omega)|skip))
        ((try refine CallT.toA ?_); refine callT_m (by first | exact .inl ⟨rfl, rfl⟩ | exact .inr rfl) (by simp [go_sem]) ?_; intro args ha; simp [go_sem] at ha; subst ha; refine ⟨_, ad, ?_⟩; rintro _ rfl; simp [go_sem]; ((repeat' (first|(refine ag_x ?_;simp [go_sem])|intro _|refine And.intro ?_ ?_|(apply hKK;clear hKK KK)));all_goals first|refine Hold.mk ?_|omega|with_reducible assumption|(simp only [InR] at *;omega)|skip))
        ((try refine CallT.toA ?_); refine callT_m (by first | exact .inl ⟨rfl, rfl⟩ | exact .inr rfl) (by simp [go_sem]) ?_; intro args ha; simp [go_sem] at ha; subst ha; refine ⟨_, o2, ?_⟩; rintro _ rfl; simp [go_sem]; ((repeat' (first|(refine ag_x ?_;simp [go_sem])|intro _|refine And.intro ?_ ?_|(apply hKK;clear hKK KK)));all_goals first|refine Hold.mk ?_|omega|with_reducible assumption|(simp only [InR] at *;omega)|skip))
        ((try refine CallT.toA ?_); refine callT_m (by first | exact .inl ⟨rfl, rfl⟩ | exact .inr rfl) (by simp [go_sem]) ?_; intro args ha; simp [go_sem] at ha; subst ha; refine ⟨_, d2, ?_⟩; rintro _ rfl; simp [go_sem]; ((repeat' (first|(refine ag_x ?_;simp [go_sem])|intro _|refine And.intro ?_ ?_|(apply hKK;clear hKK KK)));all_goals first|refine Hold.mk ?_|omega|with_reducible assumption|(simp only [InR] at *;omega)|skip))
        refine awp_seq_k fun K5 hK5 => ?_
        (refine awp_sr fun KK hKK => ?_; simp [go_sem]; ((repeat' (first|(refine ag_x ?_;simp [go_sem])|intro _|refine And.intro ?_ ?_|(apply hKK;clear hKK KK)));all_goals first|refine Hold.mk ?_|omega|with_reducible assumption|(simp only [InR] at *;omega)|skip))
        ((try refine CallT.toA ?_); refine callT_m (by first | exact .inl ⟨rfl, rfl⟩ | exact .inr rfl) (by simp [go_sem]) ?_; intro args ha; simp [go_sem] at ha; subst ha; refine ⟨_, cm, ?_⟩; rintro _ rfl; simp [go_sem]; ((repeat' (first|(refine ag_x ?_;simp [go_sem])|intro _|refine And.intro ?_ ?_|(apply hKK;clear hKK KK)));all_goals first|refine Hold.mk ?_|omega|with_reducible assumption|(simp only [InR] at *;omega)|skip))
        (refine awp_if fun T F hT hF => ?_; simp [go_sem]; refine BR.intro (fun h6 => hT ?_) (fun h6 => hF ?_); all_goals clear hT hF T F; try simp at h6) 
        · have hT : g ≤ T := by
            refine Decidable.byContradiction fun hh => ?_
            unfold cmpV sgn at h6
            rw [if_pos (by omega)] at h6
            omega
          have hg : N.sqrt = g := Nat.le_antisymm q1 (le_sqrt_of (ls hT))
          rw [hg]
          (refine awp_sr fun KK hKK => ?_; simp [go_sem]; ((repeat' (first|(refine ag_x ?_;simp [go_sem])|intro _|refine And.intro ?_ ?_|(apply hKK;clear hKK KK)));all_goals first|refine Hold.mk ?_|omega|with_reducible assumption|(simp only [InR] at *;omega)|skip))
          ((try refine CallT.toA ?_); refine callT_m (by first | exact .inl ⟨rfl, rfl⟩ | exact .inr rfl) (by simp [go_sem]) ?_; intro args ha; simp [go_sem] at ha; subst ha; refine ⟨_, tx, ?_⟩; rintro _ rfl; simp [go_sem]; ((repeat' (first|(refine ag_x ?_;simp [go_sem])|intro _|refine And.intro ?_ ?_|(apply hKK;clear hKK KK)));all_goals first|refine Hold.mk ?_|omega|with_reducible assumption|(simp only [InR] at *;omega)|skip))
          (refine awp_ret ?_; simp [go_sem])
          rw [itoa_abs, if_neg (by omega), Int.natAbs_natCast]; rfl
        · have hT : T < g := by
            refine Decidable.byContradiction fun hh => ?_
            unfold cmpV sgn at h6
            rw [if_neg (by omega)] at h6
            split at h6 <;> omega
          refine awp_skip ?_
          refine hK5 _ ?_; clear hK5
          (refine awp_r fun KK hKK => ?_; simp [go_sem]; ((repeat' (first|(refine ag_x ?_;simp [go_sem])|intro _|refine And.intro ?_ ?_|(apply hKK;clear hKK KK)));all_goals first|refine Hold.mk ?_|omega|with_reducible assumption|(simp only [InR] at *;omega)|skip))
          refine ⟨T, ?_, ⟨Nat.lt_of_lt_of_le (sqrt_pos hz) ln, ln, by omega⟩, hT⟩
          (refine cov_of ?_ ?_ <;> simp [go_sem])
end Go.Proofs.YtglncfhcgkihbaaGreatDoor
