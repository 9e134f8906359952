/- Part of a proof: see the last text. -/
import Derived.Test.YtglncfhcgkihbaaGreatDoorF00
import Derived.Test.YtglncfhcgkihbaaGreatDoorF01
import Derived.Test.YtglncfhcgkihbaaGreatDoorF02
import Derived.Test.YtglncfhcgkihbaaGreatDoorF04
import Derived.Test.YtglncfhcgkihbaaGreatDoorF05
import Derived.Test.YtglncfhcgkihbaaGreatDoorF15
set_option linter.unusedVariables false
set_option linter.unusedSimpArgs false
namespace Go.Proofs.YtglncfhcgkihbaaGreatDoor
open Go.Eng Go.Wh
set_option maxRecDepth 20000
set_option linter.unusedSimpArgs false
set_option linter.unusedVariables false
attribute [local irreducible] AG CallA CallT AWp PCall ACall AgC
open Go.RowKit in
@[go_sem] theorem if86 : isIface Tryz.prog 86 = true := by kernel_rfl
open Go.RowKit in
theorem parseD : ∀ (s : List UInt8), (∀ c ∈ s, isD c = true) → ∀ acc, acc < 18446744073709551616 →
    Lib.parseUint10 acc s = if acc * 10 ^ s.length + decVal s < 18446744073709551616 then .ok (acc * 10 ^ s.length + decVal s) else .range
  | [], _, acc, ha => by simp [Lib.parseUint10, decVal, ha]
  | c :: s, h, acc, ha => by
    have hc := h c (by simp)
    have hc' := (isD_iff c).1 hc
    have ih := parseD s (fun x hx => h x (by simp [hx]))
    have hd : c.toNat - 48 = dgt c := rfl
    have hd10 := dgt_lt hc
    have e : acc * 10 ^ (c :: s).length + decVal (c :: s) = (acc * 10 + dgt c) * 10 ^ s.length + decVal s := by
      rw [decVal_cons, List.length_cons, Nat.pow_succ, Nat.add_mul, Nat.mul_assoc, Nat.mul_comm 10, ← Nat.add_assoc]
    have hp : 0 < 10 ^ s.length := Nat.pow_pos (by decide)
    have hge : acc * 10 + dgt c ≤ (acc * 10 + dgt c) * 10 ^ s.length := Nat.le_mul_of_pos_right _ hp
    rw [e]
    unfold Lib.parseUint10
    rw [if_pos (by omega), hd]
    by_cases h1 : 1844674407370955162 ≤ acc
    · rw [if_pos h1, if_neg (by omega)]
    · rw [if_neg h1]
      by_cases h2 : 18446744073709551616 ≤ acc * 10 + dgt c
      · rw [if_pos h2, if_neg (by omega)]
      · rw [if_neg h2]; exact ih _ (by omega)
open Go.RowKit in
theorem parseB {s : List UInt8} (h : ∀ c ∈ s, isD c = true) (hne : s ≠ []) : Lib.parseMag s = if decVal s < 18446744073709551616 then .ok (decVal s) else .range := by
  unfold Lib.parseMag
  rw [if_neg hne, parseD s h 0 (by decide)]
  simp
open Go.RowKit in
theorem atoi_num {a : List UInt8} (h : numOk a = true) : Lib.atoiAll a = if -9223372036854775808 ≤ numV a ∧ numV a ≤ 9223372036854775807 then .ok (numV a) else .range := by
  obtain ⟨h1, h2, h3, h4⟩ := numOk_parts h
  have hp := parseB h1 h3
  have hneg := numV_neg h
  have habs := numV_abs a
  cases a with
  | nil => exact absurd rfl (numOk_ne h)
  | cons c r =>
    unfold Lib.atoiAll
    simp only
    by_cases hc : c = 45
    · subst hc
      have hb : body (45 :: r) = r := rfl
      rw [hb] at hp habs
      have hn : numV (45 :: r) < 0 := by simpa using hneg
      have e45 : (45 : UInt8).toNat = 45 := rfl
      simp only [e45, or_true, if_true, hp]
      by_cases h5 : decVal r < 18446744073709551616
      · rw [if_pos h5]
        simp only [not_true, false_and, if_false, true_and]
        by_cases h6 : 9223372036854775808 < decVal r
        · rw [if_pos h6, if_neg (by omega)]
        · rw [if_neg h6, if_pos (by omega), show numV (45 :: r) = -(decVal r : Int) by omega]
      · rw [if_neg h5, if_neg (by omega)]
    · have hb : body (c :: r) = c :: r := by unfold body; rw [if_neg (by simpa using hc)]
      rw [hb] at hp habs h1
      have hcd := (isD_iff c).1 (h1 c (by simp))
      have hn : ¬ numV (c :: r) < 0 := by
        intro h'
        have := decide_eq_true h'
        rw [hneg] at this
        simp at this; exact hc this
      have e43 : ¬ c.toNat = 43 := by omega
      have e45 : ¬ c.toNat = 45 := by omega
      simp only [e43, e45, or_self, if_false, hp]
      by_cases h5 : decVal (c :: r) < 18446744073709551616
      · rw [if_pos h5]
        simp only [not_false_eq_true, true_and, false_and, if_false]
        by_cases h6 : 9223372036854775808 ≤ decVal (c :: r)
        · rw [if_pos h6, if_neg (by omega)]
        · rw [if_neg h6, if_pos (by omega), show numV (c :: r) = (decVal (c :: r) : Int) by omega]
      · rw [if_neg h5, if_neg (by omega)]
open Go.RowKit in
theorem atoi_ok (s : List UInt8) (hl : s.length ≤ 281474976710656) (v : Int) (h : Lib.atoiAll s = .ok v) : PCall Tryz.prog 76 [dS s] fun r => r = .tup [dI v, .v .nilIface] := by
  refine pcall_below ⟨_, Tryz.func76, rfl, rfl⟩ fun C w us hc hg hr => ?_
  obtain rfl := repL_v (us := [.string ⟨s.toArray⟩]) hr
  refine (Tryz.strconv_Atoi_ok ⟨s.toArray⟩ (by simp [ByteArray.size]; omega) v (by simpa using h) w).mono ?_
  rintro e w' ⟨rfl, hw⟩
  refine ⟨_, _, rfl, rfl, rep_tup2 (.v _) (.v _), ?_⟩
  rcases hw with rfl | ⟨t, rfl⟩
  · exact Below.refl _ _
  · exact ⟨rfl, rfl, rfl, by rw [Lib.bytesWorld_size]; omega, fun k hk => Lib.bytesWorld_at_old w _ _ k (by omega)⟩
open Go.RowKit in
def resI (a : List UInt8) : D :=
  if numOk a = true then (if -9223372036854775808 ≤ numV a ∧ numV a ≤ 9223372036854775807 then .tup [dI (numV a), dI 0] else .tup [dI 0, dI 2]) else .tup [dI 0, dI 1]
theorem decVal_take (s : List UInt8) (k : Nat) : decVal (s.take k) ≤ decVal s := by
  have := decVal_app (s.take k) (s.drop k)
  rw [List.take_append_drop] at this
  have hp : 0 < 10 ^ (s.drop k).length := Nat.pow_pos (by decide)
  have := Nat.le_mul_of_pos_right (decVal (s.take k)) hp
  omega
theorem least_div {d : Nat} (hd : d < 10) : ((-9223372036854775808 : Int) + d).tdiv 10 = -((9223372036854775808 - (d : Int)) / 10) := by
  rw [show (-9223372036854775808 : Int) + d = -(9223372036854775808 - d) by omega, Int.neg_tdiv, Int.tdiv_eq_ediv_of_nonneg (by omega)]
set_option maxHeartbeats 4000000 in
theorem rInt_spec (a : List UInt8) (ha : a.length ≤ 1000000000) : PCall Tryz.prog 33 [dS a] fun r => r = resI a := by 
  refine pcall_of Tryz.func33 rfl rfl Tryz.ntmps33 (rs := [.tmp 2, .tmp 3]) (tys := [3, 31]) rfl rfl (by simp) ?_
  unfold resI
  have v := rvalid_spec a ha
  cases hok : numOk a with
  | false =>
    rw [hok] at v
    (refine awp_sr fun KK hKK => ?_; simp [go_sem]; ((repeat' (first|(refine ag_x ?_;simp [go_sem])|intro _|refine And.intro ?_ ?_|(apply hKK;clear hKK KK)));all_goals first|refine Hold.mk ?_|omega|with_reducible assumption|(simp only [InR] at *;omega)|skip))
    refine awp_seq_k fun K1 hK1 => ?_
    (refine awp_sr fun KK hKK => ?_; simp [go_sem]; ((repeat' (first|(refine ag_x ?_;simp [go_sem])|intro _|refine And.intro ?_ ?_|(apply hKK;clear hKK KK)));all_goals first|refine Hold.mk ?_|omega|with_reducible assumption|(simp only [InR] at *;omega)|skip))
    ((try refine CallT.toA ?_); refine callT_m (by first | exact .inl ⟨rfl, rfl⟩ | exact .inr rfl) (by simp [go_sem]) ?_; intro args ha; simp [go_sem] at ha; subst ha; refine ⟨_, v, ?_⟩; rintro _ rfl; simp [go_sem]; ((repeat' (first|(refine ag_x ?_;simp [go_sem])|intro _|refine And.intro ?_ ?_|(apply hKK;clear hKK KK)));all_goals first|refine Hold.mk ?_|omega|with_reducible assumption|(simp only [InR] at *;omega)|skip))
    (refine awp_if fun T F hT hF => ?_; simp [go_sem]; refine hT ?_; clear hT hF T F)
    (refine awp_sr fun KK hKK => ?_; simp [go_sem]; ((repeat' (first|(refine ag_x ?_;simp [go_sem])|intro _|refine And.intro ?_ ?_|(apply hKK;clear hKK KK)));all_goals first|refine Hold.mk ?_|omega|with_reducible assumption|(simp only [InR] at *;omega)|skip))
    (refine awp_ret ?_; simp [go_sem])
  | true =>
    rw [hok] at v
    obtain ⟨h1, h2, h3, h4⟩ := numOk_parts hok
    have hneg := numV_neg hok
    have habs := numV_abs a
    obtain ⟨p, hp, hpc⟩ := body_split a
    have hal : a.length = p.length + (body a).length := by conv => lhs; rw [hp]; simp
    have hpl : p.length ≤ 1 := by rcases hpc with h | h <;> rw [h.1] <;> simp
    obtain ⟨c0, hc0⟩ : ∃ c, a[0]? = some c := ⟨_, List.getElem?_eq_getElem (by have := List.length_pos_iff.2 h3; omega)⟩
    have hc0' : a.head? = some c0 := by rw [List.head?_eq_getElem?]; exact hc0
    have hc45 : decide ((c0.toNat : Int) = 45) = decide (numV a < 0) := by
      rw [hneg, hc0']
      exact decide_eq_decide.2 ⟨fun h => by rw [(u45 c0).1 h], fun h => by simp at h; rw [h]; rfl⟩
    have hat : ∀ k c, p.length ≤ k → a[k]? = some c → (body a)[k - p.length]? = some c := fun k c hk hc => by
      rw [hp, List.getElem?_append_right hk] at hc; exact hc
    have hpe : p.length = 1 → a[0]? = some 45 := fun h5 => by
      rcases hpc with h | h
      · rw [h.1] at h5; simp at h5
      · rw [← List.head?_eq_getElem?]; exact h.2
    generalize hb : body a = b at *
    generalize numV a = x at *
    (refine awp_sr fun KK hKK => ?_; simp [go_sem]; ((repeat' (first|(refine ag_x ?_;simp [go_sem])|intro _|refine And.intro ?_ ?_|(apply hKK;clear hKK KK)));all_goals first|refine Hold.mk ?_|omega|with_reducible assumption|(simp only [InR] at *;omega)|skip))
    refine awp_seq_k fun K1 hK1 => ?_
    (refine awp_sr fun KK hKK => ?_; simp [go_sem]; ((repeat' (first|(refine ag_x ?_;simp [go_sem])|intro _|refine And.intro ?_ ?_|(apply hKK;clear hKK KK)));all_goals first|refine Hold.mk ?_|omega|with_reducible assumption|(simp only [InR] at *;omega)|skip))
    ((try refine CallT.toA ?_); refine callT_m (by first | exact .inl ⟨rfl, rfl⟩ | exact .inr rfl) (by simp [go_sem]) ?_; intro args ha; simp [go_sem] at ha; subst ha; refine ⟨_, v, ?_⟩; rintro _ rfl; simp [go_sem]; ((repeat' (first|(refine ag_x ?_;simp [go_sem])|intro _|refine And.intro ?_ ?_|(apply hKK;clear hKK KK)));all_goals first|refine Hold.mk ?_|omega|with_reducible assumption|(simp only [InR] at *;omega)|skip))
    (refine awp_if fun T F hT hF => ?_; simp [go_sem]; refine hF ?_; clear hT hF T F)
    refine awp_skip ?_
    refine hK1 _ ?_; clear hK1
    (refine awp_sr fun KK hKK => ?_; simp [go_sem, hc0, hc0', hc45]; ((repeat' (first|(refine ag_x ?_;simp [go_sem, hc0, hc0', hc45])|intro _|refine And.intro ?_ ?_|(apply hKK;clear hKK KK)));all_goals first|refine Hold.mk ?_|omega|with_reducible assumption|(simp only [InR] at *;omega)|skip))
    (refine awp_sr fun KK hKK => ?_; simp [go_sem]; ((repeat' (first|(refine ag_x ?_;simp [go_sem])|intro _|refine And.intro ?_ ?_|(apply hKK;clear hKK KK)));all_goals first|refine Hold.mk ?_|omega|with_reducible assumption|(simp only [InR] at *;omega)|skip))
    refine awp_seq_k fun K3 hK3 => ?_
    (refine awp_sr fun KK hKK => ?_; simp [go_sem]; ((repeat' (first|(refine ag_x ?_;simp [go_sem])|intro _|refine And.intro ?_ ?_|(apply hKK;clear hKK KK)));all_goals first|refine Hold.mk ?_|omega|with_reducible assumption|(simp only [InR] at *;omega)|skip))
    refine awp_block ?_
    refine awp_loop (σ := Nat) (fun i => ⟨[(0, dS a), (4, dB (decide (x < 0))), (5, dI (-(decVal (b.take (i - p.length)) : Int))), (6, dI i)], []⟩) (fun i => i ≤ a.length ∧ decVal (b.take (i - p.length)) ≤ 9223372036854775808) (fun i => a.length - i) 0 ?_ ?_ ?_
    · have e0 : decVal (b.take (0 - p.length)) = 0 := by simp [decVal]
      simp only [e0]
      (refine cov_of ?_ ?_ <;> simp [go_sem])
    · refine ⟨Nat.zero_le _, ?_⟩
      simp [decVal]
    rintro i ⟨hi, hle⟩
    refine awp_seq_k fun K4 hK4 => ?_
    (refine awp_sr fun KK hKK => ?_; simp [go_sem]; ((repeat' (first|(refine ag_x ?_;simp [go_sem])|intro _|refine And.intro ?_ ?_|(apply hKK;clear hKK KK)));all_goals first|refine Hold.mk ?_|omega|with_reducible assumption|(simp only [InR] at *;omega)|skip))
    (refine awp_if fun T F hT hF => ?_; simp [go_sem]; refine BR.intro (fun h5 => hT ?_) (fun h5 => hF ?_); all_goals clear hT hF T F; try simp at h5) 
    · refine awp_skip ?_
      refine hK4 _ ?_; clear hK4
      obtain ⟨c, hc⟩ : ∃ c, a[i]? = some c := ⟨_, List.getElem?_eq_getElem (by omega)⟩
      refine awp_seq_k fun K6 hK6 => ?_
      have tl6 : ∀ S', decVal (b.take (i + 1 - p.length)) ≤ 9223372036854775808 → Cov S' ⟨[(0, dS a), (4, dB (decide (x < 0))), (5, dI (-(decVal (b.take (i + 1 - p.length)) : Int))), (6, dI i)], []⟩ → K6 S' := fun S' hle' hS => by
        refine hK6 _ ?_; clear hK6
        refine awp_cov hS ?_; clear hS
        (refine awp_r fun KK hKK => ?_; simp [go_sem]; ((repeat' (first|(refine ag_x ?_;simp [go_sem])|intro _|refine And.intro ?_ ?_|(apply hKK;clear hKK KK)));all_goals first|refine Hold.mk ?_|omega|with_reducible assumption|(simp only [InR] at *;omega)|skip))
        refine ⟨i + 1, ?_, ⟨by omega, hle'⟩, by omega⟩
        (refine cov_of ?_ ?_ <;> simp [go_sem])
      clear hK6
      refine awp_block ?_
      refine awp_seq_k fun K7 hK7 => ?_
      (refine awp_sr fun KK hKK => ?_; simp [go_sem, hc]; ((repeat' (first|(refine ag_x ?_;simp [go_sem, hc])|intro _|refine And.intro ?_ ?_|(apply hKK;clear hKK KK)));all_goals first|refine Hold.mk ?_|omega|with_reducible assumption|(simp only [InR] at *;omega)|skip))
      (refine awp_if fun T F hT hF => ?_; simp [go_sem]; refine BR.intro (fun h8 => hT ?_) (fun h8 => hF ?_); all_goals clear hT hF T F; try simp at h8) 
      · have hip : i < p.length := by
          refine Decidable.byContradiction fun hh => ?_
          have := (isD_iff c).1 (h1 c (List.mem_of_getElem? (hat i c (by omega) hc)))
          omega
        have e1 : i + 1 - p.length = 0 := by omega
        have e2 : i - p.length = 0 := by omega
        rw [e1] at tl6
        rw [e2] at hle
        refine awp_exit ?_
        simp only [go_sem]
        refine tl6 _ hle ?_
        rw [e2]
        (refine cov_of ?_ ?_ <;> simp [go_sem])
      · have hip : p.length ≤ i := by
          refine Decidable.byContradiction fun hh => ?_
          have hi0 : i = 0 := by omega
          subst hi0
          have := hpe (by omega)
          rw [hc] at this
          simp at this
          subst this
          exact h8 rfl
        have hbc := hat i c hip hc
        have hcd := h1 c (List.mem_of_getElem? hbc)
        have ew := sub48 hcd
        have hd10 := dgt_lt hcd
        have e1 : decVal (b.take (i + 1 - p.length)) = decVal (b.take (i - p.length)) * 10 + dgt c := by
          rw [show i + 1 - p.length = (i - p.length) + 1 by omega, List.take_add_one, hbc]
          exact decVal_snoc _ _
        have hmono := decVal_take b (i + 1 - p.length)
        rw [e1] at tl6 hmono
        generalize decVal (b.take (i - p.length)) = u at *
        have hld := least_div hd10
        refine awp_skip ?_
        refine hK7 _ ?_; clear hK7
        (refine awp_sr fun KK hKK => ?_; simp [go_sem, hc, ew]; ((repeat' (first|(refine ag_x ?_;simp [go_sem, hc, ew])|intro _|refine And.intro ?_ ?_|(apply hKK;clear hKK KK)));all_goals first|refine Hold.mk ?_|omega|with_reducible assumption|(simp only [InR] at *;omega)|skip))
        refine awp_seq_k fun K9 hK9 => ?_
        (refine awp_sr fun KK hKK => ?_; simp [go_sem, hld]; ((repeat' (first|(refine ag_x ?_;simp [go_sem, hld])|intro _|refine And.intro ?_ ?_|(apply hKK;clear hKK KK)));all_goals first|refine Hold.mk ?_|omega|with_reducible assumption|(simp only [InR] at *;omega)|skip))
        (refine awp_if fun T F hT hF => ?_; simp [go_sem]; refine BR.intro (fun h10 => hT ?_) (fun h10 => hF ?_); all_goals clear hT hF T F; try simp at h10) 
        · have hbig : 9223372036854775808 < u * 10 + dgt c := by omega
          (refine awp_sr fun KK hKK => ?_; simp [go_sem]; ((repeat' (first|(refine ag_x ?_;simp [go_sem])|intro _|refine And.intro ?_ ?_|(apply hKK;clear hKK KK)));all_goals first|refine Hold.mk ?_|omega|with_reducible assumption|(simp only [InR] at *;omega)|skip))
          (refine awp_ret ?_; simp [go_sem])
          intro q1
          omega
        · have hsm : u * 10 + dgt c ≤ 9223372036854775808 := by omega
          refine awp_skip ?_
          refine hK9 _ ?_; clear hK9
          (refine awp_r fun KK hKK => ?_; simp [go_sem]; ((repeat' (first|(refine ag_x ?_;simp [go_sem])|intro _|refine And.intro ?_ ?_|(apply hKK;clear hKK KK)));all_goals first|refine Hold.mk ?_|omega|with_reducible assumption|(simp only [InR] at *;omega)|skip))
          refine tl6 _ hsm ?_
          have e5 : -(u : Int) * 10 - dgt c = -((u * 10 + dgt c : Nat) : Int) := by omega
          (refine cov_of ?_ ?_ <;> simp [go_sem, e5])
    · refine awp_exit ?_
      simp only [go_sem]
      refine hK3 _ ?_; clear hK3
      have e1 : b.take (i - p.length) = b := List.take_of_length_le (by omega)
      rw [e1] at hle ⊢
      generalize decVal b = u at *
      have hxu : (x < 0 → x = -(u : Int)) ∧ (¬ x < 0 → x = u) := ⟨fun h => by omega, fun h => by omega⟩
      refine awp_seq_k fun K11 hK11 => ?_
      (refine awp_sr fun KK hKK => ?_; simp [go_sem]; ((repeat' (first|(refine ag_x ?_;simp [go_sem])|intro _|refine And.intro ?_ ?_|(apply hKK;clear hKK KK)));all_goals first|refine Hold.mk ?_|omega|with_reducible assumption|(simp only [InR] at *;omega)|skip))
      (refine awp_if fun T F hT hF => ?_; simp [go_sem]; refine BR.intro (fun h12 => hT ?_) (fun h12 => hF ?_); all_goals clear hT hF T F; try simp at h12) 
      · (refine awp_sr fun KK hKK => ?_; simp [go_sem]; ((repeat' (first|(refine ag_x ?_;simp [go_sem])|intro _|refine And.intro ?_ ?_|(apply hKK;clear hKK KK)));all_goals first|refine Hold.mk ?_|omega|with_reducible assumption|(simp only [InR] at *;omega)|skip))
        (refine awp_ret ?_; simp [go_sem])
        intro q1
        omega
      · refine awp_skip ?_
        refine hK11 _ ?_; clear hK11
        refine awp_seq_k fun K13 hK13 => ?_
        have tl13 : ∀ S', Cov S' ⟨[(5, dI x)], []⟩ → K13 S' := fun S' hS => by
          refine hK13 _ ?_; clear hK13
          refine awp_cov hS ?_; clear hS
          (refine awp_sr fun KK hKK => ?_; simp [go_sem]; ((repeat' (first|(refine ag_x ?_;simp [go_sem])|intro _|refine And.intro ?_ ?_|(apply hKK;clear hKK KK)));all_goals first|refine Hold.mk ?_|omega|with_reducible assumption|(simp only [InR] at *;omega)|skip))
          (refine awp_ret ?_; simp [go_sem])
          omega
        clear hK13
        (refine awp_sr fun KK hKK => ?_; simp [go_sem]; ((repeat' (first|(refine ag_x ?_;simp [go_sem])|intro _|refine And.intro ?_ ?_|(apply hKK;clear hKK KK)));all_goals first|refine Hold.mk ?_|omega|with_reducible assumption|(simp only [InR] at *;omega)|skip))
        (refine awp_if fun T F hT hF => ?_; simp [go_sem]; refine BR.intro (fun h14 => hT ?_) (fun h14 => hF ?_); all_goals clear hT hF T F; try simp at h14) 
        · (refine awp_r fun KK hKK => ?_; simp [go_sem]; ((repeat' (first|(refine ag_x ?_;simp [go_sem])|intro _|refine And.intro ?_ ?_|(apply hKK;clear hKK KK)));all_goals first|refine Hold.mk ?_|omega|with_reducible assumption|(simp only [InR] at *;omega)|skip))
          refine tl13 _ ?_
          (refine cov_of ?_ ?_ <;> simp [go_sem])
          omega
        · refine awp_skip ?_
          refine tl13 _ ?_
          have e2 : -(u : Int) = x := by omega
          rw [e2]
          (refine cov_of ?_ ?_ <;> simp [go_sem])
theorem Of_spec (n : Int) (h0 : -9223372036854775808 ≤ n) (h1 : n ≤ 9223372036854775807) : PCall Tryz.prog 31 [dI n] fun r => r = dS (Lib.itoa n) := by 
  refine pcall_of Tryz.func31 rfl rfl Tryz.ntmps31 (rs := [.tmp 2]) (tys := [9]) rfl rfl (by simp) ?_
  (refine awp_sr fun KK hKK => ?_; simp [go_sem]; ((repeat' (first|(refine ag_x ?_;simp [go_sem])|intro _|refine And.intro ?_ ?_|(apply hKK;clear hKK KK)));all_goals first|refine Hold.mk ?_|omega|with_reducible assumption|(simp only [InR] at *;omega)|skip))
  (refine awp_sr fun KK hKK => ?_; simp [go_sem]; ((repeat' (first|(refine ag_x ?_;simp [go_sem])|intro _|refine And.intro ?_ ?_|(apply hKK;clear hKK KK)));all_goals first|refine Hold.mk ?_|omega|with_reducible assumption|(simp only [InR] at *;omega)|skip))
  ((try refine CallT.toA ?_); refine callT_m (by first | exact .inl ⟨rfl, rfl⟩ | exact .inr rfl) (by simp [go_sem]) ?_; intro args ha; simp [go_sem] at ha; subst ha; refine ⟨_, (itoa_spec n h0 h1), ?_⟩; rintro _ rfl; simp [go_sem]; ((repeat' (first|(refine ag_x ?_;simp [go_sem])|intro _|refine And.intro ?_ ?_|(apply hKK;clear hKK KK)));all_goals first|refine Hold.mk ?_|omega|with_reducible assumption|(simp only [InR] at *;omega)|skip))
  (refine awp_ret ?_; simp [go_sem])
theorem rOf_spec (n : Int) (h0 : -9223372036854775808 ≤ n) (h1 : n ≤ 9223372036854775807) : PCall Tryz.prog 34 [dI n] fun r => r = dS (Lib.itoa n) := by 
  refine pcall_of Tryz.func34 rfl rfl Tryz.ntmps34 (rs := [.tmp 2]) (tys := [9]) rfl rfl (by simp) ?_
  (refine awp_sr fun KK hKK => ?_; simp [go_sem]; ((repeat' (first|(refine ag_x ?_;simp [go_sem])|intro _|refine And.intro ?_ ?_|(apply hKK;clear hKK KK)));all_goals first|refine Hold.mk ?_|omega|with_reducible assumption|(simp only [InR] at *;omega)|skip))
  (refine awp_sr fun KK hKK => ?_; simp [go_sem]; ((repeat' (first|(refine ag_x ?_;simp [go_sem])|intro _|refine And.intro ?_ ?_|(apply hKK;clear hKK KK)));all_goals first|refine Hold.mk ?_|omega|with_reducible assumption|(simp only [InR] at *;omega)|skip))
  ((try refine CallT.toA ?_); refine callT_m (by first | exact .inl ⟨rfl, rfl⟩ | exact .inr rfl) (by simp [go_sem]) ?_; intro args ha; simp [go_sem] at ha; subst ha; refine ⟨_, (itoa_spec n h0 h1), ?_⟩; rintro _ rfl; simp [go_sem]; ((repeat' (first|(refine ag_x ?_;simp [go_sem])|intro _|refine And.intro ?_ ?_|(apply hKK;clear hKK KK)));all_goals first|refine Hold.mk ?_|omega|with_reducible assumption|(simp only [InR] at *;omega)|skip))
  (refine awp_ret ?_; simp [go_sem])
theorem resI_tup (a : List UInt8) : ∃ x e, resI a = .tup [dI x, dI e] := by
  unfold resI; split
  · split <;> exact ⟨_, _, rfl⟩
  · exact ⟨_, _, rfl⟩
theorem long1 (a : List UInt8) : PCall Tryz.prog 10 [.sl 1 [cS a]] fun r => r = dB (decide (3000 < a.length)) := by
  have := long_spec' [a] (by simp)
  simp only [List.any_cons, List.any_nil, Bool.or_false] at this
  exact this
open Go.RowKit in
/-- the package-level variables, the errors of Atoi too: ErrSyntax 0, ErrRange 1 -/
def glOkE (w : World) : Prop := glOk w ∧ (∃ ev, w.cell? ⟨0, 0, none⟩ = some ev ∧ (ev = .nilIface ∨ ∃ te pe, ev = .iface te pe)) ∧ ∃ ev, w.cell? ⟨1, 0, none⟩ = some ev ∧ (ev = .nilIface ∨ ∃ te pe, ev = .iface te pe)
open Go.RowKit in
theorem glOkE_stab (w w' : World) (h : ∀ b ∈ [0, 1, 2, 3], w'.heap[b]? = w.heap[b]?) (hk : glOkE w) : glOkE w' := by
  have e : ∀ b ∈ [0, 1, 2, 3], ∀ o, w'.cell? ⟨b, o, none⟩ = w.cell? ⟨b, o, none⟩ := fun b hb o => by unfold World.cell?; rw [h b hb]
  refine ⟨glOk_stab w w' (fun b hb => h b (by simp at hb ⊢; omega)) hk.1, ?_, ?_⟩
  · rw [e 0 (by simp)]; exact hk.2.1
  · rw [e 1 (by simp)]; exact hk.2.2
open Go.RowKit in
@[instance_reducible] def errGlob0 : HasGlob Tryz.prog := ⟨[0, 1, 2, 3], glOkE, glOkE_stab⟩
open Go.RowKit in
theorem liftE {f : FuncId} {args : List D} {R : D → Prop} (h : @PCall Tryz.prog trydGlob f args R) : @PCall Tryz.prog errGlob0 f args R := by
  unfold PCall at h ⊢
  exact ⟨h.1, fun C w us hc hg hr => h.2 C w us hc ⟨hg.1.1, fun b hb => hg.2 b (by
    have hb : b ∈ [2, 3] := hb
    show b ∈ [0, 1, 2, 3]
    simp at hb ⊢; omega)⟩ hr⟩
open Go.RowKit in
instance errGlob : HasGlob Tryz.prog := errGlob0
open Go.RowKit in
theorem atoi_rng (s : List UInt8) (hl : s.length ≤ 281474976710656) (h : Lib.atoiAll s = .range) : PCall Tryz.prog 76 [dS s] fun r => ∃ v N, r = .tup [dI v, .v (.iface 144 (.pointer (some ⟨N, 0, none⟩)))] := by
  refine pcall_below ⟨_, Tryz.func76, rfl, rfl⟩ fun C w us hc hg hr => ?_
  have hg : glOkE w := hg
  obtain rfl := repL_v (us := [.string ⟨s.toArray⟩]) hr
  obtain ⟨ev, q1, q2⟩ := hg.2.2
  refine (Tryz.strconv_Atoi_range ⟨s.toArray⟩ (by simp [ByteArray.size]; omega) (by simpa using h) ev w q1 q2).mono ?_
  rintro e w' ⟨N, rfl, h1, h2, h3⟩
  exact ⟨_, _, rfl, ⟨_, N, rfl⟩, rep_tup2 (.v _) (.v _), h3⟩
open Go.RowKit in
theorem Int_spec (a : List UInt8) (ha : a.length ≤ 1000000000) : PCall Tryz.prog 32 [dS a] fun r => r = resI a := by 
  refine pcall_of Tryz.func32 rfl rfl Tryz.ntmps32 (rs := [.tmp 2, .tmp 3]) (tys := [3, 31]) rfl rfl (by simp) ?_
  unfold resI
  have v := liftE (valid_spec a ha)
  have at0 := fun h => atoi_num (a := a) h
  generalize hok : numOk a = ok at *
  generalize numV a = x at *
  (refine awp_sr fun KK hKK => ?_; simp [go_sem]; ((repeat' (first|(refine ag_x ?_;simp [go_sem])|intro _|refine And.intro ?_ ?_|(apply hKK;clear hKK KK)));all_goals first|refine Hold.mk ?_|omega|with_reducible assumption|(simp only [InR] at *;omega)|skip))
  refine awp_seq_k fun K1 hK1 => ?_
  (refine awp_sr fun KK hKK => ?_; simp [go_sem]; ((repeat' (first|(refine ag_x ?_;simp [go_sem])|intro _|refine And.intro ?_ ?_|(apply hKK;clear hKK KK)));all_goals first|refine Hold.mk ?_|omega|with_reducible assumption|(simp only [InR] at *;omega)|skip))
  ((try refine CallT.toA ?_); refine callT_m (by first | exact .inl ⟨rfl, rfl⟩ | exact .inr rfl) (by simp [go_sem]) ?_; intro args ha; simp [go_sem] at ha; subst ha; refine ⟨_, v, ?_⟩; rintro _ rfl; simp [go_sem]; ((repeat' (first|(refine ag_x ?_;simp [go_sem])|intro _|refine And.intro ?_ ?_|(apply hKK;clear hKK KK)));all_goals first|refine Hold.mk ?_|omega|with_reducible assumption|(simp only [InR] at *;omega)|skip))
  cases ok with
  | false =>
    (refine awp_if fun T F hT hF => ?_; simp [go_sem]; refine hT ?_; clear hT hF T F)
    (refine awp_sr fun KK hKK => ?_; simp [go_sem]; ((repeat' (first|(refine ag_x ?_;simp [go_sem])|intro _|refine And.intro ?_ ?_|(apply hKK;clear hKK KK)));all_goals first|refine Hold.mk ?_|omega|with_reducible assumption|(simp only [InR] at *;omega)|skip))
    (refine awp_ret ?_; simp [go_sem])
  | true =>
    have at0 := at0 rfl
    (refine awp_if fun T F hT hF => ?_; simp [go_sem]; refine hF ?_; clear hT hF T F)
    refine awp_skip ?_
    refine hK1 _ ?_; clear hK1
    by_cases hx : -9223372036854775808 ≤ x ∧ x ≤ 9223372036854775807
    · rw [if_pos hx] at at0
      (refine awp_sr fun KK hKK => ?_; simp [go_sem]; ((repeat' (first|(refine ag_x ?_;simp [go_sem])|intro _|refine And.intro ?_ ?_|(apply hKK;clear hKK KK)));all_goals first|refine Hold.mk ?_|omega|with_reducible assumption|(simp only [InR] at *;omega)|skip))
      ((try refine CallT.toA ?_); refine callT_m (by first | exact .inl ⟨rfl, rfl⟩ | exact .inr rfl) (by simp [go_sem]) ?_; intro args ha; simp [go_sem] at ha; subst ha; refine ⟨_, (liftE (atoi_ok a (by omega) x at0)), ?_⟩; rintro _ rfl; simp [go_sem]; ((repeat' (first|(refine ag_x ?_;simp [go_sem])|intro _|refine And.intro ?_ ?_|(apply hKK;clear hKK KK)));all_goals first|refine Hold.mk ?_|omega|with_reducible assumption|(simp only [InR] at *;omega)|skip))
      refine awp_seq_k fun K3 hK3 => ?_
      (refine awp_sr fun KK hKK => ?_; simp [go_sem]; ((repeat' (first|(refine ag_x ?_;simp [go_sem])|intro _|refine And.intro ?_ ?_|(apply hKK;clear hKK KK)));all_goals first|refine Hold.mk ?_|omega|with_reducible assumption|(simp only [InR] at *;omega)|skip))
      (refine awp_if fun T F hT hF => ?_; simp [go_sem]; refine hF ?_; clear hT hF T F)
      refine awp_skip ?_
      refine hK3 _ ?_; clear hK3
      (refine awp_sr fun KK hKK => ?_; simp [go_sem]; ((repeat' (first|(refine ag_x ?_;simp [go_sem])|intro _|refine And.intro ?_ ?_|(apply hKK;clear hKK KK)));all_goals first|refine Hold.mk ?_|omega|with_reducible assumption|(simp only [InR] at *;omega)|skip))
      (refine awp_ret ?_; simp [go_sem, hx])
    · rw [if_neg hx] at at0
      (refine awp_sr fun KK hKK => ?_; simp [go_sem]; ((repeat' (first|(refine ag_x ?_;simp [go_sem])|intro _|refine And.intro ?_ ?_|(apply hKK;clear hKK KK)));all_goals first|refine Hold.mk ?_|omega|with_reducible assumption|(simp only [InR] at *;omega)|skip))
      ((try refine CallT.toA ?_); refine callT_m (by first | exact .inl ⟨rfl, rfl⟩ | exact .inr rfl) (by simp [go_sem]) ?_; intro args ha; simp [go_sem] at ha; subst ha; refine ⟨_, (atoi_rng a (by omega) at0), ?_⟩; rintro _ ⟨v, N, rfl⟩; simp [go_sem]; ((repeat' (first|(refine ag_x ?_;simp [go_sem])|intro _|refine And.intro ?_ ?_|(apply hKK;clear hKK KK)));all_goals first|refine Hold.mk ?_|omega|with_reducible assumption|(simp only [InR] at *;omega)|skip))
      refine awp_seq_k fun K3 hK3 => ?_
      (refine awp_sr fun KK hKK => ?_; simp [go_sem]; ((repeat' (first|(refine ag_x ?_;simp [go_sem])|intro _|refine And.intro ?_ ?_|(apply hKK;clear hKK KK)));all_goals first|refine Hold.mk ?_|omega|with_reducible assumption|(simp only [InR] at *;omega)|skip))
      (refine awp_if fun T F hT hF => ?_; simp [go_sem]; refine hT ?_; clear hT hF T F)
      (refine awp_sr fun KK hKK => ?_; simp [go_sem]; ((repeat' (first|(refine ag_x ?_;simp [go_sem])|intro _|refine And.intro ?_ ?_|(apply hKK;clear hKK KK)));all_goals first|refine Hold.mk ?_|omega|with_reducible assumption|(simp only [InR] at *;omega)|skip))
      (refine awp_ret ?_; simp [go_sem])
      intro q1
      omega
open Go.RowKit in
set_option maxHeartbeats 4000000 in
theorem law_ints (n : Int) (s : List UInt8) (h0 : -9223372036854775808 ≤ n) (h1 : n ≤ 9223372036854775807) : PCall Tryz.prog 9 [dI n, dS s] fun r => r = dB true := by 
  refine pcall_of Tryz.func9 rfl rfl Tryz.ntmps9 (rs := [.tmp 4]) (tys := [4]) rfl rfl (by simp) ?_
  have L := liftE (long1 s)
  have O1 := liftE (Of_spec n h0 h1)
  have O2 := liftE (rOf_spec n h0 h1)
  have hb : bd n 20 := by unfold bd; rw [pow20]; omega
  have hok := ok_itoa (bd_mono hb (by decide : 20 ≤ 400))
  have I0 := Int_spec (Lib.itoa n) (by have := itoa_len hb (by decide); omega)
  have e0 : resI (Lib.itoa n) = .tup [dI n, dI 0] := by
    unfold resI
    rw [if_pos hok, numV_itoa, if_pos ⟨h0, h1⟩]
  rw [e0] at I0
  obtain ⟨x, e, hi⟩ := resI_tup s
  generalize Lib.itoa n = t at *
  (refine awp_sr fun KK hKK => ?_; simp [go_sem]; ((repeat' (first|(refine ag_x ?_;simp [go_sem])|intro _|refine And.intro ?_ ?_|(apply hKK;clear hKK KK)));all_goals first|refine Hold.mk ?_|omega|with_reducible assumption|(simp only [InR] at *;omega)|skip))
  refine awp_seq_k fun K1 hK1 => ?_
  (refine awp_sr fun KK hKK => ?_; simp [go_sem]; ((repeat' (first|(refine ag_x ?_;simp [go_sem])|intro _|refine And.intro ?_ ?_|(apply hKK;clear hKK KK)));all_goals first|refine Hold.mk ?_|omega|with_reducible assumption|(simp only [InR] at *;omega)|skip))
  ((try refine CallT.toA ?_); refine callT_z (by first | exact .inl ⟨rfl, rfl⟩ | exact .inr rfl) rfl (by simp [go_sem]) (by simp [go_sem]) ?_; intro args ha; simp [go_sem] at ha; subst ha; refine ⟨_, L, ?_⟩; rintro _ rfl; simp [go_sem]; ((repeat' (first|(refine ag_x ?_;simp [go_sem])|intro _|refine And.intro ?_ ?_|(apply hKK;clear hKK KK)));all_goals first|refine Hold.mk ?_|omega|with_reducible assumption|(simp only [InR] at *;omega)|skip))
  (refine awp_if fun T F hT hF => ?_; simp [go_sem]; refine BR.intro (fun h2 => hT ?_) (fun h2 => hF ?_); all_goals clear hT hF T F; try simp at h2) 
  · (refine awp_sr fun KK hKK => ?_; simp [go_sem]; ((repeat' (first|(refine ag_x ?_;simp [go_sem])|intro _|refine And.intro ?_ ?_|(apply hKK;clear hKK KK)));all_goals first|refine Hold.mk ?_|omega|with_reducible assumption|(simp only [InR] at *;omega)|skip))
    ((try refine CallT.toA ?_); refine callT_m (by first | exact .inl ⟨rfl, rfl⟩ | exact .inr rfl) (by simp [go_sem]) ?_; intro args ha; simp [go_sem] at ha; subst ha; refine ⟨_, (liftE sane_ok), ?_⟩; rintro _ rfl; simp [go_sem]; ((repeat' (first|(refine ag_x ?_;simp [go_sem])|intro _|refine And.intro ?_ ?_|(apply hKK;clear hKK KK)));all_goals first|refine Hold.mk ?_|omega|with_reducible assumption|(simp only [InR] at *;omega)|skip))
    (refine awp_ret ?_; simp [go_sem])
  · have I1 := Int_spec s (by omega)
    have I2 := liftE (rInt_spec s (by omega))
    rw [hi] at I1 I2
    refine awp_skip ?_
    refine hK1 _ ?_; clear hK1
    (refine awp_sr fun KK hKK => ?_; simp [go_sem]; ((repeat' (first|(refine ag_x ?_;simp [go_sem])|intro _|refine And.intro ?_ ?_|(apply hKK;clear hKK KK)));all_goals first|refine Hold.mk ?_|omega|with_reducible assumption|(simp only [InR] at *;omega)|skip))
    ((try refine CallT.toA ?_); refine callT_m (by first | exact .inl ⟨rfl, rfl⟩ | exact .inr rfl) (by simp [go_sem]) ?_; intro args ha; simp [go_sem] at ha; subst ha; refine ⟨_, O1, ?_⟩; rintro _ rfl; simp [go_sem]; ((repeat' (first|(refine ag_x ?_;simp [go_sem])|intro _|refine And.intro ?_ ?_|(apply hKK;clear hKK KK)));all_goals first|refine Hold.mk ?_|omega|with_reducible assumption|(simp only [InR] at *;omega)|skip))
    (refine awp_sr fun KK hKK => ?_; simp [go_sem]; ((repeat' (first|(refine ag_x ?_;simp [go_sem])|intro _|refine And.intro ?_ ?_|(apply hKK;clear hKK KK)));all_goals first|refine Hold.mk ?_|omega|with_reducible assumption|(simp only [InR] at *;omega)|skip))
    ((try refine CallT.toA ?_); refine callT_m (by first | exact .inl ⟨rfl, rfl⟩ | exact .inr rfl) (by simp [go_sem]) ?_; intro args ha; simp [go_sem] at ha; subst ha; refine ⟨_, I0, ?_⟩; rintro _ rfl; simp [go_sem]; ((repeat' (first|(refine ag_x ?_;simp [go_sem])|intro _|refine And.intro ?_ ?_|(apply hKK;clear hKK KK)));all_goals first|refine Hold.mk ?_|omega|with_reducible assumption|(simp only [InR] at *;omega)|skip))
    (refine awp_sr fun KK hKK => ?_; simp [go_sem]; ((repeat' (first|(refine ag_x ?_;simp [go_sem])|intro _|refine And.intro ?_ ?_|(apply hKK;clear hKK KK)));all_goals first|refine Hold.mk ?_|omega|with_reducible assumption|(simp only [InR] at *;omega)|skip))
    ((try refine CallT.toA ?_); refine callT_m (by first | exact .inl ⟨rfl, rfl⟩ | exact .inr rfl) (by simp [go_sem]) ?_; intro args ha; simp [go_sem] at ha; subst ha; refine ⟨_, I1, ?_⟩; rintro _ rfl; simp [go_sem]; ((repeat' (first|(refine ag_x ?_;simp [go_sem])|intro _|refine And.intro ?_ ?_|(apply hKK;clear hKK KK)));all_goals first|refine Hold.mk ?_|omega|with_reducible assumption|(simp only [InR] at *;omega)|skip))
    (refine awp_sr fun KK hKK => ?_; simp [go_sem]; ((repeat' (first|(refine ag_x ?_;simp [go_sem])|intro _|refine And.intro ?_ ?_|(apply hKK;clear hKK KK)));all_goals first|refine Hold.mk ?_|omega|with_reducible assumption|(simp only [InR] at *;omega)|skip))
    ((try refine CallT.toA ?_); refine callT_m (by first | exact .inl ⟨rfl, rfl⟩ | exact .inr rfl) (by simp [go_sem]) ?_; intro args ha; simp [go_sem] at ha; subst ha; refine ⟨_, I2, ?_⟩; rintro _ rfl; simp [go_sem]; ((repeat' (first|(refine ag_x ?_;simp [go_sem])|intro _|refine And.intro ?_ ?_|(apply hKK;clear hKK KK)));all_goals first|refine Hold.mk ?_|omega|with_reducible assumption|(simp only [InR] at *;omega)|skip))
    (refine awp_sr fun KK hKK => ?_; simp [go_sem]; ((repeat' (first|(refine ag_x ?_;simp [go_sem])|intro _|refine And.intro ?_ ?_|(apply hKK;clear hKK KK)));all_goals first|refine Hold.mk ?_|omega|with_reducible assumption|(simp only [InR] at *;omega)|skip))
    ((try refine CallT.toA ?_); refine callT_m (by first | exact .inl ⟨rfl, rfl⟩ | exact .inr rfl) (by simp [go_sem]) ?_; intro args ha; simp [go_sem] at ha; subst ha; refine ⟨_, O2, ?_⟩; rintro _ rfl; simp [go_sem]; ((repeat' (first|(refine ag_x ?_;simp [go_sem])|intro _|refine And.intro ?_ ?_|(apply hKK;clear hKK KK)));all_goals first|refine Hold.mk ?_|omega|with_reducible assumption|(simp only [InR] at *;omega)|skip))
    (refine agc_f (dB true) (by first | exact .inl ⟨rfl, rfl⟩ | exact .inr rfl) ?_ rfl ?_; (intro hc args ha; simp [go_sem] at ha; subst ha; exact (liftE sane_ok)); simp [go_sem]; ((repeat' (first|(refine ag_x ?_;simp [go_sem])|intro _|refine And.intro ?_ ?_|(apply hKK;clear hKK KK)));all_goals first|refine Hold.mk ?_|omega|with_reducible assumption|(simp only [InR] at *;omega)|skip))
    (refine awp_ret ?_; simp [go_sem])
end Go.Proofs.YtglncfhcgkihbaaGreatDoor
