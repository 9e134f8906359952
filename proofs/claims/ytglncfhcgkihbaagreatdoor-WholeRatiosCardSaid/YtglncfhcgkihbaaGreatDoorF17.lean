/- Part of a proof: see the last text. -/
import Derived.Test.YtglncfhcgkihbaaGreatDoorF00
import Derived.Test.YtglncfhcgkihbaaGreatDoorF01
import Derived.Test.YtglncfhcgkihbaaGreatDoorF03
import Derived.Test.YtglncfhcgkihbaaGreatDoorF09
set_option linter.unusedVariables false
set_option linter.unusedSimpArgs false
namespace Go.Proofs.YtglncfhcgkihbaaGreatDoor
open Go.Eng Go.Wh
set_option maxRecDepth 20000
set_option linter.unusedSimpArgs false
set_option linter.unusedVariables false
attribute [local irreducible] AG CallA CallT AWp PCall ACall AgC
@[go_sem] abbrev dRatT (p q : Int) : D := .agg [dB (decide (p < 0)), dIs (dg 10 p.natAbs), dB (decide (q < 0)), dIs (dg 10 q.natAbs)]
theorem cut_mem {s : List UInt8} (h : (Lib.cut s [47]).2.2 = true) : (47 : UInt8) ∈ s := by
  unfold Lib.cut at h
  split at h
  · rename_i h0
    rcases Lib.index_spec s [47] with ⟨h1, _⟩ | ⟨i, h1, h2, h3, _⟩
    · omega
    · unfold Lib.occAt at h3
      cases hd : s.drop i with
      | nil => rw [hd] at h3; simp at h3
      | cons c t =>
        rw [hd] at h3
        simp at h3
        have : c ∈ s.drop i := by rw [hd]; simp
        rw [← h3] at this
        exact List.mem_of_mem_drop this
  · cases h
theorem cut_no {s : List UInt8} (h : (Lib.cut s [47]).2.2 = false) : Lib.cut s [47] = (s, [], false) := by
  unfold Lib.cut at h ⊢
  split at h
  · cases h
  · rename_i h0; rw [if_neg h0]
theorem numOk_no47 {s : List UInt8} (h : numOk s = true) : (47 : UInt8) ∉ s := fun hm => by
  obtain ⟨h1, h2, h3, h4⟩ := numOk_parts h
  obtain ⟨p, hp, hpc⟩ := body_split s
  rw [hp, List.mem_append] at hm
  rcases hm with hm | hm
  · rcases hpc with ⟨q, _⟩ | ⟨q, _⟩ <;> rw [q] at hm <;> simp at hm
  · exact absurd (h1 _ hm) (by decide)
theorem ratV_num {s : List UInt8} (h : numOk s = true) : ratV s = some (numV s, 1) := by
  have hc : (Lib.cut s [47]).2.2 = false := by
    cases hh : (Lib.cut s [47]).2.2 with
    | false => rfl
    | true => exact absurd (cut_mem hh) (numOk_no47 h)
  have := cut_no hc
  unfold ratV
  rw [this]
  simp [h]
/-- the two numbers of a rational without a common divisor -/
def redN (a b : Int) : Int := sg (decide (a < 0) != decide (b < 0)) ((a.natAbs / Nat.gcd a.natAbs b.natAbs : Nat) : Int)
def redD (a b : Int) : Int := ((b.natAbs / Nat.gcd a.natAbs b.natAbs : Nat) : Int)
theorem fq_exact {a : Int} {G : Nat} (hd : G ∣ a.natAbs) : fq a (G : Int) = sg (decide (a < 0)) ((a.natAbs / G : Nat) : Int) := by
  have hm : a.tmod (G : Int) = 0 := by
    have := tmod_abs a (G : Int)
    rw [Int.natAbs_natCast, Nat.mod_eq_zero_of_dvd hd] at this
    omega
  unfold fq
  rw [if_neg (fun h => h.1 hm), tdiv_sg, Int.natAbs_natCast, decide_eq_false (by omega : ¬ (G : Int) < 0)]
  simp
theorem sg_zero (b : Bool) : sg b 0 = 0 := by unfold sg; split <;> rfl
theorem red_top {a b : Int} (h : b ≠ 0) : fq (if b < 0 then -a else a) (Nat.gcd a.natAbs b.natAbs : Nat) = redN a b := by
  unfold redN
  have hab : (if b < 0 then -a else a).natAbs = a.natAbs := by split <;> omega
  rw [fq_exact (by rw [hab]; exact Nat.gcd_dvd_left _ _), hab]
  by_cases h0 : a = 0
  · subst h0; simp [sg_zero]
  · congr 1
    by_cases h1 : b < 0 <;> by_cases h2 : a < 0 <;> simp [h1, h2] <;> omega
theorem red_low {a b : Int} : fq (if b < 0 then -b else b) (Nat.gcd a.natAbs b.natAbs : Nat) = redD a b := by
  unfold redD
  have hab : (if b < 0 then -b else b).natAbs = b.natAbs := by split <;> omega
  rw [fq_exact (by rw [hab]; exact Nat.gcd_dvd_right _ _), hab]
  have hn : ¬ (if b < 0 then -b else b) < 0 := by split <;> omega
  rw [decide_eq_false hn]; rfl
theorem redN_abs (a b : Int) : (redN a b).natAbs ≤ a.natAbs := by
  unfold redN
  rw [sg_abs _ (Int.natCast_nonneg _), Int.toNat_natCast]
  exact Nat.div_le_self _ _
theorem redD_abs (a b : Int) : (redD a b).natAbs ≤ b.natAbs := by
  unfold redD
  rw [Int.natAbs_natCast]
  exact Nat.div_le_self _ _
theorem redD_nonneg (a b : Int) : ¬ redD a b < 0 := by unfold redD; exact Int.not_lt.2 (Int.natCast_nonneg _)
set_option maxHeartbeats 4000000 in
theorem reduce_spec (a b : Int) (hb : b ≠ 0) (ha1 : sz U a ≤ 900000) (hb1 : sz U b ≤ 900000) : PCall Tryz.prog 67 [dBig a, dBig b] fun r => r = dRat (redN a b) (redD a b) := by 
  refine pcall_of Tryz.func67 rfl rfl Tryz.ntmps67 (rs := [.cell 4 76]) (tys := [76]) rfl rfl (by simp) ?_
  have ht := red_top (a := a) hb
  have hl := red_low (a := a) (b := b)
  obtain ⟨A, hA⟩ : ∃ A, (if b < 0 then -a else a) = A := ⟨_, rfl⟩
  obtain ⟨B, hB⟩ : ∃ B, (if b < 0 then -b else b) = B := ⟨_, rfl⟩
  have hAa : A.natAbs = a.natAbs := by rw [← hA]; split <;> omega
  have hBa : B.natAbs = b.natAbs := by rw [← hB]; split <;> omega
  rw [hA] at ht
  rw [hB] at hl
  have sA : sz U A ≤ 900000 := by unfold sz; rw [hAa]; exact ha1
  have sB : sz U B ≤ 900000 := by unfold sz; rw [hBa]; exact hb1
  have G0 := gcd_spec A B sA sB
  rw [hAa, hBa] at G0
  have hG0 : Nat.gcd a.natAbs b.natAbs ≠ 0 := Nat.pos_iff_ne_zero.1 (Nat.gcd_pos_of_pos_right _ (by omega))
  have hGl : (dg U (Nat.gcd a.natAbs b.natAbs)).length ≤ 900000 := Nat.le_trans (dg_le (Nat.gcd_le_right _ (by omega))) hb1
  have n1 := neg_spec a
  have n2 := neg_spec b
  generalize Nat.gcd a.natAbs b.natAbs = G at *
  have D1 := div_spec A G (by omega) sA (by rw [szN]; exact hGl)
  have D2 := div_spec B G (by omega) sB (by rw [szN]; exact hGl)
  rw [ht, dBigN] at D1
  rw [hl, dBigN] at D2
  generalize redN a b = p at *
  generalize redD a b = q at *
  generalize fr A G = f1 at *
  generalize fr B G = f2 at *
  (refine awp_sr fun KK hKK => ?_; simp [go_sem]; ((repeat' (first|(refine ag_x ?_;simp [go_sem])|intro _|refine And.intro ?_ ?_|(apply hKK;clear hKK KK)));all_goals first|refine Hold.mk ?_|omega|with_reducible assumption|(simp only [InR] at *;omega)|skip))
  rename_i g2 g3 g4
  refine awp_seq_k fun K1 hK1 => ?_
  have tl1 : ∀ S', Cov S' ⟨[(2, .ptr 2 g2 0), (3, .ptr 3 g3 0), (4, .ptr 4 g4 0)], [(2, g2, .box [dB (decide (A < 0)), dIs (dg U A.natAbs)]), (3, g3, .box [dB (decide (B < 0)), dIs (dg U B.natAbs)]), (4, g4, .box [dB false, .v (.slice none 0 0), dB false, .v (.slice none 0 0)])]⟩ → K1 S' := fun S' hS => by
    refine hK1 _ ?_; clear hK1
    refine awp_cov hS ?_; clear hS
    (refine awp_sr fun KK hKK => ?_; simp [go_sem]; ((repeat' (first|(refine ag_x ?_;simp [go_sem])|intro _|refine And.intro ?_ ?_|(apply hKK;clear hKK KK)));all_goals first|refine Hold.mk ?_|omega|with_reducible assumption|(simp only [InR] at *;omega)|skip))
    ((try refine CallT.toA ?_); refine callT_m (by first | exact .inl ⟨rfl, rfl⟩ | exact .inr rfl) (by simp [go_sem]) ?_; intro args ha; simp [go_sem] at ha; subst ha; refine ⟨_, G0, ?_⟩; rintro _ rfl; simp [go_sem]; ((repeat' (first|(refine ag_x ?_;simp [go_sem])|intro _|refine And.intro ?_ ?_|(apply hKK;clear hKK KK)));all_goals first|refine Hold.mk ?_|omega|with_reducible assumption|(simp only [InR] at *;omega)|skip))
    (refine awp_sr fun KK hKK => ?_; simp [go_sem]; ((repeat' (first|(refine ag_x ?_;simp [go_sem])|intro _|refine And.intro ?_ ?_|(apply hKK;clear hKK KK)));all_goals first|refine Hold.mk ?_|omega|with_reducible assumption|(simp only [InR] at *;omega)|skip))
    ((try refine CallT.toA ?_); refine callT_m (by first | exact .inl ⟨rfl, rfl⟩ | exact .inr rfl) (by simp [go_sem]) ?_; intro args ha; simp [go_sem] at ha; subst ha; refine ⟨_, D1, ?_⟩; rintro _ rfl; simp [go_sem]; ((repeat' (first|(refine ag_x ?_;simp [go_sem])|intro _|refine And.intro ?_ ?_|(apply hKK;clear hKK KK)));all_goals first|refine Hold.mk ?_|omega|with_reducible assumption|(simp only [InR] at *;omega)|skip))
    (refine awp_sr fun KK hKK => ?_; simp [go_sem]; ((repeat' (first|(refine ag_x ?_;simp [go_sem])|intro _|refine And.intro ?_ ?_|(apply hKK;clear hKK KK)));all_goals first|refine Hold.mk ?_|omega|with_reducible assumption|(simp only [InR] at *;omega)|skip))
    ((try refine CallT.toA ?_); refine callT_m (by first | exact .inl ⟨rfl, rfl⟩ | exact .inr rfl) (by simp [go_sem]) ?_; intro args ha; simp [go_sem] at ha; subst ha; refine ⟨_, D2, ?_⟩; rintro _ rfl; simp [go_sem]; ((repeat' (first|(refine ag_x ?_;simp [go_sem])|intro _|refine And.intro ?_ ?_|(apply hKK;clear hKK KK)));all_goals first|refine Hold.mk ?_|omega|with_reducible assumption|(simp only [InR] at *;omega)|skip))
    (refine awp_sr fun KK hKK => ?_; simp [go_sem]; ((repeat' (first|(refine ag_x ?_;simp [go_sem])|intro _|refine And.intro ?_ ?_|(apply hKK;clear hKK KK)));all_goals first|refine Hold.mk ?_|omega|with_reducible assumption|(simp only [InR] at *;omega)|skip))
    (refine awp_ret ?_; simp [go_sem])
  clear hK1
  (refine awp_sr fun KK hKK => ?_; simp [go_sem]; ((repeat' (first|(refine ag_x ?_;simp [go_sem])|intro _|refine And.intro ?_ ?_|(apply hKK;clear hKK KK)));all_goals first|refine Hold.mk ?_|omega|with_reducible assumption|(simp only [InR] at *;omega)|skip))
  (refine awp_if fun T F hT hF => ?_; simp [go_sem]; refine BR.intro (fun h2 => hT ?_) (fun h2 => hF ?_); all_goals clear hT hF T F; try simp at h2) 
  · rw [if_pos h2] at hA hB
    ((refine awp_d (.qs [0, 2] (.kp 1 (.kp 3 (.one 4 (.one 5 (.nil)))))) (by kernel_rfl) ?_ ?_ ?_ ?_); (kernel_rfl); (exact (by decide +kernel)); (kernel_rfl); intro KK hKK; ((repeat' (first|(refine ag_x ?_;simp [go_sem])|refine adr_nil ?_|refine adr_two ?_ ?_|refine adr_kq ?_ ?_|refine adr_three ?_ ?_ ?_|refine adr_four ?_ ?_ ?_ ?_|refine adr_kp2 ?_ ?_|refine adr_kp3 ?_ ?_ ?_|((first|refine adr_qs fun KK hKK=>?_|refine adr_y fun KK hKK=>?_);simp [go_sem])|intro _|refine And.intro ?_ ?_|(apply hKK;clear hKK KK)));all_goals first|refine Hold.mk ?_|omega|with_reducible assumption|(simp only [InR] at *;omega)|skip))
    ((try refine CallT.toA ?_); refine callT_m (by first | exact .inl ⟨rfl, rfl⟩ | exact .inr rfl) (by simp [go_sem]) ?_; intro args ha; simp [go_sem] at ha; subst ha; refine ⟨_, n1, ?_⟩; rintro _ rfl; simp [go_sem]; ((repeat' (first|(refine ag_x ?_;simp [go_sem])|refine adr_nil ?_|refine adr_two ?_ ?_|refine adr_kq ?_ ?_|refine adr_three ?_ ?_ ?_|refine adr_four ?_ ?_ ?_ ?_|refine adr_kp2 ?_ ?_|refine adr_kp3 ?_ ?_ ?_|((first|refine adr_qs fun KK hKK=>?_|refine adr_y fun KK hKK=>?_);simp [go_sem])|intro _|refine And.intro ?_ ?_|(apply hKK;clear hKK KK)));all_goals first|refine Hold.mk ?_|omega|with_reducible assumption|(simp only [InR] at *;omega)|skip))
    ((try refine CallT.toA ?_); refine callT_m (by first | exact .inl ⟨rfl, rfl⟩ | exact .inr rfl) (by simp [go_sem]) ?_; intro args ha; simp [go_sem] at ha; subst ha; refine ⟨_, n2, ?_⟩; rintro _ rfl; simp [go_sem]; ((repeat' (first|(refine ag_x ?_;simp [go_sem])|refine adr_nil ?_|refine adr_two ?_ ?_|refine adr_kq ?_ ?_|refine adr_three ?_ ?_ ?_|refine adr_four ?_ ?_ ?_ ?_|refine adr_kp2 ?_ ?_|refine adr_kp3 ?_ ?_ ?_|((first|refine adr_qs fun KK hKK=>?_|refine adr_y fun KK hKK=>?_);simp [go_sem])|intro _|refine And.intro ?_ ?_|(apply hKK;clear hKK KK)));all_goals first|refine Hold.mk ?_|omega|with_reducible assumption|(simp only [InR] at *;omega)|skip))
    refine tl1 _ ?_
    rw [← hA, ← hB]
    (refine cov_of ?_ ?_ <;> simp [go_sem])
  · rw [if_neg (by omega)] at hA hB
    refine awp_skip ?_
    refine tl1 _ ?_
    rw [← hA, ← hB]
    (refine cov_of ?_ ?_ <;> simp [go_sem])
set_option maxHeartbeats 4000000 in
theorem readRatio2_spec (s : List UInt8) (hl : s.length ≤ 1000000000) : PCall Tryz.prog 78 [dS s] fun r => ∃ p q : Int, r = .tup [dRat p q, dB (ratV s).isSome] ∧ ∀ v, ratV s = some v → p = v.1 ∧ q = v.2 := by 
  refine pcall_of Tryz.func78 rfl rfl Tryz.ntmps78 (rs := [.cell 2 76, .tmp 3]) (tys := [76, 4]) rfl rfl (by simp) ?_
  obtain ⟨hc1, hc2⟩ := cut_len s [47]
  have hcut := cut_spec s [47] (by omega)
  unfold ratV
  generalize (Lib.cut s [47]).1 = num at *
  generalize (Lib.cut s [47]).2.1 = den at *
  generalize (Lib.cut s [47]).2.2 = isR at *
  have v1 := valid_spec num (by omega)
  have v2 := valid_spec den (by omega)
  (refine awp_sr fun KK hKK => ?_; simp [go_sem]; ((repeat' (first|(refine ag_x ?_;simp [go_sem])|intro _|refine And.intro ?_ ?_|(apply hKK;clear hKK KK)));all_goals first|refine Hold.mk ?_|omega|with_reducible assumption|(simp only [InR] at *;omega)|skip))
  rename_i g2
  (refine awp_sr fun KK hKK => ?_; simp [go_sem]; ((repeat' (first|(refine ag_x ?_;simp [go_sem])|intro _|refine And.intro ?_ ?_|(apply hKK;clear hKK KK)));all_goals first|refine Hold.mk ?_|omega|with_reducible assumption|(simp only [InR] at *;omega)|skip))
  ((try refine CallT.toA ?_); refine callT_m (by first | exact .inl ⟨rfl, rfl⟩ | exact .inr rfl) (by simp [go_sem]) ?_; intro args ha; simp [go_sem] at ha; subst ha; refine ⟨_, hcut, ?_⟩; rintro _ rfl; simp [go_sem]; ((repeat' (first|(refine ag_x ?_;simp [go_sem])|intro _|refine And.intro ?_ ?_|(apply hKK;clear hKK KK)));all_goals first|refine Hold.mk ?_|omega|with_reducible assumption|(simp only [InR] at *;omega)|skip))
  refine awp_seq_k fun K1 hK1 => ?_
  (refine awp_sr fun KK hKK => ?_; simp [go_sem]; ((repeat' (first|(refine ag_x ?_;simp [go_sem])|intro _|refine And.intro ?_ ?_|(apply hKK;clear hKK KK)));all_goals first|refine Hold.mk ?_|omega|with_reducible assumption|(simp only [InR] at *;omega)|skip))
  ((try refine CallT.toA ?_); refine callT_m (by first | exact .inl ⟨rfl, rfl⟩ | exact .inr rfl) (by simp [go_sem]) ?_; intro args ha; simp [go_sem] at ha; subst ha; refine ⟨_, v1, ?_⟩; rintro _ rfl; simp [go_sem]; ((repeat' (first|(refine ag_x ?_;simp [go_sem])|intro _|refine And.intro ?_ ?_|(apply hKK;clear hKK KK)));all_goals first|refine Hold.mk ?_|omega|with_reducible assumption|(simp only [InR] at *;omega)|skip))
  cases hn : numOk num with
  | false =>
    rw [hn] at v1
    (refine awp_if fun T F hT hF => ?_; simp [go_sem]; refine hT ?_; clear hT hF T F)
    (refine awp_sr fun KK hKK => ?_; simp [go_sem]; ((repeat' (first|(refine ag_x ?_;simp [go_sem])|intro _|refine And.intro ?_ ?_|(apply hKK;clear hKK KK)));all_goals first|refine Hold.mk ?_|omega|with_reducible assumption|(simp only [InR] at *;omega)|skip))
    (refine awp_ret ?_; simp [go_sem])
    exact ⟨0, by decide, by simp [dg_zero], 0, by decide, by simp [dg_zero]⟩
  | true =>
    (refine awp_if fun T F hT hF => ?_; simp [go_sem]; refine hF ?_; clear hT hF T F)
    refine awp_skip ?_
    refine hK1 _ ?_; clear hK1
    have r1 := readOk_spec hn
    refine awp_seq_k fun K3 hK3 => ?_
    (refine awp_sr fun KK hKK => ?_; simp [go_sem]; ((repeat' (first|(refine ag_x ?_;simp [go_sem])|intro _|refine And.intro ?_ ?_|(apply hKK;clear hKK KK)));all_goals first|refine Hold.mk ?_|omega|with_reducible assumption|(simp only [InR] at *;omega)|skip))
    cases isR with
    | false =>
      (refine awp_if fun T F hT hF => ?_; simp [go_sem]; refine hT ?_; clear hT hF T F)
      (refine awp_sr fun KK hKK => ?_; simp [go_sem]; ((repeat' (first|(refine ag_x ?_;simp [go_sem])|intro _|refine And.intro ?_ ?_|(apply hKK;clear hKK KK)));all_goals first|refine Hold.mk ?_|omega|with_reducible assumption|(simp only [InR] at *;omega)|skip))
      ((try refine CallT.toA ?_); refine callT_m (by first | exact .inl ⟨rfl, rfl⟩ | exact .inr rfl) (by simp [go_sem]) ?_; intro args ha; simp [go_sem] at ha; subst ha; refine ⟨_, r1, ?_⟩; rintro _ rfl; simp [go_sem]; ((repeat' (first|(refine ag_x ?_;simp [go_sem])|intro _|refine And.intro ?_ ?_|(apply hKK;clear hKK KK)));all_goals first|refine Hold.mk ?_|omega|with_reducible assumption|(simp only [InR] at *;omega)|skip))
      ((try refine CallT.toA ?_); refine callT_m (by first | exact .inl ⟨rfl, rfl⟩ | exact .inr rfl) (by simp [go_sem]) ?_; intro args ha; simp [go_sem] at ha; subst ha; refine ⟨_, (of_spec 1 (by omega) (by omega)), ?_⟩; rintro _ rfl; simp [go_sem]; ((repeat' (first|(refine ag_x ?_;simp [go_sem])|intro _|refine And.intro ?_ ?_|(apply hKK;clear hKK KK)));all_goals first|refine Hold.mk ?_|omega|with_reducible assumption|(simp only [InR] at *;omega)|skip))
      (refine awp_ret ?_; simp [go_sem])
      exact ⟨numV num, 1, ⟨⟨Iff.rfl, rfl, by decide, rfl⟩, hn⟩, fun _ => ⟨rfl, rfl⟩⟩
    | true =>
      (refine awp_if fun T F hT hF => ?_; simp [go_sem]; refine hF ?_; clear hT hF T F)
      refine awp_skip ?_
      refine hK3 _ ?_; clear hK3
      refine awp_seq_k fun K5 hK5 => ?_
      cases hd : numOk den with
      | false =>
        rw [hd] at v2
        refine awp_sr fun KK hKK => ?_
        simp [go_sem]
        ((try refine CallT.toA ?_); refine callT_m (by first | exact .inl ⟨rfl, rfl⟩ | exact .inr rfl) (by simp [go_sem]) ?_; intro args ha; simp [go_sem] at ha; subst ha; refine ⟨_, v2, ?_⟩; rintro _ rfl; simp [go_sem]; ((repeat' (first|(refine ag_false (by simp [go_sem, undef]) (by simp [go_sem]) ?_;simp [go_sem])|intro _|refine And.intro ?_ ?_|(apply hKK;clear hKK KK)));all_goals first|refine Hold.mk ?_|omega|with_reducible assumption|(simp only [InR] at *;omega)|skip))
        (refine awp_if fun T F hT hF => ?_; simp [go_sem]; refine hT ?_; clear hT hF T F)
        (refine awp_sr fun KK hKK => ?_; simp [go_sem]; ((repeat' (first|(refine ag_x ?_;simp [go_sem])|intro _|refine And.intro ?_ ?_|(apply hKK;clear hKK KK)));all_goals first|refine Hold.mk ?_|omega|with_reducible assumption|(simp only [InR] at *;omega)|skip))
        (refine awp_ret ?_; simp [go_sem])
        exact ⟨0, by decide, by simp [dg_zero], 0, by decide, by simp [dg_zero]⟩
      | true =>
        rw [hd] at v2
        have r2 := readOk_spec hd
        have hgs := gcd_spec (numV num) (numV den) (by have := sz_numOk hn; omega) (by have := sz_numOk hd; omega)
        obtain ⟨G, hG⟩ : ∃ G, Nat.gcd (numV num).natAbs (numV den).natAbs = G := ⟨_, rfl⟩
        have hGl : (dg U G).length ≤ 1000000 := by
          have h1 := sz_numOk hd
          have h2 := sz_numOk hn
          by_cases h0 : (numV den).natAbs = 0
          · rw [h0, Nat.gcd_zero_right] at hG; rw [← hG]; exact Nat.le_trans h2 (by omega)
          · exact Nat.le_trans (dg_le (by rw [← hG]; exact Nat.gcd_le_right _ (Nat.pos_of_ne_zero h0))) (Nat.le_trans h1 (by omega))
        have tx := text_spec (G : Int) (by unfold sz; rw [Int.natAbs_natCast]; exact hGl)
        have hi1 := itoa_one G
        rw [dBigN] at tx
        rw [hG] at hgs ⊢
        obtain ⟨c, d', hden⟩ : ∃ c d', den = c :: d' := by
          cases den with
          | nil => cases hd
          | cons c d' => exact ⟨c, d', rfl⟩
        subst hden
        have hc45 : decide ((c.toNat : Int) = 45) = decide (c = 45) := decide_eq_decide.2 ⟨fun h => UInt8.toNat_inj.1 (by simpa using (by exact_mod_cast h : c.toNat = 45)), fun h => by rw [h]; rfl⟩
        generalize numV num = m at *
        generalize numV (c :: d') = n at *
        generalize Lib.itoa (G : Int) = tg at *
        (refine awp_sr fun KK hKK => ?_; simp [go_sem]; ((repeat' (first|(refine ag_x ?_;simp [go_sem])|intro _|refine And.intro ?_ ?_|(apply hKK;clear hKK KK)));all_goals first|refine Hold.mk ?_|omega|with_reducible assumption|(simp only [InR] at *;omega)|skip))
        ((try refine CallT.toA ?_); refine callT_m (by first | exact .inl ⟨rfl, rfl⟩ | exact .inr rfl) (by simp [go_sem]) ?_; intro args ha; simp [go_sem] at ha; subst ha; refine ⟨_, v2, ?_⟩; rintro _ rfl; simp [go_sem, hc45]; ((repeat' (first|(refine ag_x ?_;simp [go_sem, hc45])|intro _|refine And.intro ?_ ?_|(apply hKK;clear hKK KK)));all_goals first|refine Hold.mk ?_|omega|with_reducible assumption|(simp only [InR] at *;omega)|skip))
        · exact absurd ‹c = 45› ‹¬c = 45›
        · by_cases h : c = 48
          · exact .inr (‹c = 48 → ¬d' = []› h)
          · exact .inl h
        (refine awp_if fun T F hT hF => ?_; simp [go_sem]; refine BR.intro (fun h6 => hT ?_) (fun h6 => hF ?_); all_goals clear hT hF T F; try simp at h6) 
        · (refine awp_sr fun KK hKK => ?_; simp [go_sem]; ((repeat' (first|(refine ag_x ?_;simp [go_sem])|intro _|refine And.intro ?_ ?_|(apply hKK;clear hKK KK)));all_goals first|refine Hold.mk ?_|omega|with_reducible assumption|(simp only [InR] at *;omega)|skip))
          (refine awp_ret ?_; simp [go_sem])
          have hf : ¬ c = 45 → (¬c = 48 ∨ ¬d' = []) → (¬c = 49 ∨ ¬d' = []) → False := by
            rcases h6 with (h | ⟨h, h'⟩) | ⟨h, h'⟩ <;> simp [h] <;> simp_all
          exact ⟨0, 0, ⟨⟨by decide, by simp [dg_zero], by decide, by simp [dg_zero]⟩, fun _ q1 q2 q3 => (hf q1 q2 q3).elim⟩, fun _ _ _ q1 q2 q3 => (hf q1 q2 q3).elim⟩
        · refine awp_skip ?_
          refine hK5 _ ?_; clear hK5
          (refine awp_sr fun KK hKK => ?_; simp [go_sem]; ((repeat' (first|(refine ag_x ?_;simp [go_sem])|intro _|refine And.intro ?_ ?_|(apply hKK;clear hKK KK)));all_goals first|refine Hold.mk ?_|omega|with_reducible assumption|(simp only [InR] at *;omega)|skip))
          ((try refine CallT.toA ?_); refine callT_m (by first | exact .inl ⟨rfl, rfl⟩ | exact .inr rfl) (by simp [go_sem]) ?_; intro args ha; simp [go_sem] at ha; subst ha; refine ⟨_, r1, ?_⟩; rintro _ rfl; simp [go_sem]; ((repeat' (first|(refine ag_x ?_;simp [go_sem])|intro _|refine And.intro ?_ ?_|(apply hKK;clear hKK KK)));all_goals first|refine Hold.mk ?_|omega|with_reducible assumption|(simp only [InR] at *;omega)|skip))
          ((try refine CallT.toA ?_); refine callT_m (by first | exact .inl ⟨rfl, rfl⟩ | exact .inr rfl) (by simp [go_sem]) ?_; intro args ha; simp [go_sem] at ha; subst ha; refine ⟨_, r2, ?_⟩; rintro _ rfl; simp [go_sem]; ((repeat' (first|(refine ag_x ?_;simp [go_sem])|intro _|refine And.intro ?_ ?_|(apply hKK;clear hKK KK)));all_goals first|refine Hold.mk ?_|omega|with_reducible assumption|(simp only [InR] at *;omega)|skip))
          ((refine awp_dr (.qs [1, 3, 0, 2, 4] (.kp 5 (.kp 6 (.qs [7] (.one 8 (.qs [9] (.nil))))))) (by kernel_rfl) ?_ ?_ ?_ ?_); (kernel_rfl); (exact (by decide +kernel)); (kernel_rfl); intro KK hKK; ((repeat' (first|(refine ag_x ?_;simp [go_sem])|refine adr_nil ?_|refine adr_two ?_ ?_|refine adr_kq ?_ ?_|refine adr_three ?_ ?_ ?_|refine adr_four ?_ ?_ ?_ ?_|refine adr_kp2 ?_ ?_|refine adr_kp3 ?_ ?_ ?_|((first|refine adr_qs fun KK hKK=>?_|refine adr_y fun KK hKK=>?_);simp [go_sem])|intro _|refine And.intro ?_ ?_|(apply hKK;clear hKK KK)));all_goals first|refine Hold.mk ?_|omega|with_reducible assumption|(simp only [InR] at *;omega)|skip))
          ((try refine CallT.toA ?_); refine callT_m (by first | exact .inl ⟨rfl, rfl⟩ | exact .inr rfl) (by simp [go_sem]) ?_; intro args ha; simp [go_sem] at ha; subst ha; refine ⟨_, hgs, ?_⟩; rintro _ rfl; simp [go_sem]; ((repeat' (first|(refine ag_x ?_;simp [go_sem])|refine adr_nil ?_|refine adr_two ?_ ?_|refine adr_kq ?_ ?_|refine adr_three ?_ ?_ ?_|refine adr_four ?_ ?_ ?_ ?_|refine adr_kp2 ?_ ?_|refine adr_kp3 ?_ ?_ ?_|((first|refine adr_qs fun KK hKK=>?_|refine adr_y fun KK hKK=>?_);simp [go_sem])|intro _|refine And.intro ?_ ?_|(apply hKK;clear hKK KK)));all_goals first|refine Hold.mk ?_|omega|with_reducible assumption|(simp only [InR] at *;omega)|skip))
          ((try refine CallT.toA ?_); refine callT_m (by first | exact .inl ⟨rfl, rfl⟩ | exact .inr rfl) (by simp [go_sem]) ?_; intro args ha; simp [go_sem] at ha; subst ha; refine ⟨_, tx, ?_⟩; rintro _ rfl; simp [go_sem]; ((repeat' (first|(refine ag_x ?_;simp [go_sem])|refine adr_nil ?_|refine adr_two ?_ ?_|refine adr_kq ?_ ?_|refine adr_three ?_ ?_ ?_|refine adr_four ?_ ?_ ?_ ?_|refine adr_kp2 ?_ ?_|refine adr_kp3 ?_ ?_ ?_|((first|refine adr_qs fun KK hKK=>?_|refine adr_y fun KK hKK=>?_);simp [go_sem])|intro _|refine And.intro ?_ ?_|(apply hKK;clear hKK KK)));all_goals first|refine Hold.mk ?_|omega|with_reducible assumption|(simp only [InR] at *;omega)|skip))
          (refine awp_ret ?_; simp [go_sem])
          have q2 : ¬c = 48 ∨ ¬d' = [] := by
            by_cases h : c = 48
            · exact .inr (h6.1.2 h)
            · exact .inl h
          have q3 : ¬c = 49 ∨ ¬d' = [] := by
            by_cases h : c = 49
            · exact .inr (h6.2 h)
            · exact .inl h
          refine ⟨m, n, ⟨⟨Iff.rfl, rfl, Iff.rfl, rfl⟩, ?_⟩, ?_⟩
          · rw [if_pos hn]
            by_cases hG1 : m.natAbs.gcd n.natAbs = 1
            · rw [if_pos ⟨⟨hd, ⟨h6.1.1, q2⟩, q3⟩, hG1⟩, hi1.2 (by omega)]; rfl
            · rw [if_neg (fun h => hG1 h.2)]
              have : ¬ tg = [49] := fun h => hG1 (by have := hi1.1 h; omega)
              simpa using this
          · rintro a b - - - - - - rfl rfl
            exact ⟨rfl, rfl⟩
/-- a rational as a result -/
def textR (p q : Int) : D := if 400 < dlen p ∨ 400 < dlen q then .tup [dS [], dI 2] else if q = 1 then .tup [dS (Lib.itoa p), dI 0] else .tup [dS (Lib.itoa p ++ 47 :: Lib.itoa q), dI 0]
theorem itoa_one' (n : Int) (h : ¬ n < 0) : Lib.itoa n = [49] ↔ n = 1 := by
  obtain ⟨k, rfl⟩ : ∃ k : Nat, n = k := ⟨n.toNat, by omega⟩
  rw [itoa_one]; omega
theorem rtext_spec (p q : Int) (hq : ¬ q < 0) (hp1 : sz U p ≤ 1000000) (hq1 : sz U q ≤ 1000000) : PCall Tryz.prog 68 [dRat p q] fun r => r = textR p q := by 
  refine pcall_of Tryz.func68 rfl rfl Tryz.ntmps68 (rs := [.tmp 2, .tmp 3]) (tys := [9, 31]) rfl rfl (by simp) ?_
  unfold textR
  have L1 := long_spec p hp1
  have L2 := long_spec q hq1
  have T1 := text_spec p hp1
  have T2 := text_spec q hq1
  have h1 := itoa_one' q hq
  have hpl := sz_dlen p
  have hql := sz_dlen q
  have hl1 : (Lib.itoa p).length ≤ 9 * sz U p + 2 := by
    rw [itoa_abs, List.length_append]
    unfold dlen at hpl
    split <;> simp <;> omega
  have hl2 : (Lib.itoa q).length ≤ 9 * sz U q + 2 := by
    rw [itoa_abs, List.length_append]
    unfold dlen at hql
    split <;> simp <;> omega
  generalize Lib.itoa p = tp at *
  generalize Lib.itoa q = tq at *
  (refine awp_sr fun KK hKK => ?_; simp [go_sem]; ((repeat' (first|(refine ag_x ?_;simp [go_sem])|intro _|refine And.intro ?_ ?_|(apply hKK;clear hKK KK)));all_goals first|refine Hold.mk ?_|omega|with_reducible assumption|(simp only [InR] at *;omega)|skip))
  refine awp_seq_k fun K1 hK1 => ?_
  (refine awp_sr fun KK hKK => ?_; simp [go_sem]; ((repeat' (first|(refine ag_x ?_;simp [go_sem])|intro _|refine And.intro ?_ ?_|(apply hKK;clear hKK KK)));all_goals first|refine Hold.mk ?_|omega|with_reducible assumption|(simp only [InR] at *;omega)|skip))
  ((try refine CallT.toA ?_); refine callT_m (by first | exact .inl ⟨rfl, rfl⟩ | exact .inr rfl) (by simp [go_sem]) ?_; intro args ha; simp [go_sem] at ha; subst ha; refine ⟨_, L1, ?_⟩; rintro _ rfl; simp [go_sem]; ((repeat' (first|(refine ag_x ?_;simp [go_sem])|intro _|refine And.intro ?_ ?_|(apply hKK;clear hKK KK)));all_goals first|refine Hold.mk ?_|omega|with_reducible assumption|(simp only [InR] at *;omega)|skip))
  (refine agc_f (dB (decide (400 < dlen q))) (by first | exact .inl ⟨rfl, rfl⟩ | exact .inr rfl) ?_ rfl ?_; (intro hc args ha; simp [go_sem] at ha; subst ha; exact L2); simp [go_sem]; ((repeat' (first|(refine ag_x ?_;simp [go_sem])|intro _|refine And.intro ?_ ?_|(apply hKK;clear hKK KK)));all_goals first|refine Hold.mk ?_|omega|with_reducible assumption|(simp only [InR] at *;omega)|skip))
  (refine awp_if fun T F hT hF => ?_; simp [go_sem]; refine BR.intro (fun h2 => hT ?_) (fun h2 => hF ?_); all_goals clear hT hF T F; try simp at h2) 
  · (refine awp_sr fun KK hKK => ?_; simp [go_sem]; ((repeat' (first|(refine ag_x ?_;simp [go_sem])|intro _|refine And.intro ?_ ?_|(apply hKK;clear hKK KK)));all_goals first|refine Hold.mk ?_|omega|with_reducible assumption|(simp only [InR] at *;omega)|skip))
    (refine awp_ret ?_; simp [go_sem, h2])
  · refine awp_skip ?_
    refine hK1 _ ?_; clear hK1
    have h2' : ¬ (400 < dlen p ∨ 400 < dlen q) := by omega
    rw [if_neg h2']
    refine awp_seq_k fun K3 hK3 => ?_
    (refine awp_sr fun KK hKK => ?_; simp [go_sem]; ((repeat' (first|(refine ag_x ?_;simp [go_sem])|intro _|refine And.intro ?_ ?_|(apply hKK;clear hKK KK)));all_goals first|refine Hold.mk ?_|omega|with_reducible assumption|(simp only [InR] at *;omega)|skip))
    ((try refine CallT.toA ?_); refine callT_m (by first | exact .inl ⟨rfl, rfl⟩ | exact .inr rfl) (by simp [go_sem]) ?_; intro args ha; simp [go_sem] at ha; subst ha; refine ⟨_, T2, ?_⟩; rintro _ rfl; simp [go_sem]; ((repeat' (first|(refine ag_x ?_;simp [go_sem])|intro _|refine And.intro ?_ ?_|(apply hKK;clear hKK KK)));all_goals first|refine Hold.mk ?_|omega|with_reducible assumption|(simp only [InR] at *;omega)|skip))
    (refine awp_if fun T F hT hF => ?_; simp [go_sem]; refine BR.intro (fun h4 => hT ?_) (fun h4 => hF ?_); all_goals clear hT hF T F; try simp at h4) 
    · have hq1 : q = 1 := h1.1 h4
      rw [if_pos hq1]
      (refine awp_sr fun KK hKK => ?_; simp [go_sem]; ((repeat' (first|(refine ag_x ?_;simp [go_sem])|intro _|refine And.intro ?_ ?_|(apply hKK;clear hKK KK)));all_goals first|refine Hold.mk ?_|omega|with_reducible assumption|(simp only [InR] at *;omega)|skip))
      ((try refine CallT.toA ?_); refine callT_m (by first | exact .inl ⟨rfl, rfl⟩ | exact .inr rfl) (by simp [go_sem]) ?_; intro args ha; simp [go_sem] at ha; subst ha; refine ⟨_, T1, ?_⟩; rintro _ rfl; simp [go_sem]; ((repeat' (first|(refine ag_x ?_;simp [go_sem])|intro _|refine And.intro ?_ ?_|(apply hKK;clear hKK KK)));all_goals first|refine Hold.mk ?_|omega|with_reducible assumption|(simp only [InR] at *;omega)|skip))
      (refine awp_ret ?_; simp [go_sem])
    · have hq1 : ¬ q = 1 := fun h => h4 (h1.2 h)
      refine awp_skip ?_
      refine hK3 _ ?_; clear hK3
      rw [if_neg hq1]
      ((refine awp_dr (.qs [0, 4, 1, 5] (.kp 2 (.qs [3] (.kp 6 (.qs [7, 8, 9] (.nil)))))) (by kernel_rfl) ?_ ?_ ?_ ?_); (kernel_rfl); (exact (by decide +kernel)); (kernel_rfl); intro KK hKK; ((repeat' (first|(refine ag_x ?_;simp [go_sem])|refine adr_nil ?_|refine adr_two ?_ ?_|refine adr_kq ?_ ?_|refine adr_three ?_ ?_ ?_|refine adr_four ?_ ?_ ?_ ?_|refine adr_kp2 ?_ ?_|refine adr_kp3 ?_ ?_ ?_|((first|refine adr_qs fun KK hKK=>?_|refine adr_y fun KK hKK=>?_);simp [go_sem])|intro _|refine And.intro ?_ ?_|(apply hKK;clear hKK KK)));all_goals first|refine Hold.mk ?_|omega|with_reducible assumption|(simp only [InR] at *;omega)|skip))
      ((try refine CallT.toA ?_); refine callT_m (by first | exact .inl ⟨rfl, rfl⟩ | exact .inr rfl) (by simp [go_sem]) ?_; intro args ha; simp [go_sem] at ha; subst ha; refine ⟨_, T1, ?_⟩; rintro _ rfl; simp [go_sem]; ((repeat' (first|(refine ag_x ?_;simp [go_sem])|refine adr_nil ?_|refine adr_two ?_ ?_|refine adr_kq ?_ ?_|refine adr_three ?_ ?_ ?_|refine adr_four ?_ ?_ ?_ ?_|refine adr_kp2 ?_ ?_|refine adr_kp3 ?_ ?_ ?_|((first|refine adr_qs fun KK hKK=>?_|refine adr_y fun KK hKK=>?_);simp [go_sem])|intro _|refine And.intro ?_ ?_|(apply hKK;clear hKK KK)));all_goals first|refine Hold.mk ?_|omega|with_reducible assumption|(simp only [InR] at *;omega)|skip))
      ((try refine CallT.toA ?_); refine callT_m (by first | exact .inl ⟨rfl, rfl⟩ | exact .inr rfl) (by simp [go_sem]) ?_; intro args ha; simp [go_sem] at ha; subst ha; refine ⟨_, T2, ?_⟩; rintro _ rfl; simp [go_sem]; ((repeat' (first|(refine ag_x ?_;simp [go_sem])|refine adr_nil ?_|refine adr_two ?_ ?_|refine adr_kq ?_ ?_|refine adr_three ?_ ?_ ?_|refine adr_four ?_ ?_ ?_ ?_|refine adr_kp2 ?_ ?_|refine adr_kp3 ?_ ?_ ?_|((first|refine adr_qs fun KK hKK=>?_|refine adr_y fun KK hKK=>?_);simp [go_sem])|intro _|refine And.intro ?_ ?_|(apply hKK;clear hKK KK)));all_goals first|refine Hold.mk ?_|omega|with_reducible assumption|(simp only [InR] at *;omega)|skip))
      (refine awp_ret ?_; simp [go_sem])
      rw [show (⟨#[47]⟩ : ByteArray) = ⟨[47].toArray⟩ from rfl, app_mk, app_mk]
      simp
def resQ (a b : List UInt8) : D :=
  if (numOk a && numOk b) = true then (if numV b = 0 then .tup [dS [], dI 11] else textR (redN (numV a) (numV b)) (redD (numV a) (numV b))) else .tup [dS [], dI 1]
theorem textR_tup (p q : Int) : ∃ x e, textR p q = .tup [dS x, dI e] := by
  unfold textR
  split
  · exact ⟨_, _, rfl⟩
  · split <;> exact ⟨_, _, rfl⟩
theorem redD_ne {a b : Int} (h : b ≠ 0) : redD a b ≠ 0 := by
  unfold redD
  have hg := Nat.gcd_pos_of_pos_right a.natAbs (show 0 < b.natAbs by omega)
  have : 0 < b.natAbs / Nat.gcd a.natAbs b.natAbs := Nat.div_pos (Nat.gcd_le_right _ (by omega)) hg
  exact Int.ne_of_gt (by exact_mod_cast this)
theorem Ratio_spec (a b : List UInt8) (ha : a.length ≤ 1000000000) (hb : b.length ≤ 1000000000) : PCall Tryz.prog 25 [dS a, dS b] fun r => r = resQ a b := by 
  refine pcall_of Tryz.func25 rfl rfl Tryz.ntmps25 (rs := [.tmp 4, .tmp 5]) (tys := [9, 31]) rfl rfl (by simp) ?_
  unfold resQ
  have hv : PCall Tryz.prog 48 [.sl 1 [cS a, cS b]] fun r => r = dB (numOk a && numOk b) := by
    have := valids_spec [a, b] (by intro x hx; simp at hx; rcases hx with rfl | rfl <;> assumption) (by simp)
    simp only [List.all_cons, List.all_nil, Bool.and_true] at this
    exact this
  generalize hok : (numOk a && numOk b) = ok at *
  (refine awp_sr fun KK hKK => ?_; simp [go_sem]; ((repeat' (first|(refine ag_x ?_;simp [go_sem])|intro _|refine And.intro ?_ ?_|(apply hKK;clear hKK KK)));all_goals first|refine Hold.mk ?_|omega|with_reducible assumption|(simp only [InR] at *;omega)|skip))
  refine awp_seq_k fun K1 hK1 => ?_
  refine awp_block ?_
  (refine awp_sr fun KK hKK => ?_; simp [go_sem]; ((repeat' (first|(refine ag_x ?_;simp [go_sem])|intro _|refine And.intro ?_ ?_|(apply hKK;clear hKK KK)));all_goals first|refine Hold.mk ?_|omega|with_reducible assumption|(simp only [InR] at *;omega)|skip))
  ((try refine CallT.toA ?_); refine callT_z (by first | exact .inl ⟨rfl, rfl⟩ | exact .inr rfl) rfl (by simp [go_sem]) (by simp [go_sem]) ?_; intro args ha; simp [go_sem] at ha; subst ha; refine ⟨_, hv, ?_⟩; rintro _ rfl; simp [go_sem]; ((repeat' (first|(refine ag_x ?_;simp [go_sem])|intro _|refine And.intro ?_ ?_|(apply hKK;clear hKK KK)));all_goals first|refine Hold.mk ?_|omega|with_reducible assumption|(simp only [InR] at *;omega)|skip))
  cases ok with
  | false =>
    (refine awp_if fun T F hT hF => ?_; simp [go_sem]; refine hT ?_; clear hT hF T F)
    (refine awp_sr fun KK hKK => ?_; simp [go_sem]; ((repeat' (first|(refine ag_x ?_;simp [go_sem])|intro _|refine And.intro ?_ ?_|(apply hKK;clear hKK KK)));all_goals first|refine Hold.mk ?_|omega|with_reducible assumption|(simp only [InR] at *;omega)|skip))
    (refine awp_ret ?_; simp [go_sem])
  | true =>
    (refine awp_if fun T F hT hF => ?_; simp [go_sem]; refine hF ?_; clear hT hF T F)
    simp only [Bool.and_eq_true] at hok
    have r1 := readOk_spec hok.1
    have r2 := readOk_spec hok.2
    have hz := num0 hok.2
    have hsm := sz_numOk hok.1
    have hsn := sz_numOk hok.2
    generalize numV a = m at *
    generalize numV b = n at *
    (refine awp_sr fun KK hKK => ?_; simp [go_sem]; ((repeat' (first|(refine ag_x ?_;simp [go_sem])|intro _|refine And.intro ?_ ?_|(apply hKK;clear hKK KK)));all_goals first|refine Hold.mk ?_|omega|with_reducible assumption|(simp only [InR] at *;omega)|skip))
    (refine awp_if fun T F hT hF => ?_; simp [go_sem]; refine BR.intro (fun h3 => hT ?_) (fun h3 => hF ?_); all_goals clear hT hF T F; try simp at h3) 
    · (refine awp_sr fun KK hKK => ?_; simp [go_sem]; ((repeat' (first|(refine ag_x ?_;simp [go_sem])|intro _|refine And.intro ?_ ?_|(apply hKK;clear hKK KK)));all_goals first|refine Hold.mk ?_|omega|with_reducible assumption|(simp only [InR] at *;omega)|skip))
      (refine awp_ret ?_; simp [go_sem])
      exact fun h => absurd (hz.1 h3) h
    · refine awp_skip ?_
      refine hK1 _ ?_; clear hK1
      have hn0 : n ≠ 0 := fun h => h3 (hz.2 h)
      have R := reduce_spec m n hn0 (by omega) (by omega)
      have q1 := sz_abs_le (redN_abs m n)
      have q2 := sz_abs_le (redD_abs m n)
      have T := rtext_spec (redN m n) (redD m n) (redD_nonneg m n) (by omega) (by omega)
      rw [if_pos rfl, if_neg hn0]
      generalize redN m n = p at *
      generalize redD m n = q at *
      obtain ⟨x, e, ht⟩ := textR_tup p q
      rw [ht] at T ⊢
      (refine awp_sr fun KK hKK => ?_; simp [go_sem]; ((repeat' (first|(refine ag_x ?_;simp [go_sem])|intro _|refine And.intro ?_ ?_|(apply hKK;clear hKK KK)));all_goals first|refine Hold.mk ?_|omega|with_reducible assumption|(simp only [InR] at *;omega)|skip))
      ((try refine CallT.toA ?_); refine callT_m (by first | exact .inl ⟨rfl, rfl⟩ | exact .inr rfl) (by simp [go_sem]) ?_; intro args ha; simp [go_sem] at ha; subst ha; refine ⟨_, r1, ?_⟩; rintro _ rfl; simp [go_sem]; ((repeat' (first|(refine ag_x ?_;simp [go_sem])|intro _|refine And.intro ?_ ?_|(apply hKK;clear hKK KK)));all_goals first|refine Hold.mk ?_|omega|with_reducible assumption|(simp only [InR] at *;omega)|skip))
      ((try refine CallT.toA ?_); refine callT_m (by first | exact .inl ⟨rfl, rfl⟩ | exact .inr rfl) (by simp [go_sem]) ?_; intro args ha; simp [go_sem] at ha; subst ha; refine ⟨_, r2, ?_⟩; rintro _ rfl; simp [go_sem]; ((repeat' (first|(refine ag_x ?_;simp [go_sem])|intro _|refine And.intro ?_ ?_|(apply hKK;clear hKK KK)));all_goals first|refine Hold.mk ?_|omega|with_reducible assumption|(simp only [InR] at *;omega)|skip))
      ((try refine CallT.toA ?_); refine callT_m (by first | exact .inl ⟨rfl, rfl⟩ | exact .inr rfl) (by simp [go_sem]) ?_; intro args ha; simp [go_sem] at ha; subst ha; refine ⟨_, R, ?_⟩; rintro _ rfl; simp [go_sem]; ((repeat' (first|(refine ag_x ?_;simp [go_sem])|intro _|refine And.intro ?_ ?_|(apply hKK;clear hKK KK)));all_goals first|refine Hold.mk ?_|omega|with_reducible assumption|(simp only [InR] at *;omega)|skip))
      ((try refine CallT.toA ?_); refine callT_m (by first | exact .inl ⟨rfl, rfl⟩ | exact .inr rfl) (by simp [go_sem]) ?_; intro args ha; simp [go_sem] at ha; subst ha; refine ⟨_, T, ?_⟩; rintro _ rfl; simp [go_sem]; ((repeat' (first|(refine ag_x ?_;simp [go_sem])|intro _|refine And.intro ?_ ?_|(apply hKK;clear hKK KK)));all_goals first|refine Hold.mk ?_|omega|with_reducible assumption|(simp only [InR] at *;omega)|skip))
      (refine awp_ret ?_; simp [go_sem])
/-- what is read is of at most 400 digits, the second number above 0 -/
theorem ratV_ok {s : List UInt8} {p q : Int} (h : ratV s = some (p, q)) : dlen p ≤ 400 ∧ dlen q ≤ 400 ∧ 0 < q := by
  unfold ratV at h
  split at h
  · rename_i h1
    split at h
    · split at h
      · rename_i h3
        simp only [Bool.and_eq_true, Bool.not_eq_true', Bool.or_eq_false_iff, decide_eq_false_iff_not] at h3
        injection h with h
        injection h with h4 h5
        subst h4 h5
        refine ⟨num_dlen h1, num_dlen h3.1.1, ?_⟩
        have hn := numV_neg h3.1.1
        have h6 : ¬ numV (Lib.cut s [47]).2.1 < 0 := fun h7 => by
          have := hn.symm.trans (decide_eq_true h7)
          simp at this; exact h3.1.2.1.1 (by simpa using this)
        have h8 : numV (Lib.cut s [47]).2.1 ≠ 0 := fun h9 => h3.1.2.1.2 ((num0 h3.1.1).2 h9)
        omega
      · cases h
    · injection h with h
      injection h with h4 h5
      subst h4 h5
      exact ⟨num_dlen h1, dlen_one, by decide⟩
  · cases h
theorem both_spec (a b : List UInt8) (ha : a.length ≤ 1000000000) (hb : b.length ≤ 1000000000) : PCall Tryz.prog 75 [dS a, dS b] fun r => ∃ p1 q1 p2 q2 : Int, r = .tup [dRat p1 q1, dRat p2 q2, dB ((ratV a).isSome && (ratV b).isSome)] ∧ ∀ v w, ratV a = some v → ratV b = some w → p1 = v.1 ∧ q1 = v.2 ∧ p2 = w.1 ∧ q2 = w.2 := by 
  refine pcall_of Tryz.func75 rfl rfl Tryz.ntmps75 (rs := [.cell 4 76, .cell 5 76, .tmp 6]) (tys := [76, 76, 4]) rfl rfl (by simp) ?_
  have R1 := readRatio2_spec a ha
  have R2 := readRatio2_spec b hb
  generalize ratV a = x at *
  generalize ratV b = y at *
  (refine awp_sr fun KK hKK => ?_; simp [go_sem]; ((repeat' (first|(refine ag_x ?_;simp [go_sem])|intro _|refine And.intro ?_ ?_|(apply hKK;clear hKK KK)));all_goals first|refine Hold.mk ?_|omega|with_reducible assumption|(simp only [InR] at *;omega)|skip))
  (refine awp_sr fun KK hKK => ?_; simp [go_sem]; ((repeat' (first|(refine ag_x ?_;simp [go_sem])|intro _|refine And.intro ?_ ?_|(apply hKK;clear hKK KK)));all_goals first|refine Hold.mk ?_|omega|with_reducible assumption|(simp only [InR] at *;omega)|skip))
  ((try refine CallT.toA ?_); refine callT_m (by first | exact .inl ⟨rfl, rfl⟩ | exact .inr rfl) (by simp [go_sem]) ?_; intro args ha; simp [go_sem] at ha; subst ha; refine ⟨_, R1, ?_⟩; rintro _ ⟨p1, q1, rfl, h1⟩; simp [go_sem]; ((repeat' (first|(refine ag_x ?_;simp [go_sem])|intro _|refine And.intro ?_ ?_|(apply hKK;clear hKK KK)));all_goals first|refine Hold.mk ?_|omega|with_reducible assumption|(simp only [InR] at *;omega)|skip))
  (refine awp_sr fun KK hKK => ?_; simp [go_sem]; ((repeat' (first|(refine ag_x ?_;simp [go_sem])|intro _|refine And.intro ?_ ?_|(apply hKK;clear hKK KK)));all_goals first|refine Hold.mk ?_|omega|with_reducible assumption|(simp only [InR] at *;omega)|skip))
  ((try refine CallT.toA ?_); refine callT_m (by first | exact .inl ⟨rfl, rfl⟩ | exact .inr rfl) (by simp [go_sem]) ?_; intro args ha; simp [go_sem] at ha; subst ha; refine ⟨_, R2, ?_⟩; rintro _ ⟨p2, q2, rfl, h2⟩; simp [go_sem]; ((repeat' (first|(refine ag_x ?_;simp [go_sem])|intro _|refine And.intro ?_ ?_|(apply hKK;clear hKK KK)));all_goals first|refine Hold.mk ?_|omega|with_reducible assumption|(simp only [InR] at *;omega)|skip))
  ((refine awp_dr (.qs [2, 3, 4, 5, 0] (.kq 1 (.one 6 (.one 7 (.qs [8] (.nil)))) 6 (.qs [1] (.one 7 (.qs [8] (.nil)))))) (by kernel_rfl) ?_ ?_ ?_ ?_); (kernel_rfl); (exact (by decide +kernel)); (kernel_rfl); intro KK hKK; ((repeat' (first|(refine ag_x ?_;simp [go_sem])|refine adr_nil ?_|refine adr_two ?_ ?_|refine adr_kq ?_ ?_|refine adr_three ?_ ?_ ?_|refine adr_four ?_ ?_ ?_ ?_|refine adr_kp2 ?_ ?_|refine adr_kp3 ?_ ?_ ?_|((first|refine adr_qs fun KK hKK=>?_|refine adr_y fun KK hKK=>?_);simp [go_sem])|intro _|refine And.intro ?_ ?_|(apply hKK;clear hKK KK)));all_goals first|refine Hold.mk ?_|omega|with_reducible assumption|(simp only [InR] at *;omega)|skip))
  all_goals (refine awp_ret ?_; simp [go_sem])
  all_goals exact ⟨p1, q1, p2, q2, ⟨⟨Iff.rfl, rfl, Iff.rfl, rfl⟩, Iff.rfl, rfl, Iff.rfl, rfl⟩, fun a b c d h3 h4 => ⟨(h1 _ h3).1, (h1 _ h3).2, (h2 _ h4).1, (h2 _ h4).2⟩⟩
def resRA (f g : Int → Int → Int → Int → Int) (a b : List UInt8) : D :=
  match ratV a, ratV b with
  | some v, some w => textR (redN (f v.1 v.2 w.1 w.2) (g v.1 v.2 w.1 w.2)) (redD (f v.1 v.2 w.1 w.2) (g v.1 v.2 w.1 w.2))
  | _, _ => .tup [dS [], dI 1]
def resRC (a b : List UInt8) : D :=
  match ratV a, ratV b with
  | some v, some w => .tup [dI (cmpV (v.1 * w.2) (w.1 * v.2)), dI 0]
  | _, _ => .tup [dI 0, dI 1]
set_option maxHeartbeats 4000000 in
theorem RatioAdd_spec (a b : List UInt8) (ha : a.length ≤ 1000000000) (hb : b.length ≤ 1000000000) : PCall Tryz.prog 30 [dS a, dS b] fun r => r = resRA (fun p q r s => p * s + r * q) (fun p q r s => q * s) a b := by 
  refine pcall_of Tryz.func30 rfl rfl Tryz.ntmps30 (rs := [.tmp 4, .tmp 5]) (tys := [9, 31]) rfl rfl (by simp) ?_
  have BO := both_spec a b ha hb
  cases hx : ratV a with
  | none =>
    rw [hx] at BO
    unfold resRA
    simp only [hx]
    (refine awp_sr fun KK hKK => ?_; simp [go_sem]; ((repeat' (first|(refine ag_x ?_;simp [go_sem])|intro _|refine And.intro ?_ ?_|(apply hKK;clear hKK KK)));all_goals first|refine Hold.mk ?_|omega|with_reducible assumption|(simp only [InR] at *;omega)|skip))
    (refine awp_sr fun KK hKK => ?_; simp [go_sem]; ((repeat' (first|(refine ag_x ?_;simp [go_sem])|intro _|refine And.intro ?_ ?_|(apply hKK;clear hKK KK)));all_goals first|refine Hold.mk ?_|omega|with_reducible assumption|(simp only [InR] at *;omega)|skip))
    ((try refine CallT.toA ?_); refine callT_m (by first | exact .inl ⟨rfl, rfl⟩ | exact .inr rfl) (by simp [go_sem]) ?_; intro args ha; simp [go_sem] at ha; subst ha; refine ⟨_, BO, ?_⟩; rintro _ ⟨p1, q1, p2, q2, rfl, hh⟩; simp [go_sem]; ((repeat' (first|(refine ag_x ?_;simp [go_sem])|intro _|refine And.intro ?_ ?_|(apply hKK;clear hKK KK)));all_goals first|refine Hold.mk ?_|omega|with_reducible assumption|(simp only [InR] at *;omega)|skip))
    refine awp_seq_k fun K1 hK1 => ?_
    (refine awp_sr fun KK hKK => ?_; simp [go_sem]; ((repeat' (first|(refine ag_x ?_;simp [go_sem])|intro _|refine And.intro ?_ ?_|(apply hKK;clear hKK KK)));all_goals first|refine Hold.mk ?_|omega|with_reducible assumption|(simp only [InR] at *;omega)|skip))
    (refine awp_if fun T F hT hF => ?_; simp [go_sem]; refine hT ?_; clear hT hF T F)
    (refine awp_sr fun KK hKK => ?_; simp [go_sem]; ((repeat' (first|(refine ag_x ?_;simp [go_sem])|intro _|refine And.intro ?_ ?_|(apply hKK;clear hKK KK)));all_goals first|refine Hold.mk ?_|omega|with_reducible assumption|(simp only [InR] at *;omega)|skip))
    (refine awp_ret ?_; simp [go_sem])
  | some v =>
    cases hy : ratV b with
    | none =>
      rw [hx, hy] at BO
      unfold resRA
      simp only [hx, hy]
      (refine awp_sr fun KK hKK => ?_; simp [go_sem]; ((repeat' (first|(refine ag_x ?_;simp [go_sem])|intro _|refine And.intro ?_ ?_|(apply hKK;clear hKK KK)));all_goals first|refine Hold.mk ?_|omega|with_reducible assumption|(simp only [InR] at *;omega)|skip))
      (refine awp_sr fun KK hKK => ?_; simp [go_sem]; ((repeat' (first|(refine ag_x ?_;simp [go_sem])|intro _|refine And.intro ?_ ?_|(apply hKK;clear hKK KK)));all_goals first|refine Hold.mk ?_|omega|with_reducible assumption|(simp only [InR] at *;omega)|skip))
      ((try refine CallT.toA ?_); refine callT_m (by first | exact .inl ⟨rfl, rfl⟩ | exact .inr rfl) (by simp [go_sem]) ?_; intro args ha; simp [go_sem] at ha; subst ha; refine ⟨_, BO, ?_⟩; rintro _ ⟨p1, q1, p2, q2, rfl, hh⟩; simp [go_sem]; ((repeat' (first|(refine ag_x ?_;simp [go_sem])|intro _|refine And.intro ?_ ?_|(apply hKK;clear hKK KK)));all_goals first|refine Hold.mk ?_|omega|with_reducible assumption|(simp only [InR] at *;omega)|skip))
      refine awp_seq_k fun K1 hK1 => ?_
      (refine awp_sr fun KK hKK => ?_; simp [go_sem]; ((repeat' (first|(refine ag_x ?_;simp [go_sem])|intro _|refine And.intro ?_ ?_|(apply hKK;clear hKK KK)));all_goals first|refine Hold.mk ?_|omega|with_reducible assumption|(simp only [InR] at *;omega)|skip))
      (refine awp_if fun T F hT hF => ?_; simp [go_sem]; refine hT ?_; clear hT hF T F)
      (refine awp_sr fun KK hKK => ?_; simp [go_sem]; ((repeat' (first|(refine ag_x ?_;simp [go_sem])|intro _|refine And.intro ?_ ?_|(apply hKK;clear hKK KK)));all_goals first|refine Hold.mk ?_|omega|with_reducible assumption|(simp only [InR] at *;omega)|skip))
      (refine awp_ret ?_; simp [go_sem])
    | some w =>
      rw [hx, hy] at BO
      obtain ⟨P1, Q1⟩ := v
      obtain ⟨P2, Q2⟩ := w
      obtain ⟨l1, l2, l3⟩ := ratV_ok hx
      obtain ⟨l4, l5, l6⟩ := ratV_ok hy
      unfold resRA
      simp only [hx, hy]
      have s1 := sz_of_dlen (k := 45) (show dlen P1 ≤ 9 * 45 by omega)
      have s2 := sz_of_dlen (k := 45) (show dlen Q1 ≤ 9 * 45 by omega)
      have s3 := sz_of_dlen (k := 45) (show dlen P2 ≤ 9 * 45 by omega)
      have s4 := sz_of_dlen (k := 45) (show dlen Q2 ≤ 9 * 45 by omega)
      have BO : PCall Tryz.prog 75 [dS a, dS b] fun r => r = .tup [dRat P1 Q1, dRat P2 Q2, dB true] := by
        refine BO.mono ?_
        rintro r ⟨p1, q1, p2, q2, rfl, hh⟩
        obtain ⟨rfl, rfl, rfl, rfl⟩ := hh _ _ rfl rfl
        rfl
      have hQ0 : Q1 * Q2 ≠ 0 := Int.ne_of_gt (Int.mul_pos l3 l6)
      have m1 := sz_mul (B := U) (by decide) P1 Q2
      have m2 := sz_mul (B := U) (by decide) P2 Q1
      have m3 := sz_mul (B := U) (by decide) Q1 Q2
      have m4 := sz_add (B := U) (by decide) (P1 * Q2) (P2 * Q1)
      have m1 : sz U (P1 * Q2) ≤ _ := m1
      have m2 : sz U (P2 * Q1) ≤ _ := m2
      have m3 : sz U (Q1 * Q2) ≤ _ := m3
      have m4 : sz U (P1 * Q2 + P2 * Q1) ≤ max (sz U (P1 * Q2)) (sz U (P2 * Q1)) + 1 := m4
      have M1 := mul_spec P1 Q2 (by omega) (by omega)
      have M2 := mul_spec P2 Q1 (by omega) (by omega)
      have M3 := mul_spec Q1 Q2 (by omega) (by omega)
      have M4 := add_spec (P1 * Q2) (P2 * Q1) (by omega) (by omega)
      have R := reduce_spec (P1 * Q2 + P2 * Q1) (Q1 * Q2) hQ0 (by omega) (by omega)
      have q1 := sz_abs_le (redN_abs (P1 * Q2 + P2 * Q1) (Q1 * Q2))
      have q2 := sz_abs_le (redD_abs (P1 * Q2 + P2 * Q1) (Q1 * Q2))
      have T := rtext_spec (redN (P1 * Q2 + P2 * Q1) (Q1 * Q2)) (redD (P1 * Q2 + P2 * Q1) (Q1 * Q2)) (redD_nonneg _ _) (by omega) (by omega)
      generalize redN (P1 * Q2 + P2 * Q1) (Q1 * Q2) = N at *
      generalize redD (P1 * Q2 + P2 * Q1) (Q1 * Q2) = E at *
      generalize P1 * Q2 + P2 * Q1 = x4 at *
      generalize P1 * Q2 = x1 at *
      generalize P2 * Q1 = x2 at *
      generalize Q1 * Q2 = x3 at *
      obtain ⟨x, e, ht⟩ := textR_tup N E
      rw [ht] at T ⊢
      (refine awp_sr fun KK hKK => ?_; simp [go_sem]; ((repeat' (first|(refine ag_x ?_;simp [go_sem])|intro _|refine And.intro ?_ ?_|(apply hKK;clear hKK KK)));all_goals first|refine Hold.mk ?_|omega|with_reducible assumption|(simp only [InR] at *;omega)|skip))
      (refine awp_sr fun KK hKK => ?_; simp [go_sem]; ((repeat' (first|(refine ag_x ?_;simp [go_sem])|intro _|refine And.intro ?_ ?_|(apply hKK;clear hKK KK)));all_goals first|refine Hold.mk ?_|omega|with_reducible assumption|(simp only [InR] at *;omega)|skip))
      ((try refine CallT.toA ?_); refine callT_m (by first | exact .inl ⟨rfl, rfl⟩ | exact .inr rfl) (by simp [go_sem]) ?_; intro args ha; simp [go_sem] at ha; subst ha; refine ⟨_, BO, ?_⟩; rintro _ rfl; simp [go_sem]; ((repeat' (first|(refine ag_x ?_;simp [go_sem])|intro _|refine And.intro ?_ ?_|(apply hKK;clear hKK KK)));all_goals first|refine Hold.mk ?_|omega|with_reducible assumption|(simp only [InR] at *;omega)|skip))
      refine awp_seq_k fun K1 hK1 => ?_
      (refine awp_sr fun KK hKK => ?_; simp [go_sem]; ((repeat' (first|(refine ag_x ?_;simp [go_sem])|intro _|refine And.intro ?_ ?_|(apply hKK;clear hKK KK)));all_goals first|refine Hold.mk ?_|omega|with_reducible assumption|(simp only [InR] at *;omega)|skip))
      (refine awp_if fun T F hT hF => ?_; simp [go_sem]; refine hF ?_; clear hT hF T F)
      refine awp_skip ?_
      refine hK1 _ ?_; clear hK1
      ((refine awp_dr (.qs [0, 2, 5, 7, 11, 13, 1, 3, 6, 8, 12, 14] (.kp 4 (.kp 9 (.kp 10 (.kp 15 (.kp 16 (.kp 17 (.qs [18, 19, 20, 21] (.nil))))))))) (by kernel_rfl) ?_ ?_ ?_ ?_); (kernel_rfl); (exact (by decide +kernel)); (kernel_rfl); intro KK hKK; ((repeat' (first|(refine ag_x ?_;simp [go_sem])|refine adr_nil ?_|refine adr_two ?_ ?_|refine adr_kq ?_ ?_|refine adr_three ?_ ?_ ?_|refine adr_four ?_ ?_ ?_ ?_|refine adr_kp2 ?_ ?_|refine adr_kp3 ?_ ?_ ?_|((first|refine adr_qs fun KK hKK=>?_|refine adr_y fun KK hKK=>?_);simp [go_sem])|intro _|refine And.intro ?_ ?_|(apply hKK;clear hKK KK)));all_goals first|refine Hold.mk ?_|omega|with_reducible assumption|(simp only [InR] at *;omega)|skip))
      ((try refine CallT.toA ?_); refine callT_m (by first | exact .inl ⟨rfl, rfl⟩ | exact .inr rfl) (by simp [go_sem]) ?_; intro args ha; simp [go_sem] at ha; subst ha; refine ⟨_, M1, ?_⟩; rintro _ rfl; simp [go_sem]; ((repeat' (first|(refine ag_x ?_;simp [go_sem])|refine adr_nil ?_|refine adr_two ?_ ?_|refine adr_kq ?_ ?_|refine adr_three ?_ ?_ ?_|refine adr_four ?_ ?_ ?_ ?_|refine adr_kp2 ?_ ?_|refine adr_kp3 ?_ ?_ ?_|((first|refine adr_qs fun KK hKK=>?_|refine adr_y fun KK hKK=>?_);simp [go_sem])|intro _|refine And.intro ?_ ?_|(apply hKK;clear hKK KK)));all_goals first|refine Hold.mk ?_|omega|with_reducible assumption|(simp only [InR] at *;omega)|skip))
      ((try refine CallT.toA ?_); refine callT_m (by first | exact .inl ⟨rfl, rfl⟩ | exact .inr rfl) (by simp [go_sem]) ?_; intro args ha; simp [go_sem] at ha; subst ha; refine ⟨_, M2, ?_⟩; rintro _ rfl; simp [go_sem]; ((repeat' (first|(refine ag_x ?_;simp [go_sem])|refine adr_nil ?_|refine adr_two ?_ ?_|refine adr_kq ?_ ?_|refine adr_three ?_ ?_ ?_|refine adr_four ?_ ?_ ?_ ?_|refine adr_kp2 ?_ ?_|refine adr_kp3 ?_ ?_ ?_|((first|refine adr_qs fun KK hKK=>?_|refine adr_y fun KK hKK=>?_);simp [go_sem])|intro _|refine And.intro ?_ ?_|(apply hKK;clear hKK KK)));all_goals first|refine Hold.mk ?_|omega|with_reducible assumption|(simp only [InR] at *;omega)|skip))
      ((try refine CallT.toA ?_); refine callT_m (by first | exact .inl ⟨rfl, rfl⟩ | exact .inr rfl) (by simp [go_sem]) ?_; intro args ha; simp [go_sem] at ha; subst ha; refine ⟨_, M4, ?_⟩; rintro _ rfl; simp [go_sem]; ((repeat' (first|(refine ag_x ?_;simp [go_sem])|refine adr_nil ?_|refine adr_two ?_ ?_|refine adr_kq ?_ ?_|refine adr_three ?_ ?_ ?_|refine adr_four ?_ ?_ ?_ ?_|refine adr_kp2 ?_ ?_|refine adr_kp3 ?_ ?_ ?_|((first|refine adr_qs fun KK hKK=>?_|refine adr_y fun KK hKK=>?_);simp [go_sem])|intro _|refine And.intro ?_ ?_|(apply hKK;clear hKK KK)));all_goals first|refine Hold.mk ?_|omega|with_reducible assumption|(simp only [InR] at *;omega)|skip))
      ((try refine CallT.toA ?_); refine callT_m (by first | exact .inl ⟨rfl, rfl⟩ | exact .inr rfl) (by simp [go_sem]) ?_; intro args ha; simp [go_sem] at ha; subst ha; refine ⟨_, M3, ?_⟩; rintro _ rfl; simp [go_sem]; ((repeat' (first|(refine ag_x ?_;simp [go_sem])|refine adr_nil ?_|refine adr_two ?_ ?_|refine adr_kq ?_ ?_|refine adr_three ?_ ?_ ?_|refine adr_four ?_ ?_ ?_ ?_|refine adr_kp2 ?_ ?_|refine adr_kp3 ?_ ?_ ?_|((first|refine adr_qs fun KK hKK=>?_|refine adr_y fun KK hKK=>?_);simp [go_sem])|intro _|refine And.intro ?_ ?_|(apply hKK;clear hKK KK)));all_goals first|refine Hold.mk ?_|omega|with_reducible assumption|(simp only [InR] at *;omega)|skip))
      ((try refine CallT.toA ?_); refine callT_m (by first | exact .inl ⟨rfl, rfl⟩ | exact .inr rfl) (by simp [go_sem]) ?_; intro args ha; simp [go_sem] at ha; subst ha; refine ⟨_, R, ?_⟩; rintro _ rfl; simp [go_sem]; ((repeat' (first|(refine ag_x ?_;simp [go_sem])|refine adr_nil ?_|refine adr_two ?_ ?_|refine adr_kq ?_ ?_|refine adr_three ?_ ?_ ?_|refine adr_four ?_ ?_ ?_ ?_|refine adr_kp2 ?_ ?_|refine adr_kp3 ?_ ?_ ?_|((first|refine adr_qs fun KK hKK=>?_|refine adr_y fun KK hKK=>?_);simp [go_sem])|intro _|refine And.intro ?_ ?_|(apply hKK;clear hKK KK)));all_goals first|refine Hold.mk ?_|omega|with_reducible assumption|(simp only [InR] at *;omega)|skip))
      ((try refine CallT.toA ?_); refine callT_m (by first | exact .inl ⟨rfl, rfl⟩ | exact .inr rfl) (by simp [go_sem]) ?_; intro args ha; simp [go_sem] at ha; subst ha; refine ⟨_, T, ?_⟩; rintro _ rfl; simp [go_sem]; ((repeat' (first|(refine ag_x ?_;simp [go_sem])|refine adr_nil ?_|refine adr_two ?_ ?_|refine adr_kq ?_ ?_|refine adr_three ?_ ?_ ?_|refine adr_four ?_ ?_ ?_ ?_|refine adr_kp2 ?_ ?_|refine adr_kp3 ?_ ?_ ?_|((first|refine adr_qs fun KK hKK=>?_|refine adr_y fun KK hKK=>?_);simp [go_sem])|intro _|refine And.intro ?_ ?_|(apply hKK;clear hKK KK)));all_goals first|refine Hold.mk ?_|omega|with_reducible assumption|(simp only [InR] at *;omega)|skip))
      (refine awp_ret ?_; simp [go_sem])
set_option maxHeartbeats 4000000 in
theorem RatioMul_spec (a b : List UInt8) (ha : a.length ≤ 1000000000) (hb : b.length ≤ 1000000000) : PCall Tryz.prog 28 [dS a, dS b] fun r => r = resRA (fun p q r s => p * r) (fun p q r s => q * s) a b := by 
  refine pcall_of Tryz.func28 rfl rfl Tryz.ntmps28 (rs := [.tmp 4, .tmp 5]) (tys := [9, 31]) rfl rfl (by simp) ?_
  have BO := both_spec a b ha hb
  cases hx : ratV a with
  | none =>
    rw [hx] at BO
    unfold resRA
    simp only [hx]
    (refine awp_sr fun KK hKK => ?_; simp [go_sem]; ((repeat' (first|(refine ag_x ?_;simp [go_sem])|intro _|refine And.intro ?_ ?_|(apply hKK;clear hKK KK)));all_goals first|refine Hold.mk ?_|omega|with_reducible assumption|(simp only [InR] at *;omega)|skip))
    (refine awp_sr fun KK hKK => ?_; simp [go_sem]; ((repeat' (first|(refine ag_x ?_;simp [go_sem])|intro _|refine And.intro ?_ ?_|(apply hKK;clear hKK KK)));all_goals first|refine Hold.mk ?_|omega|with_reducible assumption|(simp only [InR] at *;omega)|skip))
    ((try refine CallT.toA ?_); refine callT_m (by first | exact .inl ⟨rfl, rfl⟩ | exact .inr rfl) (by simp [go_sem]) ?_; intro args ha; simp [go_sem] at ha; subst ha; refine ⟨_, BO, ?_⟩; rintro _ ⟨p1, q1, p2, q2, rfl, hh⟩; simp [go_sem]; ((repeat' (first|(refine ag_x ?_;simp [go_sem])|intro _|refine And.intro ?_ ?_|(apply hKK;clear hKK KK)));all_goals first|refine Hold.mk ?_|omega|with_reducible assumption|(simp only [InR] at *;omega)|skip))
    refine awp_seq_k fun K1 hK1 => ?_
    (refine awp_sr fun KK hKK => ?_; simp [go_sem]; ((repeat' (first|(refine ag_x ?_;simp [go_sem])|intro _|refine And.intro ?_ ?_|(apply hKK;clear hKK KK)));all_goals first|refine Hold.mk ?_|omega|with_reducible assumption|(simp only [InR] at *;omega)|skip))
    (refine awp_if fun T F hT hF => ?_; simp [go_sem]; refine hT ?_; clear hT hF T F)
    (refine awp_sr fun KK hKK => ?_; simp [go_sem]; ((repeat' (first|(refine ag_x ?_;simp [go_sem])|intro _|refine And.intro ?_ ?_|(apply hKK;clear hKK KK)));all_goals first|refine Hold.mk ?_|omega|with_reducible assumption|(simp only [InR] at *;omega)|skip))
    (refine awp_ret ?_; simp [go_sem])
  | some v =>
    cases hy : ratV b with
    | none =>
      rw [hx, hy] at BO
      unfold resRA
      simp only [hx, hy]
      (refine awp_sr fun KK hKK => ?_; simp [go_sem]; ((repeat' (first|(refine ag_x ?_;simp [go_sem])|intro _|refine And.intro ?_ ?_|(apply hKK;clear hKK KK)));all_goals first|refine Hold.mk ?_|omega|with_reducible assumption|(simp only [InR] at *;omega)|skip))
      (refine awp_sr fun KK hKK => ?_; simp [go_sem]; ((repeat' (first|(refine ag_x ?_;simp [go_sem])|intro _|refine And.intro ?_ ?_|(apply hKK;clear hKK KK)));all_goals first|refine Hold.mk ?_|omega|with_reducible assumption|(simp only [InR] at *;omega)|skip))
      ((try refine CallT.toA ?_); refine callT_m (by first | exact .inl ⟨rfl, rfl⟩ | exact .inr rfl) (by simp [go_sem]) ?_; intro args ha; simp [go_sem] at ha; subst ha; refine ⟨_, BO, ?_⟩; rintro _ ⟨p1, q1, p2, q2, rfl, hh⟩; simp [go_sem]; ((repeat' (first|(refine ag_x ?_;simp [go_sem])|intro _|refine And.intro ?_ ?_|(apply hKK;clear hKK KK)));all_goals first|refine Hold.mk ?_|omega|with_reducible assumption|(simp only [InR] at *;omega)|skip))
      refine awp_seq_k fun K1 hK1 => ?_
      (refine awp_sr fun KK hKK => ?_; simp [go_sem]; ((repeat' (first|(refine ag_x ?_;simp [go_sem])|intro _|refine And.intro ?_ ?_|(apply hKK;clear hKK KK)));all_goals first|refine Hold.mk ?_|omega|with_reducible assumption|(simp only [InR] at *;omega)|skip))
      (refine awp_if fun T F hT hF => ?_; simp [go_sem]; refine hT ?_; clear hT hF T F)
      (refine awp_sr fun KK hKK => ?_; simp [go_sem]; ((repeat' (first|(refine ag_x ?_;simp [go_sem])|intro _|refine And.intro ?_ ?_|(apply hKK;clear hKK KK)));all_goals first|refine Hold.mk ?_|omega|with_reducible assumption|(simp only [InR] at *;omega)|skip))
      (refine awp_ret ?_; simp [go_sem])
    | some w =>
      rw [hx, hy] at BO
      obtain ⟨P1, Q1⟩ := v
      obtain ⟨P2, Q2⟩ := w
      obtain ⟨l1, l2, l3⟩ := ratV_ok hx
      obtain ⟨l4, l5, l6⟩ := ratV_ok hy
      unfold resRA
      simp only [hx, hy]
      have s1 := sz_of_dlen (k := 45) (show dlen P1 ≤ 9 * 45 by omega)
      have s2 := sz_of_dlen (k := 45) (show dlen Q1 ≤ 9 * 45 by omega)
      have s3 := sz_of_dlen (k := 45) (show dlen P2 ≤ 9 * 45 by omega)
      have s4 := sz_of_dlen (k := 45) (show dlen Q2 ≤ 9 * 45 by omega)
      have BO : PCall Tryz.prog 75 [dS a, dS b] fun r => r = .tup [dRat P1 Q1, dRat P2 Q2, dB true] := by
        refine BO.mono ?_
        rintro r ⟨p1, q1, p2, q2, rfl, hh⟩
        obtain ⟨rfl, rfl, rfl, rfl⟩ := hh _ _ rfl rfl
        rfl
      have hQ0 : Q1 * Q2 ≠ 0 := Int.ne_of_gt (Int.mul_pos l3 l6)
      have m1 : sz U (P1 * P2) ≤ _ := sz_mul (B := U) (by decide) P1 P2
      have m3 : sz U (Q1 * Q2) ≤ _ := sz_mul (B := U) (by decide) Q1 Q2
      have M1 := mul_spec P1 P2 (by omega) (by omega)
      have M3 := mul_spec Q1 Q2 (by omega) (by omega)
      have R := reduce_spec (P1 * P2) (Q1 * Q2) hQ0 (by omega) (by omega)
      have q1 := sz_abs_le (redN_abs (P1 * P2) (Q1 * Q2))
      have q2 := sz_abs_le (redD_abs (P1 * P2) (Q1 * Q2))
      have T := rtext_spec (redN (P1 * P2) (Q1 * Q2)) (redD (P1 * P2) (Q1 * Q2)) (redD_nonneg _ _) (by omega) (by omega)
      generalize redN (P1 * P2) (Q1 * Q2) = N at *
      generalize redD (P1 * P2) (Q1 * Q2) = E at *
      generalize P1 * P2 = x1 at *
      generalize Q1 * Q2 = x3 at *
      obtain ⟨x, e, ht⟩ := textR_tup N E
      rw [ht] at T ⊢
      (refine awp_sr fun KK hKK => ?_; simp [go_sem]; ((repeat' (first|(refine ag_x ?_;simp [go_sem])|intro _|refine And.intro ?_ ?_|(apply hKK;clear hKK KK)));all_goals first|refine Hold.mk ?_|omega|with_reducible assumption|(simp only [InR] at *;omega)|skip))
      (refine awp_sr fun KK hKK => ?_; simp [go_sem]; ((repeat' (first|(refine ag_x ?_;simp [go_sem])|intro _|refine And.intro ?_ ?_|(apply hKK;clear hKK KK)));all_goals first|refine Hold.mk ?_|omega|with_reducible assumption|(simp only [InR] at *;omega)|skip))
      ((try refine CallT.toA ?_); refine callT_m (by first | exact .inl ⟨rfl, rfl⟩ | exact .inr rfl) (by simp [go_sem]) ?_; intro args ha; simp [go_sem] at ha; subst ha; refine ⟨_, BO, ?_⟩; rintro _ rfl; simp [go_sem]; ((repeat' (first|(refine ag_x ?_;simp [go_sem])|intro _|refine And.intro ?_ ?_|(apply hKK;clear hKK KK)));all_goals first|refine Hold.mk ?_|omega|with_reducible assumption|(simp only [InR] at *;omega)|skip))
      refine awp_seq_k fun K1 hK1 => ?_
      (refine awp_sr fun KK hKK => ?_; simp [go_sem]; ((repeat' (first|(refine ag_x ?_;simp [go_sem])|intro _|refine And.intro ?_ ?_|(apply hKK;clear hKK KK)));all_goals first|refine Hold.mk ?_|omega|with_reducible assumption|(simp only [InR] at *;omega)|skip))
      (refine awp_if fun T F hT hF => ?_; simp [go_sem]; refine hF ?_; clear hT hF T F)
      refine awp_skip ?_
      refine hK1 _ ?_; clear hK1
      ((refine awp_dr (.qs [0, 2, 5, 7, 1, 3, 6, 8] (.kp 4 (.kp 9 (.kp 10 (.kp 11 (.qs [12, 13, 14, 15] (.nil))))))) (by kernel_rfl) ?_ ?_ ?_ ?_); (kernel_rfl); (exact (by decide +kernel)); (kernel_rfl); intro KK hKK; ((repeat' (first|(refine ag_x ?_;simp [go_sem])|refine adr_nil ?_|refine adr_two ?_ ?_|refine adr_kq ?_ ?_|refine adr_three ?_ ?_ ?_|refine adr_four ?_ ?_ ?_ ?_|refine adr_kp2 ?_ ?_|refine adr_kp3 ?_ ?_ ?_|((first|refine adr_qs fun KK hKK=>?_|refine adr_y fun KK hKK=>?_);simp [go_sem])|intro _|refine And.intro ?_ ?_|(apply hKK;clear hKK KK)));all_goals first|refine Hold.mk ?_|omega|with_reducible assumption|(simp only [InR] at *;omega)|skip))
      ((try refine CallT.toA ?_); refine callT_m (by first | exact .inl ⟨rfl, rfl⟩ | exact .inr rfl) (by simp [go_sem]) ?_; intro args ha; simp [go_sem] at ha; subst ha; refine ⟨_, M1, ?_⟩; rintro _ rfl; simp [go_sem]; ((repeat' (first|(refine ag_x ?_;simp [go_sem])|refine adr_nil ?_|refine adr_two ?_ ?_|refine adr_kq ?_ ?_|refine adr_three ?_ ?_ ?_|refine adr_four ?_ ?_ ?_ ?_|refine adr_kp2 ?_ ?_|refine adr_kp3 ?_ ?_ ?_|((first|refine adr_qs fun KK hKK=>?_|refine adr_y fun KK hKK=>?_);simp [go_sem])|intro _|refine And.intro ?_ ?_|(apply hKK;clear hKK KK)));all_goals first|refine Hold.mk ?_|omega|with_reducible assumption|(simp only [InR] at *;omega)|skip))
      ((try refine CallT.toA ?_); refine callT_m (by first | exact .inl ⟨rfl, rfl⟩ | exact .inr rfl) (by simp [go_sem]) ?_; intro args ha; simp [go_sem] at ha; subst ha; refine ⟨_, M3, ?_⟩; rintro _ rfl; simp [go_sem]; ((repeat' (first|(refine ag_x ?_;simp [go_sem])|refine adr_nil ?_|refine adr_two ?_ ?_|refine adr_kq ?_ ?_|refine adr_three ?_ ?_ ?_|refine adr_four ?_ ?_ ?_ ?_|refine adr_kp2 ?_ ?_|refine adr_kp3 ?_ ?_ ?_|((first|refine adr_qs fun KK hKK=>?_|refine adr_y fun KK hKK=>?_);simp [go_sem])|intro _|refine And.intro ?_ ?_|(apply hKK;clear hKK KK)));all_goals first|refine Hold.mk ?_|omega|with_reducible assumption|(simp only [InR] at *;omega)|skip))
      ((try refine CallT.toA ?_); refine callT_m (by first | exact .inl ⟨rfl, rfl⟩ | exact .inr rfl) (by simp [go_sem]) ?_; intro args ha; simp [go_sem] at ha; subst ha; refine ⟨_, R, ?_⟩; rintro _ rfl; simp [go_sem]; ((repeat' (first|(refine ag_x ?_;simp [go_sem])|refine adr_nil ?_|refine adr_two ?_ ?_|refine adr_kq ?_ ?_|refine adr_three ?_ ?_ ?_|refine adr_four ?_ ?_ ?_ ?_|refine adr_kp2 ?_ ?_|refine adr_kp3 ?_ ?_ ?_|((first|refine adr_qs fun KK hKK=>?_|refine adr_y fun KK hKK=>?_);simp [go_sem])|intro _|refine And.intro ?_ ?_|(apply hKK;clear hKK KK)));all_goals first|refine Hold.mk ?_|omega|with_reducible assumption|(simp only [InR] at *;omega)|skip))
      ((try refine CallT.toA ?_); refine callT_m (by first | exact .inl ⟨rfl, rfl⟩ | exact .inr rfl) (by simp [go_sem]) ?_; intro args ha; simp [go_sem] at ha; subst ha; refine ⟨_, T, ?_⟩; rintro _ rfl; simp [go_sem]; ((repeat' (first|(refine ag_x ?_;simp [go_sem])|refine adr_nil ?_|refine adr_two ?_ ?_|refine adr_kq ?_ ?_|refine adr_three ?_ ?_ ?_|refine adr_four ?_ ?_ ?_ ?_|refine adr_kp2 ?_ ?_|refine adr_kp3 ?_ ?_ ?_|((first|refine adr_qs fun KK hKK=>?_|refine adr_y fun KK hKK=>?_);simp [go_sem])|intro _|refine And.intro ?_ ?_|(apply hKK;clear hKK KK)));all_goals first|refine Hold.mk ?_|omega|with_reducible assumption|(simp only [InR] at *;omega)|skip))
      (refine awp_ret ?_; simp [go_sem])
set_option maxHeartbeats 4000000 in
theorem RatioCmp_spec (a b : List UInt8) (ha : a.length ≤ 1000000000) (hb : b.length ≤ 1000000000) : PCall Tryz.prog 29 [dS a, dS b] fun r => r = resRC a b := by 
  refine pcall_of Tryz.func29 rfl rfl Tryz.ntmps29 (rs := [.tmp 4, .tmp 5]) (tys := [3, 31]) rfl rfl (by simp) ?_
  have BO := both_spec a b ha hb
  cases hx : ratV a with
  | none =>
    rw [hx] at BO
    unfold resRC
    simp only [hx]
    (refine awp_sr fun KK hKK => ?_; simp [go_sem]; ((repeat' (first|(refine ag_x ?_;simp [go_sem])|intro _|refine And.intro ?_ ?_|(apply hKK;clear hKK KK)));all_goals first|refine Hold.mk ?_|omega|with_reducible assumption|(simp only [InR] at *;omega)|skip))
    (refine awp_sr fun KK hKK => ?_; simp [go_sem]; ((repeat' (first|(refine ag_x ?_;simp [go_sem])|intro _|refine And.intro ?_ ?_|(apply hKK;clear hKK KK)));all_goals first|refine Hold.mk ?_|omega|with_reducible assumption|(simp only [InR] at *;omega)|skip))
    ((try refine CallT.toA ?_); refine callT_m (by first | exact .inl ⟨rfl, rfl⟩ | exact .inr rfl) (by simp [go_sem]) ?_; intro args ha; simp [go_sem] at ha; subst ha; refine ⟨_, BO, ?_⟩; rintro _ ⟨p1, q1, p2, q2, rfl, hh⟩; simp [go_sem]; ((repeat' (first|(refine ag_x ?_;simp [go_sem])|intro _|refine And.intro ?_ ?_|(apply hKK;clear hKK KK)));all_goals first|refine Hold.mk ?_|omega|with_reducible assumption|(simp only [InR] at *;omega)|skip))
    refine awp_seq_k fun K1 hK1 => ?_
    (refine awp_sr fun KK hKK => ?_; simp [go_sem]; ((repeat' (first|(refine ag_x ?_;simp [go_sem])|intro _|refine And.intro ?_ ?_|(apply hKK;clear hKK KK)));all_goals first|refine Hold.mk ?_|omega|with_reducible assumption|(simp only [InR] at *;omega)|skip))
    (refine awp_if fun T F hT hF => ?_; simp [go_sem]; refine hT ?_; clear hT hF T F)
    (refine awp_sr fun KK hKK => ?_; simp [go_sem]; ((repeat' (first|(refine ag_x ?_;simp [go_sem])|intro _|refine And.intro ?_ ?_|(apply hKK;clear hKK KK)));all_goals first|refine Hold.mk ?_|omega|with_reducible assumption|(simp only [InR] at *;omega)|skip))
    (refine awp_ret ?_; simp [go_sem])
  | some v =>
    cases hy : ratV b with
    | none =>
      rw [hx, hy] at BO
      unfold resRC
      simp only [hx, hy]
      (refine awp_sr fun KK hKK => ?_; simp [go_sem]; ((repeat' (first|(refine ag_x ?_;simp [go_sem])|intro _|refine And.intro ?_ ?_|(apply hKK;clear hKK KK)));all_goals first|refine Hold.mk ?_|omega|with_reducible assumption|(simp only [InR] at *;omega)|skip))
      (refine awp_sr fun KK hKK => ?_; simp [go_sem]; ((repeat' (first|(refine ag_x ?_;simp [go_sem])|intro _|refine And.intro ?_ ?_|(apply hKK;clear hKK KK)));all_goals first|refine Hold.mk ?_|omega|with_reducible assumption|(simp only [InR] at *;omega)|skip))
      ((try refine CallT.toA ?_); refine callT_m (by first | exact .inl ⟨rfl, rfl⟩ | exact .inr rfl) (by simp [go_sem]) ?_; intro args ha; simp [go_sem] at ha; subst ha; refine ⟨_, BO, ?_⟩; rintro _ ⟨p1, q1, p2, q2, rfl, hh⟩; simp [go_sem]; ((repeat' (first|(refine ag_x ?_;simp [go_sem])|intro _|refine And.intro ?_ ?_|(apply hKK;clear hKK KK)));all_goals first|refine Hold.mk ?_|omega|with_reducible assumption|(simp only [InR] at *;omega)|skip))
      refine awp_seq_k fun K1 hK1 => ?_
      (refine awp_sr fun KK hKK => ?_; simp [go_sem]; ((repeat' (first|(refine ag_x ?_;simp [go_sem])|intro _|refine And.intro ?_ ?_|(apply hKK;clear hKK KK)));all_goals first|refine Hold.mk ?_|omega|with_reducible assumption|(simp only [InR] at *;omega)|skip))
      (refine awp_if fun T F hT hF => ?_; simp [go_sem]; refine hT ?_; clear hT hF T F)
      (refine awp_sr fun KK hKK => ?_; simp [go_sem]; ((repeat' (first|(refine ag_x ?_;simp [go_sem])|intro _|refine And.intro ?_ ?_|(apply hKK;clear hKK KK)));all_goals first|refine Hold.mk ?_|omega|with_reducible assumption|(simp only [InR] at *;omega)|skip))
      (refine awp_ret ?_; simp [go_sem])
    | some w =>
      rw [hx, hy] at BO
      obtain ⟨P1, Q1⟩ := v
      obtain ⟨P2, Q2⟩ := w
      obtain ⟨l1, l2, l3⟩ := ratV_ok hx
      obtain ⟨l4, l5, l6⟩ := ratV_ok hy
      unfold resRC
      simp only [hx, hy]
      have s1 := sz_of_dlen (k := 45) (show dlen P1 ≤ 9 * 45 by omega)
      have s2 := sz_of_dlen (k := 45) (show dlen Q1 ≤ 9 * 45 by omega)
      have s3 := sz_of_dlen (k := 45) (show dlen P2 ≤ 9 * 45 by omega)
      have s4 := sz_of_dlen (k := 45) (show dlen Q2 ≤ 9 * 45 by omega)
      have BO : PCall Tryz.prog 75 [dS a, dS b] fun r => r = .tup [dRat P1 Q1, dRat P2 Q2, dB true] := by
        refine BO.mono ?_
        rintro r ⟨p1, q1, p2, q2, rfl, hh⟩
        obtain ⟨rfl, rfl, rfl, rfl⟩ := hh _ _ rfl rfl
        rfl
      have hQ0 : Q1 * Q2 ≠ 0 := Int.ne_of_gt (Int.mul_pos l3 l6)
      have m1 : sz U (P1 * Q2) ≤ _ := sz_mul (B := U) (by decide) P1 Q2
      have m2 : sz U (P2 * Q1) ≤ _ := sz_mul (B := U) (by decide) P2 Q1
      have M1 := mul_spec P1 Q2 (by omega) (by omega)
      have M2 := mul_spec P2 Q1 (by omega) (by omega)
      have CM := compare_spec (P1 * Q2) (P2 * Q1)
      generalize P1 * Q2 = x1 at *
      generalize P2 * Q1 = x2 at *
      (refine awp_sr fun KK hKK => ?_; simp [go_sem]; ((repeat' (first|(refine ag_x ?_;simp [go_sem])|intro _|refine And.intro ?_ ?_|(apply hKK;clear hKK KK)));all_goals first|refine Hold.mk ?_|omega|with_reducible assumption|(simp only [InR] at *;omega)|skip))
      (refine awp_sr fun KK hKK => ?_; simp [go_sem]; ((repeat' (first|(refine ag_x ?_;simp [go_sem])|intro _|refine And.intro ?_ ?_|(apply hKK;clear hKK KK)));all_goals first|refine Hold.mk ?_|omega|with_reducible assumption|(simp only [InR] at *;omega)|skip))
      ((try refine CallT.toA ?_); refine callT_m (by first | exact .inl ⟨rfl, rfl⟩ | exact .inr rfl) (by simp [go_sem]) ?_; intro args ha; simp [go_sem] at ha; subst ha; refine ⟨_, BO, ?_⟩; rintro _ rfl; simp [go_sem]; ((repeat' (first|(refine ag_x ?_;simp [go_sem])|intro _|refine And.intro ?_ ?_|(apply hKK;clear hKK KK)));all_goals first|refine Hold.mk ?_|omega|with_reducible assumption|(simp only [InR] at *;omega)|skip))
      refine awp_seq_k fun K1 hK1 => ?_
      (refine awp_sr fun KK hKK => ?_; simp [go_sem]; ((repeat' (first|(refine ag_x ?_;simp [go_sem])|intro _|refine And.intro ?_ ?_|(apply hKK;clear hKK KK)));all_goals first|refine Hold.mk ?_|omega|with_reducible assumption|(simp only [InR] at *;omega)|skip))
      (refine awp_if fun T F hT hF => ?_; simp [go_sem]; refine hF ?_; clear hT hF T F)
      refine awp_skip ?_
      refine hK1 _ ?_; clear hK1
      ((refine awp_dr (.qs [0, 2, 5, 7, 1, 3, 6, 8] (.kp 4 (.kp 9 (.kp 10 (.qs [11, 12] (.nil)))))) (by kernel_rfl) ?_ ?_ ?_ ?_); (kernel_rfl); (exact (by decide +kernel)); (kernel_rfl); intro KK hKK; ((repeat' (first|(refine ag_x ?_;simp [go_sem])|refine adr_nil ?_|refine adr_two ?_ ?_|refine adr_kq ?_ ?_|refine adr_three ?_ ?_ ?_|refine adr_four ?_ ?_ ?_ ?_|refine adr_kp2 ?_ ?_|refine adr_kp3 ?_ ?_ ?_|((first|refine adr_qs fun KK hKK=>?_|refine adr_y fun KK hKK=>?_);simp [go_sem])|intro _|refine And.intro ?_ ?_|(apply hKK;clear hKK KK)));all_goals first|refine Hold.mk ?_|omega|with_reducible assumption|(simp only [InR] at *;omega)|skip))
      ((try refine CallT.toA ?_); refine callT_m (by first | exact .inl ⟨rfl, rfl⟩ | exact .inr rfl) (by simp [go_sem]) ?_; intro args ha; simp [go_sem] at ha; subst ha; refine ⟨_, M1, ?_⟩; rintro _ rfl; simp [go_sem]; ((repeat' (first|(refine ag_x ?_;simp [go_sem])|refine adr_nil ?_|refine adr_two ?_ ?_|refine adr_kq ?_ ?_|refine adr_three ?_ ?_ ?_|refine adr_four ?_ ?_ ?_ ?_|refine adr_kp2 ?_ ?_|refine adr_kp3 ?_ ?_ ?_|((first|refine adr_qs fun KK hKK=>?_|refine adr_y fun KK hKK=>?_);simp [go_sem])|intro _|refine And.intro ?_ ?_|(apply hKK;clear hKK KK)));all_goals first|refine Hold.mk ?_|omega|with_reducible assumption|(simp only [InR] at *;omega)|skip))
      ((try refine CallT.toA ?_); refine callT_m (by first | exact .inl ⟨rfl, rfl⟩ | exact .inr rfl) (by simp [go_sem]) ?_; intro args ha; simp [go_sem] at ha; subst ha; refine ⟨_, M2, ?_⟩; rintro _ rfl; simp [go_sem]; ((repeat' (first|(refine ag_x ?_;simp [go_sem])|refine adr_nil ?_|refine adr_two ?_ ?_|refine adr_kq ?_ ?_|refine adr_three ?_ ?_ ?_|refine adr_four ?_ ?_ ?_ ?_|refine adr_kp2 ?_ ?_|refine adr_kp3 ?_ ?_ ?_|((first|refine adr_qs fun KK hKK=>?_|refine adr_y fun KK hKK=>?_);simp [go_sem])|intro _|refine And.intro ?_ ?_|(apply hKK;clear hKK KK)));all_goals first|refine Hold.mk ?_|omega|with_reducible assumption|(simp only [InR] at *;omega)|skip))
      ((try refine CallT.toA ?_); refine callT_m (by first | exact .inl ⟨rfl, rfl⟩ | exact .inr rfl) (by simp [go_sem]) ?_; intro args ha; simp [go_sem] at ha; subst ha; refine ⟨_, CM, ?_⟩; rintro _ rfl; simp [go_sem]; ((repeat' (first|(refine ag_x ?_;simp [go_sem])|refine adr_nil ?_|refine adr_two ?_ ?_|refine adr_kq ?_ ?_|refine adr_three ?_ ?_ ?_|refine adr_four ?_ ?_ ?_ ?_|refine adr_kp2 ?_ ?_|refine adr_kp3 ?_ ?_ ?_|((first|refine adr_qs fun KK hKK=>?_|refine adr_y fun KK hKK=>?_);simp [go_sem])|intro _|refine And.intro ?_ ?_|(apply hKK;clear hKK KK)));all_goals first|refine Hold.mk ?_|omega|with_reducible assumption|(simp only [InR] at *;omega)|skip))
      (refine awp_ret ?_; simp [go_sem])
/-- a rational's text -/
def ratS (p q : Int) : List UInt8 := if q = 1 then Lib.itoa p else Lib.itoa p ++ 47 :: Lib.itoa q
theorem ratS_len {p q : Int} (hp : dlen p ≤ 400) (hq : dlen q ≤ 400) : (ratS p q).length ≤ 1000 := by
  have h1 : (Lib.itoa p).length ≤ dlen p + 1 := by
    rw [itoa_abs, List.length_append]; unfold dlen; split <;> simp <;> omega
  have h2 : (Lib.itoa q).length ≤ dlen q + 1 := by
    rw [itoa_abs, List.length_append]; unfold dlen; split <;> simp <;> omega
  unfold ratS
  split
  · omega
  · rw [List.length_append, List.length_cons]; omega
end Go.Proofs.YtglncfhcgkihbaaGreatDoor
