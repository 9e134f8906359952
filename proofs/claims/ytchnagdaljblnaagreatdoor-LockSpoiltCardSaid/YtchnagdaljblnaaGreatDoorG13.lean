/- Part of a proof: see the last text. -/
import Derived.Test.YtchnagdaljblnaaGreatDoorG12
import Derived.Test.YtchnagdaljblnaaGreatDoorG04
set_option linter.unusedVariables false
set_option linter.unusedSimpArgs false
namespace Go.Proofs.YtchnagdaljblnaaGreatDoor
open Go.Eng Go.Wh Go.Ver Go.RowKit Go.Lk
set_option maxRecDepth 20000
attribute [local irreducible] AG CallA CallT AWp PCall ACall AgC
abbrev SOk0 (s : Bs) : Prop := s.length ≤ 500000 ∧ s.count 10 ≤ 500
set_option maxHeartbeats 16000000 in
theorem lockSpoilt_spec (nums : List Int) (at0 what sm : Int) (txt : Bs) (hnl : nums.length ≤ 9223372036854775807) (hw1 : InR what) : PCall Tryz.prog 4 [.agg [dIs nums, dI at0, dI what, dI sm, dS txt]] fun r => r = dB true := by 
 refine pcall_of Tryz.func4 rfl rfl Tryz.ntmps4 (rs := [.tmp 2]) (tys := [4]) rfl rfl (by simp) ?_
 have GR := grown_spec nums hnl
 (refine awp_sr fun Y hY => ?_; simp [go_sem]; ((repeat' (first|(refine ag_x ?_;simp [go_sem])|intro _|apply And.intro|(apply hY;clear hY Y)));all_goals first|apply Hold.mk|omega|with_reducible assumption|skip))
 rename_i g1
 (refine awp_sr fun Y hY => ?_; simp [go_sem]; ((repeat' (first|(refine ag_x ?_;simp [go_sem])|intro _|apply And.intro|(apply hY;clear hY Y)));all_goals first|apply Hold.mk|omega|with_reducible assumption|skip))
 ((try refine CallT.toA ?_); refine callT_m (.inl ⟨rfl,rfl⟩) (by simp [go_sem]) ?_; intro args ha; simp [go_sem] at ha; subst ha; refine ⟨_, GR, ?_⟩; rintro _ ⟨⟨P, N, W⟩, hv, rfl⟩; simp [go_sem]; ((repeat' (first|(refine ag_x ?_;simp [go_sem])|intro _|apply And.intro|(apply hY;clear hY Y)));all_goals first|apply Hold.mk|omega|with_reducible assumption|skip))
 have hok := lkOk_of (lockV_sz hv)
 have RT := rText_spec (P, N, W) hok
 rw [if_pos hv, if_pos hv] at RT
 have hT : SOk0 (Lk.textV (P, N, W)) := text_tiny hv
 generalize Lk.textV (P, N, W) = s0 at *
 ((try refine CallT.toA ?_); refine callT_m (.inl ⟨rfl,rfl⟩) (by simp [go_sem]) ?_; intro args ha; simp [go_sem] at ha; subst ha; refine ⟨_, RT, ?_⟩; rintro _ rfl; simp [go_sem]; ((repeat' (first|(refine ag_x ?_;simp [go_sem])|intro _|apply And.intro|(apply hY;clear hY Y)));all_goals first|apply Hold.mk|omega|with_reducible assumption|skip))
 refine awp_seq_k fun K1 hK1 => ?_
 (refine awp_sr fun Y hY => ?_; simp [go_sem]; ((repeat' (first|(refine ag_x ?_;simp [go_sem])|intro _|apply And.intro|(apply hY;clear hY Y)));all_goals first|apply Hold.mk|omega|with_reducible assumption|skip))
 (refine awp_if fun T F hT hF => ?_; simp [go_sem]; refine hF ?_; clear hT hF T F)
 refine awp_skip ?_
 refine hK1 _ ?_; clear hK1
 (refine awp_sr fun Y hY => ?_; simp [go_sem]; ((repeat' (first|(refine ag_x ?_;simp [go_sem])|intro _|apply And.intro|(apply hY;clear hY Y)));all_goals first|apply Hold.mk|omega|with_reducible assumption|skip))
 refine awp_seq_j (α := {t : Bs // t.length ≤ 20}) (fun t => ⟨[(1, .ptr 1 g1 0), (3, dS s0), (5, dS t.1)], [(1, (g1, .box [dIs nums, dI at0, dI what, dI sm, dS txt]))]⟩) (fun K3 hK3 hM3 => ?_) (fun t => ?_)
 ·(refine awp_sr fun Y hY => ?_; simp [go_sem]; ((repeat' (first|(refine ag_x ?_;simp [go_sem])|intro _|apply And.intro|(apply hY;clear hY Y)));all_goals first|apply Hold.mk|omega|with_reducible assumption|skip))
  by_cases ht : (20 : Int) < txt.length
  ·have ht2 : (20 : Int) ≤ txt.length := by omega
   (refine awp_if fun T F hT hF => ?_; simp [go_sem, ht]; refine hT ?_; clear hT hF T F)
   (refine awp_r fun Y hY => ?_; simp [go_sem, ht2]; ((repeat' (first|(refine ag_x ?_;simp [go_sem, ht2])|intro _|apply And.intro|(apply hY;clear hY Y)));all_goals first|apply Hold.mk|omega|with_reducible assumption|skip))
   refine hK3 _ ?_
   refine hM3 ⟨txt.take 20, by simp; omega⟩ _ ?_
   (refine cov_of ?_ ?_ <;> simp [go_sem, ba_take])
  ·(refine awp_if fun T F hT hF => ?_; simp [go_sem, ht]; refine hF ?_; clear hT hF T F)
   refine awp_skip ?_
   refine hK3 _ ?_
   refine hM3 ⟨txt, by omega⟩ _ ?_
   (refine cov_of ?_ ?_ <;> simp [go_sem])
 obtain ⟨t, ht⟩ := t
 simp only
 obtain ⟨hT1, hT2⟩ := hT
 have w1 := unI_wrap at0
 have w2 := wrapNI (x := s0.length + 1) (by omega)
 rw [show ((s0.length + 1 : Nat) : Int) = (s0.length : Int) + 1 by omega] at w2
 have hlt : unI at0 % (s0.length + 1) < s0.length + 1 := Nat.mod_lt _ (by omega)
 have m0 : ((unI at0 : Nat) : Int).tmod ((s0.length : Int) + 1) = ((unI at0 % (s0.length + 1) : Nat) : Int) := by
  rw [show (s0.length : Int) + 1 = ((s0.length + 1 : Nat) : Int) by omega, Int.tmod_eq_emod_of_nonneg (by omega)]; rfl
 have hne : ¬ ((s0.length : Int) + 1) = 0 := by omega
 have m1 := wrapNI (x := unI at0 % (s0.length + 1)) (by omega)
 generalize unI at0 % (s0.length + 1) = a at *
 have hle : a ≤ s0.length := by omega
 have hai : (a : Int) ≤ s0.length := by omega
 (refine awp_sr fun Y hY => ?_; simp [go_sem, w1, w2, m0, m1, hne]; ((repeat' (first|(refine ag_x ?_;simp [go_sem, w1, w2, m0, m1, hne])|intro _|apply And.intro|(apply hY;clear hY Y)));all_goals first|apply Hold.mk|omega|with_reducible assumption|skip))
 (refine awp_sr fun Y hY => ?_; simp [go_sem]; ((repeat' (first|(refine ag_x ?_;simp [go_sem])|intro _|apply And.intro|(apply hY;clear hY Y)));all_goals first|apply Hold.mk|omega|with_reducible assumption|skip))
 refine awp_frzrow 7 rfl rfl ?_
 simp only [go_sem]
 obtain ⟨all, hall⟩ : ∃ all : List Bs, all = [t, [10], [32, 32], [98], [32, 40, 49, 46, 48, 41], [41], [71, 69, 77, 83, 10], [10, 32, 32, 97, 32, 40, 49, 41, 10, 32, 32, 32, 32, 98, 32, 40, 62, 61, 32, 49, 41], [40], [83, 85, 77, 32, 49, 10]] := ⟨_, rfl⟩
 have hal : all.length = 10 := by rw [hall]; rfl
 have hay : ∀ y ∈ all, y.length ≤ 30 := by
  rw [hall]
  intro y hy
  simp only [List.mem_cons, List.not_mem_nil, or_false] at hy
  rcases hy with rfl | rfl | rfl | rfl | rfl | rfl | rfl | rfl | rfl | rfl <;> first | omega | decide
 refine awp_cov (S' := ⟨[(1, .ptr 1 g1 0), (3, dS s0), (6, dI a), (7, dSs all)], [(1, (g1, .box [dIs nums, dI at0, dI what, dI sm, dS txt]))]⟩) (by rw [hall]; (refine cov_of ?_ ?_ <;> simp [go_sem])) ?_
 clear hall
 have v1 := unI_wrap (what.tdiv 4)
 have v2 : ((unI (what.tdiv 4) : Nat) : Int).tmod 10 = ((unI (what.tdiv 4) % 10 : Nat) : Int) := by rw [Int.tmod_eq_emod_of_nonneg (by omega)]; rfl
 have v3 := wrapNI (x := unI (what.tdiv 4) % 10) (by omega)
 have hk : unI (what.tdiv 4) % 10 < all.length := by rw [hal]; exact Nat.mod_lt _ (by decide)
 have u1 := unI_wrap what
 have u2 : ((unI what : Nat) : Int).tmod 5 = ((unI what % 5 : Nat) : Int) := by rw [Int.tmod_eq_emod_of_nonneg (by omega)]; rfl
 have u3 := wrapNI (x := unI what % 5) (by omega)
 have hj5 : unI what % 5 < 5 := Nat.mod_lt _ (by decide)
 have hq4 : -9223372036854775808 ≤ what.tdiv 4 ∧ what.tdiv 4 ≤ 9223372036854775807 := by
  have hw1' : -9223372036854775808 ≤ what ∧ what ≤ 9223372036854775807 := hw1
  rcases Int.le_total 0 what with h | h
  ·rw [Int.tdiv_eq_ediv_of_nonneg h]; omega
  ·have e : what.tdiv 4 = -((-what).tdiv 4) := by rw [Int.neg_tdiv]; omega
   rw [e, Int.tdiv_eq_ediv_of_nonneg (by omega)]; omega
 obtain ⟨hq5, hq6⟩ := hq4
 generalize unI (what.tdiv 4) % 10 = k at *
 generalize unI what % 5 = j5 at *
 obtain ⟨y, hy, hym⟩ := lit_at all hk
 have hyl := hay y hym
 have hyc : y.count 10 ≤ 30 := Nat.le_trans List.count_le_length hyl
 obtain ⟨tk1, tk2⟩ := sub_le (List.take_sublist a s0)
 have dr2 := fun n => sub_le (List.drop_sublist n s0)
 refine awp_seq_j (α := {s : Bs // s.length ≤ 550000 ∧ s.count 10 ≤ 2000}) (fun s => ⟨[(3, dS s.1)], []⟩) (fun K4 hK4 hM4 => ?_) (fun s => ?_)
 ·(refine awp_sr fun Y hY => ?_; simp [go_sem]; ((repeat' (first|(refine ag_x ?_;simp [go_sem])|intro _|apply And.intro|(apply hY;clear hY Y)));all_goals first|apply Hold.mk|omega|with_reducible assumption|skip))
  refine awp_block ?_
  (refine awp_sr fun Y hY => ?_; simp [go_sem]; ((repeat' (first|(refine ag_x ?_;simp [go_sem])|intro _|apply And.intro|(apply hY;clear hY Y)));all_goals first|apply Hold.mk|omega|with_reducible assumption|skip))
  (refine awp_if fun T F hT hF => ?_; simp [go_sem]; refine BR.intro (fun h12 => hT ?_) (fun h12 => hF ?_); all_goals clear hT hF T F; try simp at h12)
  ·(refine awp_r fun Y hY => ?_; simp [go_sem, hai, hle]; ((repeat' (first|(refine ag_x ?_;simp [go_sem, hai, hle])|intro _|apply And.intro|(apply hY;clear hY Y)));all_goals first|apply Hold.mk|omega|with_reducible assumption|skip))
   refine hK4 _ ?_
   refine hM4 ⟨s0.take a, by omega, by omega⟩ _ ?_
   (refine cov_of ?_ ?_ <;> simp [go_sem, ba_take])
  ·(refine awp_sr fun Y hY => ?_; simp [go_sem]; ((repeat' (first|(refine ag_x ?_;simp [go_sem])|intro _|apply And.intro|(apply hY;clear hY Y)));all_goals first|apply Hold.mk|omega|with_reducible assumption|skip))
   (refine awp_if fun T F hT hF => ?_; simp [go_sem]; refine BR.intro (fun h13 => hT ?_) (fun h13 => hF ?_); all_goals clear hT hF T F; try simp at h13)
   ·((refine awp_d (.qs [0, 1, 2, 3, 4, 12, 13, 14, 5, 6, 7, 8, 9, 10, 11, 15, 16] (.nil)) (by kernel_rfl) ?_ ?_ ?_ ?_); (kernel_rfl); (exact (by decide +kernel)); (kernel_rfl); intro Y hY; ((repeat' (first|(refine ag_x ?_;simp [go_sem, hai, hle, v1, v2, v3, hy])|refine adr_nil ?_|((first|refine adr_qs fun Y hY=>?_|refine adr_y fun Y hY=>?_);simp [go_sem, hai, hle, v1, v2, v3, hy])|intro _|apply And.intro|(apply hY;clear hY Y)));all_goals first|apply Hold.mk|omega|with_reducible assumption|skip))
    refine hK4 _ ?_
    have d1 := dr2 a
    refine hM4 ⟨s0.take a ++ (y ++ s0.drop a), by simp; omega, by simp only [List.count_append]; omega⟩ _ ?_
    (refine cov_of ?_ ?_ <;> simp [go_sem, ba_take, ba_drop])
   ·(refine awp_sr fun Y hY => ?_; simp [go_sem]; ((repeat' (first|(refine ag_x ?_;simp [go_sem])|intro _|apply And.intro|(apply hY;clear hY Y)));all_goals first|apply Hold.mk|omega|with_reducible assumption|skip))
    (refine awp_if fun T F hT hF => ?_; simp [go_sem]; refine BR.intro (fun h14 => hT ?_) (fun h14 => hF ?_); all_goals clear hT hF T F; try simp at h14)
    ·by_cases hmn : a + 1 + j5 ≤ s0.length
     ·have hmi : ¬ (s0.length : Int) < (a : Int) + 1 + j5 := by omega
      have hmi2 : (a : Int) + 1 + j5 ≤ s0.length := by omega
      have hmt : ((a : Int) + 1 + j5).toNat = a + 1 + j5 := by omega
      ((refine awp_d (.qs [0, 1, 2, 3, 4, 5, 6, 12, 13, 7, 8, 9, 10, 11, 14, 15, 16, 17] (.nil)) (by kernel_rfl) ?_ ?_ ?_ ?_); (kernel_rfl); (exact (by decide +kernel)); (kernel_rfl); intro Y hY; ((repeat' (first|(refine ag_x ?_;simp [go_sem, hai, hle, u1, u2, u3, hmi, hmi2, hmt, hmn])|refine adr_nil ?_|((first|refine adr_qs fun Y hY=>?_|refine adr_y fun Y hY=>?_);simp [go_sem, hai, hle, u1, u2, u3, hmi, hmi2, hmt, hmn])|intro _|apply And.intro|(apply hY;clear hY Y)));all_goals first|apply Hold.mk|omega|with_reducible assumption|skip))
      refine hK4 _ ?_
      have d1 := dr2 (a + 1 + j5)
      refine hM4 ⟨s0.take a ++ s0.drop (a + 1 + j5), by simp; omega, by simp only [List.count_append]; omega⟩ _ ?_
      (refine cov_of ?_ ?_ <;> simp [go_sem, ba_take, ba_drop])
     ·have hmi : (s0.length : Int) < (a : Int) + 1 + j5 := by omega
      ((refine awp_d (.qs [0, 1, 2, 3, 4, 5, 6, 12, 13, 7, 8, 9, 10, 11, 14, 15, 16, 17] (.nil)) (by kernel_rfl) ?_ ?_ ?_ ?_); (kernel_rfl); (exact (by decide +kernel)); (kernel_rfl); intro Y hY; ((repeat' (first|(refine ag_x ?_;simp [go_sem, hai, hle, u1, u2, u3, hmi, hmn])|refine adr_nil ?_|((first|refine adr_qs fun Y hY=>?_|refine adr_y fun Y hY=>?_);simp [go_sem, hai, hle, u1, u2, u3, hmi, hmn])|intro _|apply And.intro|(apply hY;clear hY Y)));all_goals first|apply Hold.mk|omega|with_reducible assumption|skip))
      refine hK4 _ ?_
      have d1 := dr2 s0.length
      refine hM4 ⟨s0.take a ++ s0.drop s0.length, by simp; omega, by simp only [List.count_append]; omega⟩ _ ?_
      (refine cov_of ?_ ?_ <;> simp [go_sem, ba_take, ba_drop])
    ·(refine awp_r fun Y hY => ?_; simp [go_sem, v1, v2, v3, hy]; ((repeat' (first|(refine ag_x ?_;simp [go_sem, v1, v2, v3, hy])|intro _|apply And.intro|(apply hY;clear hY Y)));all_goals first|apply Hold.mk|omega|with_reducible assumption|skip))
     refine hK4 _ ?_
     refine hM4 ⟨s0 ++ y, by simp; omega, by simp only [List.count_append]; omega⟩ _ ?_
     (refine cov_of ?_ ?_ <;> simp [go_sem])
 obtain ⟨s, hs1, hs2⟩ := s
 simp only
 have PS := sok_parses (s := s) ⟨by omega, by omega⟩
 refine awp_seq_k fun K5 hK5 => ?_
 (refine awp_sr fun Y hY => ?_; simp [go_sem]; ((repeat' (first|(refine ag_x ?_;simp [go_sem])|intro _|apply And.intro|(apply hY;clear hY Y)));all_goals first|apply Hold.mk|omega|with_reducible assumption|skip))
 ((try refine CallT.toA ?_); refine callT_m (.inl ⟨rfl,rfl⟩) (by simp [go_sem]) ?_; intro args ha; simp [go_sem] at ha; subst ha; refine ⟨_, PS, ?_⟩; rintro _ rfl; simp [go_sem]; ((repeat' (first|(refine ag_x ?_;simp [go_sem])|intro _|apply And.intro|(apply hY;clear hY Y)));all_goals first|apply Hold.mk|omega|with_reducible assumption|skip))
 (refine awp_if fun T F hT hF => ?_; simp [go_sem]; refine hF ?_; clear hT hF T F)
 refine awp_skip ?_
 refine hK5 _ ?_; clear hK5
 refine awp_seq_k fun K7 hK7 => ?_
 (refine awp_sr fun Y hY => ?_; simp [go_sem]; ((repeat' (first|(refine ag_x ?_;simp [go_sem])|intro _|apply And.intro|(apply hY;clear hY Y)));all_goals first|apply Hold.mk|omega|with_reducible assumption|skip))
 refine awp_block ?_
 refine awp_loop (σ := Nat) (fun q => ⟨[(3, dS s), (8, dI ((q : Int) - 1))], []⟩) (fun q => q ≤ s.length) (fun q => q) s.length ?_ ?_ ?_
 ·(refine cov_of ?_ ?_ <;> simp [go_sem])
 ·exact Nat.le_refl _
 intro q hq
 refine awp_seq_k fun K8 hK8 => ?_
 by_cases h4 : 5 ≤ q
 ·obtain ⟨j, rfl⟩ : ∃ j, q = j + 5 := ⟨q - 5, by omega⟩
  have e0 : ((j + 5 : Nat) : Int) - 1 = (j : Int) + 4 := by omega
  have e1 : (4 : Int) ≤ (j : Int) + 4 := by omega
  have e2 : (j : Int) + 4 - 4 = j := by omega
  have e3 : ((j : Int) + 4).toNat = j + 4 := by omega
  have e4 : (j : Int) ≤ (j : Int) + 4 := by omega
  have e5 : (j : Int) + 4 ≤ s.length := by omega
  have e6 : (j : Int) ≤ s.length := by omega
  have e7 : j ≤ s.length := by omega
  rw [e0]
  (refine awp_sr fun Y hY => ?_; simp [go_sem, e1]; ((repeat' (first|(refine ag_x ?_;simp [go_sem, e1])|intro _|apply And.intro|(apply hY;clear hY Y)));all_goals first|apply Hold.mk|omega|with_reducible assumption|skip))
  (refine awp_if fun T F hT hF => ?_; simp [go_sem, e1]; refine hT ?_; clear hT hF T F)
  refine awp_skip ?_
  refine hK8 _ ?_; clear hK8
  refine awp_seq_k fun K10 hK10 => ?_
  refine awp_block ?_
  have hm := ba_mid s j 4
  (refine awp_sr fun Y hY => ?_; simp [go_sem, e2, e3, e4, e5, hm]; ((repeat' (first|(refine ag_x ?_;simp [go_sem, e2, e3, e4, e5, hm])|intro _|apply And.intro|(apply hY;clear hY Y)));all_goals first|apply Hold.mk|omega|with_reducible assumption|skip))
  by_cases hS : (s.drop j).take 4 = [83, 85, 77, 32]
  ·obtain ⟨t1, t2⟩ := sub_le (List.take_sublist j s)
   have SU := rsum_spec (s.take j) (by omega)
   have hsl := sumV_lt (s.take j) (s.take j).length
   have DG := digits_spec (sumV (s.take j) (s.take j).length + 1) (sumV (s.take j) (s.take j).length) (by omega) (by omega)
   have hil := Lib.itoa_length_le ((sumV (s.take j) (s.take j).length : Nat) : Int) (by omega) (by omega)
   unfold Lib.itoa at hil
   rw [if_neg (by omega), Int.toNat_natCast] at hil
   generalize sumV (s.take j) (s.take j).length = sv at *
   generalize Lib.decDigits sv = dd at *
   have hdc : dd.count 10 ≤ 21 := Nat.le_trans List.count_le_length hil
   have P2 := sok_parses (s := s.take j ++ ([83, 85, 77, 32] ++ (dd ++ [10]))) ⟨by simp; omega, by
    simp only [List.count_append]
    have c1 : ([83, 85, 77, 32] : Bs).count 10 = 0 := by decide
    have c2 : ([10] : Bs).count 10 = 1 := by decide
    omega⟩
   have e : ({ data := s.toArray } : ByteArray).extract 0 j ++ { data := #[83, 85, 77, 32] } ++ { data := dd.toArray } ++ { data := #[10] } = { data := (s.take j ++ ([83, 85, 77, 32] ++ (dd ++ [10]))).toArray } := by
    rw [ba_take]; apply ByteArray.ext; simp
   (refine awp_if fun T F hT hF => ?_; simp [go_sem, hS]; refine hT ?_; clear hT hF T F)
   ((refine awp_dr (.qs [0, 1, 2, 3, 4, 5, 6, 7, 8] (.one 9 (.one 10 (.qs [11, 12] (.one 13 (.qs [14] (.one 15 (.qs [16, 17] (.nil))))))))) (by kernel_rfl) ?_ ?_ ?_ ?_); (kernel_rfl); (exact (by decide +kernel)); (kernel_rfl); intro Y hY; ((repeat' (first|(refine ag_x ?_;simp [go_sem, e2, e6, e7])|refine adr_nil ?_|((first|refine adr_qs fun Y hY=>?_|refine adr_y fun Y hY=>?_);simp [go_sem, e2, e6, e7])|intro _|apply And.intro|(apply hY;clear hY Y)));all_goals first|apply Hold.mk|omega|with_reducible assumption|skip))
   ((try refine CallT.toA ?_); refine callT_m (.inl ⟨rfl,rfl⟩) (by simp [go_sem]) ?_; intro args ha; simp [go_sem] at ha; subst ha; refine ⟨_, (by rw [ba_take]; exact SU), ?_⟩; rintro _ rfl; simp [go_sem, e2, e6, e7]; ((repeat' (first|(refine ag_x ?_;simp [go_sem, e2, e6, e7])|refine adr_nil ?_|((first|refine adr_qs fun Y hY=>?_|refine adr_y fun Y hY=>?_);simp [go_sem, e2, e6, e7])|intro _|apply And.intro|(apply hY;clear hY Y)));all_goals first|apply Hold.mk|omega|with_reducible assumption|skip))
   ((try refine CallT.toA ?_); refine callT_m (.inl ⟨rfl,rfl⟩) (by simp [go_sem]) ?_; intro args ha; simp [go_sem] at ha; subst ha; refine ⟨_, DG, ?_⟩; rintro _ rfl; simp [go_sem, e2, e6, e7]; ((repeat' (first|(refine ag_x ?_;simp [go_sem, e2, e6, e7])|refine adr_nil ?_|((first|refine adr_qs fun Y hY=>?_|refine adr_y fun Y hY=>?_);simp [go_sem, e2, e6, e7])|intro _|apply And.intro|(apply hY;clear hY Y)));all_goals first|apply Hold.mk|omega|with_reducible assumption|skip))
   ((try refine CallT.toA ?_); refine callT_m (.inl ⟨rfl,rfl⟩) (by simp [go_sem]) ?_; intro args ha; simp [go_sem] at ha; subst ha; refine ⟨_, (by first | (rw [e]; exact P2) | (simp [ba_take] at *; exact P2)), ?_⟩; rintro _ rfl; simp [go_sem, e2, e6, e7]; ((repeat' (first|(refine ag_x ?_;simp [go_sem, e2, e6, e7])|refine adr_nil ?_|((first|refine adr_qs fun Y hY=>?_|refine adr_y fun Y hY=>?_);simp [go_sem, e2, e6, e7])|intro _|apply And.intro|(apply hY;clear hY Y)));all_goals first|apply Hold.mk|omega|with_reducible assumption|skip))
   (refine agc_f (dB true) (.inl ⟨rfl,rfl⟩) ?_ rfl ?_; (intro hc args ha; simp [go_sem] at ha; subst ha; exact sane_spec); simp [go_sem]; ((repeat' (first|(refine ag_x ?_;simp [go_sem])|refine adr_nil ?_|((first|refine adr_qs fun Y hY=>?_|refine adr_y fun Y hY=>?_);simp [go_sem])|intro _|apply And.intro|(apply hY;clear hY Y)));all_goals first|apply Hold.mk|omega|with_reducible assumption|skip))
   (refine awp_ret ?_; simp [go_sem])
  ·have hSb : ((s.drop j).take 4 == [83, 85, 77, 32]) = false := by rw [beq_eq_false_iff_ne]; exact hS
   (refine awp_if fun T F hT hF => ?_; simp [go_sem, hS, hSb]; refine hF ?_; clear hT hF T F)
   refine awp_skip ?_
   refine hK10 _ ?_; clear hK10
   (refine awp_r fun Y hY => ?_; simp [go_sem]; ((repeat' (first|(refine ag_x ?_;simp [go_sem])|intro _|apply And.intro|(apply hY;clear hY Y)));all_goals first|apply Hold.mk|omega|with_reducible assumption|skip))
   refine ⟨j + 4, ?_, by omega, by omega⟩
   (refine cov_of ?_ ?_ <;> simp [go_sem])
   try omega
 ·have e1 : ¬ (4 : Int) ≤ (q : Int) - 1 := by omega
  (refine awp_sr fun Y hY => ?_; simp [go_sem, e1]; ((repeat' (first|(refine ag_x ?_;simp [go_sem, e1])|intro _|apply And.intro|(apply hY;clear hY Y)));all_goals first|apply Hold.mk|omega|with_reducible assumption|skip))
  (refine awp_if fun T F hT hF => ?_; simp [go_sem, e1]; refine hF ?_; clear hT hF T F)
  refine awp_exit ?_
  simp only [go_sem]
  refine hK7 _ ?_; clear hK7
  (refine awp_sr fun Y hY => ?_; simp [go_sem]; ((repeat' (first|(refine ag_x ?_;simp [go_sem])|intro _|apply And.intro|(apply hY;clear hY Y)));all_goals first|apply Hold.mk|omega|with_reducible assumption|skip))
  ((try refine CallT.toA ?_); refine callT_m (.inl ⟨rfl,rfl⟩) (by simp [go_sem]) ?_; intro args ha; simp [go_sem] at ha; subst ha; refine ⟨_, sane_spec, ?_⟩; rintro _ rfl; simp [go_sem]; ((repeat' (first|(refine ag_x ?_;simp [go_sem])|intro _|apply And.intro|(apply hY;clear hY Y)));all_goals first|apply Hold.mk|omega|with_reducible assumption|skip))
  (refine awp_ret ?_; simp [go_sem])
end Go.Proofs.YtchnagdaljblnaaGreatDoor
namespace Go.Proofs.YtchnagdaljblnaaGreatDoor
open Go.Eng Go.WideShapes Go.Wh Go.Ver Go.Lk
set_option maxRecDepth 100000
abbrev SplQ (x : List Int × Int × Int × Int × List UInt8) : Prop := (x.1.length ≤ maxLen ∧ ∀ n ∈ x.1, InR n) ∧ InR x.2.1 ∧ InR x.2.2.1 ∧ InR x.2.2.2.1
theorem op_spoil : Opens Tryz.prog 26 (fun x : List Int × Int × Int × Int × List UInt8 => [dIs x.1, dI x.2.1, dI x.2.2.1, dI x.2.2.2.1, dS x.2.2.2.2]) SplQ := by
 have h := opens_struct (e := 5) Tryz.underlying26 rfl (by kernel_rfl) (opensS_cons (n := 1) rfl (by kernel_rfl) op_ints (opensS_cons (n := 1) rfl (by kernel_rfl) op_int (opensS_cons (n := 1) rfl (by kernel_rfl) op_int (opensS_cons (n := 1) rfl (by kernel_rfl) op_int (opensS_cons (n := 1) rfl (by kernel_rfl) op_str opensS_nil)))))
 exact h.iso (fun x => ⟨x.1, x.2.1, x.2.2.1, x.2.2.2.1, x.2.2.2.2.1⟩) (fun _ => rfl) (fun _ q => ⟨q.1, q.2.1, q.2.2.1, q.2.2.2.1⟩)
theorem ov_spoil : OpensV Tryz.prog 26 (fun x : List Int × Int × Int × Int × List UInt8 => .agg [dIs x.1, dI x.2.1, dI x.2.2.1, dI x.2.2.2.1, dS x.2.2.2.2]) SplQ := opensV_agg Tryz.underlying26 op_spoil
end Go.Proofs.YtchnagdaljblnaaGreatDoor
