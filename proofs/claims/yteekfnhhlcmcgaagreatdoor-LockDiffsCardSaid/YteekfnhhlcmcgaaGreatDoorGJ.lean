/- Part of a proof: see the last text. -/
import Derived.Test.YteekfnhhlcmcgaaGreatDoorGF
import Derived.Test.YteekfnhhlcmcgaaGreatDoorGA
set_option linter.unusedVariables false
set_option linter.unusedSimpArgs false
namespace Go.Proofs.YteekfnhhlcmcgaaGreatDoor
open Go.Eng Go.Wh Go.Ver Go.RowKit Go.Lk
set_option maxRecDepth 20000
attribute [local irreducible] AG CallA CallT AWp PCall ACall AgC
set_option maxHeartbeats 8000000 in
theorem line4_ok (P W : List Prs) (N : List (List Prs)) (sum : Bs) (p' : PS) (s : Bs) (gb gp gn gw : Nat) (rs : List (Nat × List Prs)) (hp : PsOk ⟨4, P, N, W, sum⟩ rs) (hl : s.length ≤ 1000000) (he : lineV ⟨4, P, N, W, sum⟩ s = some p') :
  ACall Tryz.prog 118 [.ptr 900002 gb 0, dS s] (rdH ⟨4, P, N, W, sum⟩ gb gp gn gw rs) (900002 :: 900003 :: 900004 :: 900005 :: famS 1 0 p'.needs.length)
   fun ps r => ∃ gp' gn' gw' rs', rs'.map (·.2) = p'.needs ∧ ps = (gb, .box [dI p'.part, .own 900003 gp', .own 900004 gn', .own 900005 gw', dS p'.sum]) :: (gp', .row 41 2 (p'.picks.map cP)) :: (gn', .row 38 1 (famO 1 0 rs')) :: (gw', .row 114 2 (p'.wish.map cP)) :: famP 114 2 mP rs' ∧ r = dB true := by 
 refine acall_of Tryz.func118 rfl rfl Tryz.ntmps118 (rs := [.tmp 4]) (tys := [4]) rfl rfl (by simp) ?_ ?_
 ·exact rdH_ok _ gb gp gn gw rs _ (by have h1 := line_len he; have h2 := congrArg List.length hp.en; simp only [List.length_map] at h1 h2; omega)
 have hq := hp
 obtain ⟨hrs, hnl, hpl, hwl, hrl⟩ := hp
 simp only at hrs hnl hpl hwl hrl
 have hrl2 := congrArg List.length hrs
 simp only [List.length_map] at hrl2
 simp only [lineV] at he
 have CP := cutPre_spec s preSum (by omega) (by decide)
 split at he
 ·rename_i h1
  obtain ⟨h1, h2⟩ := h1
  rw [if_pos h1, h1] at CP
  simp only [Option.some.injEq] at he
  subst he
  have hn : s.drop preSum.length = s.drop 4 := rfl
  rw [hn] at CP
  have hlen : (s.drop 4).length ≤ s.length := by rw [List.length_drop]; omega
  generalize s.drop 4 = d at *
  have ND := notDigit_spec d
  unfold digV at h2
  simp only [Bool.and_eq_true, decide_eq_true_eq, Bool.or_eq_true] at h2
  obtain ⟨⟨h2a, h2b⟩, h2c⟩ := h2
  rw [h2b] at ND
  obtain ⟨c, r, rfl⟩ : ∃ c r, d = c :: r := by
   cases d with
   | nil => exact absurd rfl h2a
   | cons c r => exact ⟨c, r, rfl⟩
  (refine awp_sr fun Y Yh => ?_; simp [go_sem]; ((repeat' (first|(refine ag_x ?_;simp [go_sem])|intro _|apply And.intro|(apply Yh;clear Yh Y)));all_goals first|apply Hold.mk|omega|assumption|skip))
  refine awp_seq_k fun K1 hK1 => ?_
  (refine awp_sr fun Y Yh => ?_; simp [go_sem]; ((repeat' (first|(refine ag_x ?_;simp [go_sem])|intro _|apply And.intro|(apply Yh;clear Yh Y)));all_goals first|apply Hold.mk|omega|assumption|skip))
  refine awp_block ?_
  refine awp_seq_k fun K2 hK2 => ?_
  (refine awp_sr fun Y Yh => ?_; simp [go_sem]; ((repeat' (first|(refine ag_x ?_;simp [go_sem])|intro _|apply And.intro|(apply Yh;clear Yh Y)));all_goals first|apply Hold.mk|omega|assumption|skip))
  (refine awp_if fun T F hT hF => ?_; simp [go_sem]; refine hF ?_; clear hT hF T F)
  (refine awp_r fun Y Yh => ?_; simp [go_sem]; ((repeat' (first|(refine ag_x ?_;simp [go_sem])|intro _|apply And.intro|(apply Yh;clear Yh Y)));all_goals first|apply Hold.mk|omega|assumption|skip))
  refine hK2 _ ?_; clear hK2
  (refine awp_if fun T F hT hF => ?_; simp [go_sem]; refine hF ?_; clear hT hF T F)
  refine awp_seq_k fun K4 hK4 => ?_
  (refine awp_sr fun Y Yh => ?_; simp [go_sem]; ((repeat' (first|(refine ag_x ?_;simp [go_sem])|intro _|apply And.intro|(apply Yh;clear Yh Y)));all_goals first|apply Hold.mk|omega|assumption|skip))
  (refine awp_if fun T F hT hF => ?_; simp [go_sem]; refine hF ?_; clear hT hF T F)
  (refine awp_r fun Y Yh => ?_; simp [go_sem]; ((repeat' (first|(refine ag_x ?_;simp [go_sem])|intro _|apply And.intro|(apply Yh;clear Yh Y)));all_goals first|apply Hold.mk|omega|assumption|skip))
  refine hK4 _ ?_; clear hK4
  (refine awp_if fun T F hT hF => ?_; simp [go_sem]; refine hF ?_; clear hT hF T F)
  (refine awp_sr fun Y Yh => ?_; simp [go_sem]; ((repeat' (first|(refine ag_x ?_;simp [go_sem])|intro _|apply And.intro|(apply Yh;clear Yh Y)));all_goals first|apply Hold.mk|omega|assumption|skip))
  (refine awp_if fun T F hT hF => ?_; simp [go_sem]; refine hT ?_; clear hT hF T F)
  (refine awp_sr fun Y Yh => ?_; simp [go_sem]; ((repeat' (first|(refine ag_x ?_;simp [go_sem])|intro _|apply And.intro|(apply Yh;clear Yh Y)));all_goals first|apply Hold.mk|omega|assumption|skip))
  (refine awp_sr fun Y Yh => ?_; simp [go_sem]; ((repeat' (first|(refine ag_x ?_;simp [go_sem])|intro _|apply And.intro|(apply Yh;clear Yh Y)));all_goals first|apply Hold.mk|omega|assumption|skip))
  ((try refine CallT.toA ?_); refine callT_m (.inl ⟨rfl,rfl⟩) (by simp [go_sem]) ?_; intro args ha; simp [go_sem] at ha; subst ha; refine ⟨_, CP, ?_⟩; rintro _ rfl; simp [go_sem]; ((repeat' (first|(refine ag_x ?_;simp [go_sem])|intro _|apply And.intro|(apply Yh;clear Yh Y)));all_goals first|apply Hold.mk|omega|assumption|skip))
  (refine awp_sr fun Y Yh => ?_; simp [go_sem]; ((repeat' (first|(refine ag_x ?_;simp [go_sem])|intro _|apply And.intro|(apply Yh;clear Yh Y)));all_goals first|apply Hold.mk|omega|assumption|skip))
  (refine awp_sr fun Y Yh => ?_; simp [go_sem]; ((repeat' (first|(refine ag_x ?_;simp [go_sem])|intro _|apply And.intro|(apply Yh;clear Yh Y)));all_goals first|apply Hold.mk|omega|assumption|skip))
  (refine agc_f (dB (!true)) (.inl ⟨rfl,rfl⟩) ?_ rfl ?_; (intro hc args ha; simp [go_sem] at ha; subst ha; exact ND); simp [go_sem]; ((repeat' (first|(refine ag_x ?_;simp [go_sem])|intro _|apply And.intro|(apply Yh;clear Yh Y)));all_goals first|apply Hold.mk|omega|assumption|skip))
  by_cases h3 : c = 48
  ·subst h3
   have h4 : r = [] := by
    rcases h2c with h | h
    ·simp at h; exact h
    ·simp at h
   subst h4
   (refine awp_sr fun Y Yh => ?_; simp [go_sem, undef]; ((repeat' (first|(refine ag_false ?_ ?_ ?_;(focus (simp [go_sem, undef, undef];done));(focus (simp [go_sem];done));simp [go_sem, undef])|(refine ag_x ?_;simp [go_sem, undef, undef])|intro _|apply And.intro|(apply Yh;clear Yh Y)));all_goals first|apply Hold.mk|omega|assumption|skip))
   (refine awp_ret ?_; simp [go_sem])
   refine postK_fam (b := 1) (e := 114) (k := 2) (f := mP) rs 0 N.length _ hrl2 (by simp [go_sem]) ?_
   exact ⟨gp, gn, gw, rs, hrs, by simp⟩
  ·have h3a : ¬ c.toNat = 48 := fun q => h3 (UInt8.toNat_inj.1 q)
   have h3b : ¬ (c.toNat : Int) = 48 := by omega
   have hq1 : (r.length : Int) + 1 ≤ 9223372036854775807 := by simp at hlen; omega
   have hq2 : (r.length : Int) ≤ 9223372036854775807 := by omega
   (refine awp_sr fun Y Yh => ?_; simp [go_sem, h3, h3a, h3b, hq1, hq2]; ((repeat' (first|(refine ag_x ?_;simp [go_sem, h3, h3a, h3b, hq1, hq2])|intro _|apply And.intro|(apply Yh;clear Yh Y)));all_goals first|apply Hold.mk|omega|assumption|skip))
   (refine awp_ret ?_; simp [go_sem, h3, h3a, h3b])
   refine postK_fam (b := 1) (e := 114) (k := 2) (f := mP) rs 0 N.length _ hrl2 (by simp [go_sem]) ?_
   exact ⟨gp, gn, gw, rs, hrs, by simp⟩
 ·cases he
set_option maxHeartbeats 8000000 in
theorem line5_bad (P W : List Prs) (N : List (List Prs)) (sum : Bs) (s : Bs) (gb gp gn gw : Nat) (rs : List (Nat × List Prs)) (n : Nat) (hp : PsOk ⟨n + 5, P, N, W, sum⟩ rs) (hl : s.length ≤ 1000000) (he : lineV ⟨n + 5, P, N, W, sum⟩ s = none) :
  ACall Tryz.prog 118 [.ptr 900002 gb 0, dS s] (rdH ⟨n + 5, P, N, W, sum⟩ gb gp gn gw rs) (900002 :: 900003 :: 900004 :: 900005 :: famS 1 0 N.length)
   fun ps r => r = dB false := by 
 refine acall_of Tryz.func118 rfl rfl Tryz.ntmps118 (rs := [.tmp 4]) (tys := [4]) rfl rfl (by simp) ?_ ?_
 ·exact rdH_ok _ gb gp gn gw rs _ (by have h2 := congrArg List.length hp.en; simp only [List.length_map] at h2; omega)
 have hq := hp
 obtain ⟨hrs, hnl, hpl, hwl, hrl⟩ := hp
 simp only at hrs hnl hpl hwl hrl
 have hrl2 := congrArg List.length hrs
 simp only [List.length_map] at hrl2
 have n0 : ¬ ((n : Int) + 5 = 0) := by omega
 have n1 : ¬ ((n : Int) + 5 = 1) := by omega
 have n2 : ¬ ((n : Int) + 5 = 2) := by omega
 have n3 : ¬ ((n : Int) + 5 = 3) := by omega
 have n4 : ¬ ((n : Int) + 5 = 4) := by omega
 (refine awp_sr fun Y Yh => ?_; simp [go_sem]; ((repeat' (first|(refine ag_x ?_;simp [go_sem])|intro _|apply And.intro|(apply Yh;clear Yh Y)));all_goals first|apply Hold.mk|omega|assumption|skip))
 refine awp_seq_k fun K1 hK1 => ?_
 (refine awp_sr fun Y Yh => ?_; simp [go_sem]; ((repeat' (first|(refine ag_x ?_;simp [go_sem])|intro _|apply And.intro|(apply Yh;clear Yh Y)));all_goals first|apply Hold.mk|omega|assumption|skip))
 refine awp_block ?_
 refine awp_seq_k fun K2 hK2 => ?_
 (refine awp_sr fun Y Yh => ?_; simp [go_sem, n0]; ((repeat' (first|(refine ag_x ?_;simp [go_sem, n0])|intro _|apply And.intro|(apply Yh;clear Yh Y)));all_goals first|apply Hold.mk|omega|assumption|skip))
 (refine awp_if fun T F hT hF => ?_; simp [go_sem, n0]; refine hF ?_; clear hT hF T F)
 (refine awp_r fun Y Yh => ?_; simp [go_sem, n2]; ((repeat' (first|(refine ag_x ?_;simp [go_sem, n2])|intro _|apply And.intro|(apply Yh;clear Yh Y)));all_goals first|apply Hold.mk|omega|assumption|skip))
 refine hK2 _ ?_; clear hK2
 (refine awp_if fun T F hT hF => ?_; simp [go_sem, n2]; refine hF ?_; clear hT hF T F)
 refine awp_seq_k fun K4 hK4 => ?_
 (refine awp_sr fun Y Yh => ?_; simp [go_sem, n1]; ((repeat' (first|(refine ag_x ?_;simp [go_sem, n1])|intro _|apply And.intro|(apply Yh;clear Yh Y)));all_goals first|apply Hold.mk|omega|assumption|skip))
 (refine awp_if fun T F hT hF => ?_; simp [go_sem, n1]; refine hF ?_; clear hT hF T F)
 (refine awp_r fun Y Yh => ?_; simp [go_sem, n3]; ((repeat' (first|(refine ag_x ?_;simp [go_sem, n3])|intro _|apply And.intro|(apply Yh;clear Yh Y)));all_goals first|apply Hold.mk|omega|assumption|skip))
 refine hK4 _ ?_; clear hK4
 (refine awp_if fun T F hT hF => ?_; simp [go_sem, n3]; refine hF ?_; clear hT hF T F)
 (refine awp_sr fun Y Yh => ?_; simp [go_sem, n4]; ((repeat' (first|(refine ag_x ?_;simp [go_sem, n4])|intro _|apply And.intro|(apply Yh;clear Yh Y)));all_goals first|apply Hold.mk|omega|assumption|skip))
 (refine awp_if fun T F hT hF => ?_; simp [go_sem, n4]; refine hF ?_; clear hT hF T F)
 refine awp_skip ?_
 refine hK1 _ ?_; clear hK1
 (refine awp_sr fun Y Yh => ?_; simp [go_sem]; ((repeat' (first|(refine ag_x ?_;simp [go_sem])|intro _|apply And.intro|(apply Yh;clear Yh Y)));all_goals first|apply Hold.mk|omega|assumption|skip))
 (refine awp_ret ?_; simp [go_sem])
 exact postK_fam (b := 1) (e := 114) (k := 2) (f := mP) rs 0 N.length _ hrl2 (by simp [go_sem]) (by simp)
set_option maxHeartbeats 8000000 in
theorem line1_bad (P W : List Prs) (N : List (List Prs)) (sum : Bs) (s : Bs) (gb gp gn gw : Nat) (rs : List (Nat × List Prs)) (hp : PsOk ⟨1, P, N, W, sum⟩ rs) (hl : s.length ≤ 1000000) (he : lineV ⟨1, P, N, W, sum⟩ s = none) :
  ACall Tryz.prog 118 [.ptr 900002 gb 0, dS s] (rdH ⟨1, P, N, W, sum⟩ gb gp gn gw rs) (900002 :: 900003 :: 900004 :: 900005 :: famS 1 0 N.length)
   fun ps r => r = dB false := by 
 refine acall_of Tryz.func118 rfl rfl Tryz.ntmps118 (rs := [.tmp 4]) (tys := [4]) rfl rfl (by simp) ?_ ?_
 ·exact rdH_ok _ gb gp gn gw rs _ (by have h2 := congrArg List.length hp.en; simp only [List.length_map] at h2; omega)
 have hq := hp
 obtain ⟨hrs, hnl, hpl, hwl, hrl⟩ := hp
 simp only at hrs hnl hpl hwl hrl
 have hrl2 := congrArg List.length hrs
 simp only [List.length_map] at hrl2
 simp only [lineV] at he
 (refine awp_sr fun Y Yh => ?_; simp [go_sem]; ((repeat' (first|(refine ag_x ?_;simp [go_sem])|intro _|apply And.intro|(apply Yh;clear Yh Y)));all_goals first|apply Hold.mk|omega|assumption|skip))
 refine awp_seq_k fun K1 hK1 => ?_
 (refine awp_sr fun Y Yh => ?_; simp [go_sem]; ((repeat' (first|(refine ag_x ?_;simp [go_sem])|intro _|apply And.intro|(apply Yh;clear Yh Y)));all_goals first|apply Hold.mk|omega|assumption|skip))
 refine awp_block ?_
 refine awp_seq_k fun K2 hK2 => ?_
 (refine awp_sr fun Y Yh => ?_; simp [go_sem]; ((repeat' (first|(refine ag_x ?_;simp [go_sem])|intro _|apply And.intro|(apply Yh;clear Yh Y)));all_goals first|apply Hold.mk|omega|assumption|skip))
 (refine awp_if fun T F hT hF => ?_; simp [go_sem]; refine hF ?_; clear hT hF T F)
 (refine awp_r fun Y Yh => ?_; simp [go_sem]; ((repeat' (first|(refine ag_x ?_;simp [go_sem])|intro _|apply And.intro|(apply Yh;clear Yh Y)));all_goals first|apply Hold.mk|omega|assumption|skip))
 refine hK2 _ ?_; clear hK2
 (refine awp_if fun T F hT hF => ?_; simp [go_sem]; refine hF ?_; clear hT hF T F)
 refine awp_seq_k fun K4 hK4 => ?_
 (refine awp_sr fun Y Yh => ?_; simp [go_sem]; ((repeat' (first|(refine ag_x ?_;simp [go_sem])|intro _|apply And.intro|(apply Yh;clear Yh Y)));all_goals first|apply Hold.mk|omega|assumption|skip))
 (refine awp_if fun T F hT hF => ?_; simp [go_sem]; refine hT ?_; clear hT hF T F)
 refine awp_skip ?_
 refine hK4 _ ?_; clear hK4
 (refine awp_if fun T F hT hF => ?_; simp [go_sem]; refine hT ?_; clear hT hF T F)
 refine awp_seq_k fun K6 hK6 => ?_
 split at he
 ·cases he
 ·rename_i h1
  have h1' : s.isEmpty = false := by cases s with
   | nil => exact absurd rfl h1
   | cons => rfl
  (refine awp_sr fun Y Yh => ?_; simp [go_sem]; ((repeat' (first|(refine ag_x ?_;simp [go_sem])|intro _|apply And.intro|(apply Yh;clear Yh Y)));all_goals first|apply Hold.mk|omega|assumption|skip))
  (refine awp_if fun T F hT hF => ?_; simp [go_sem, h1, h1']; refine hF ?_; clear hT hF T F)
  refine awp_skip ?_
  refine hK6 _ ?_; clear hK6
  (refine awp_sr fun Y Yh => ?_; simp [go_sem]; ((repeat' (first|(refine ag_x ?_;simp [go_sem])|intro _|apply And.intro|(apply Yh;clear Yh Y)));all_goals first|apply Hold.mk|omega|assumption|skip))
  (refine callA_l (900002 :: 900003 :: 900004 :: 900005 :: famS 1 0 N.length) (.inl ⟨rfl,rfl⟩) (by simp [go_sem]) ?_; intro args ha; simp [go_sem] at ha; subst ha; refine ⟨_, _, (entry_bad _ s gb gp gn gw rs hq hl (.inl rfl) he), (by simp [go_sem]), ?_⟩; rintro ps r hps ⟨rfl, rfl⟩; simp [go_sem]; ((repeat' (first|(refine ag_x ?_;simp [go_sem])|intro _|apply And.intro|(apply Yh;clear Yh Y)));all_goals first|apply Hold.mk|omega|assumption|skip))
  rw [putPs_fam (b := 1) (e := 114) (k := 2) (f := mP) rs 0 _ hrl2]
  (refine awp_ret ?_; simp [go_sem])
  exact postK_fam (b := 1) (e := 114) (k := 2) (f := mP) rs 0 N.length _ hrl2 (by simp [go_sem]; exact FamIn.app _ _) (by simp)
set_option maxHeartbeats 8000000 in
theorem line3_bad (P W : List Prs) (N : List (List Prs)) (sum : Bs) (s : Bs) (gb gp gn gw : Nat) (rs : List (Nat × List Prs)) (hp : PsOk ⟨3, P, N, W, sum⟩ rs) (hl : s.length ≤ 1000000) (he : lineV ⟨3, P, N, W, sum⟩ s = none) :
  ACall Tryz.prog 118 [.ptr 900002 gb 0, dS s] (rdH ⟨3, P, N, W, sum⟩ gb gp gn gw rs) (900002 :: 900003 :: 900004 :: 900005 :: famS 1 0 N.length)
   fun ps r => r = dB false := by 
 refine acall_of Tryz.func118 rfl rfl Tryz.ntmps118 (rs := [.tmp 4]) (tys := [4]) rfl rfl (by simp) ?_ ?_
 ·exact rdH_ok _ gb gp gn gw rs _ (by have h2 := congrArg List.length hp.en; simp only [List.length_map] at h2; omega)
 have hq := hp
 obtain ⟨hrs, hnl, hpl, hwl, hrl⟩ := hp
 simp only at hrs hnl hpl hwl hrl
 have hrl2 := congrArg List.length hrs
 simp only [List.length_map] at hrl2
 simp only [lineV] at he
 (refine awp_sr fun Y Yh => ?_; simp [go_sem]; ((repeat' (first|(refine ag_x ?_;simp [go_sem])|intro _|apply And.intro|(apply Yh;clear Yh Y)));all_goals first|apply Hold.mk|omega|assumption|skip))
 refine awp_seq_k fun K1 hK1 => ?_
 (refine awp_sr fun Y Yh => ?_; simp [go_sem]; ((repeat' (first|(refine ag_x ?_;simp [go_sem])|intro _|apply And.intro|(apply Yh;clear Yh Y)));all_goals first|apply Hold.mk|omega|assumption|skip))
 refine awp_block ?_
 refine awp_seq_k fun K2 hK2 => ?_
 (refine awp_sr fun Y Yh => ?_; simp [go_sem]; ((repeat' (first|(refine ag_x ?_;simp [go_sem])|intro _|apply And.intro|(apply Yh;clear Yh Y)));all_goals first|apply Hold.mk|omega|assumption|skip))
 (refine awp_if fun T F hT hF => ?_; simp [go_sem]; refine hF ?_; clear hT hF T F)
 (refine awp_r fun Y Yh => ?_; simp [go_sem]; ((repeat' (first|(refine ag_x ?_;simp [go_sem])|intro _|apply And.intro|(apply Yh;clear Yh Y)));all_goals first|apply Hold.mk|omega|assumption|skip))
 refine hK2 _ ?_; clear hK2
 (refine awp_if fun T F hT hF => ?_; simp [go_sem]; refine hF ?_; clear hT hF T F)
 refine awp_seq_k fun K4 hK4 => ?_
 (refine awp_sr fun Y Yh => ?_; simp [go_sem]; ((repeat' (first|(refine ag_x ?_;simp [go_sem])|intro _|apply And.intro|(apply Yh;clear Yh Y)));all_goals first|apply Hold.mk|omega|assumption|skip))
 (refine awp_if fun T F hT hF => ?_; simp [go_sem]; refine hF ?_; clear hT hF T F)
 (refine awp_r fun Y Yh => ?_; simp [go_sem]; ((repeat' (first|(refine ag_x ?_;simp [go_sem])|intro _|apply And.intro|(apply Yh;clear Yh Y)));all_goals first|apply Hold.mk|omega|assumption|skip))
 refine hK4 _ ?_; clear hK4
 (refine awp_if fun T F hT hF => ?_; simp [go_sem]; refine hT ?_; clear hT hF T F)
 refine awp_seq_k fun K6 hK6 => ?_
 split at he
 ·cases he
 ·rename_i h1
  have h1' : s.isEmpty = false := by cases s with
   | nil => exact absurd rfl h1
   | cons => rfl
  (refine awp_sr fun Y Yh => ?_; simp [go_sem]; ((repeat' (first|(refine ag_x ?_;simp [go_sem])|intro _|apply And.intro|(apply Yh;clear Yh Y)));all_goals first|apply Hold.mk|omega|assumption|skip))
  (refine awp_if fun T F hT hF => ?_; simp [go_sem, h1, h1']; refine hF ?_; clear hT hF T F)
  refine awp_skip ?_
  refine hK6 _ ?_; clear hK6
  (refine awp_sr fun Y Yh => ?_; simp [go_sem]; ((repeat' (first|(refine ag_x ?_;simp [go_sem])|intro _|apply And.intro|(apply Yh;clear Yh Y)));all_goals first|apply Hold.mk|omega|assumption|skip))
  (refine callA_l (900002 :: 900003 :: 900004 :: 900005 :: famS 1 0 N.length) (.inl ⟨rfl,rfl⟩) (by simp [go_sem]) ?_; intro args ha; simp [go_sem] at ha; subst ha; refine ⟨_, _, (entry_bad _ s gb gp gn gw rs hq hl (.inr rfl) he), (by simp [go_sem]), ?_⟩; rintro ps r hps ⟨rfl, rfl⟩; simp [go_sem]; ((repeat' (first|(refine ag_x ?_;simp [go_sem])|intro _|apply And.intro|(apply Yh;clear Yh Y)));all_goals first|apply Hold.mk|omega|assumption|skip))
  rw [putPs_fam (b := 1) (e := 114) (k := 2) (f := mP) rs 0 _ hrl2]
  (refine awp_ret ?_; simp [go_sem])
  exact postK_fam (b := 1) (e := 114) (k := 2) (f := mP) rs 0 N.length _ hrl2 (by simp [go_sem]; exact FamIn.app _ _) (by simp)
set_option maxHeartbeats 8000000 in
theorem line4_bad (P W : List Prs) (N : List (List Prs)) (sum : Bs) (s : Bs) (gb gp gn gw : Nat) (rs : List (Nat × List Prs)) (hp : PsOk ⟨4, P, N, W, sum⟩ rs) (hl : s.length ≤ 1000000) (he : lineV ⟨4, P, N, W, sum⟩ s = none) :
  ACall Tryz.prog 118 [.ptr 900002 gb 0, dS s] (rdH ⟨4, P, N, W, sum⟩ gb gp gn gw rs) (900002 :: 900003 :: 900004 :: 900005 :: famS 1 0 N.length)
   fun ps r => r = dB false := by 
 refine acall_of Tryz.func118 rfl rfl Tryz.ntmps118 (rs := [.tmp 4]) (tys := [4]) rfl rfl (by simp) ?_ ?_
 ·exact rdH_ok _ gb gp gn gw rs _ (by have h2 := congrArg List.length hp.en; simp only [List.length_map] at h2; omega)
 have hq := hp
 obtain ⟨hrs, hnl, hpl, hwl, hrl⟩ := hp
 simp only at hrs hnl hpl hwl hrl
 have hrl2 := congrArg List.length hrs
 simp only [List.length_map] at hrl2
 have CP := cutPre_spec s preSum (by omega) (by decide)
 simp only [lineV] at he
 have he2 : ¬ (preSum.isPrefixOf s = true ∧ digV (s.drop 4) = true) := fun q => by rw [if_pos q] at he; cases he
 clear he
 have hlen : (s.drop 4).length ≤ s.length := by rw [List.length_drop]; omega
 rw [show s.drop preSum.length = s.drop 4 from rfl] at CP
 generalize hpb : preSum.isPrefixOf s = pb at *
 generalize hd : (if pb = true then s.drop 4 else s) = d at *
 have hdl : d.length ≤ s.length := by rw [← hd]; split <;> omega
 have he3 : ¬ (pb = true ∧ digV d = true) := fun q => by
  obtain ⟨q1, q2⟩ := q
  subst q1
  rw [if_pos rfl] at hd
  exact he2 ⟨rfl, by rw [hd]; exact q2⟩
 have ND := notDigit_spec d
 (refine awp_sr fun Y Yh => ?_; simp [go_sem]; ((repeat' (first|(refine ag_x ?_;simp [go_sem])|intro _|apply And.intro|(apply Yh;clear Yh Y)));all_goals first|apply Hold.mk|omega|assumption|skip))
 refine awp_seq_k fun K1 hK1 => ?_
 (refine awp_sr fun Y Yh => ?_; simp [go_sem]; ((repeat' (first|(refine ag_x ?_;simp [go_sem])|intro _|apply And.intro|(apply Yh;clear Yh Y)));all_goals first|apply Hold.mk|omega|assumption|skip))
 refine awp_block ?_
 refine awp_seq_k fun K2 hK2 => ?_
 (refine awp_sr fun Y Yh => ?_; simp [go_sem]; ((repeat' (first|(refine ag_x ?_;simp [go_sem])|intro _|apply And.intro|(apply Yh;clear Yh Y)));all_goals first|apply Hold.mk|omega|assumption|skip))
 (refine awp_if fun T F hT hF => ?_; simp [go_sem]; refine hF ?_; clear hT hF T F)
 (refine awp_r fun Y Yh => ?_; simp [go_sem]; ((repeat' (first|(refine ag_x ?_;simp [go_sem])|intro _|apply And.intro|(apply Yh;clear Yh Y)));all_goals first|apply Hold.mk|omega|assumption|skip))
 refine hK2 _ ?_; clear hK2
 (refine awp_if fun T F hT hF => ?_; simp [go_sem]; refine hF ?_; clear hT hF T F)
 refine awp_seq_k fun K4 hK4 => ?_
 (refine awp_sr fun Y Yh => ?_; simp [go_sem]; ((repeat' (first|(refine ag_x ?_;simp [go_sem])|intro _|apply And.intro|(apply Yh;clear Yh Y)));all_goals first|apply Hold.mk|omega|assumption|skip))
 (refine awp_if fun T F hT hF => ?_; simp [go_sem]; refine hF ?_; clear hT hF T F)
 (refine awp_r fun Y Yh => ?_; simp [go_sem]; ((repeat' (first|(refine ag_x ?_;simp [go_sem])|intro _|apply And.intro|(apply Yh;clear Yh Y)));all_goals first|apply Hold.mk|omega|assumption|skip))
 refine hK4 _ ?_; clear hK4
 (refine awp_if fun T F hT hF => ?_; simp [go_sem]; refine hF ?_; clear hT hF T F)
 (refine awp_sr fun Y Yh => ?_; simp [go_sem]; ((repeat' (first|(refine ag_x ?_;simp [go_sem])|intro _|apply And.intro|(apply Yh;clear Yh Y)));all_goals first|apply Hold.mk|omega|assumption|skip))
 (refine awp_if fun T F hT hF => ?_; simp [go_sem]; refine hT ?_; clear hT hF T F)
 (refine awp_sr fun Y Yh => ?_; simp [go_sem]; ((repeat' (first|(refine ag_x ?_;simp [go_sem])|intro _|apply And.intro|(apply Yh;clear Yh Y)));all_goals first|apply Hold.mk|omega|assumption|skip))
 (refine awp_sr fun Y Yh => ?_; simp [go_sem]; ((repeat' (first|(refine ag_x ?_;simp [go_sem])|intro _|apply And.intro|(apply Yh;clear Yh Y)));all_goals first|apply Hold.mk|omega|assumption|skip))
 ((try refine CallT.toA ?_); refine callT_m (.inl ⟨rfl,rfl⟩) (by simp [go_sem]) ?_; intro args ha; simp [go_sem] at ha; subst ha; refine ⟨_, CP, ?_⟩; rintro _ rfl; simp [go_sem]; ((repeat' (first|(refine ag_x ?_;simp [go_sem])|intro _|apply And.intro|(apply Yh;clear Yh Y)));all_goals first|apply Hold.mk|omega|assumption|skip))
 (refine awp_sr fun Y Yh => ?_; simp [go_sem]; ((repeat' (first|(refine ag_x ?_;simp [go_sem])|intro _|apply And.intro|(apply Yh;clear Yh Y)));all_goals first|apply Hold.mk|omega|assumption|skip))
 cases d with
 | nil =>
  (refine awp_sr fun Y Yh => ?_; simp [go_sem, undef]; ((repeat' (first|(refine ag_false ?_ ?_ ?_;(focus (simp [go_sem, undef, undef];done));(focus (simp [go_sem];done));simp [go_sem, undef])|(refine ag_x ?_;simp [go_sem, undef, undef])|intro _|apply And.intro|(apply Yh;clear Yh Y)));all_goals first|apply Hold.mk|omega|assumption|skip))
  cases pb with
  | false =>
   (refine awp_sr fun Y Yh => ?_; simp [go_sem, undef]; ((repeat' (first|(refine ag_false ?_ ?_ ?_;(focus (simp [go_sem, undef, undef];done));(focus (simp [go_sem];done));simp [go_sem, undef])|(refine ag_x ?_;simp [go_sem, undef, undef])|intro _|apply And.intro|(apply Yh;clear Yh Y)));all_goals first|apply Hold.mk|omega|assumption|skip))
   (refine awp_ret ?_; simp [go_sem])
   exact postK_fam (b := 1) (e := 114) (k := 2) (f := mP) rs 0 N.length _ hrl2 (by first | (simp [go_sem]; done) | exact FamIn.refl _ _) (by first | (simp; done) | trivial | rfl | (simp [go_sem]; done) | assumption)
  | true =>
   (refine awp_sr fun Y Yh => ?_; simp [go_sem, undef]; ((repeat' (first|(refine ag_false ?_ ?_ ?_;(focus (simp [go_sem, undef, undef];done));(focus (simp [go_sem];done));simp [go_sem, undef])|(refine ag_x ?_;simp [go_sem, undef, undef])|intro _|apply And.intro|(apply Yh;clear Yh Y)));all_goals first|apply Hold.mk|omega|assumption|skip))
   (refine awp_ret ?_; simp [go_sem])
   exact postK_fam (b := 1) (e := 114) (k := 2) (f := mP) rs 0 N.length _ hrl2 (by first | (simp [go_sem]; done) | exact FamIn.refl _ _) (by first | (simp; done) | trivial | rfl | (simp [go_sem]; done) | assumption)
 | cons c r =>
  generalize hal : (c :: r).all isD = al at *
  (refine awp_sr fun Y Yh => ?_; simp [go_sem]; ((repeat' (first|(refine ag_x ?_;simp [go_sem])|intro _|apply And.intro|(apply Yh;clear Yh Y)));all_goals first|apply Hold.mk|omega|assumption|skip))
  (refine agc_f (dB (!al)) (.inl ⟨rfl,rfl⟩) ?_ rfl ?_; (intro hc args ha; simp [go_sem] at ha; subst ha; exact ND); simp [go_sem]; ((repeat' (first|(refine ag_x ?_;simp [go_sem])|intro _|apply And.intro|(apply Yh;clear Yh Y)));all_goals first|apply Hold.mk|omega|assumption|skip))
  cases pb with
  | false =>
   (refine awp_sr fun Y Yh => ?_; simp [go_sem, undef]; ((repeat' (first|(refine ag_false ?_ ?_ ?_;(focus (simp [go_sem, undef, undef];done));(focus (simp [go_sem];done));simp [go_sem, undef])|(refine ag_x ?_;simp [go_sem, undef, undef])|intro _|apply And.intro|(apply Yh;clear Yh Y)));all_goals first|apply Hold.mk|omega|assumption|skip))
   (refine awp_ret ?_; simp [go_sem])
   exact postK_fam (b := 1) (e := 114) (k := 2) (f := mP) rs 0 N.length _ hrl2 (by first | (simp [go_sem]; done) | exact FamIn.refl _ _) (by first | (simp; done) | trivial | rfl | (simp [go_sem]; done) | assumption)
  | true =>
   cases al with
   | false =>
    (refine awp_sr fun Y Yh => ?_; simp [go_sem, undef]; ((repeat' (first|(refine ag_false ?_ ?_ ?_;(focus (simp [go_sem, undef, undef];done));(focus (simp [go_sem];done));simp [go_sem, undef])|(refine ag_x ?_;simp [go_sem, undef, undef])|intro _|apply And.intro|(apply Yh;clear Yh Y)));all_goals first|apply Hold.mk|omega|assumption|skip))
    (refine awp_ret ?_; simp [go_sem])
    exact postK_fam (b := 1) (e := 114) (k := 2) (f := mP) rs 0 N.length _ hrl2 (by first | (simp [go_sem]; done) | exact FamIn.refl _ _) (by first | (simp; done) | trivial | rfl | (simp [go_sem]; done) | assumption)
   | true =>
    have hc : c = 48 ∧ r ≠ [] := by
     have q : ¬ digV (c :: r) = true := fun q => he3 ⟨rfl, q⟩
     unfold digV at q
     rw [hal] at q
     simp at q
     exact ⟨q.2, q.1 q.2⟩
    obtain ⟨rfl, hr0⟩ := hc
    have hq1 : (r.length : Int) + 1 ≤ 9223372036854775807 := by simp at hdl; omega
    have hq2 : (r.length : Int) ≤ 9223372036854775807 := by omega
    (refine awp_sr fun Y Yh => ?_; simp [go_sem, hr0, hq1, hq2]; ((repeat' (first|(refine ag_x ?_;simp [go_sem, hr0, hq1, hq2])|intro _|apply And.intro|(apply Yh;clear Yh Y)));all_goals first|apply Hold.mk|omega|assumption|skip))
    (refine awp_ret ?_; simp [go_sem, hr0])
    exact postK_fam (b := 1) (e := 114) (k := 2) (f := mP) rs 0 N.length _ hrl2 (by first | (simp [go_sem]; done) | exact FamIn.refl _ _) (by first | (simp; done) | trivial | rfl | (simp [go_sem]; done) | assumption)
set_option maxHeartbeats 8000000 in
theorem line0_bad (P W : List Prs) (N : List (List Prs)) (sum : Bs) (s : Bs) (gb gp gn gw : Nat) (rs : List (Nat × List Prs)) (hp : PsOk ⟨0, P, N, W, sum⟩ rs) (hl : s.length ≤ 1000000) (he : lineV ⟨0, P, N, W, sum⟩ s = none) :
  ACall Tryz.prog 118 [.ptr 900002 gb 0, dS s] (rdH ⟨0, P, N, W, sum⟩ gb gp gn gw rs) (900002 :: 900003 :: 900004 :: 900005 :: famS 1 0 N.length)
   fun ps r => r = dB false := by 
 refine acall_of Tryz.func118 rfl rfl Tryz.ntmps118 (rs := [.tmp 4]) (tys := [4]) rfl rfl (by simp) ?_ ?_
 ·exact rdH_ok _ gb gp gn gw rs _ (by have h2 := congrArg List.length hp.en; simp only [List.length_map] at h2; omega)
 have hq := hp
 obtain ⟨hrs, hnl, hpl, hwl, hrl⟩ := hp
 simp only at hrs hnl hpl hwl hrl
 have hrl2 := congrArg List.length hrs
 simp only [List.length_map] at hrl2
 simp only [lineV] at he
 have h1 : ¬ s = gemsT := fun q => by rw [if_pos q] at he; cases he
 have h2 : ¬ s = [71, 69, 77, 83] := h1
 (refine awp_sr fun Y Yh => ?_; simp [go_sem]; ((repeat' (first|(refine ag_x ?_;simp [go_sem])|intro _|apply And.intro|(apply Yh;clear Yh Y)));all_goals first|apply Hold.mk|omega|assumption|skip))
 refine awp_seq_k fun K1 hK1 => ?_
 (refine awp_sr fun Y Yh => ?_; simp [go_sem]; ((repeat' (first|(refine ag_x ?_;simp [go_sem])|intro _|apply And.intro|(apply Yh;clear Yh Y)));all_goals first|apply Hold.mk|omega|assumption|skip))
 refine awp_block ?_
 refine awp_seq_k fun K2 hK2 => ?_
 (refine awp_sr fun Y Yh => ?_; simp [go_sem]; ((repeat' (first|(refine ag_x ?_;simp [go_sem])|intro _|apply And.intro|(apply Yh;clear Yh Y)));all_goals first|apply Hold.mk|omega|assumption|skip))
 (refine awp_if fun T F hT hF => ?_; simp [go_sem]; refine hT ?_; clear hT hF T F)
 refine awp_skip ?_
 refine hK2 _ ?_; clear hK2
 (refine awp_if fun T F hT hF => ?_; simp [go_sem]; refine hT ?_; clear hT hF T F)
 (refine awp_sr fun Y Yh => ?_; simp [go_sem]; ((repeat' (first|(refine ag_x ?_;simp [go_sem])|intro _|apply And.intro|(apply Yh;clear Yh Y)));all_goals first|apply Hold.mk|omega|assumption|skip))
 refine awp_cov (S' := ⟨[(0, .ptr 900002 gb 0), (1, dS s)], rdH ⟨1, P, N, W, sum⟩ gb gp gn gw rs⟩) (by (refine cov_of ?_ ?_ <;> simp [go_sem])) ?_
 refine awp_sr fun Y Yh => ?_
 simp (maxSteps := 2000000) [go_sem]
 ((repeat' (first|(refine ag_x ?_;simp [go_sem])|refine adr_nil ?_|refine adr_two ?_ ?_|refine adr_kq ?_ ?_|refine adr_three ?_ ?_ ?_|refine adr_four ?_ ?_ ?_ ?_|refine adr_kp2 ?_ ?_|refine adr_kp3 ?_ ?_ ?_|((first|refine adr_qs fun Y Yh=>?_|refine adr_y fun Y Yh=>?_);simp [go_sem])|intro _|apply And.intro|(apply Yh;clear Yh Y)));all_goals first|apply Hold.mk|omega|assumption|skip)
 (refine awp_ret ?_; simp [go_sem, h1, h2])
 exact postK_fam (b := 1) (e := 114) (k := 2) (f := mP) rs 0 N.length _ hrl2 (by simp [go_sem]) (by simp)
@[go_sem] abbrev rrH (p : PS) (n gb gp gn gw : Nat) (rs : List (Nat × List Prs)) : List (Nat × (Nat × Blk)) :=
 (900002, (gb, .box [.own 900003 gp, .own 900004 gn, .own 900005 gw, dI p.part, dI n])) :: (900003, (gp, .row 95 2 (p.picks.map cP))) :: (900004, (gn, .row 26 1 (famO 1 0 rs))) :: (900005, (gw, .row 43 2 (p.wish.map cP))) :: fam 1 94 2 mP 0 rs
end Go.Proofs.YteekfnhhlcmcgaaGreatDoor
