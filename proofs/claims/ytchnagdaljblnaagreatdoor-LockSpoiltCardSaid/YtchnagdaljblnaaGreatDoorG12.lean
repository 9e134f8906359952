/- Part of a proof: see the last text. -/
import Derived.Test.YtchnagdaljblnaaGreatDoorG11
import Derived.Test.YtchnagdaljblnaaGreatDoorG07
import Derived.Test.YtchnagdaljblnaaGreatDoorG08
import Derived.Test.YtchnagdaljblnaaGreatDoorG10
import Derived.Lib.ItoaLen
set_option linter.unusedVariables false
set_option linter.unusedSimpArgs false
namespace Go.Proofs.YtchnagdaljblnaaGreatDoor
open Go.Eng Go.Wh Go.Ver Go.RowKit Go.Lk
set_option maxRecDepth 20000
attribute [local irreducible] AG CallA CallT AWp PCall ACall AgC
set_option maxHeartbeats 8000000 in
theorem rline4_ok (P W : List Prs) (N : List (List Prs)) (sum : Bs) (p' : PS) (s : Bs) (gb gp gn gw : Nat) (rs : List (Nat × List Prs)) (hp : PsOk ⟨4, P, N, W, sum⟩ rs) (hl : s.length ≤ 1000000) (he : lineV ⟨4, P, N, W, sum⟩ s = some p') :
  ACall Tryz.prog 71 [.ptr 900002 gb 0, dS s] (rrH ⟨4, P, N, W, sum⟩ 0 gb gp gn gw rs) (900002 :: 900003 :: 900004 :: 900005 :: famS 1 0 p'.needs.length)
   fun ps r => ∃ gp' gn' gw' rs', rs'.map (·.2) = p'.needs ∧ ps = (gb, .box [.own 900003 gp', .own 900004 gn', .own 900005 gw', dI p'.part, dI (satV p'.sum)]) :: (gp', .row 91 2 (p'.picks.map cP)) :: (gn', .row 32 1 (famO 1 0 rs')) :: (gw', .row 94 2 (p'.wish.map cP)) :: famP 94 2 mP rs' ∧ r = dB true := by 
 refine acall_of Tryz.func71 rfl rfl Tryz.ntmps71 (rs := [.tmp 4]) (tys := [4]) rfl rfl (by simp) ?_ ?_
 ·exact rrH_ok _ 0 gb gp gn gw rs _ (by have h1 := line_len he; have h2 := congrArg List.length hp.en; simp only [List.length_map] at h1 h2; omega)
 have hq := hp
 obtain ⟨hrs, hnl, hpl, hwl, hrl⟩ := hp
 simp only at hrs hnl hpl hwl hrl
 have hrl2 := congrArg List.length hrs
 simp only [List.length_map] at hrl2
 simp only [lineV] at he
 have TP := trimPre_spec s preSum (by omega) (by decide)
 split at he
 ·rename_i h1
  obtain ⟨h1, h2⟩ := h1
  rw [if_pos h1] at TP
  simp only [Option.some.injEq] at he
  subst he
  have hsl : 4 ≤ s.length := (List.isPrefixOf_iff_prefix.1 h1).length_le
  rw [show s.drop preSum.length = s.drop 4 from rfl] at TP
  have hlen : (s.drop 4).length = s.length - 4 := List.length_drop
  have hne : ¬ s.drop 4 = s := fun q => by rw [q] at hlen; omega
  generalize s.drop 4 = d at *
  have T1 := trimS_spec d tenD (by omega) (by decide) (by decide)
  unfold digV at h2
  simp only [Bool.and_eq_true, decide_eq_true_eq, Bool.or_eq_true] at h2
  obtain ⟨⟨h2a, h2b⟩, h2c⟩ := h2
  rw [(trim_digits d).2 h2b] at T1
  obtain ⟨c, r, rfl⟩ : ∃ c r, d = c :: r := by
   cases d with
   | nil => exact absurd rfl h2a
   | cons c r => exact ⟨c, r, rfl⟩
  (refine awp_sr fun Y hY => ?_; simp [go_sem]; ((repeat' (first|(refine ag_x ?_;simp [go_sem])|intro _|apply And.intro|(apply hY;clear hY Y)));all_goals first|apply Hold.mk|omega|with_reducible assumption|skip))
  refine awp_seq_k fun K1 hK1 => ?_
  (refine awp_sr fun Y hY => ?_; simp [go_sem]; ((repeat' (first|(refine ag_x ?_;simp [go_sem])|intro _|apply And.intro|(apply hY;clear hY Y)));all_goals first|apply Hold.mk|omega|with_reducible assumption|skip))
  refine awp_block ?_
  (refine awp_sr fun Y hY => ?_; simp [go_sem]; ((repeat' (first|(refine ag_x ?_;simp [go_sem])|intro _|apply And.intro|(apply hY;clear hY Y)));all_goals first|apply Hold.mk|omega|with_reducible assumption|skip))
  (refine awp_if fun T F hT hF => ?_; simp [go_sem]; refine hF ?_; clear hT hF T F)
  (refine awp_sr fun Y hY => ?_; simp [go_sem]; ((repeat' (first|(refine ag_x ?_;simp [go_sem])|intro _|apply And.intro|(apply hY;clear hY Y)));all_goals first|apply Hold.mk|omega|with_reducible assumption|skip))
  (refine awp_if fun T F hT hF => ?_; simp [go_sem]; refine hF ?_; clear hT hF T F)
  (refine awp_sr fun Y hY => ?_; simp [go_sem]; ((repeat' (first|(refine ag_x ?_;simp [go_sem])|intro _|apply And.intro|(apply hY;clear hY Y)));all_goals first|apply Hold.mk|omega|with_reducible assumption|skip))
  (refine awp_if fun T F hT hF => ?_; simp [go_sem]; refine hF ?_; clear hT hF T F)
  (refine awp_sr fun Y hY => ?_; simp [go_sem]; ((repeat' (first|(refine ag_x ?_;simp [go_sem])|intro _|apply And.intro|(apply hY;clear hY Y)));all_goals first|apply Hold.mk|omega|with_reducible assumption|skip))
  (refine awp_if fun T F hT hF => ?_; simp [go_sem]; refine hF ?_; clear hT hF T F)
  (refine awp_sr fun Y hY => ?_; simp [go_sem]; ((repeat' (first|(refine ag_x ?_;simp [go_sem])|intro _|apply And.intro|(apply hY;clear hY Y)));all_goals first|apply Hold.mk|omega|with_reducible assumption|skip))
  (refine awp_if fun T F hT hF => ?_; simp [go_sem]; refine hT ?_; clear hT hF T F)
  (refine awp_sr fun Y hY => ?_; simp [go_sem]; ((repeat' (first|(refine ag_x ?_;simp [go_sem])|intro _|apply And.intro|(apply hY;clear hY Y)));all_goals first|apply Hold.mk|omega|with_reducible assumption|skip))
  (refine awp_sr fun Y hY => ?_; simp [go_sem]; ((repeat' (first|(refine ag_x ?_;simp [go_sem])|intro _|apply And.intro|(apply hY;clear hY Y)));all_goals first|apply Hold.mk|omega|with_reducible assumption|skip))
  ((try refine CallT.toA ?_); refine callT_m (.inl ⟨rfl,rfl⟩) (by simp [go_sem]) ?_; intro args ha; simp [go_sem] at ha; subst ha; refine ⟨_, TP, ?_⟩; rintro _ rfl; simp [go_sem]; ((repeat' (first|(refine ag_x ?_;simp [go_sem])|intro _|apply And.intro|(apply hY;clear hY Y)));all_goals first|apply Hold.mk|omega|with_reducible assumption|skip))
  refine awp_seq_k fun K2 hK2 => ?_
  have main : ∀ S', Cov S' ⟨[(0, .ptr 900002 gb 0), (15, dS (c :: r))], rrH ⟨5, P, N, W, sum⟩ 0 gb gp gn gw rs⟩ → K2 S' := fun S' hS => by
   refine hK2 _ ?_; clear hK2
   refine awp_cov hS ?_; clear hS
   have hall : ∀ (i : Nat) x, (c :: r)[i]? = some x → 48 ≤ x.toNat ∧ x.toNat ≤ 57 := fun i x h => (isD_iff x).1 (List.all_eq_true.1 h2b x (List.mem_of_getElem? h))
   have hst : ∀ (i : Nat) x, (c :: r)[i]? = some x → satV ((c :: r).take (i + 1)) = min (10 * satV ((c :: r).take i) + dgt x) 1000003 := fun i x h => by
    rw [List.take_add_one, h]
    exact satV_snoc _ _
   have hle : ∀ i, satV ((c :: r).take i) ≤ 1000003 := fun i => satV_le _
   have hz : satV ((c :: r).take 0) = 0 := rfl
   have hz2 : satV [] = 0 := rfl
   have hfull : (c :: r).take (c :: r).length = c :: r := List.take_length
   have hdl : (c :: r).length ≤ 1000000 := by omega
   generalize c :: r = d at *
   refine awp_seq_k fun K5 hK5 => ?_
   (refine awp_sr fun Y hY => ?_; simp [go_sem]; ((repeat' (first|(refine ag_x ?_;simp [go_sem])|intro _|apply And.intro|(apply hY;clear hY Y)));all_goals first|apply Hold.mk|omega|with_reducible assumption|skip))
   refine awp_block ?_
   refine awp_loop (σ := Nat) (fun i => ⟨[(0, .ptr 900002 gb 0), (15, dS d), (16, dI i)], rrH ⟨5, P, N, W, sum⟩ (satV (d.take i)) gb gp gn gw rs⟩) (fun i => i ≤ d.length) (fun i => d.length - i) 0 ?_ ?_ ?_
   ·(refine cov_of ?_ ?_ <;> simp [go_sem, hz2])
   ·omega
   intro i hi
   have hle1 := hle i
   refine awp_seq_k fun K3 hK3 => ?_
   (refine awp_sr fun Y hY => ?_; simp [go_sem]; ((repeat' (first|(refine ag_x ?_;simp [go_sem])|intro _|apply And.intro|(apply hY;clear hY Y)));all_goals first|apply Hold.mk|omega|with_reducible assumption|skip))
   (refine awp_if fun T F hT hF => ?_; simp [go_sem]; refine BR.intro (fun h5 => hT ?_) (fun h5 => hF ?_); all_goals clear hT hF T F; try simp at h5)
   ·refine awp_skip ?_
    refine hK3 _ ?_; clear hK3
    obtain ⟨x, hx⟩ : ∃ x, d[i]? = some x := ⟨_, List.getElem?_eq_getElem (by omega)⟩
    have hx1 := hall i x hx
    have hst1 := hst i x hx
    have hdg : dgt x = x.toNat - 48 := rfl
    refine awp_seq_k fun K4 hK4 => ?_
    refine awp_block ?_
    generalize satV (d.take i) = n at *
    have hw : IntKind.u8.wrap ((x.toNat : Int) - 48) = (x.toNat : Int) - 48 := by
     rw [show IntKind.u8.wrap ((x.toNat : Int) - 48) = ((x.toNat : Int) - 48) % 256 by simp [IntKind.wrap, IntKind.bits, IntKind.signed]]
     omega
    ((refine awp_d (.qs [0, 1, 2, 3, 6, 7, 8, 9, 10, 4, 5, 11, 12, 13, 14] (.one 15 (.nil))) (by kernel_rfl) ?_ ?_ ?_ ?_); (kernel_rfl); (exact (by decide +kernel)); (kernel_rfl); intro Y hY; ((repeat' (first|(refine ag_x ?_;simp [go_sem, hx, hw])|refine adr_nil ?_|((first|refine adr_qs fun Y hY=>?_|refine adr_y fun Y hY=>?_);simp [go_sem, hx, hw])|intro _|apply And.intro|(apply hY;clear hY Y)));all_goals first|apply Hold.mk|omega|with_reducible assumption|skip))
    refine hK4 _ ?_; clear hK4
    (refine awp_r fun Y hY => ?_; simp [go_sem]; ((repeat' (first|(refine ag_x ?_;simp [go_sem])|intro _|apply And.intro|(apply hY;clear hY Y)));all_goals first|apply Hold.mk|omega|with_reducible assumption|skip))
    refine ⟨i + 1, ?_, by omega, by omega⟩
    rw [hst1]
    (refine cov_of ?_ ?_ <;> simp [go_sem])
    rw [hdg]
    split <;> omega
   ·refine awp_exit ?_
    simp only [go_sem]
    rw [if_pos trivial]
    refine hK5 _ ?_; clear hK5
    have : i = d.length := by omega
    subst this
    rw [hfull] at *
    (refine awp_sr fun Y hY => ?_; simp [go_sem]; ((repeat' (first|(refine ag_x ?_;simp [go_sem])|intro _|apply And.intro|(apply hY;clear hY Y)));all_goals first|apply Hold.mk|omega|with_reducible assumption|skip))
    (refine awp_ret ?_; simp [go_sem])
    refine postK_fam (b := 1) (e := 94) (k := 2) (f := mP) rs 0 N.length _ hrl2 (by simp [go_sem]) ?_
    exact ⟨gp, gn, gw, rs, hrs, by simp⟩
  have h48 : ¬ (c = 48 ∧ ¬ r = []) := fun q => by
   obtain ⟨rfl, q⟩ := q
   rcases h2c with h | h
   ·simp at h; exact q h
   ·simp at h
  have hnb : ((c :: r) == s) = false := by rw [beq_eq_false_iff_ne]; exact hne
  by_cases hr0 : r = []
  ·subst hr0
   (refine awp_sr fun Y hY => ?_; simp [go_sem, hne, hnb]; ((repeat' (first|(refine ag_x ?_;simp [go_sem, hne, hnb])|intro _|apply And.intro|(apply hY;clear hY Y)));all_goals first|apply Hold.mk|omega|with_reducible assumption|skip))
   (refine agc_f (dS []) (.inl ⟨rfl,rfl⟩) ?_ rfl ?_; (intro hc args ha; simp [go_sem] at ha; subst ha; exact T1); simp [go_sem, hne, hnb]; ((repeat' (first|(refine ag_x ?_;simp [go_sem, hne, hnb])|intro _|apply And.intro|(apply hY;clear hY Y)));all_goals first|apply Hold.mk|omega|with_reducible assumption|skip))
   (refine awp_if fun T F hT hF => ?_; simp [go_sem, hnb]; refine hF ?_; clear hT hF T F)
   refine awp_skip ?_
   refine main _ ?_
   (refine cov_of ?_ ?_ <;> simp [go_sem])
  ·have hrl0 : 0 < r.length := List.length_pos_iff.2 hr0
   have hrl1 : (0 : Int) < r.length := by omega
   have hc1 : ¬ c = 48 := fun q => h48 ⟨q, hr0⟩
   have hc2 : ¬ c.toNat = 48 := fun q => hc1 (UInt8.toNat_inj.1 q)
   have hc3 : ¬ (c.toNat : Int) = 48 := by omega
   have hq1 : (r.length : Int) + 1 ≤ 9223372036854775807 := by simp at hlen; omega
   have hq2 : (r.length : Int) ≤ 9223372036854775807 := by omega
   have hq3 : (1 : Int) < (r.length : Int) + 1 := by omega
   (refine awp_sr fun Y hY => ?_; simp [go_sem, hne, hnb, hq1, hq2, hq3, hrl0, hrl1]; ((repeat' (first|(refine ag_x ?_;simp [go_sem, hne, hnb, hq1, hq2, hq3, hrl0, hrl1])|intro _|apply And.intro|(apply hY;clear hY Y)));all_goals first|apply Hold.mk|omega|with_reducible assumption|skip))
   (refine agc_f (dS []) (.inl ⟨rfl,rfl⟩) ?_ rfl ?_; (intro hc args ha; simp [go_sem] at ha; subst ha; exact T1); simp [go_sem, hne, hnb, hq1, hq2, hq3, hrl0, hrl1]; ((repeat' (first|(refine ag_x ?_;simp [go_sem, hne, hnb, hq1, hq2, hq3, hrl0, hrl1])|intro _|apply And.intro|(apply hY;clear hY Y)));all_goals first|apply Hold.mk|omega|with_reducible assumption|skip))
   (refine awp_if fun T F hT hF => ?_; simp [go_sem, hnb, hc2, hc3]; refine hF ?_; clear hT hF T F)
   refine awp_skip ?_
   refine main _ ?_
   (refine cov_of ?_ ?_ <;> simp [go_sem])
 ·cases he
theorem spl_deep {s : Bs} (h4 : pre4.isPrefixOf s = true) : (splV (s.drop 2) false).2.2 = false := by
 obtain ⟨t, ht⟩ := List.isPrefixOf_iff_prefix.1 h4
 have e : s.drop 2 = [] ++ ([32] ++ (32 :: t)) := by rw [← ht]; rfl
 have hc : Lib.cut (s.drop 2) [32] = ([], 32 :: t, true) := by
  rw [e]
  exact cut_at (a := []) (c := 32) (t := []) (r := 32 :: t) (by simp)
 rw [spl_eq false hc, if_pos (.inl rfl)]
set_option maxHeartbeats 8000000 in
theorem rline5_bad (P W : List Prs) (N : List (List Prs)) (sum : Bs) (n0 : Nat) (s : Bs) (gb gp gn gw : Nat) (rs : List (Nat × List Prs)) (n : Nat) (hp : PsOk ⟨n + 5, P, N, W, sum⟩ rs) (hl : s.length ≤ 1000000) (he : lineV ⟨n + 5, P, N, W, sum⟩ s = none) :
  ACall Tryz.prog 71 [.ptr 900002 gb 0, dS s] (rrH ⟨n + 5, P, N, W, sum⟩ n0 gb gp gn gw rs) (900002 :: 900003 :: 900004 :: 900005 :: famS 1 0 N.length)
   fun ps r => r = dB false := by 
 refine acall_of Tryz.func71 rfl rfl Tryz.ntmps71 (rs := [.tmp 4]) (tys := [4]) rfl rfl (by simp) ?_ ?_
 ·exact rrH_ok _ n0 gb gp gn gw rs _ (by have h2 := congrArg List.length hp.en; simp only [List.length_map] at h2; omega)
 have hq := hp
 obtain ⟨hrs, hnl, hpl, hwl, hrl⟩ := hp
 simp only at hrs hnl hpl hwl hrl
 have hrl2 := congrArg List.length hrs
 simp only [List.length_map] at hrl2
 have n0 : ¬ ((n : Int) + 5 = 0) := by omega
 have n1 : ¬ ((n : Int) + 5 = 1) := by omega
 have n2 : ¬ ((n : Int) + 5 = 2) := by omega
 have n3 : ¬ ((n : Int) + 5 = 3) := by omega
 have n4 : ¬ ((n : Int) + 5 = 4) := by omega
 (refine awp_sr fun Y hY => ?_; simp [go_sem]; ((repeat' (first|(refine ag_x ?_;simp [go_sem])|intro _|apply And.intro|(apply hY;clear hY Y)));all_goals first|apply Hold.mk|omega|with_reducible assumption|skip))
 refine awp_seq_k fun K1 hK1 => ?_
 (refine awp_sr fun Y hY => ?_; simp [go_sem]; ((repeat' (first|(refine ag_x ?_;simp [go_sem])|intro _|apply And.intro|(apply hY;clear hY Y)));all_goals first|apply Hold.mk|omega|with_reducible assumption|skip))
 refine awp_block ?_
 (refine awp_sr fun Y hY => ?_; simp [go_sem, n0]; ((repeat' (first|(refine ag_x ?_;simp [go_sem, n0])|intro _|apply And.intro|(apply hY;clear hY Y)));all_goals first|apply Hold.mk|omega|with_reducible assumption|skip))
 (refine awp_if fun T F hT hF => ?_; simp [go_sem, n0]; refine hF ?_; clear hT hF T F)
 (refine awp_sr fun Y hY => ?_; simp [go_sem, n1]; ((repeat' (first|(refine ag_x ?_;simp [go_sem, n1])|intro _|apply And.intro|(apply hY;clear hY Y)));all_goals first|apply Hold.mk|omega|with_reducible assumption|skip))
 (refine awp_if fun T F hT hF => ?_; simp [go_sem, n1]; refine hF ?_; clear hT hF T F)
 (refine awp_sr fun Y hY => ?_; simp [go_sem, n2]; ((repeat' (first|(refine ag_x ?_;simp [go_sem, n2])|intro _|apply And.intro|(apply hY;clear hY Y)));all_goals first|apply Hold.mk|omega|with_reducible assumption|skip))
 (refine awp_if fun T F hT hF => ?_; simp [go_sem, n2]; refine hF ?_; clear hT hF T F)
 (refine awp_sr fun Y hY => ?_; simp [go_sem, n3]; ((repeat' (first|(refine ag_x ?_;simp [go_sem, n3])|intro _|apply And.intro|(apply hY;clear hY Y)));all_goals first|apply Hold.mk|omega|with_reducible assumption|skip))
 (refine awp_if fun T F hT hF => ?_; simp [go_sem, n3]; refine hF ?_; clear hT hF T F)
 (refine awp_sr fun Y hY => ?_; simp [go_sem, n4]; ((repeat' (first|(refine ag_x ?_;simp [go_sem, n4])|intro _|apply And.intro|(apply hY;clear hY Y)));all_goals first|apply Hold.mk|omega|with_reducible assumption|skip))
 (refine awp_if fun T F hT hF => ?_; simp [go_sem, n4]; refine hF ?_; clear hT hF T F)
 refine awp_skip ?_
 refine hK1 _ ?_; clear hK1
 (refine awp_sr fun Y hY => ?_; simp [go_sem]; ((repeat' (first|(refine ag_x ?_;simp [go_sem])|intro _|apply And.intro|(apply hY;clear hY Y)));all_goals first|apply Hold.mk|omega|with_reducible assumption|skip))
 (refine awp_ret ?_; simp [go_sem])
 exact postK_fam (b := 1) (e := 94) (k := 2) (f := mP) rs 0 N.length _ hrl2 (by first | (simp [go_sem]; done) | exact FamIn.refl _ _ | (simp [go_sem]; exact FamIn.app _ _)) (by simp)
set_option maxHeartbeats 8000000 in
theorem rline0_bad (P W : List Prs) (N : List (List Prs)) (sum : Bs) (n0 : Nat) (s : Bs) (gb gp gn gw : Nat) (rs : List (Nat × List Prs)) (hp : PsOk ⟨0, P, N, W, sum⟩ rs) (hl : s.length ≤ 1000000) (he : lineV ⟨0, P, N, W, sum⟩ s = none) :
  ACall Tryz.prog 71 [.ptr 900002 gb 0, dS s] (rrH ⟨0, P, N, W, sum⟩ n0 gb gp gn gw rs) (900002 :: 900003 :: 900004 :: 900005 :: famS 1 0 N.length)
   fun ps r => r = dB false := by 
 refine acall_of Tryz.func71 rfl rfl Tryz.ntmps71 (rs := [.tmp 4]) (tys := [4]) rfl rfl (by simp) ?_ ?_
 ·exact rrH_ok _ n0 gb gp gn gw rs _ (by have h2 := congrArg List.length hp.en; simp only [List.length_map] at h2; omega)
 have hq := hp
 obtain ⟨hrs, hnl, hpl, hwl, hrl⟩ := hp
 simp only at hrs hnl hpl hwl hrl
 have hrl2 := congrArg List.length hrs
 simp only [List.length_map] at hrl2
 simp only [lineV] at he
 have h1 : ¬ s = gemsT := fun q => by rw [if_pos q] at he; cases he
 have h2 : ¬ s = [71, 69, 77, 83] := h1
 (refine awp_sr fun Y hY => ?_; simp [go_sem]; ((repeat' (first|(refine ag_x ?_;simp [go_sem])|intro _|apply And.intro|(apply hY;clear hY Y)));all_goals first|apply Hold.mk|omega|with_reducible assumption|skip))
 refine awp_seq_k fun K1 hK1 => ?_
 (refine awp_sr fun Y hY => ?_; simp [go_sem]; ((repeat' (first|(refine ag_x ?_;simp [go_sem])|intro _|apply And.intro|(apply hY;clear hY Y)));all_goals first|apply Hold.mk|omega|with_reducible assumption|skip))
 refine awp_block ?_
 (refine awp_sr fun Y hY => ?_; simp [go_sem]; ((repeat' (first|(refine ag_x ?_;simp [go_sem])|intro _|apply And.intro|(apply hY;clear hY Y)));all_goals first|apply Hold.mk|omega|with_reducible assumption|skip))
 (refine awp_if fun T F hT hF => ?_; simp [go_sem]; refine hT ?_; clear hT hF T F)
 (refine awp_sr fun Y hY => ?_; simp [go_sem]; ((repeat' (first|(refine ag_x ?_;simp [go_sem])|intro _|apply And.intro|(apply hY;clear hY Y)));all_goals first|apply Hold.mk|omega|with_reducible assumption|skip))
 (refine awp_sr fun Y hY => ?_; simp [go_sem]; ((repeat' (first|(refine ag_x ?_;simp [go_sem])|intro _|apply And.intro|(apply hY;clear hY Y)));all_goals first|apply Hold.mk|omega|with_reducible assumption|skip))
 (refine awp_ret ?_; simp [go_sem, h2])
 exact postK_fam (b := 1) (e := 94) (k := 2) (f := mP) rs 0 N.length _ hrl2 (by first | (simp [go_sem]; done) | exact FamIn.refl _ _ | (simp [go_sem]; exact FamIn.app _ _)) (by simp)
set_option maxHeartbeats 8000000 in
theorem rline2_bad (P W : List Prs) (N : List (List Prs)) (sum : Bs) (n0 : Nat) (s : Bs) (gb gp gn gw : Nat) (rs : List (Nat × List Prs)) (hp : PsOk ⟨2, P, N, W, sum⟩ rs) (hl : s.length ≤ 1000000) (he : lineV ⟨2, P, N, W, sum⟩ s = none) :
  ACall Tryz.prog 71 [.ptr 900002 gb 0, dS s] (rrH ⟨2, P, N, W, sum⟩ n0 gb gp gn gw rs) (900002 :: 900003 :: 900004 :: 900005 :: famS 1 0 N.length)
   fun ps r => r = dB false := by 
 refine acall_of Tryz.func71 rfl rfl Tryz.ntmps71 (rs := [.tmp 4]) (tys := [4]) rfl rfl (by simp) ?_ ?_
 ·exact rrH_ok _ n0 gb gp gn gw rs _ (by have h2 := congrArg List.length hp.en; simp only [List.length_map] at h2; omega)
 have hq := hp
 obtain ⟨hrs, hnl, hpl, hwl, hrl⟩ := hp
 simp only at hrs hnl hpl hwl hrl
 have hrl2 := congrArg List.length hrs
 simp only [List.length_map] at hrl2
 simp only [lineV] at he
 have h1 : ¬ s = wishT := fun q => by rw [if_pos q] at he; cases he
 have h2 : ¬ s = [87, 73, 83, 72] := h1
 (refine awp_sr fun Y hY => ?_; simp [go_sem]; ((repeat' (first|(refine ag_x ?_;simp [go_sem])|intro _|apply And.intro|(apply hY;clear hY Y)));all_goals first|apply Hold.mk|omega|with_reducible assumption|skip))
 refine awp_seq_k fun K1 hK1 => ?_
 (refine awp_sr fun Y hY => ?_; simp [go_sem]; ((repeat' (first|(refine ag_x ?_;simp [go_sem])|intro _|apply And.intro|(apply hY;clear hY Y)));all_goals first|apply Hold.mk|omega|with_reducible assumption|skip))
 refine awp_block ?_
 (refine awp_sr fun Y hY => ?_; simp [go_sem]; ((repeat' (first|(refine ag_x ?_;simp [go_sem])|intro _|apply And.intro|(apply hY;clear hY Y)));all_goals first|apply Hold.mk|omega|with_reducible assumption|skip))
 (refine awp_if fun T F hT hF => ?_; simp [go_sem]; refine hF ?_; clear hT hF T F)
 (refine awp_sr fun Y hY => ?_; simp [go_sem]; ((repeat' (first|(refine ag_x ?_;simp [go_sem])|intro _|apply And.intro|(apply hY;clear hY Y)));all_goals first|apply Hold.mk|omega|with_reducible assumption|skip))
 (refine awp_if fun T F hT hF => ?_; simp [go_sem]; refine hF ?_; clear hT hF T F)
 (refine awp_sr fun Y hY => ?_; simp [go_sem]; ((repeat' (first|(refine ag_x ?_;simp [go_sem])|intro _|apply And.intro|(apply hY;clear hY Y)));all_goals first|apply Hold.mk|omega|with_reducible assumption|skip))
 (refine awp_if fun T F hT hF => ?_; simp [go_sem]; refine hT ?_; clear hT hF T F)
 (refine awp_sr fun Y hY => ?_; simp [go_sem]; ((repeat' (first|(refine ag_x ?_;simp [go_sem])|intro _|apply And.intro|(apply hY;clear hY Y)));all_goals first|apply Hold.mk|omega|with_reducible assumption|skip))
 (refine awp_sr fun Y hY => ?_; simp [go_sem]; ((repeat' (first|(refine ag_x ?_;simp [go_sem])|intro _|apply And.intro|(apply hY;clear hY Y)));all_goals first|apply Hold.mk|omega|with_reducible assumption|skip))
 (refine awp_ret ?_; simp [go_sem, h2])
 exact postK_fam (b := 1) (e := 94) (k := 2) (f := mP) rs 0 N.length _ hrl2 (by first | (simp [go_sem]; done) | exact FamIn.refl _ _ | (simp [go_sem]; exact FamIn.app _ _)) (by simp)
set_option maxHeartbeats 8000000 in
theorem rline3_bad (P W : List Prs) (N : List (List Prs)) (sum : Bs) (n0 : Nat) (s : Bs) (gb gp gn gw : Nat) (rs : List (Nat × List Prs)) (hp : PsOk ⟨3, P, N, W, sum⟩ rs) (hl : s.length ≤ 1000000) (he : lineV ⟨3, P, N, W, sum⟩ s = none) :
  ACall Tryz.prog 71 [.ptr 900002 gb 0, dS s] (rrH ⟨3, P, N, W, sum⟩ n0 gb gp gn gw rs) (900002 :: 900003 :: 900004 :: 900005 :: famS 1 0 N.length)
   fun ps r => r = dB false := by 
 refine acall_of Tryz.func71 rfl rfl Tryz.ntmps71 (rs := [.tmp 4]) (tys := [4]) rfl rfl (by simp) ?_ ?_
 ·exact rrH_ok _ n0 gb gp gn gw rs _ (by have h2 := congrArg List.length hp.en; simp only [List.length_map] at h2; omega)
 have hq := hp
 obtain ⟨hrs, hnl, hpl, hwl, hrl⟩ := hp
 simp only at hrs hnl hpl hwl hrl
 have hrl2 := congrArg List.length hrs
 simp only [List.length_map] at hrl2
 simp only [lineV] at he
 have H2 := hasPre_spec s pre2 (by omega) (by decide)
 (refine awp_sr fun Y hY => ?_; simp [go_sem]; ((repeat' (first|(refine ag_x ?_;simp [go_sem])|intro _|apply And.intro|(apply hY;clear hY Y)));all_goals first|apply Hold.mk|omega|with_reducible assumption|skip))
 refine awp_seq_k fun K1 hK1 => ?_
 (refine awp_sr fun Y hY => ?_; simp [go_sem]; ((repeat' (first|(refine ag_x ?_;simp [go_sem])|intro _|apply And.intro|(apply hY;clear hY Y)));all_goals first|apply Hold.mk|omega|with_reducible assumption|skip))
 refine awp_block ?_
 (refine awp_sr fun Y hY => ?_; simp [go_sem]; ((repeat' (first|(refine ag_x ?_;simp [go_sem])|intro _|apply And.intro|(apply hY;clear hY Y)));all_goals first|apply Hold.mk|omega|with_reducible assumption|skip))
 (refine awp_if fun T F hT hF => ?_; simp [go_sem]; refine hF ?_; clear hT hF T F)
 (refine awp_sr fun Y hY => ?_; simp [go_sem]; ((repeat' (first|(refine ag_x ?_;simp [go_sem])|intro _|apply And.intro|(apply hY;clear hY Y)));all_goals first|apply Hold.mk|omega|with_reducible assumption|skip))
 (refine awp_if fun T F hT hF => ?_; simp [go_sem]; refine hF ?_; clear hT hF T F)
 (refine awp_sr fun Y hY => ?_; simp [go_sem]; ((repeat' (first|(refine ag_x ?_;simp [go_sem])|intro _|apply And.intro|(apply hY;clear hY Y)));all_goals first|apply Hold.mk|omega|with_reducible assumption|skip))
 (refine awp_if fun T F hT hF => ?_; simp [go_sem]; refine hF ?_; clear hT hF T F)
 (refine awp_sr fun Y hY => ?_; simp [go_sem]; ((repeat' (first|(refine ag_x ?_;simp [go_sem])|intro _|apply And.intro|(apply hY;clear hY Y)));all_goals first|apply Hold.mk|omega|with_reducible assumption|skip))
 (refine awp_if fun T F hT hF => ?_; simp [go_sem]; refine hT ?_; clear hT hF T F)
 refine awp_seq_k fun K2 hK2 => ?_
 split at he
 ·cases he
 ·rename_i h1
  have h1' : s.isEmpty = false := by cases s with
   | nil => exact absurd rfl h1
   | cons => rfl
  (refine awp_sr fun Y hY => ?_; simp [go_sem]; ((repeat' (first|(refine ag_x ?_;simp [go_sem])|intro _|apply And.intro|(apply hY;clear hY Y)));all_goals first|apply Hold.mk|omega|with_reducible assumption|skip))
  (refine awp_if fun T F hT hF => ?_; simp [go_sem, h1, h1']; refine hF ?_; clear hT hF T F)
  refine awp_skip ?_
  refine hK2 _ ?_; clear hK2
  unfold entryV at he
  simp only at he
  refine awp_seq_k fun K3 hK3 => ?_
  by_cases h2 : pre2.isPrefixOf s = true
  ·rw [h2] at H2
   have h2l : 2 ≤ s.length := (List.isPrefixOf_iff_prefix.1 h2).length_le
   have h2i : (2 : Int) ≤ s.length := by omega
   have S1 := split_spec' (s.drop 2) false (by rw [List.length_drop]; omega)
   have hsp := spl_nmd (s.drop 2) false
   have hF : (splV (s.drop 2) false).2.2 = false := by
    by_cases h4 : pre4.isPrefixOf s = true
    ·exact spl_deep h4
    ·rw [if_neg h4, if_pos h2] at he
     cases hn : nmdV (s.drop 2) with
     | none => rw [hn] at hsp; exact hsp
     | some x =>
      obtain ⟨n, i, b⟩ := x
      rw [hn] at he
      simp at he
   clear hsp
   generalize splV (s.drop 2) false = q at *
   obtain ⟨q1, q2, q3⟩ := q
   simp only at S1 hF
   subst hF
   (refine awp_sr fun Y hY => ?_; simp [go_sem]; ((repeat' (first|(refine ag_x ?_;simp [go_sem])|intro _|apply And.intro|(apply hY;clear hY Y)));all_goals first|apply Hold.mk|omega|with_reducible assumption|skip))
   ((try refine CallT.toA ?_); refine callT_m (.inl ⟨rfl,rfl⟩) (by simp [go_sem]) ?_; intro args ha; simp [go_sem] at ha; subst ha; refine ⟨_, H2, ?_⟩; rintro _ rfl; simp [go_sem]; ((repeat' (first|(refine ag_x ?_;simp [go_sem])|intro _|apply And.intro|(apply hY;clear hY Y)));all_goals first|apply Hold.mk|omega|with_reducible assumption|skip))
   (refine awp_if fun T F hT hF => ?_; simp [go_sem]; refine hF ?_; clear hT hF T F)
   refine awp_skip ?_
   refine hK3 _ ?_; clear hK3
   (refine awp_sr fun Y hY => ?_; simp [go_sem, h2i, h2l]; ((repeat' (first|(refine ag_x ?_;simp [go_sem, h2i, h2l])|intro _|apply And.intro|(apply hY;clear hY Y)));all_goals first|apply Hold.mk|omega|with_reducible assumption|skip))
   ((try refine CallT.toA ?_); refine callT_m (.inl ⟨rfl,rfl⟩) (by simp [go_sem]) ?_; intro args ha; simp [go_sem] at ha; subst ha; refine ⟨_, (by rw [ba_drop]; exact S1), ?_⟩; rintro _ rfl; simp [go_sem]; ((repeat' (first|(refine ag_x ?_;simp [go_sem])|intro _|apply And.intro|(apply hY;clear hY Y)));all_goals first|apply Hold.mk|omega|with_reducible assumption|skip))
   (refine awp_sr fun Y hY => ?_; simp [go_sem]; ((repeat' (first|(refine ag_x ?_;simp [go_sem])|intro _|apply And.intro|(apply hY;clear hY Y)));all_goals first|apply Hold.mk|omega|with_reducible assumption|skip))
   (refine awp_sr fun Y hY => ?_; simp [go_sem]; ((repeat' (first|(refine ag_x ?_;simp [go_sem])|intro _|apply And.intro|(apply hY;clear hY Y)));all_goals first|apply Hold.mk|omega|with_reducible assumption|skip))
   (refine awp_ret ?_; simp [go_sem])
   exact postK_fam (b := 1) (e := 94) (k := 2) (f := mP) rs 0 N.length _ hrl2 (by first | (simp [go_sem]; done) | exact FamIn.refl _ _ | (simp [go_sem]; exact FamIn.app _ _)) (by simp)
  ·have h2' : pre2.isPrefixOf s = false := by
    cases h : pre2.isPrefixOf s with
    | false => rfl
    | true => exact absurd h h2
   rw [h2'] at H2
   (refine awp_sr fun Y hY => ?_; simp [go_sem]; ((repeat' (first|(refine ag_x ?_;simp [go_sem])|intro _|apply And.intro|(apply hY;clear hY Y)));all_goals first|apply Hold.mk|omega|with_reducible assumption|skip))
   ((try refine CallT.toA ?_); refine callT_m (.inl ⟨rfl,rfl⟩) (by simp [go_sem]) ?_; intro args ha; simp [go_sem] at ha; subst ha; refine ⟨_, H2, ?_⟩; rintro _ rfl; simp [go_sem]; ((repeat' (first|(refine ag_x ?_;simp [go_sem])|intro _|apply And.intro|(apply hY;clear hY Y)));all_goals first|apply Hold.mk|omega|with_reducible assumption|skip))
   (refine awp_if fun T F hT hF => ?_; simp [go_sem]; refine hT ?_; clear hT hF T F)
   (refine awp_sr fun Y hY => ?_; simp [go_sem]; ((repeat' (first|(refine ag_x ?_;simp [go_sem])|intro _|apply And.intro|(apply hY;clear hY Y)));all_goals first|apply Hold.mk|omega|with_reducible assumption|skip))
   (refine awp_ret ?_; simp [go_sem])
   exact postK_fam (b := 1) (e := 94) (k := 2) (f := mP) rs 0 N.length _ hrl2 (by first | (simp [go_sem]; done) | exact FamIn.refl _ _ | (simp [go_sem]; exact FamIn.app _ _)) (by simp)
set_option maxHeartbeats 8000000 in
theorem rline1_bad (P W : List Prs) (N : List (List Prs)) (sum : Bs) (n0 : Nat) (s : Bs) (gb gp gn gw : Nat) (rs : List (Nat × List Prs)) (hp : PsOk ⟨1, P, N, W, sum⟩ rs) (hl : s.length ≤ 1000000) (he : lineV ⟨1, P, N, W, sum⟩ s = none) :
  ACall Tryz.prog 71 [.ptr 900002 gb 0, dS s] (rrH ⟨1, P, N, W, sum⟩ n0 gb gp gn gw rs) (900002 :: 900003 :: 900004 :: 900005 :: famS 1 0 N.length)
   fun ps r => r = dB false := by 
 refine acall_of Tryz.func71 rfl rfl Tryz.ntmps71 (rs := [.tmp 4]) (tys := [4]) rfl rfl (by simp) ?_ ?_
 ·exact rrH_ok _ n0 gb gp gn gw rs _ (by have h2 := congrArg List.length hp.en; simp only [List.length_map] at h2; omega)
 have hq := hp
 obtain ⟨hrs, hnl, hpl, hwl, hrl⟩ := hp
 simp only at hrs hnl hpl hwl hrl
 have hrl2 := congrArg List.length hrs
 simp only [List.length_map] at hrl2
 simp only [lineV] at he
 have H4 := hasPre_spec s pre4 (by omega) (by decide)
 have H2 := hasPre_spec s pre2 (by omega) (by decide)
 (refine awp_sr fun Y hY => ?_; simp [go_sem]; ((repeat' (first|(refine ag_x ?_;simp [go_sem])|intro _|apply And.intro|(apply hY;clear hY Y)));all_goals first|apply Hold.mk|omega|with_reducible assumption|skip))
 refine awp_seq_k fun K1 hK1 => ?_
 (refine awp_sr fun Y hY => ?_; simp [go_sem]; ((repeat' (first|(refine ag_x ?_;simp [go_sem])|intro _|apply And.intro|(apply hY;clear hY Y)));all_goals first|apply Hold.mk|omega|with_reducible assumption|skip))
 refine awp_block ?_
 (refine awp_sr fun Y hY => ?_; simp [go_sem]; ((repeat' (first|(refine ag_x ?_;simp [go_sem])|intro _|apply And.intro|(apply hY;clear hY Y)));all_goals first|apply Hold.mk|omega|with_reducible assumption|skip))
 (refine awp_if fun T F hT hF => ?_; simp [go_sem]; refine hF ?_; clear hT hF T F)
 (refine awp_sr fun Y hY => ?_; simp [go_sem]; ((repeat' (first|(refine ag_x ?_;simp [go_sem])|intro _|apply And.intro|(apply hY;clear hY Y)));all_goals first|apply Hold.mk|omega|with_reducible assumption|skip))
 (refine awp_if fun T F hT hF => ?_; simp [go_sem]; refine hT ?_; clear hT hF T F)
 refine awp_seq_k fun K2 hK2 => ?_
 split at he
 ·cases he
 ·rename_i h1
  have h1' : s.isEmpty = false := by cases s with
   | nil => exact absurd rfl h1
   | cons => rfl
  (refine awp_sr fun Y hY => ?_; simp [go_sem]; ((repeat' (first|(refine ag_x ?_;simp [go_sem])|intro _|apply And.intro|(apply hY;clear hY Y)));all_goals first|apply Hold.mk|omega|with_reducible assumption|skip))
  (refine awp_if fun T F hT hF => ?_; simp [go_sem, h1, h1']; refine hF ?_; clear hT hF T F)
  refine awp_skip ?_
  refine hK2 _ ?_; clear hK2
  unfold entryV at he
  simp only at he
  refine awp_seq_k fun K3 hK3 => ?_
  by_cases h4 : pre4.isPrefixOf s = true
  ·rw [if_pos h4] at he
   rw [h4] at H4
   have h4l : 4 ≤ s.length := (List.isPrefixOf_iff_prefix.1 h4).length_le
   have h4i : (4 : Int) ≤ s.length := by omega
   have S1 := split_spec' (s.drop 4) false (by rw [List.length_drop]; omega)
   have hsp := spl_nmd (s.drop 4) false
   have hF : (splV (s.drop 4) false).2.2 = false ∨ N.length = 0 := by
    cases hn : nmdV (s.drop 4) with
    | none => rw [hn] at hsp; exact .inl hsp
    | some x =>
     obtain ⟨n, i, b⟩ := x
     rw [hn] at he
     simp at he
     exact .inr (by rw [hnl, he]; rfl)
   clear hsp he
   generalize splV (s.drop 4) false = q at *
   obtain ⟨q1, q2, q3⟩ := q
   simp only at S1 hF
   (refine awp_sr fun Y hY => ?_; simp [go_sem]; ((repeat' (first|(refine ag_x ?_;simp [go_sem])|intro _|apply And.intro|(apply hY;clear hY Y)));all_goals first|apply Hold.mk|omega|with_reducible assumption|skip))
   ((try refine CallT.toA ?_); refine callT_m (.inl ⟨rfl,rfl⟩) (by simp [go_sem]) ?_; intro args ha; simp [go_sem] at ha; subst ha; refine ⟨_, H4, ?_⟩; rintro _ rfl; simp [go_sem]; ((repeat' (first|(refine ag_x ?_;simp [go_sem])|intro _|apply And.intro|(apply hY;clear hY Y)));all_goals first|apply Hold.mk|omega|with_reducible assumption|skip))
   (refine awp_if fun T F hT hF => ?_; simp [go_sem]; refine hT ?_; clear hT hF T F)
   (refine awp_sr fun Y hY => ?_; simp [go_sem, h4i, h4l]; ((repeat' (first|(refine ag_x ?_;simp [go_sem, h4i, h4l])|intro _|apply And.intro|(apply hY;clear hY Y)));all_goals first|apply Hold.mk|omega|with_reducible assumption|skip))
   ((try refine CallT.toA ?_); refine callT_m (.inl ⟨rfl,rfl⟩) (by simp [go_sem]) ?_; intro args ha; simp [go_sem] at ha; subst ha; refine ⟨_, (by rw [ba_drop]; exact S1), ?_⟩; rintro _ rfl; simp [go_sem]; ((repeat' (first|(refine ag_x ?_;simp [go_sem])|intro _|apply And.intro|(apply hY;clear hY Y)));all_goals first|apply Hold.mk|omega|with_reducible assumption|skip))
   have fl : (famO 1 0 rs).length = N.length := by rw [famO_len]; exact hrl2
   (refine awp_sr fun Y hY => ?_; simp [go_sem]; ((repeat' (first|(refine ag_x ?_;simp [go_sem])|intro _|apply And.intro|(apply hY;clear hY Y)));all_goals first|apply Hold.mk|omega|with_reducible assumption|skip))
   refine awp_seq_k fun K5 hK5 => ?_
   cases q3 with
   | false =>
    (refine awp_sr fun Y hY => ?_; simp [go_sem]; ((repeat' (first|(refine ag_x ?_;simp [go_sem])|intro _|apply And.intro|(apply hY;clear hY Y)));all_goals first|apply Hold.mk|omega|with_reducible assumption|skip))
    (refine awp_if fun T F hT hF => ?_; simp [go_sem]; refine hT ?_; clear hT hF T F)
    (refine awp_sr fun Y hY => ?_; simp [go_sem]; ((repeat' (first|(refine ag_x ?_;simp [go_sem])|intro _|apply And.intro|(apply hY;clear hY Y)));all_goals first|apply Hold.mk|omega|with_reducible assumption|skip))
    (refine awp_ret ?_; simp [go_sem])
    exact postK_fam (b := 1) (e := 94) (k := 2) (f := mP) rs 0 N.length _ hrl2 (by first | (simp [go_sem]; done) | exact FamIn.refl _ _ | (simp [go_sem]; exact FamIn.app _ _)) (by simp)
   | true =>
    have hN0 : rs.length = 0 := by
     rcases hF with h | h
     ·cases h
     ·omega
    obtain rfl := List.length_eq_zero_iff.1 hN0
    (refine awp_sr fun Y hY => ?_; simp [go_sem]; ((repeat' (first|(refine ag_x ?_;simp [go_sem])|intro _|apply And.intro|(apply hY;clear hY Y)));all_goals first|apply Hold.mk|omega|with_reducible assumption|skip))
    (refine awp_if fun T F hT hF => ?_; simp [go_sem]; refine hT ?_; clear hT hF T F)
    (refine awp_sr fun Y hY => ?_; simp [go_sem]; ((repeat' (first|(refine ag_x ?_;simp [go_sem])|intro _|apply And.intro|(apply hY;clear hY Y)));all_goals first|apply Hold.mk|omega|with_reducible assumption|skip))
    (refine awp_ret ?_; simp [go_sem])
    exact postK_fam (b := 1) (e := 94) (k := 2) (f := mP) [] 0 N.length _ hrl2 (by first | (simp [go_sem]; done) | exact FamIn.refl _ _ | (simp [go_sem]; exact FamIn.app _ _)) (by simp)
  ·rw [if_neg h4] at he
   have h4' : pre4.isPrefixOf s = false := by
    cases h : pre4.isPrefixOf s with
    | false => rfl
    | true => exact absurd h h4
   rw [h4'] at H4
   by_cases h2 : pre2.isPrefixOf s = true
   ·rw [if_pos h2] at he
    rw [h2] at H2
    have h2l : 2 ≤ s.length := (List.isPrefixOf_iff_prefix.1 h2).length_le
    have h2i : (2 : Int) ≤ s.length := by omega
    have S1 := split_spec' (s.drop 2) true (by rw [List.length_drop]; omega)
    have hsp := spl_nmd (s.drop 2) true
    have hF : (splV (s.drop 2) true).2.2 = false := by
     cases hn : nmdV (s.drop 2) with
     | none => rw [hn] at hsp; exact hsp
     | some x =>
      obtain ⟨n, i, b⟩ := x
      rw [hn] at he hsp
      simp at he
      subst he
      simpa using hsp
    clear hsp he
    generalize splV (s.drop 2) true = q at *
    obtain ⟨q1, q2, q3⟩ := q
    simp only at S1 hF
    subst hF
    (refine awp_sr fun Y hY => ?_; simp [go_sem]; ((repeat' (first|(refine ag_x ?_;simp [go_sem])|intro _|apply And.intro|(apply hY;clear hY Y)));all_goals first|apply Hold.mk|omega|with_reducible assumption|skip))
    ((try refine CallT.toA ?_); refine callT_m (.inl ⟨rfl,rfl⟩) (by simp [go_sem]) ?_; intro args ha; simp [go_sem] at ha; subst ha; refine ⟨_, H4, ?_⟩; rintro _ rfl; simp [go_sem]; ((repeat' (first|(refine ag_x ?_;simp [go_sem])|intro _|apply And.intro|(apply hY;clear hY Y)));all_goals first|apply Hold.mk|omega|with_reducible assumption|skip))
    (refine awp_if fun T F hT hF => ?_; simp [go_sem]; refine hF ?_; clear hT hF T F)
    refine awp_skip ?_
    refine hK3 _ ?_; clear hK3
    refine awp_seq_k fun K4 hK4 => ?_
    (refine awp_sr fun Y hY => ?_; simp [go_sem]; ((repeat' (first|(refine ag_x ?_;simp [go_sem])|intro _|apply And.intro|(apply hY;clear hY Y)));all_goals first|apply Hold.mk|omega|with_reducible assumption|skip))
    ((try refine CallT.toA ?_); refine callT_m (.inl ⟨rfl,rfl⟩) (by simp [go_sem]) ?_; intro args ha; simp [go_sem] at ha; subst ha; refine ⟨_, H2, ?_⟩; rintro _ rfl; simp [go_sem]; ((repeat' (first|(refine ag_x ?_;simp [go_sem])|intro _|apply And.intro|(apply hY;clear hY Y)));all_goals first|apply Hold.mk|omega|with_reducible assumption|skip))
    (refine awp_if fun T F hT hF => ?_; simp [go_sem]; refine hF ?_; clear hT hF T F)
    refine awp_skip ?_
    refine hK4 _ ?_; clear hK4
    (refine awp_sr fun Y hY => ?_; simp [go_sem, h2i, h2l]; ((repeat' (first|(refine ag_x ?_;simp [go_sem, h2i, h2l])|intro _|apply And.intro|(apply hY;clear hY Y)));all_goals first|apply Hold.mk|omega|with_reducible assumption|skip))
    ((try refine CallT.toA ?_); refine callT_m (.inl ⟨rfl,rfl⟩) (by simp [go_sem]) ?_; intro args ha; simp [go_sem] at ha; subst ha; refine ⟨_, (by rw [ba_drop]; exact S1), ?_⟩; rintro _ rfl; simp [go_sem]; ((repeat' (first|(refine ag_x ?_;simp [go_sem])|intro _|apply And.intro|(apply hY;clear hY Y)));all_goals first|apply Hold.mk|omega|with_reducible assumption|skip))
    (refine awp_sr fun Y hY => ?_; simp [go_sem]; ((repeat' (first|(refine ag_x ?_;simp [go_sem])|intro _|apply And.intro|(apply hY;clear hY Y)));all_goals first|apply Hold.mk|omega|with_reducible assumption|skip))
    (refine awp_sr fun Y hY => ?_; simp [go_sem]; ((repeat' (first|(refine ag_x ?_;simp [go_sem])|intro _|apply And.intro|(apply hY;clear hY Y)));all_goals first|apply Hold.mk|omega|with_reducible assumption|skip))
    (refine awp_sr fun Y hY => ?_; simp [go_sem]; ((repeat' (first|(refine ag_x ?_;simp [go_sem])|intro _|apply And.intro|(apply hY;clear hY Y)));all_goals first|apply Hold.mk|omega|with_reducible assumption|skip))
    (refine awp_ret ?_; simp [go_sem])
    exact postK_fam (b := 1) (e := 94) (k := 2) (f := mP) rs 0 N.length _ hrl2 (by first | (simp [go_sem]; done) | exact FamIn.refl _ _ | (simp [go_sem]; exact FamIn.app _ _)) (by simp)
   ·have h2' : pre2.isPrefixOf s = false := by
     cases h : pre2.isPrefixOf s with
     | false => rfl
     | true => exact absurd h h2
    rw [h2'] at H2
    (refine awp_sr fun Y hY => ?_; simp [go_sem]; ((repeat' (first|(refine ag_x ?_;simp [go_sem])|intro _|apply And.intro|(apply hY;clear hY Y)));all_goals first|apply Hold.mk|omega|with_reducible assumption|skip))
    ((try refine CallT.toA ?_); refine callT_m (.inl ⟨rfl,rfl⟩) (by simp [go_sem]) ?_; intro args ha; simp [go_sem] at ha; subst ha; refine ⟨_, H4, ?_⟩; rintro _ rfl; simp [go_sem]; ((repeat' (first|(refine ag_x ?_;simp [go_sem])|intro _|apply And.intro|(apply hY;clear hY Y)));all_goals first|apply Hold.mk|omega|with_reducible assumption|skip))
    (refine awp_if fun T F hT hF => ?_; simp [go_sem]; refine hF ?_; clear hT hF T F)
    refine awp_skip ?_
    refine hK3 _ ?_; clear hK3
    refine awp_seq_k fun K4 hK4 => ?_
    (refine awp_sr fun Y hY => ?_; simp [go_sem]; ((repeat' (first|(refine ag_x ?_;simp [go_sem])|intro _|apply And.intro|(apply hY;clear hY Y)));all_goals first|apply Hold.mk|omega|with_reducible assumption|skip))
    ((try refine CallT.toA ?_); refine callT_m (.inl ⟨rfl,rfl⟩) (by simp [go_sem]) ?_; intro args ha; simp [go_sem] at ha; subst ha; refine ⟨_, H2, ?_⟩; rintro _ rfl; simp [go_sem]; ((repeat' (first|(refine ag_x ?_;simp [go_sem])|intro _|apply And.intro|(apply hY;clear hY Y)));all_goals first|apply Hold.mk|omega|with_reducible assumption|skip))
    (refine awp_if fun T F hT hF => ?_; simp [go_sem]; refine hT ?_; clear hT hF T F)
    (refine awp_sr fun Y hY => ?_; simp [go_sem]; ((repeat' (first|(refine ag_x ?_;simp [go_sem])|intro _|apply And.intro|(apply hY;clear hY Y)));all_goals first|apply Hold.mk|omega|with_reducible assumption|skip))
    (refine awp_ret ?_; simp [go_sem])
    exact postK_fam (b := 1) (e := 94) (k := 2) (f := mP) rs 0 N.length _ hrl2 (by first | (simp [go_sem]; done) | exact FamIn.refl _ _ | (simp [go_sem]; exact FamIn.app _ _)) (by simp)
set_option maxHeartbeats 8000000 in
theorem rline4_bad (P W : List Prs) (N : List (List Prs)) (sum : Bs) (n0 : Nat) (s : Bs) (gb gp gn gw : Nat) (rs : List (Nat × List Prs)) (hp : PsOk ⟨4, P, N, W, sum⟩ rs) (hl : s.length ≤ 1000000) (he : lineV ⟨4, P, N, W, sum⟩ s = none) :
  ACall Tryz.prog 71 [.ptr 900002 gb 0, dS s] (rrH ⟨4, P, N, W, sum⟩ n0 gb gp gn gw rs) (900002 :: 900003 :: 900004 :: 900005 :: famS 1 0 N.length)
   fun ps r => r = dB false := by 
 refine acall_of Tryz.func71 rfl rfl Tryz.ntmps71 (rs := [.tmp 4]) (tys := [4]) rfl rfl (by simp) ?_ ?_
 ·exact rrH_ok _ n0 gb gp gn gw rs _ (by have h2 := congrArg List.length hp.en; simp only [List.length_map] at h2; omega)
 have hq := hp
 obtain ⟨hrs, hnl, hpl, hwl, hrl⟩ := hp
 simp only at hrs hnl hpl hwl hrl
 have hrl2 := congrArg List.length hrs
 simp only [List.length_map] at hrl2
 simp only [lineV] at he
 have he2 : ¬ (preSum.isPrefixOf s = true ∧ digV (s.drop 4) = true) := fun q => by rw [if_pos q] at he; cases he
 clear he
 have TP := trimPre_spec s preSum (by omega) (by decide)
 (refine awp_sr fun Y hY => ?_; simp [go_sem]; ((repeat' (first|(refine ag_x ?_;simp [go_sem])|intro _|apply And.intro|(apply hY;clear hY Y)));all_goals first|apply Hold.mk|omega|with_reducible assumption|skip))
 refine awp_seq_k fun K1 hK1 => ?_
 (refine awp_sr fun Y hY => ?_; simp [go_sem]; ((repeat' (first|(refine ag_x ?_;simp [go_sem])|intro _|apply And.intro|(apply hY;clear hY Y)));all_goals first|apply Hold.mk|omega|with_reducible assumption|skip))
 refine awp_block ?_
 (refine awp_sr fun Y hY => ?_; simp [go_sem]; ((repeat' (first|(refine ag_x ?_;simp [go_sem])|intro _|apply And.intro|(apply hY;clear hY Y)));all_goals first|apply Hold.mk|omega|with_reducible assumption|skip))
 (refine awp_if fun T F hT hF => ?_; simp [go_sem]; refine hF ?_; clear hT hF T F)
 (refine awp_sr fun Y hY => ?_; simp [go_sem]; ((repeat' (first|(refine ag_x ?_;simp [go_sem])|intro _|apply And.intro|(apply hY;clear hY Y)));all_goals first|apply Hold.mk|omega|with_reducible assumption|skip))
 (refine awp_if fun T F hT hF => ?_; simp [go_sem]; refine hF ?_; clear hT hF T F)
 (refine awp_sr fun Y hY => ?_; simp [go_sem]; ((repeat' (first|(refine ag_x ?_;simp [go_sem])|intro _|apply And.intro|(apply hY;clear hY Y)));all_goals first|apply Hold.mk|omega|with_reducible assumption|skip))
 (refine awp_if fun T F hT hF => ?_; simp [go_sem]; refine hF ?_; clear hT hF T F)
 (refine awp_sr fun Y hY => ?_; simp [go_sem]; ((repeat' (first|(refine ag_x ?_;simp [go_sem])|intro _|apply And.intro|(apply hY;clear hY Y)));all_goals first|apply Hold.mk|omega|with_reducible assumption|skip))
 (refine awp_if fun T F hT hF => ?_; simp [go_sem]; refine hF ?_; clear hT hF T F)
 (refine awp_sr fun Y hY => ?_; simp [go_sem]; ((repeat' (first|(refine ag_x ?_;simp [go_sem])|intro _|apply And.intro|(apply hY;clear hY Y)));all_goals first|apply Hold.mk|omega|with_reducible assumption|skip))
 (refine awp_if fun T F hT hF => ?_; simp [go_sem]; refine hT ?_; clear hT hF T F)
 (refine awp_sr fun Y hY => ?_; simp [go_sem]; ((repeat' (first|(refine ag_x ?_;simp [go_sem])|intro _|apply And.intro|(apply hY;clear hY Y)));all_goals first|apply Hold.mk|omega|with_reducible assumption|skip))
 (refine awp_sr fun Y hY => ?_; simp [go_sem]; ((repeat' (first|(refine ag_x ?_;simp [go_sem])|intro _|apply And.intro|(apply hY;clear hY Y)));all_goals first|apply Hold.mk|omega|with_reducible assumption|skip))
 by_cases h1 : preSum.isPrefixOf s = true
 ·rw [if_pos h1] at TP
  have hsl : 4 ≤ s.length := (List.isPrefixOf_iff_prefix.1 h1).length_le
  rw [show s.drop preSum.length = s.drop 4 from rfl] at TP
  have hlen : (s.drop 4).length = s.length - 4 := List.length_drop
  have hne : ¬ s.drop 4 = s := fun q => by rw [q] at hlen; omega
  have he3 : ¬ digV (s.drop 4) = true := fun q => he2 ⟨h1, q⟩
  clear he2
  generalize s.drop 4 = d at *
  have T1 := trimS_spec d tenD (by omega) (by decide) (by decide)
  have htd := trim_digits d
  ((try refine CallT.toA ?_); refine callT_m (.inl ⟨rfl,rfl⟩) (by simp [go_sem]) ?_; intro args ha; simp [go_sem] at ha; subst ha; refine ⟨_, TP, ?_⟩; rintro _ rfl; simp [go_sem]; ((repeat' (first|(refine ag_x ?_;simp [go_sem])|intro _|apply And.intro|(apply hY;clear hY Y)));all_goals first|apply Hold.mk|omega|with_reducible assumption|skip))
  refine awp_seq_k fun K2 hK2 => ?_
  cases d with
  | nil =>
   have hnb : (([] : Bs) == s) = false := by rw [beq_eq_false_iff_ne]; exact hne
   (refine awp_sr fun Y hY => ?_; simp [go_sem, hne, hnb]; ((repeat' (first|(refine ag_false ?_ ?_ ?_;(focus (simp [go_sem, undef, hne, hnb];done));(focus (simp [go_sem];done));simp [go_sem, hne, hnb])|(refine ag_true ?_ ?_;(focus (simp [go_sem, undef, hne, hnb];done));simp [go_sem, hne, hnb])|(refine ag_x ?_;simp [go_sem, undef, hne, hnb])|intro _|apply And.intro|(apply hY;clear hY Y)));all_goals first|apply Hold.mk|omega|with_reducible assumption|skip))
   (refine awp_if fun T F hT hF => ?_; simp [go_sem, hne, hnb]; refine hT ?_; clear hT hF T F)
   (refine awp_sr fun Y hY => ?_; simp [go_sem]; ((repeat' (first|(refine ag_x ?_;simp [go_sem])|intro _|apply And.intro|(apply hY;clear hY Y)));all_goals first|apply Hold.mk|omega|with_reducible assumption|skip))
   (refine awp_ret ?_; simp [go_sem])
   exact postK_fam (b := 1) (e := 94) (k := 2) (f := mP) rs 0 N.length _ hrl2 (by first | (simp [go_sem]; done) | exact FamIn.refl _ _ | (simp [go_sem]; exact FamIn.app _ _)) (by simp)
  | cons c r =>
   have hnb : ((c :: r : Bs) == s) = false := by rw [beq_eq_false_iff_ne]; exact hne
   generalize Lib.trimS (c :: r) tenD = q at *
   by_cases hall : (c :: r : Bs).all isD = true
   ·have hq := htd.2 hall
    subst hq
    have h48 : c = 48 ∧ ¬ r = [] := by
     unfold digV at he3
     simp only [Bool.and_eq_true, decide_eq_true_eq, Bool.or_eq_true, hall, and_true] at he3
     simp at he3
     exact ⟨he3.2, fun q => he3.1 he3.2 q⟩
    obtain ⟨rfl, hr0⟩ := h48
    obtain ⟨x, r, rfl⟩ : ∃ x y, r = x :: y := by
     cases r with
     | nil => exact absurd rfl hr0
     | cons x y => exact ⟨x, y, rfl⟩
    simp only [List.length_cons] at hlen
    have hq1 : ((r.length : Int) + 1 + 1) ≤ 9223372036854775807 := by omega
    have hq3 : (1 : Int) < (r.length : Int) + 1 + 1 := by omega
    (refine awp_sr fun Y hY => ?_; simp [go_sem, hne, hnb, hq1, hq3]; ((repeat' (first|(refine ag_false ?_ ?_ ?_;(focus (simp [go_sem, undef, hne, hnb, hq1, hq3];done));(focus (simp [go_sem];done));simp [go_sem, hne, hnb, hq1, hq3])|(refine ag_true ?_ ?_;(focus (simp [go_sem, undef, hne, hnb, hq1, hq3];done));simp [go_sem, hne, hnb, hq1, hq3])|(refine ag_x ?_;simp [go_sem, undef, hne, hnb, hq1, hq3])|intro _|apply And.intro|(apply hY;clear hY Y)));all_goals first|apply Hold.mk|omega|with_reducible assumption|skip))
    ((try refine CallT.toA ?_); refine callT_m (.inl ⟨rfl,rfl⟩) (by simp [go_sem]) ?_; intro args ha; simp [go_sem] at ha; subst ha; refine ⟨_, T1, ?_⟩; rintro _ rfl; simp [go_sem, hne, hnb, hq1, hq3]; ((repeat' (first|(refine ag_false ?_ ?_ ?_;(focus (simp [go_sem, undef, hne, hnb, hq1, hq3];done));(focus (simp [go_sem];done));simp [go_sem, hne, hnb, hq1, hq3])|(refine ag_true ?_ ?_;(focus (simp [go_sem, undef, hne, hnb, hq1, hq3];done));simp [go_sem, hne, hnb, hq1, hq3])|(refine ag_x ?_;simp [go_sem, undef, hne, hnb, hq1, hq3])|intro _|apply And.intro|(apply hY;clear hY Y)));all_goals first|apply Hold.mk|omega|with_reducible assumption|skip))
    (refine awp_if fun T F hT hF => ?_; simp [go_sem, hne, hnb, hq1, hq3]; refine hT ?_; clear hT hF T F)
    (refine awp_sr fun Y hY => ?_; simp [go_sem]; ((repeat' (first|(refine ag_x ?_;simp [go_sem])|intro _|apply And.intro|(apply hY;clear hY Y)));all_goals first|apply Hold.mk|omega|with_reducible assumption|skip))
    (refine awp_ret ?_; simp [go_sem])
    exact postK_fam (b := 1) (e := 94) (k := 2) (f := mP) rs 0 N.length _ hrl2 (by first | (simp [go_sem]; done) | exact FamIn.refl _ _ | (simp [go_sem]; exact FamIn.app _ _)) (by simp)
   ·obtain ⟨x, q, rfl⟩ : ∃ x y, q = x :: y := by
     cases q with
     | nil => exact absurd (htd.1 rfl) hall
     | cons x y => exact ⟨x, y, rfl⟩
    (refine awp_sr fun Y hY => ?_; simp [go_sem, hne, hnb]; ((repeat' (first|(refine ag_false ?_ ?_ ?_;(focus (simp [go_sem, undef, hne, hnb];done));(focus (simp [go_sem];done));simp [go_sem, hne, hnb])|(refine ag_true ?_ ?_;(focus (simp [go_sem, undef, hne, hnb];done));simp [go_sem, hne, hnb])|(refine ag_x ?_;simp [go_sem, undef, hne, hnb])|intro _|apply And.intro|(apply hY;clear hY Y)));all_goals first|apply Hold.mk|omega|with_reducible assumption|skip))
    ((try refine CallT.toA ?_); refine callT_m (.inl ⟨rfl,rfl⟩) (by simp [go_sem]) ?_; intro args ha; simp [go_sem] at ha; subst ha; refine ⟨_, T1, ?_⟩; rintro _ rfl; simp [go_sem, hne, hnb]; ((repeat' (first|(refine ag_false ?_ ?_ ?_;(focus (simp [go_sem, undef, hne, hnb];done));(focus (simp [go_sem];done));simp [go_sem, hne, hnb])|(refine ag_true ?_ ?_;(focus (simp [go_sem, undef, hne, hnb];done));simp [go_sem, hne, hnb])|(refine ag_x ?_;simp [go_sem, undef, hne, hnb])|intro _|apply And.intro|(apply hY;clear hY Y)));all_goals first|apply Hold.mk|omega|with_reducible assumption|skip))
    (refine awp_if fun T F hT hF => ?_; simp [go_sem, hne, hnb]; refine hT ?_; clear hT hF T F)
    (refine awp_sr fun Y hY => ?_; simp [go_sem]; ((repeat' (first|(refine ag_x ?_;simp [go_sem])|intro _|apply And.intro|(apply hY;clear hY Y)));all_goals first|apply Hold.mk|omega|with_reducible assumption|skip))
    (refine awp_ret ?_; simp [go_sem])
    exact postK_fam (b := 1) (e := 94) (k := 2) (f := mP) rs 0 N.length _ hrl2 (by first | (simp [go_sem]; done) | exact FamIn.refl _ _ | (simp [go_sem]; exact FamIn.app _ _)) (by simp)
 ·rw [if_neg h1] at TP
  ((try refine CallT.toA ?_); refine callT_m (.inl ⟨rfl,rfl⟩) (by simp [go_sem]) ?_; intro args ha; simp [go_sem] at ha; subst ha; refine ⟨_, TP, ?_⟩; rintro _ rfl; simp [go_sem]; ((repeat' (first|(refine ag_x ?_;simp [go_sem])|intro _|apply And.intro|(apply hY;clear hY Y)));all_goals first|apply Hold.mk|omega|with_reducible assumption|skip))
  refine awp_seq_k fun K2 hK2 => ?_
  (refine awp_sr fun Y hY => ?_; simp [go_sem]; ((repeat' (first|(refine ag_false ?_ ?_ ?_;(focus (simp [go_sem, undef];done));(focus (simp [go_sem];done));simp [go_sem])|(refine ag_true ?_ ?_;(focus (simp [go_sem, undef];done));simp [go_sem])|(refine ag_x ?_;simp [go_sem, undef])|intro _|apply And.intro|(apply hY;clear hY Y)));all_goals first|apply Hold.mk|omega|with_reducible assumption|skip))
  (refine awp_if fun T F hT hF => ?_; simp [go_sem]; refine hT ?_; clear hT hF T F)
  (refine awp_sr fun Y hY => ?_; simp [go_sem]; ((repeat' (first|(refine ag_x ?_;simp [go_sem])|intro _|apply And.intro|(apply hY;clear hY Y)));all_goals first|apply Hold.mk|omega|with_reducible assumption|skip))
  (refine awp_ret ?_; simp [go_sem])
  exact postK_fam (b := 1) (e := 94) (k := 2) (f := mP) rs 0 N.length _ hrl2 (by first | (simp [go_sem]; done) | exact FamIn.refl _ _ | (simp [go_sem]; exact FamIn.app _ _)) (by simp)
def nOf (p : PS) : Nat := if p.part = 5 then satV p.sum else 0
theorem line_ok (p p' : PS) (s : Bs) (gb gp gn gw : Nat) (rs : List (Nat × List Prs)) (hp : PsOk p rs) (hl : s.length ≤ 1000000) (he : lineV p s = some p') :
  ACall Tryz.prog 68 [.ptr 900002 gb 0, dS s] (rdH p gb gp gn gw rs) (900002 :: 900003 :: 900004 :: 900005 :: famS 1 0 p'.needs.length)
   fun ps r => ∃ gp' gn' gw' rs', rs'.map (·.2) = p'.needs ∧ ps = (gb, .box [dI p'.part, .own 900003 gp', .own 900004 gn', .own 900005 gw', dS p'.sum]) :: (gp', .row 83 2 (p'.picks.map cP)) :: (gn', .row 43 1 (famO 1 0 rs')) :: (gw', .row 100 2 (p'.wish.map cP)) :: famP 100 2 mP rs' ∧ r = dB true := by
 obtain ⟨part, P, N, W, sum⟩ := p
 match part, hp, he with
 | 0, hp, he => exact line0_ok P W N sum p' s gb gp gn gw rs hp hl he
 | 1, hp, he => exact line1_ok P W N sum p' s gb gp gn gw rs hp hl he
 | 2, hp, he => exact line2_ok P W N sum p' s gb gp gn gw rs hp hl he
 | 3, hp, he => exact line3_ok P W N sum p' s gb gp gn gw rs hp hl he
 | 4, hp, he => exact line4_ok P W N sum p' s gb gp gn gw rs hp hl he
 | n + 5, hp, he => simp [lineV] at he
theorem line_bad (p : PS) (s : Bs) (gb gp gn gw : Nat) (rs : List (Nat × List Prs)) (hp : PsOk p rs) (hl : s.length ≤ 1000000) (he : lineV p s = none) :
  ACall Tryz.prog 68 [.ptr 900002 gb 0, dS s] (rdH p gb gp gn gw rs) (900002 :: 900003 :: 900004 :: 900005 :: famS 1 0 p.needs.length)
   fun ps r => r = dB false := by
 obtain ⟨part, P, N, W, sum⟩ := p
 match part, hp, he with
 | 0, hp, he => exact line0_bad P W N sum s gb gp gn gw rs hp hl he
 | 1, hp, he => exact line1_bad P W N sum s gb gp gn gw rs hp hl he
 | 2, hp, he => exact line2_bad P W N sum s gb gp gn gw rs hp hl he
 | 3, hp, he => exact line3_bad P W N sum s gb gp gn gw rs hp hl he
 | 4, hp, he => exact line4_bad P W N sum s gb gp gn gw rs hp hl he
 | n + 5, hp, he => exact line5_bad P W N sum s gb gp gn gw rs n hp hl he
theorem line_four {p p' : PS} {s : Bs} (he : lineV p s = some p') (h4 : ¬ p.part = 4) : nOf p = 0 ∧ nOf p' = 0 := by
 have h5 : ¬ p.part = 5 := fun q => by
  obtain ⟨part, P, N, W, sum⟩ := p
  simp only at q; subst q
  simp [lineV] at he
 refine ⟨by unfold nOf; rw [if_neg h5], ?_⟩
 unfold nOf
 rw [if_neg fun q => h4 (line_five he q).1]
theorem rline_ok (p p' : PS) (s : Bs) (gb gp gn gw : Nat) (rs : List (Nat × List Prs)) (hp : PsOk p rs) (hl : s.length ≤ 1000000) (he : lineV p s = some p') :
  ACall Tryz.prog 71 [.ptr 900002 gb 0, dS s] (rrH p (nOf p) gb gp gn gw rs) (900002 :: 900003 :: 900004 :: 900005 :: famS 1 0 p'.needs.length)
   fun ps r => ∃ gp' gn' gw' rs', rs'.map (·.2) = p'.needs ∧ ps = (gb, .box [.own 900003 gp', .own 900004 gn', .own 900005 gw', dI p'.part, dI (nOf p')]) :: (gp', .row 91 2 (p'.picks.map cP)) :: (gn', .row 32 1 (famO 1 0 rs')) :: (gw', .row 94 2 (p'.wish.map cP)) :: famP 94 2 mP rs' ∧ r = dB true := by
 by_cases h4 : p.part = 4
 ·have e1 : nOf p = 0 := by unfold nOf; rw [if_neg (by omega)]
  have e2 : nOf p' = satV p'.sum := by
   obtain ⟨part, P, N, W, sum⟩ := p
   simp only at h4; subst h4
   simp only [lineV] at he
   split at he
   ·simp only [Option.some.injEq] at he; subst he; rfl
   ·cases he
  rw [e1, e2]
  obtain ⟨part, P, N, W, sum⟩ := p
  simp only at h4; subst h4
  exact rline4_ok P W N sum p' s gb gp gn gw rs hp hl he
 ·obtain ⟨e1, e2⟩ := line_four he h4
  rw [e1, e2]
  obtain ⟨part, P, N, W, sum⟩ := p
  match part, hp, he, h4 with
  | 0, hp, he, _ => exact rline0_ok P W N sum 0 p' s gb gp gn gw rs hp hl he
  | 1, hp, he, _ => exact rline1_ok P W N sum 0 p' s gb gp gn gw rs hp hl he
  | 2, hp, he, _ => exact rline2_ok P W N sum 0 p' s gb gp gn gw rs hp hl he
  | 3, hp, he, _ => exact rline3_ok P W N sum 0 p' s gb gp gn gw rs hp hl he
  | 4, hp, he, h4 => exact absurd rfl h4
  | n + 5, hp, he, _ => simp [lineV] at he
theorem rline_bad (p : PS) (n0 : Nat) (s : Bs) (gb gp gn gw : Nat) (rs : List (Nat × List Prs)) (hp : PsOk p rs) (hl : s.length ≤ 1000000) (he : lineV p s = none) :
  ACall Tryz.prog 71 [.ptr 900002 gb 0, dS s] (rrH p n0 gb gp gn gw rs) (900002 :: 900003 :: 900004 :: 900005 :: famS 1 0 p.needs.length)
   fun ps r => r = dB false := by
 obtain ⟨part, P, N, W, sum⟩ := p
 match part, hp, he with
 | 0, hp, he => exact rline0_bad P W N sum n0 s gb gp gn gw rs hp hl he
 | 1, hp, he => exact rline1_bad P W N sum n0 s gb gp gn gw rs hp hl he
 | 2, hp, he => exact rline2_bad P W N sum n0 s gb gp gn gw rs hp hl he
 | 3, hp, he => exact rline3_bad P W N sum n0 s gb gp gn gw rs hp hl he
 | 4, hp, he => exact rline4_bad P W N sum n0 s gb gp gn gw rs hp hl he
 | n + 5, hp, he => exact rline5_bad P W N sum n0 s gb gp gn gw rs n hp hl he
theorem psOk_sz {p : PS} {k m : Nat} {rs : List (Nat × List Prs)} (h : SzOk p k m) (hk : k ≤ 100000) (he : rs.map (fun x => x.2) = p.needs) : PsOk p rs :=
 ⟨he, h.nl, by have := h.pl; omega, by have := h.wl; omega, fun r hr => by
  have := h.rl r.2 (by rw [← he]; exact List.mem_map.2 ⟨r, hr, rfl⟩)
  omega⟩
theorem lkOk_sz {p : PS} {k m : Nat} (h : SzOk p k m) (hk : k ≤ 100000) (hm : m ≤ 1000000) : LkOk (lkOf p) := by
 refine ⟨?_, ?_, ?_, fun x hx => ?_, fun r hr => ⟨?_, fun x hx => ?_⟩, fun x hx => ?_⟩
 ·have := h.pl; simp only [lkOf]; omega
 ·have := h.pl; have := h.nl; simp only [lkOf]; omega
 ·have := h.wl; simp only [lkOf]; omega
 ·have := h.ps x hx; exact ⟨by omega, by omega⟩
 ·have := h.rl r hr; omega
 ·have := h.ns r hr x hx; exact ⟨by omega, by omega⟩
 ·have := h.ws x hx; exact ⟨by omega, by omega⟩
theorem putPs_st : ∀ (S : St) (ss : List Nat) (ps : List (Nat × Blk)), ps.length = ss.length → ∃ h, putPs S ss ps = ⟨S.slots, h⟩ ∧ ∀ k, k ∉ ss → Eng.look h k = Eng.look S.heap k
 | S, [], ps, hl => ⟨S.heap, by simp [putPs], fun _ _ => rfl⟩
 | S, s :: ss, [], hl => by simp at hl
 | S, s :: ss, p :: ps, hl => by
  obtain ⟨h, e, hh⟩ := putPs_st S ss ps (by simpa using hl)
  refine ⟨(s, p) :: h, ?_, fun k hk => ?_⟩
  ·simp only [putPs, e, St.hput]
  ·simp only [List.mem_cons, not_or] at hk
   simp only [Eng.look]
   rw [if_neg fun q => hk.1 q.symm]
   exact hh k hk.2
theorem look_fam_app {α : Type} {b e k s : Nat} {f : α → List (List D)} {l : List (Nat × (Nat × Blk))} : ∀ (rs : List (Nat × α)) (i : Nat), s < 1000000 → Eng.look (fam b e k f i rs ++ l) s = Eng.look l s
 | [], i, h => rfl
 | r :: rs, i, h => by
  rw [fam, List.cons_append, Eng.look, if_neg (fs_nlit h)]
  exact look_fam_app rs (i + 1) h
theorem lastIndex_spec (s sub : Bs) (hs : s.length < 4611686018427387904) : PCall Tryz.prog 69 [dS s, dS sub] fun r => r = dI (Lib.lastIndex s sub) := by
 refine pcall_below ⟨_, Tryz.func69, rfl, rfl⟩ fun C w us hc hg hr => ?_
 obtain rfl := repL_v (us := [.string ⟨s.toArray⟩, .string ⟨sub.toArray⟩]) hr
 refine (Tryz.strings_LastIndex ⟨s.toArray⟩ ⟨sub.toArray⟩ (by simpa [ByteArray.size] using hs) w).mono ?_
 rintro e w' ⟨rfl, rfl⟩
 exact ⟨_, _, rfl, by simp, .v _, Below.refl _ _⟩
theorem ba_take (s : List UInt8) (n : Nat) : ({ data := s.toArray } : ByteArray).extract 0 n = { data := (s.take n).toArray } := by
 apply ByteArray.ext
 simp
set_option maxHeartbeats 8000000 in
theorem lParse_spec (s : Bs) (hl : s.length ≤ 1000000) (hcount : (dots 10 s).length ≤ 100000) : PCall Tryz.prog 33 [dS s] fun r => r = .tup [dLk (parV s).1, dI (parV s).2.1, dI (parV s).2.2] := by 
 refine pcall_of Tryz.func33 rfl rfl Tryz.ntmps33 (rs := [.cell 2 45, .tmp 3, .tmp 4]) (tys := [45, 3, 27]) rfl rfl (by simp) ?_
 have SS := split_spec s [10] (by omega) (by decide)
 rw [split_dots 10 s] at SS
 have hne := List.length_pos_iff.2 (dots_ne 10 s)
 have hlen := line_le s
 have hsz := lines_sz s
 have hF := @parV_form s
 have hS := @parV_short s
 have hU := @parV_full s
 have hB := @last_beg s
 have hG0 : goL ps0 0 (dots 10 s) = goL ps0 0 ((dots 10 s).drop 0) := rfl
 have hL0 : linesV (dots 10 s) 0 = some ps0 := rfl
 generalize hls : dots 10 s = ls at *
 obtain ⟨last, hlast⟩ : ∃ k, ls.length = k + 1 := ⟨ls.length - 1, by omega⟩
 have hlast1 : (last : Int) + 1 - 1 = last := by omega
 (refine awp_sr fun Y hY => ?_; simp [go_sem]; ((repeat' (first|(refine ag_x ?_;simp [go_sem])|intro _|apply And.intro|(apply hY;clear hY Y)));all_goals first|apply Hold.mk|omega|with_reducible assumption|skip))
 rename_i g2
 (refine awp_sr fun Y hY => ?_; simp [go_sem]; ((repeat' (first|(refine ag_x ?_;simp [go_sem])|intro _|apply And.intro|(apply hY;clear hY Y)));all_goals first|apply Hold.mk|omega|with_reducible assumption|skip))
 rename_i g5
 refine awp_renbox 5 900002 rfl rfl (by decide) fun gb0 => ?_
 simp only [go_sem]
 refine awp_nilbox 900003 83 2 1 (sb := 900002) rfl rfl (by decide) fun gp0 => ?_
 refine awp_nilbox 900004 43 1 2 (sb := 900002) rfl rfl (by decide) fun gn0 => ?_
 refine awp_nilbox 900005 100 2 3 (sb := 900002) rfl rfl (by decide) fun gw0 => ?_
 simp only [List.set, go_sem]
 (refine awp_sr fun Y hY => ?_; simp [go_sem]; ((repeat' (first|(refine ag_x ?_;simp [go_sem])|intro _|apply And.intro|(apply hY;clear hY Y)));all_goals first|apply Hold.mk|omega|with_reducible assumption|skip))
 ((try refine CallT.toA ?_); refine callT_m (.inl ⟨rfl,rfl⟩) (by simp [go_sem]) ?_; intro args ha; simp [go_sem] at ha; subst ha; refine ⟨_, SS, ?_⟩; rintro _ rfl; simp [go_sem]; ((repeat' (first|(refine ag_x ?_;simp [go_sem])|intro _|apply And.intro|(apply hY;clear hY Y)));all_goals first|apply Hold.mk|omega|with_reducible assumption|skip))
 (refine awp_sr fun Y hY => ?_; simp [go_sem, hlast]; ((repeat' (first|(refine ag_x ?_;simp [go_sem, hlast])|intro _|apply And.intro|(apply hY;clear hY Y)));all_goals first|apply Hold.mk|omega|with_reducible assumption|skip))
 refine awp_seq_k fun K1 hK1 => ?_
 have tl1 : ∀ S' p gb gp gn gw rs, PsOk p rs → goL ps0 0 ls = (some p, last) → linesV ls last = some p → ls[last]? = some [] → Cov S' ⟨[(0, dS s), (2, .ptr 2 g2 0), (5, .ptr 900002 gb 0), (7, dI last)], (2, (g2, .box [.v (.slice none 0 0), .v (.slice none 0 0), .v (.slice none 0 0)])) :: rdH p gb gp gn gw rs⟩ → K1 S' := fun S' p gb gp gn gw rs hp hg hlv hle hS' => by
  refine hK1 _ ?_; clear hK1
  refine awp_cov hS' ?_; clear hS'
  refine awp_seq_k fun K2 hK2 => ?_
  by_cases h5 : p.part = 5
  ·obtain ⟨b1, b2, b3⟩ := hB hlast.symm hle hlv h5
   have hu := hU hg h5 b3
   have hz := hsz _ _ hlv
   (refine awp_sr fun Y hY => ?_; simp [go_sem, h5]; ((repeat' (first|(refine ag_x ?_;simp [go_sem, h5])|intro _|apply And.intro|(apply hY;clear hY Y)));all_goals first|apply Hold.mk|omega|with_reducible assumption|skip))
   (refine awp_if fun T F hT hF => ?_; simp [go_sem, h5]; refine hF ?_; clear hT hF T F)
   refine awp_skip ?_
   refine hK2 _ ?_; clear hK2
   have LI := lastIndex_spec s preSum (by omega)
   rw [b3] at LI
   generalize begV ls last = b at *
   have SU := sum_spec (s.take b) (by rw [List.length_take]; omega)
   have hsl := sumV_lt (s.take b) (s.take b).length
   have IT := itoa_spec (sumV (s.take b) (s.take b).length : Nat) (by omega) (by omega)
   have CK := lCheck_spec (lkOf p) (lkOk_sz hz (by omega) (by omega))
   generalize sumV (s.take b) (s.take b).length = sm at *
   have hbi : (b : Int) ≤ s.length := by omega
   (refine awp_sr fun Y hY => ?_; simp [go_sem]; ((repeat' (first|(refine ag_x ?_;simp [go_sem])|intro _|apply And.intro|(apply hY;clear hY Y)));all_goals first|apply Hold.mk|omega|with_reducible assumption|skip))
   ((try refine CallT.toA ?_); refine callT_m (.inl ⟨rfl,rfl⟩) (by simp [go_sem]) ?_; intro args ha; simp [go_sem] at ha; subst ha; refine ⟨_, LI, ?_⟩; rintro _ rfl; simp [go_sem, hbi, b2]; ((repeat' (first|(refine ag_x ?_;simp [go_sem, hbi, b2])|intro _|apply And.intro|(apply hY;clear hY Y)));all_goals first|apply Hold.mk|omega|with_reducible assumption|skip))
   refine awp_seq_k fun K4 hK4 => ?_
   ((refine awp_dr (.qs [0, 1, 2, 4, 3] (.kp 5 (.kp 6 (.qs [7] (.nil))))) (by kernel_rfl) ?_ ?_ ?_ ?_); (kernel_rfl); (exact (by decide +kernel)); (kernel_rfl); intro Y hY; ((repeat' (first|(refine ag_x ?_;simp [go_sem])|refine adr_nil ?_|((first|refine adr_qs fun Y hY=>?_|refine adr_y fun Y hY=>?_);simp [go_sem])|intro _|apply And.intro|(apply hY;clear hY Y)));all_goals first|apply Hold.mk|omega|with_reducible assumption|skip))
   ((try refine CallT.toA ?_); refine callT_m (.inl ⟨rfl,rfl⟩) (by simp [go_sem]) ?_; intro args ha; simp [go_sem] at ha; subst ha; refine ⟨_, (by first | exact SU | (rw [ba_take]; exact SU)), ?_⟩; rintro _ rfl; simp [go_sem]; ((repeat' (first|(refine ag_x ?_;simp [go_sem])|refine adr_nil ?_|((first|refine adr_qs fun Y hY=>?_|refine adr_y fun Y hY=>?_);simp [go_sem])|intro _|apply And.intro|(apply hY;clear hY Y)));all_goals first|apply Hold.mk|omega|with_reducible assumption|skip))
   ((try refine CallT.toA ?_); refine callT_m (.inl ⟨rfl,rfl⟩) (by simp [go_sem]) ?_; intro args ha; simp [go_sem] at ha; subst ha; refine ⟨_, IT, ?_⟩; rintro _ rfl; simp [go_sem]; ((repeat' (first|(refine ag_x ?_;simp [go_sem])|refine adr_nil ?_|((first|refine adr_qs fun Y hY=>?_|refine adr_y fun Y hY=>?_);simp [go_sem])|intro _|apply And.intro|(apply hY;clear hY Y)));all_goals first|apply Hold.mk|omega|with_reducible assumption|skip))
   by_cases hsum : p.sum = Lib.itoa sm
   ·rw [if_neg (by simp [hsum])] at hu
    (refine awp_if fun T F hT hF => ?_; simp [go_sem, hsum]; refine hF ?_; clear hT hF T F)
    refine awp_skip ?_
    refine hK4 _ ?_; clear hK4
    refine awp_seq_k fun K6 hK6 => ?_
    refine awp_frzin 900003 900002 1 rfl rfl (by decide) rfl ?_
    simp only [go_sem, List.set]
    refine awp_frzin 900005 900002 3 rfl rfl (by decide) rfl ?_
    simp only [go_sem, List.set]
    refine awp_frzfam (b := 1) (e := 100) (k := 2) (f := mP) (go := gn) (eo := 43) 900004 (rs := rs) (ho := [(2, (g2, .box [.v (.slice none 0 0), .v (.slice none 0 0), .v (.slice none 0 0)])), (900002, (gb, .box [dI p.part, dPs p.picks, .own 900004 gn, dPs p.wish, dS p.sum]))]) (by simp [go_sem]) (by simp [go_sem]) (by decide) (by simp [go_sem, h5]) (by simp) ?_
    refine awp_frzin 900004 900002 2 rfl rfl (by decide) rfl ?_
    simp only [go_sem, List.set]
    have hN : (rs.map fun r => [D.sl 2 (mP r.2)]) = p.needs.map fun n => [dPs n] := by rw [← hp.en, List.map_map]; rfl
    rw [hN]
    simp only [lkOf] at CK
    (refine awp_sr fun Y hY => ?_; simp [go_sem]; ((repeat' (first|(refine ag_x ?_;simp [go_sem])|intro _|apply And.intro|(apply hY;clear hY Y)));all_goals first|apply Hold.mk|omega|with_reducible assumption|skip))
    ((try refine CallT.toA ?_); refine callT_m (.inl ⟨rfl,rfl⟩) (by simp [go_sem]) ?_; intro args ha; simp [go_sem] at ha; subst ha; refine ⟨_, CK, ?_⟩; rintro _ rfl; simp [go_sem]; ((repeat' (first|(refine ag_x ?_;simp [go_sem])|intro _|apply And.intro|(apply hY;clear hY Y)));all_goals first|apply Hold.mk|omega|with_reducible assumption|skip))
    (refine awp_sr fun Y hY => ?_; simp [go_sem]; ((repeat' (first|(refine ag_x ?_;simp [go_sem])|intro _|apply And.intro|(apply hY;clear hY Y)));all_goals first|apply Hold.mk|omega|with_reducible assumption|skip))
    by_cases hlk : lockV (lkOf p) = true
    ·have hlk' : lockV (p.picks, p.needs, p.wish) = true := hlk
     rw [if_pos hlk] at hu
     (refine awp_if fun T F hT hF => ?_; simp [go_sem, hlk']; refine hF ?_; clear hT hF T F)
     refine awp_skip ?_
     refine hK6 _ ?_; clear hK6
     (refine awp_sr fun Y hY => ?_; simp [go_sem]; ((repeat' (first|(refine ag_x ?_;simp [go_sem])|intro _|apply And.intro|(apply hY;clear hY Y)));all_goals first|apply Hold.mk|omega|with_reducible assumption|skip))
     (refine awp_ret ?_; simp [go_sem, hu, lkOf])
    ·have hlk' : lockV (p.picks, p.needs, p.wish) = false := by simpa [lkOf] using hlk
     rw [if_neg (by simp [hlk])] at hu
     (refine awp_if fun T F hT hF => ?_; simp [go_sem, hlk']; refine hT ?_; clear hT hF T F)
     (refine awp_sr fun Y hY => ?_; simp [go_sem, hlk']; ((repeat' (first|(refine ag_x ?_;simp [go_sem, hlk'])|intro _|apply And.intro|(apply hY;clear hY Y)));all_goals first|apply Hold.mk|omega|with_reducible assumption|skip))
     (refine awp_ret ?_; simp [go_sem, hu, hlk'])
   ·rw [if_pos hsum] at hu
    have hsumb : (p.sum == Lib.itoa (sm : Int)) = false := by simpa using hsum
    (refine awp_if fun T F hT hF => ?_; simp [go_sem, hsum, hsumb]; refine hT ?_; clear hT hF T F)
    (refine awp_sr fun Y hY => ?_; simp [go_sem]; ((repeat' (first|(refine ag_x ?_;simp [go_sem])|intro _|apply And.intro|(apply hY;clear hY Y)));all_goals first|apply Hold.mk|omega|with_reducible assumption|skip))
    (refine awp_ret ?_; simp [go_sem, hu])
  ·have e := hS hg h5
   have h5i : ¬ (p.part : Int) = 5 := by omega
   (refine awp_sr fun Y hY => ?_; simp [go_sem, h5, h5i]; ((repeat' (first|(refine ag_x ?_;simp [go_sem, h5, h5i])|intro _|apply And.intro|(apply hY;clear hY Y)));all_goals first|apply Hold.mk|omega|with_reducible assumption|skip))
   (refine awp_if fun T F hT hF => ?_; simp [go_sem, h5, h5i]; refine hT ?_; clear hT hF T F)
   (refine awp_sr fun Y hY => ?_; simp [go_sem]; ((repeat' (first|(refine ag_x ?_;simp [go_sem])|intro _|apply And.intro|(apply hY;clear hY Y)));all_goals first|apply Hold.mk|omega|with_reducible assumption|skip))
   (refine awp_ret ?_; simp [go_sem, e])
 clear hK1
 (refine awp_sr fun Y hY => ?_; simp [go_sem]; ((repeat' (first|(refine ag_x ?_;simp [go_sem])|intro _|apply And.intro|(apply hY;clear hY Y)));all_goals first|apply Hold.mk|omega|with_reducible assumption|skip))
 refine awp_block ?_
 refine awp_loop (σ := Nat × PS × Nat × Nat × Nat × Nat × List (Nat × List Prs)) (fun x => ⟨[(0, dS s), (2, .ptr 2 g2 0), (5, .ptr 900002 x.2.2.1 0), (7, dI last), (19, dSs ls), (20, dI ls.length), (21, dI x.1)], (2, (g2, .box [.v (.slice none 0 0), .v (.slice none 0 0), .v (.slice none 0 0)])) :: rdH x.2.1 x.2.2.1 x.2.2.2.1 x.2.2.2.2.1 x.2.2.2.2.2.1 x.2.2.2.2.2.2⟩)
  (fun x => x.1 ≤ last ∧ linesV ls x.1 = some x.2.1 ∧ goL ps0 0 ls = goL x.2.1 x.1 (ls.drop x.1) ∧ x.2.2.2.2.2.2.map (fun x => x.2) = x.2.1.needs) (fun x => ls.length - x.1) (0, ps0, gb0, gp0, gn0, gw0, []) ?_ ?_ ?_
 ·(refine cov_of ?_ ?_ <;> simp [go_sem, ps0, famO, fam, hlast])
 ·exact ⟨by omega, hL0, hG0, rfl⟩
 rintro ⟨i, p, gb, gp, gn, gw, rs⟩ ⟨hi, hlv, hg, hrs⟩
 simp only at hi hlv hg hrs
 obtain ⟨l, hx⟩ : ∃ l, ls[i]? = some l := ⟨_, List.getElem?_eq_getElem (by omega)⟩
 have hp : PsOk p rs := psOk_sz (hsz _ _ hlv) (by omega) hrs
 have hll := hlen l (List.mem_of_getElem? hx)
 (refine awp_sr fun Y hY => ?_; simp [go_sem]; ((repeat' (first|(refine ag_x ?_;simp [go_sem])|intro _|apply And.intro|(apply hY;clear hY Y)));all_goals first|apply Hold.mk|omega|with_reducible assumption|skip))
 refine awp_seq_k fun K8 hK8 => ?_
 (refine awp_if fun T F hT hF => ?_; simp [go_sem]; refine BR.intro (fun h9 => hT ?_) (fun h9 => hF ?_); all_goals clear hT hF T F; try simp at h9)
 ·refine awp_skip ?_
  refine hK8 _ ?_; clear hK8
  refine awp_seq_k fun K10 hK10 => ?_
  refine awp_block ?_
  (refine awp_sr fun Y hY => ?_; simp [go_sem, hx]; ((repeat' (first|(refine ag_x ?_;simp [go_sem, hx])|intro _|apply And.intro|(apply hY;clear hY Y)));all_goals first|apply Hold.mk|omega|with_reducible assumption|skip))
  refine awp_seq_k fun K11 hK11 => ?_
  by_cases hi2 : i = last
  ·subst hi2
   have hgl := goL_last (p := p) hx hlast.symm
   by_cases hl0 : l = []
   ·subst hl0
    rw [if_pos rfl] at hgl
    (refine awp_sr fun Y hY => ?_; simp [go_sem]; ((repeat' (first|(refine ag_x ?_;simp [go_sem])|intro _|apply And.intro|(apply hY;clear hY Y)));all_goals first|apply Hold.mk|omega|with_reducible assumption|skip))
    (refine awp_if fun T F hT hF => ?_; simp [go_sem]; refine hT ?_; clear hT hF T F)
    refine awp_exit ?_
    simp only [go_sem]
    refine tl1 _ p gb gp gn gw rs hp (hg.trans hgl) hlv hx ?_
    (refine cov_of ?_ ?_ <;> simp [go_sem])
   ·rw [if_neg hl0] at hgl
    have e := hF (hg.trans hgl)
    have hl0' : l.isEmpty = false := by cases l with
     | nil => exact absurd rfl hl0
     | cons => rfl
    (refine awp_sr fun Y hY => ?_; simp [go_sem, hl0, hl0']; ((repeat' (first|(refine ag_x ?_;simp [go_sem, hl0, hl0'])|intro _|apply And.intro|(apply hY;clear hY Y)));all_goals first|apply Hold.mk|omega|with_reducible assumption|skip))
    (refine awp_if fun T F hT hF => ?_; simp [go_sem, hl0, hl0']; refine hF ?_; clear hT hF T F)
    refine awp_skip ?_
    refine hK11 _ ?_; clear hK11
    (refine awp_sr fun Y hY => ?_; simp [go_sem]; ((repeat' (first|(refine ag_false ?_ ?_ ?_;(focus (simp [go_sem, undef];done));(focus (simp [go_sem];done));simp [go_sem])|(refine ag_true ?_ ?_;(focus (simp [go_sem, undef];done));simp [go_sem])|(refine ag_x ?_;simp [go_sem, undef])|intro _|apply And.intro|(apply hY;clear hY Y)));all_goals first|apply Hold.mk|omega|with_reducible assumption|skip))
    (refine awp_if fun T F hT hF => ?_; simp [go_sem]; refine hT ?_; clear hT hF T F)
    (refine awp_sr fun Y hY => ?_; simp [go_sem]; ((repeat' (first|(refine ag_x ?_;simp [go_sem])|intro _|apply And.intro|(apply hY;clear hY Y)));all_goals first|apply Hold.mk|omega|with_reducible assumption|skip))
    (refine awp_ret ?_; simp [go_sem, e])
  ·have hi3 : i + 1 < ls.length := by omega
   have hgl := goL_more (p := p) hx hi3
   have hne2 : ¬ (i : Int) = last := by omega
   (refine awp_sr fun Y hY => ?_; simp [go_sem, hi2, hne2]; ((repeat' (first|(refine ag_false ?_ ?_ ?_;(focus (simp [go_sem, undef, hi2, hne2];done));(focus (simp [go_sem];done));simp [go_sem, hi2, hne2])|(refine ag_true ?_ ?_;(focus (simp [go_sem, undef, hi2, hne2];done));simp [go_sem, hi2, hne2])|(refine ag_x ?_;simp [go_sem, undef, hi2, hne2])|intro _|apply And.intro|(apply hY;clear hY Y)));all_goals first|apply Hold.mk|omega|with_reducible assumption|skip))
   (refine awp_if fun T F hT hF => ?_; simp [go_sem, hi2, hne2]; refine hF ?_; clear hT hF T F)
   refine awp_skip ?_
   refine hK11 _ ?_; clear hK11
   cases he : lineV p l with
   | none =>
    rw [he] at hgl
    have e := hF (hg.trans hgl)
    (refine awp_sr fun Y hY => ?_; simp [go_sem, hi2, hne2]; ((repeat' (first|(refine ag_false ?_ ?_ ?_;(focus (simp [go_sem, undef, hi2, hne2];done));(focus (simp [go_sem];done));simp [go_sem, hi2, hne2])|(refine ag_true ?_ ?_;(focus (simp [go_sem, undef, hi2, hne2];done));simp [go_sem, hi2, hne2])|(refine ag_x ?_;simp [go_sem, undef, hi2, hne2])|intro _|apply And.intro|(apply hY;clear hY Y)));all_goals first|apply Hold.mk|omega|with_reducible assumption|skip))
    refine callA_l (900002 :: 900003 :: 900004 :: 900005 :: famS 1 0 p.needs.length) (by first | exact .inl ⟨rfl, rfl⟩ | exact .inr rfl) (by simp [go_sem]) ?_
    intro args ha; simp [go_sem] at ha; subst ha
    refine ⟨_, _, line_bad p l gb gp gn gw rs hp (by omega) he, (by simp [go_sem]), ?_⟩
    rintro ps r hps rfl
    obtain ⟨h, eh, hh⟩ := putPs_st _ _ _ hps
    rw [eh]
    have h2 := hh 2 (by
     simp only [List.mem_cons, famS_mem, not_or]
     refine ⟨by decide, by decide, by decide, by decide, ?_⟩
     rintro ⟨j, _, _, e⟩
     exact absurd e.symm (fs_nlit (by decide)))
    simp [go_sem] at h2
    simp [go_sem]
    ((repeat' (first|(refine ag_false ?_ ?_ ?_;(focus (simp [go_sem, undef];done));(focus (simp [go_sem];done));simp [go_sem])|(refine ag_true ?_ ?_;(focus (simp [go_sem, undef];done));simp [go_sem])|(refine ag_x ?_;simp [go_sem, undef])|intro _|apply And.intro|(apply hY;clear hY Y)));all_goals first|apply Hold.mk|omega|with_reducible assumption|skip)
    (refine awp_if fun T F hT hF => ?_; simp [go_sem]; refine hT ?_; clear hT hF T F)
    (refine awp_sr fun Y hY => ?_; simp [go_sem, h2]; ((repeat' (first|(refine ag_x ?_;simp [go_sem, h2])|intro _|apply And.intro|(apply hY;clear hY Y)));all_goals first|apply Hold.mk|omega|with_reducible assumption|skip))
    (refine awp_ret ?_; simp [go_sem, e])
   | some q =>
    rw [he] at hgl
    (refine awp_sr fun Y hY => ?_; simp [go_sem, hi2, hne2]; ((repeat' (first|(refine ag_false ?_ ?_ ?_;(focus (simp [go_sem, undef, hi2, hne2];done));(focus (simp [go_sem];done));simp [go_sem, hi2, hne2])|(refine ag_true ?_ ?_;(focus (simp [go_sem, undef, hi2, hne2];done));simp [go_sem, hi2, hne2])|(refine ag_x ?_;simp [go_sem, undef, hi2, hne2])|intro _|apply And.intro|(apply hY;clear hY Y)));all_goals first|apply Hold.mk|omega|with_reducible assumption|skip))
    (refine callA_l (900002 :: 900003 :: 900004 :: 900005 :: famS 1 0 q.needs.length) (.inl ⟨rfl,rfl⟩) (by simp [go_sem]) ?_; intro args ha; simp [go_sem] at ha; subst ha; refine ⟨_, _, (line_ok p q l gb gp gn gw rs hp (by omega) he), (by simp [go_sem]), ?_⟩; rintro ps r hps ⟨gp', gn', gw', rs', hrs', rfl, rfl⟩; simp [go_sem]; ((repeat' (first|(refine ag_false ?_ ?_ ?_;(focus (simp [go_sem, undef];done));(focus (simp [go_sem];done));simp [go_sem])|(refine ag_true ?_ ?_;(focus (simp [go_sem, undef];done));simp [go_sem])|(refine ag_x ?_;simp [go_sem, undef])|intro _|apply And.intro|(apply hY;clear hY Y)));all_goals first|apply Hold.mk|omega|with_reducible assumption|skip))
    rw [putPs_fam (b := 1) (e := 100) (k := 2) (f := mP) rs' 0 _ (by have := congrArg List.length hrs'; simpa using this)]
    simp [go_sem]
    ((repeat' (first|(refine ag_false ?_ ?_ ?_;(focus (simp [go_sem, undef];done));(focus (simp [go_sem];done));simp [go_sem])|(refine ag_true ?_ ?_;(focus (simp [go_sem, undef];done));simp [go_sem])|(refine ag_x ?_;simp [go_sem, undef])|intro _|apply And.intro|(apply hY;clear hY Y)));all_goals first|apply Hold.mk|omega|with_reducible assumption|skip)
    (refine awp_if fun T F hT hF => ?_; simp [go_sem]; refine hF ?_; clear hT hF T F)
    refine awp_skip ?_
    refine hK10 _ ?_; clear hK10
    (refine awp_r fun Y hY => ?_; simp [go_sem]; ((repeat' (first|(refine ag_x ?_;simp [go_sem])|intro _|apply And.intro|(apply hY;clear hY Y)));all_goals first|apply Hold.mk|omega|with_reducible assumption|skip))
    refine ⟨(i + 1, q, gb, gp', gn', gw', rs'), ?_, ⟨by simp only; omega, (linesV_step hlv hx).trans he, hg.trans hgl, hrs'⟩, by simp only; omega⟩
    (refine cov_of ?_ ?_ <;> simp [go_sem])
    exact ⟨by rw [look_fam_app _ _ (by decide)]; simp [go_sem], FamIn.app _ _⟩
 ·refine awp_exit ?_
  omega
theorem ba_mid (s : List UInt8) (n k : Nat) : ({ data := s.toArray } : ByteArray).extract n (n + k) = { data := ((s.drop n).take k).toArray } := by
 apply ByteArray.ext
 simp [List.take_drop]
theorem at_end {s : Bs} {n : Nat} (h : n < (dots 10 s).length) (he : ¬ offV (dots 10 s) n < s.length) : n + 1 = (dots 10 s).length ∧ (dots 10 s)[n]? = some [] := by
 obtain ⟨l, hl⟩ : ∃ l, (dots 10 s)[n]? = some l := ⟨_, List.getElem?_eq_getElem h⟩
 by_cases h1 : n + 1 < (dots 10 s).length
 ·have := (line_more h1 hl).2.2.1; omega
 ·have h2 : n + 1 = (dots 10 s).length := by omega
  have := (line_last h2 hl).2
  have hl0 : l.length = 0 := by omega
  rw [List.length_eq_zero_iff.1 hl0] at hl
  exact ⟨h2, hl⟩
theorem beg_next {ls : List Bs} {n : Nat} {p : PS} (h : linesV ls n = some p) : begV ls (n + 1) = if p.part = 4 then offV ls n else begV ls n := by
 rw [begV, h]; simp
theorem sat_sum {d : Bs} (h : digV d = true) (m : Nat) (hm : m < 1000003) : d = Lib.itoa (m : Int) ↔ satV d = m := by
 rw [sum_same h, satV_eq _ d rfl]; omega
set_option maxHeartbeats 8000000 in
theorem rParse_spec (s : Bs) (hl : s.length ≤ 1000000) (hcount : (dots 10 s).length ≤ 100000) : PCall Tryz.prog 34 [dS s] fun r => r = .tup [dLk (parV s).1, dI (parV s).2.1, dI (parV s).2.2] := by 
 refine pcall_of Tryz.func34 rfl rfl Tryz.ntmps34 (rs := [.cell 2 34, .tmp 3, .tmp 4]) (tys := [34, 3, 27]) rfl rfl (by simp) ?_
 have hne := List.length_pos_iff.2 (dots_ne 10 s)
 have hlen := line_le s
 have hsz := lines_sz s
 have hF := @parV_form s
 have hS := @parV_short s
 have hU := @parV_full s
 have hB := @last_beg s
 have hM := @line_more s
 have hLa := @line_last s
 have hAt := at_line s
 have hEnd := @at_end s
 have hBl := begV_le s
 have hG0 : goL ps0 0 (dots 10 s) = goL ps0 0 ((dots 10 s).drop 0) := rfl
 have hL0 : linesV (dots 10 s) 0 = some ps0 := rfl
 generalize hls : dots 10 s = ls at *
 (refine awp_sr fun Y hY => ?_; simp [go_sem]; ((repeat' (first|(refine ag_x ?_;simp [go_sem])|intro _|apply And.intro|(apply hY;clear hY Y)));all_goals first|apply Hold.mk|omega|with_reducible assumption|skip))
 rename_i g2
 (refine awp_sr fun Y hY => ?_; simp [go_sem]; ((repeat' (first|(refine ag_x ?_;simp [go_sem])|intro _|apply And.intro|(apply hY;clear hY Y)));all_goals first|apply Hold.mk|omega|with_reducible assumption|skip))
 rename_i g5
 refine awp_renbox 5 900002 rfl rfl (by decide) fun gb0 => ?_
 simp only [go_sem]
 refine awp_nilbox 900003 91 2 0 (sb := 900002) rfl rfl (by decide) fun gp0 => ?_
 refine awp_nilbox 900004 32 1 1 (sb := 900002) rfl rfl (by decide) fun gn0 => ?_
 refine awp_nilbox 900005 94 2 2 (sb := 900002) rfl rfl (by decide) fun gw0 => ?_
 simp only [List.set, go_sem]
 (refine awp_sr fun Y hY => ?_; simp [go_sem]; ((repeat' (first|(refine ag_x ?_;simp [go_sem])|intro _|apply And.intro|(apply hY;clear hY Y)));all_goals first|apply Hold.mk|omega|with_reducible assumption|skip))
 (refine awp_sr fun Y hY => ?_; simp [go_sem]; ((repeat' (first|(refine ag_x ?_;simp [go_sem])|intro _|apply And.intro|(apply hY;clear hY Y)));all_goals first|apply Hold.mk|omega|with_reducible assumption|skip))
 (refine awp_sr fun Y hY => ?_; simp [go_sem]; ((repeat' (first|(refine ag_x ?_;simp [go_sem])|intro _|apply And.intro|(apply hY;clear hY Y)));all_goals first|apply Hold.mk|omega|with_reducible assumption|skip))
 refine awp_seq_k fun K1 hK1 => ?_
 refine awp_block ?_
 refine awp_loop (σ := Nat × PS × Nat × Nat × Nat × Nat × List (Nat × List Prs)) (fun x => ⟨[(0, dS s), (2, .ptr 2 g2 0), (5, .ptr 900002 x.2.2.1 0), (6, dI (offV ls x.1)), (7, dI (begV ls x.1)), (8, dI x.1)], (2, (g2, .box [.v (.slice none 0 0), .v (.slice none 0 0), .v (.slice none 0 0)])) :: rrH x.2.1 (nOf x.2.1) x.2.2.1 x.2.2.2.1 x.2.2.2.2.1 x.2.2.2.2.2.1 x.2.2.2.2.2.2⟩)
  (fun x => x.1 < ls.length ∧ linesV ls x.1 = some x.2.1 ∧ goL ps0 0 ls = goL x.2.1 x.1 (ls.drop x.1) ∧ x.2.2.2.2.2.2.map (fun x => x.2) = x.2.1.needs) (fun x => ls.length - x.1) (0, ps0, gb0, gp0, gn0, gw0, []) ?_ ?_ ?_
 ·(refine cov_of ?_ ?_ <;> simp [go_sem, ps0, famO, fam, nOf, offV, begV])
 ·exact ⟨by omega, hL0, hG0, rfl⟩
 rintro ⟨n, p, gb, gp, gn, gw, rs⟩ ⟨hi, hlv, hg, hrs⟩
 simp only at hi hlv hg hrs
 obtain ⟨l, hx⟩ : ∃ l, ls[n]? = some l := ⟨_, List.getElem?_eq_getElem (by omega)⟩
 have hp : PsOk p rs := psOk_sz (hsz _ _ hlv) (by omega) hrs
 have hll := hlen l (List.mem_of_getElem? hx)
 have hat1 := (hAt n hi).1
 have hM1 := @hM l n
 have hLa1 := @hLa l n
 have hB1 := @hB n p
 have hEnd1 := @hEnd n hi
 have hbn := beg_next (n := n) hlv
 have hbl := hBl n hi
 have hofn : offV ls (n + 1) = offV ls n + l.length + 1 := by simp [offV, hx]
 refine awp_seq_k fun K2 hK2 => ?_
 (refine awp_sr fun Y hY => ?_; simp [go_sem]; ((repeat' (first|(refine ag_x ?_;simp [go_sem])|intro _|apply And.intro|(apply hY;clear hY Y)));all_goals first|apply Hold.mk|omega|with_reducible assumption|skip))
 (refine awp_if fun T F hT hF => ?_; simp [go_sem]; refine BR.intro (fun h3 => hT ?_) (fun h3 => hF ?_); all_goals clear hT hF T F; try simp at h3) 
 ·refine awp_skip ?_
  refine hK2 _ ?_; clear hK2
  refine awp_block ?_
  (refine awp_sr fun Y hY => ?_; simp [go_sem]; ((repeat' (first|(refine ag_x ?_;simp [go_sem])|intro _|apply And.intro|(apply hY;clear hY Y)));all_goals first|apply Hold.mk|omega|with_reducible assumption|skip))
  have hati : (offV ls n : Int) ≤ s.length := by omega
  have IB := iByte_spec (s.drop (offV ls n)) 10
  (refine awp_sr fun Y hY => ?_; simp [go_sem, hati, hat1]; ((repeat' (first|(refine ag_x ?_;simp [go_sem, hati, hat1])|intro _|apply And.intro|(apply hY;clear hY Y)));all_goals first|apply Hold.mk|omega|with_reducible assumption|skip))
  ((try refine CallT.toA ?_); refine callT_m (.inl ⟨rfl,rfl⟩) (by simp [go_sem]) ?_; intro args ha; simp [go_sem] at ha; subst ha; refine ⟨_, (by rw [ba_drop]; exact IB), ?_⟩; rintro _ rfl; simp [go_sem]; ((repeat' (first|(refine ag_x ?_;simp [go_sem])|intro _|apply And.intro|(apply hY;clear hY Y)));all_goals first|apply Hold.mk|omega|with_reducible assumption|skip))
  refine awp_seq_k fun K4 hK4 => ?_
  have tl4 : ∀ S', Cov S' ⟨[(0, dS s), (2, .ptr 2 g2 0), (5, .ptr 900002 gb 0), (6, dI (offV ls n)), (7, dI (begV ls (n + 1))), (8, dI ((n : Int) + 1)), (9, dI (Lib.indexByte (s.drop (offV ls n)) 10))], (2, (g2, .box [.v (.slice none 0 0), .v (.slice none 0 0), .v (.slice none 0 0)])) :: rrH p (nOf p) gb gp gn gw rs⟩ → K4 S' := fun S' hS' => by
   refine hK4 _ ?_; clear hK4
   refine awp_cov hS' ?_; clear hS'
   refine awp_seq_k fun K5 hK5 => ?_
   by_cases hi3 : n + 1 < ls.length
   ·have hgl := goL_more (p := p) hx hi3
    obtain ⟨m1, m2, m3, m4, _⟩ := hM1 hi3 hx
    rw [m1]
    have hk0 : ¬ ((l.length : Int) < 0) := by omega
    have hs1 : (offV ls n : Int) ≤ (offV ls n : Int) + l.length := by omega
    have hs2 : (offV ls n : Int) + l.length ≤ s.length := by omega
    have htn : ((offV ls n : Int) + l.length).toNat = offV ls n + l.length := by omega
    cases he : lineV p l with
    | none =>
     rw [he] at hgl
     have e := hF (hg.trans hgl)
     (refine awp_sr fun Y hY => ?_; simp [go_sem, hk0, hs1, hs2, htn]; ((repeat' (first|(refine ag_false ?_ ?_ ?_;(focus (simp [go_sem, undef, hk0, hs1, hs2, htn];done));(focus (simp [go_sem];done));simp [go_sem, hk0, hs1, hs2, htn])|(refine ag_true ?_ ?_;(focus (simp [go_sem, undef, hk0, hs1, hs2, htn];done));simp [go_sem, hk0, hs1, hs2, htn])|(refine ag_x ?_;simp [go_sem, undef, hk0, hs1, hs2, htn])|intro _|apply And.intro|(apply hY;clear hY Y)));all_goals first|apply Hold.mk|omega|with_reducible assumption|skip))
     refine callA_l (900002 :: 900003 :: 900004 :: 900005 :: famS 1 0 p.needs.length) (by first | exact .inl ⟨rfl, rfl⟩ | exact .inr rfl) (by simp [go_sem]) ?_
     intro args ha; simp [go_sem] at ha; subst ha
     refine ⟨_, _, by rw [ba_mid, m2]; exact rline_bad p (nOf p) l gb gp gn gw rs hp (by omega) he, (by simp [go_sem]), ?_⟩
     rintro ps r hps rfl
     obtain ⟨h, eh, hh⟩ := putPs_st _ _ _ hps
     rw [eh]
     have h2 := hh 2 (by
      simp only [List.mem_cons, famS_mem, not_or]
      refine ⟨by decide, by decide, by decide, by decide, ?_⟩
      rintro ⟨j, _, _, e⟩
      exact absurd e.symm (fs_nlit (by decide)))
     simp [go_sem] at h2
     simp [go_sem]
     ((repeat' (first|(refine ag_false ?_ ?_ ?_;(focus (simp [go_sem, undef];done));(focus (simp [go_sem];done));simp [go_sem])|(refine ag_true ?_ ?_;(focus (simp [go_sem, undef];done));simp [go_sem])|(refine ag_x ?_;simp [go_sem, undef])|intro _|apply And.intro|(apply hY;clear hY Y)));all_goals first|apply Hold.mk|omega|with_reducible assumption|skip)
     (refine awp_if fun T F hT hF => ?_; simp [go_sem]; refine hT ?_; clear hT hF T F)
     (refine awp_sr fun Y hY => ?_; simp [go_sem, h2]; ((repeat' (first|(refine ag_x ?_;simp [go_sem, h2])|intro _|apply And.intro|(apply hY;clear hY Y)));all_goals first|apply Hold.mk|omega|with_reducible assumption|skip))
     (refine awp_ret ?_; simp [go_sem, e])
    | some q =>
     rw [he] at hgl
     (refine awp_sr fun Y hY => ?_; simp [go_sem, hk0, hs1, hs2, htn]; ((repeat' (first|(refine ag_false ?_ ?_ ?_;(focus (simp [go_sem, undef, hk0, hs1, hs2, htn];done));(focus (simp [go_sem];done));simp [go_sem, hk0, hs1, hs2, htn])|(refine ag_true ?_ ?_;(focus (simp [go_sem, undef, hk0, hs1, hs2, htn];done));simp [go_sem, hk0, hs1, hs2, htn])|(refine ag_x ?_;simp [go_sem, undef, hk0, hs1, hs2, htn])|intro _|apply And.intro|(apply hY;clear hY Y)));all_goals first|apply Hold.mk|omega|with_reducible assumption|skip))
     (refine callA_l (900002 :: 900003 :: 900004 :: 900005 :: famS 1 0 q.needs.length) (.inl ⟨rfl,rfl⟩) (by simp [go_sem]) ?_; intro args ha; simp [go_sem] at ha; subst ha; refine ⟨_, _, (by rw [ba_mid, m2]; exact rline_ok p q l gb gp gn gw rs hp (by omega) he), (by simp [go_sem]), ?_⟩; rintro ps r hps ⟨gp', gn', gw', rs', hrs', rfl, rfl⟩; simp [go_sem]; ((repeat' (first|(refine ag_false ?_ ?_ ?_;(focus (simp [go_sem, undef];done));(focus (simp [go_sem];done));simp [go_sem])|(refine ag_true ?_ ?_;(focus (simp [go_sem, undef];done));simp [go_sem])|(refine ag_x ?_;simp [go_sem, undef])|intro _|apply And.intro|(apply hY;clear hY Y)));all_goals first|apply Hold.mk|omega|with_reducible assumption|skip))
     rw [putPs_fam (b := 1) (e := 94) (k := 2) (f := mP) rs' 0 _ (by have := congrArg List.length hrs'; simpa using this)]
     simp [go_sem]
     ((repeat' (first|(refine ag_false ?_ ?_ ?_;(focus (simp [go_sem, undef];done));(focus (simp [go_sem];done));simp [go_sem])|(refine ag_true ?_ ?_;(focus (simp [go_sem, undef];done));simp [go_sem])|(refine ag_x ?_;simp [go_sem, undef])|intro _|apply And.intro|(apply hY;clear hY Y)));all_goals first|apply Hold.mk|omega|with_reducible assumption|skip)
     (refine awp_if fun T F hT hF => ?_; simp [go_sem]; refine hF ?_; clear hT hF T F)
     refine awp_skip ?_
     refine hK5 _ ?_; clear hK5
     (refine awp_r fun Y hY => ?_; simp [go_sem]; ((repeat' (first|(refine ag_x ?_;simp [go_sem])|intro _|apply And.intro|(apply hY;clear hY Y)));all_goals first|apply Hold.mk|omega|with_reducible assumption|skip))
     refine ⟨(n + 1, q, gb, gp', gn', gw', rs'), ?_, ⟨by simp only; omega, (linesV_step hlv hx).trans he, hg.trans hgl, hrs'⟩, by simp only; omega⟩
     rw [hofn]
     (refine cov_of ?_ ?_ <;> simp [go_sem])
     exact ⟨by rw [look_fam_app _ _ (by decide)]; simp [go_sem], FamIn.app _ _⟩
   ·have hi4 : n + 1 = ls.length := by omega
    obtain ⟨m1, m2⟩ := hLa1 hi4 hx
    have hl0 : ¬ l = [] := fun q => by rw [q] at m2; simp at m2; omega
    have hgl := goL_last (p := p) hx hi4
    rw [if_neg hl0] at hgl
    have e := hF (hg.trans hgl)
    rw [m1]
    (refine awp_sr fun Y hY => ?_; simp [go_sem]; ((repeat' (first|(refine ag_false ?_ ?_ ?_;(focus (simp [go_sem, undef];done));(focus (simp [go_sem];done));simp [go_sem])|(refine ag_true ?_ ?_;(focus (simp [go_sem, undef];done));simp [go_sem])|(refine ag_x ?_;simp [go_sem, undef])|intro _|apply And.intro|(apply hY;clear hY Y)));all_goals first|apply Hold.mk|omega|with_reducible assumption|skip))
    (refine awp_if fun T F hT hF => ?_; simp [go_sem]; refine hT ?_; clear hT hF T F)
    (refine awp_sr fun Y hY => ?_; simp [go_sem]; ((repeat' (first|(refine ag_x ?_;simp [go_sem])|intro _|apply And.intro|(apply hY;clear hY Y)));all_goals first|apply Hold.mk|omega|with_reducible assumption|skip))
    (refine awp_ret ?_; simp [go_sem, e])
  clear hK4
  (refine awp_sr fun Y hY => ?_; simp [go_sem]; ((repeat' (first|(refine ag_x ?_;simp [go_sem])|intro _|apply And.intro|(apply hY;clear hY Y)));all_goals first|apply Hold.mk|omega|with_reducible assumption|skip))
  (refine awp_if fun T F hT hF => ?_; simp [go_sem]; refine BR.intro (fun h7 => hT ?_) (fun h7 => hF ?_); all_goals clear hT hF T F; try simp at h7) 
  ·(refine awp_r fun Y hY => ?_; simp [go_sem]; ((repeat' (first|(refine ag_x ?_;simp [go_sem])|intro _|apply And.intro|(apply hY;clear hY Y)));all_goals first|apply Hold.mk|omega|with_reducible assumption|skip))
   refine tl4 _ ?_
   have : begV ls (n + 1) = offV ls n := by rw [hbn, if_pos (by omega)]
   rw [this]
   (refine cov_of ?_ ?_ <;> simp [go_sem])
  ·refine awp_skip ?_
   refine tl4 _ ?_
   have : begV ls (n + 1) = begV ls n := by rw [hbn, if_neg (by omega)]
   rw [this]
   (refine cov_of ?_ ?_ <;> simp [go_sem])
 ·refine awp_exit ?_
  simp only [go_sem]
  refine hK1 _ ?_; clear hK1
  obtain ⟨e1, e2⟩ := hEnd1 (by omega)
  have hgl := goL_last (p := p) hx e1
  rw [hx] at e2
  obtain rfl := Option.some.inj e2
  rw [if_pos rfl] at hgl
  have hgE := hg.trans hgl
  refine awp_seq_k fun K8 hK8 => ?_
  by_cases h5 : p.part = 5
  ·obtain ⟨b1, b2, b3⟩ := hB1 e1 hx hlv h5
   have hu := hU hgE h5 b3
   have hz := hsz _ _ hlv
   have hnof : nOf p = satV p.sum := by unfold nOf; rw [if_pos h5]
   rw [hnof]
   (refine awp_sr fun Y hY => ?_; simp [go_sem, h5]; ((repeat' (first|(refine ag_x ?_;simp [go_sem, h5])|intro _|apply And.intro|(apply hY;clear hY Y)));all_goals first|apply Hold.mk|omega|with_reducible assumption|skip))
   (refine awp_if fun T F hT hF => ?_; simp [go_sem, h5]; refine hF ?_; clear hT hF T F)
   refine awp_skip ?_
   refine hK8 _ ?_; clear hK8
   generalize begV ls n = b at *
   have SU := rsum_spec (s.take b) (by rw [List.length_take]; omega)
   have hsl := sumV_lt (s.take b) (s.take b).length
   have CK := rLValid_spec (lkOf p) (lkOk_sz hz (by omega) (by omega))
   generalize sumV (s.take b) (s.take b).length = sm at *
   have hsat := sat_sum b1 sm hsl
   have hbi : (b : Int) ≤ s.length := by omega
   refine awp_seq_k fun K10 hK10 => ?_
   ((refine awp_dr (.qs [0, 1, 2, 4, 5, 6, 7] (.kp 3 (.qs [8] (.nil)))) (by kernel_rfl) ?_ ?_ ?_ ?_); (kernel_rfl); (exact (by decide +kernel)); (kernel_rfl); intro Y hY; ((repeat' (first|(refine ag_x ?_;simp [go_sem, hbi, b2])|refine adr_nil ?_|((first|refine adr_qs fun Y hY=>?_|refine adr_y fun Y hY=>?_);simp [go_sem, hbi, b2])|intro _|apply And.intro|(apply hY;clear hY Y)));all_goals first|apply Hold.mk|omega|with_reducible assumption|skip))
   ((try refine CallT.toA ?_); refine callT_m (.inl ⟨rfl,rfl⟩) (by simp [go_sem]) ?_; intro args ha; simp [go_sem] at ha; subst ha; refine ⟨_, (by first | exact SU | (rw [ba_take]; exact SU)), ?_⟩; rintro _ rfl; simp [go_sem]; ((repeat' (first|(refine ag_x ?_;simp [go_sem])|refine adr_nil ?_|((first|refine adr_qs fun Y hY=>?_|refine adr_y fun Y hY=>?_);simp [go_sem])|intro _|apply And.intro|(apply hY;clear hY Y)));all_goals first|apply Hold.mk|omega|with_reducible assumption|skip))
   by_cases hsum : p.sum = Lib.itoa sm
   ·rw [if_neg (by simp [hsum])] at hu
    have hq : sm = satV p.sum := (hsat.1 hsum).symm
    (refine awp_if fun T F hT hF => ?_; simp [go_sem, hq]; refine hF ?_; clear hT hF T F)
    refine awp_skip ?_
    refine hK10 _ ?_; clear hK10
    refine awp_seq_k fun K12 hK12 => ?_
    refine awp_frzin 900003 900002 0 rfl rfl (by decide) rfl ?_
    simp only [go_sem, List.set]
    refine awp_frzin 900005 900002 2 rfl rfl (by decide) rfl ?_
    simp only [go_sem, List.set]
    refine awp_frzfam (b := 1) (e := 94) (k := 2) (f := mP) (go := gn) (eo := 32) 900004 (rs := rs) (ho := [(2, (g2, .box [.v (.slice none 0 0), .v (.slice none 0 0), .v (.slice none 0 0)])), (900002, (gb, .box [dPs p.picks, .own 900004 gn, dPs p.wish, dI p.part, dI (satV p.sum)]))]) (by simp [go_sem]) (by simp [go_sem]) (by decide) (by simp [go_sem, h5]) (by simp) ?_
    refine awp_frzin 900004 900002 1 rfl rfl (by decide) rfl ?_
    simp only [go_sem, List.set]
    have hN : (rs.map fun r => [D.sl 2 (mP r.2)]) = p.needs.map fun n => [dPs n] := by rw [← hp.en, List.map_map]; rfl
    rw [hN]
    simp only [lkOf] at CK
    (refine awp_sr fun Y hY => ?_; simp [go_sem]; ((repeat' (first|(refine ag_x ?_;simp [go_sem])|intro _|apply And.intro|(apply hY;clear hY Y)));all_goals first|apply Hold.mk|omega|with_reducible assumption|skip))
    ((try refine CallT.toA ?_); refine callT_m (.inl ⟨rfl,rfl⟩) (by simp [go_sem]) ?_; intro args ha; simp [go_sem] at ha; subst ha; refine ⟨_, CK, ?_⟩; rintro _ rfl; simp [go_sem]; ((repeat' (first|(refine ag_x ?_;simp [go_sem])|intro _|apply And.intro|(apply hY;clear hY Y)));all_goals first|apply Hold.mk|omega|with_reducible assumption|skip))
    by_cases hlk : lockV (lkOf p) = true
    ·have hlk' : lockV (p.picks, p.needs, p.wish) = true := hlk
     rw [if_pos hlk] at hu
     (refine awp_if fun T F hT hF => ?_; simp [go_sem, hlk']; refine hF ?_; clear hT hF T F)
     refine awp_skip ?_
     refine hK12 _ ?_; clear hK12
     (refine awp_sr fun Y hY => ?_; simp [go_sem]; ((repeat' (first|(refine ag_x ?_;simp [go_sem])|intro _|apply And.intro|(apply hY;clear hY Y)));all_goals first|apply Hold.mk|omega|with_reducible assumption|skip))
     (refine awp_ret ?_; simp [go_sem, hu, lkOf])
    ·have hlk' : lockV (p.picks, p.needs, p.wish) = false := by simpa [lkOf] using hlk
     rw [if_neg (by simp [hlk])] at hu
     (refine awp_if fun T F hT hF => ?_; simp [go_sem, hlk']; refine hT ?_; clear hT hF T F)
     (refine awp_sr fun Y hY => ?_; simp [go_sem, hlk']; ((repeat' (first|(refine ag_x ?_;simp [go_sem, hlk'])|intro _|apply And.intro|(apply hY;clear hY Y)));all_goals first|apply Hold.mk|omega|with_reducible assumption|skip))
     (refine awp_ret ?_; simp [go_sem, hu, hlk'])
   ·rw [if_pos hsum] at hu
    have hq : ¬ sm = satV p.sum := fun q => hsum (hsat.2 q.symm)
    have hqi : ¬ (sm : Int) = satV p.sum := by omega
    (refine awp_if fun T F hT hF => ?_; simp [go_sem, hq, hqi]; refine hT ?_; clear hT hF T F)
    (refine awp_sr fun Y hY => ?_; simp [go_sem]; ((repeat' (first|(refine ag_x ?_;simp [go_sem])|intro _|apply And.intro|(apply hY;clear hY Y)));all_goals first|apply Hold.mk|omega|with_reducible assumption|skip))
    (refine awp_ret ?_; simp [go_sem, hu])
  ·have e := hS hgE h5
   have h5i : ¬ (p.part : Int) = 5 := by omega
   (refine awp_sr fun Y hY => ?_; simp [go_sem, h5, h5i]; ((repeat' (first|(refine ag_x ?_;simp [go_sem, h5, h5i])|intro _|apply And.intro|(apply hY;clear hY Y)));all_goals first|apply Hold.mk|omega|with_reducible assumption|skip))
   (refine awp_if fun T F hT hF => ?_; simp [go_sem, h5, h5i]; refine hT ?_; clear hT hF T F)
   (refine awp_sr fun Y hY => ?_; simp [go_sem]; ((repeat' (first|(refine ag_x ?_;simp [go_sem])|intro _|apply And.intro|(apply hY;clear hY Y)));all_goals first|apply Hold.mk|omega|with_reducible assumption|skip))
   (refine awp_ret ?_; simp [go_sem, e])
theorem parV_ok (s : Bs) (hl : s.length ≤ 1000000) (hc : (dots 10 s).length ≤ 100000) : LkOk (parV s).1 := by
 have h0 : LkOk lk0 := by unfold LkOk; simp
 unfold parV
 split
 ·exact h0
 ·rename_i p n hg
  obtain ⟨k, hk, hlv⟩ := goL_lines s hg
  split
  ·exact h0
  ·split
   ·exact h0
   ·split
    ·exact lkOk_sz (lines_sz s k p hlv) (by omega) (by omega)
    ·exact h0
theorem lk0_ok : LkOk lk0 := by unfold LkOk; simp
theorem lk0_v : lockV lk0 = true := by decide
theorem lk0_text : Lk.textV lk0 = [71, 69, 77, 83, 10, 10, 87, 73, 83, 72, 10, 10, 83, 85, 77, 32, 51, 55, 55, 50, 10] := by
 have h1 : headT lk0 = [71, 69, 77, 83, 10, 10, 87, 73, 83, 72, 10, 10] := by decide
 have h2 : sumV [71, 69, 77, 83, 10, 10, 87, 73, 83, 72, 10, 10] 12 = 3772 := by decide +kernel
 unfold Lk.textV
 rw [h1]
 have h3 : ([71, 69, 77, 83, 10, 10, 87, 73, 83, 72, 10, 10] : Bs).length = 12 := rfl
 rw [h3, h2]
 have h4 : Lib.itoa (3772 : Nat) = [51, 55, 55, 50] := by
  unfold Lib.itoa
  rw [if_neg (by omega), Int.toNat_natCast]
  simp [Lib.decDigits]
 rw [h4]
 rfl
set_option maxHeartbeats 4000000 in
theorem sane_spec : PCall Tryz.prog 10 [] fun r => r = dB true := by 
 refine pcall_of Tryz.func10 rfl rfl Tryz.ntmps10 (rs := [.tmp 0]) (tys := [4]) rfl rfl (by simp) ?_
 have T0 := lText_spec lk0 lk0_ok
 rw [lk0_v, if_pos rfl, if_pos rfl, lk0_text] at T0
 have P0 := parV_text lk0_v
 rw [lk0_text] at P0
 have PS := lParse_spec [71, 69, 77, 83, 10, 10, 87, 73, 83, 72, 10, 10, 83, 85, 77, 32, 51, 55, 55, 50, 10] (by decide) (by decide)
 rw [P0] at PS
 (refine awp_sr fun Y hY => ?_; simp [go_sem]; ((repeat' (first|(refine ag_x ?_;simp [go_sem])|intro _|apply And.intro|(apply hY;clear hY Y)));all_goals first|apply Hold.mk|omega|with_reducible assumption|skip))
 (refine awp_sr fun Y hY => ?_; simp [go_sem]; ((repeat' (first|(refine ag_x ?_;simp [go_sem])|intro _|apply And.intro|(apply hY;clear hY Y)));all_goals first|apply Hold.mk|omega|with_reducible assumption|skip))
 ((try refine CallT.toA ?_); refine callT_m (.inl ⟨rfl,rfl⟩) (by simp [go_sem]) ?_; intro args ha; simp [go_sem] at ha; subst ha; refine ⟨_, T0, ?_⟩; rintro _ rfl; simp [go_sem]; ((repeat' (first|(refine ag_x ?_;simp [go_sem])|intro _|apply And.intro|(apply hY;clear hY Y)));all_goals first|apply Hold.mk|omega|with_reducible assumption|skip))
 (refine awp_sr fun Y hY => ?_; simp [go_sem]; ((repeat' (first|(refine ag_x ?_;simp [go_sem])|intro _|apply And.intro|(apply hY;clear hY Y)));all_goals first|apply Hold.mk|omega|with_reducible assumption|skip))
 ((try refine CallT.toA ?_); refine callT_m (.inl ⟨rfl,rfl⟩) (by simp [go_sem]) ?_; intro args ha; simp [go_sem] at ha; subst ha; refine ⟨_, PS, ?_⟩; rintro _ rfl; simp [go_sem]; ((repeat' (first|(refine ag_x ?_;simp [go_sem])|intro _|apply And.intro|(apply hY;clear hY Y)));all_goals first|apply Hold.mk|omega|with_reducible assumption|skip))
 (refine awp_sr fun Y hY => ?_; simp [go_sem]; ((repeat' (first|(refine ag_x ?_;simp [go_sem])|intro _|apply And.intro|(apply hY;clear hY Y)));all_goals first|apply Hold.mk|omega|with_reducible assumption|skip))
 (refine awp_ret ?_; simp [go_sem])
set_option maxHeartbeats 4000000 in
theorem parses_spec (s : Bs) (hl : s.length ≤ 1000000) (hc : (dots 10 s).length ≤ 100000) : PCall Tryz.prog 9 [dS s] fun r => r = dB true := by 
 refine pcall_of Tryz.func9 rfl rfl Tryz.ntmps9 (rs := [.tmp 2]) (tys := [4]) rfl rfl (by simp) ?_
 have PL := lParse_spec s hl hc
 have PR := rParse_spec s hl hc
 have S1 := sum_spec s (by omega)
 have S2 := rsum_spec s (by omega)
 have hok : LkOk (parV s).1 := parV_ok s hl hc
 have A := as_spec (parV s).1 hok
 have E := rSame_spec (parV s).1 (parV s).1 hok hok
 rw [decide_eq_true rfl] at E
 generalize sumV s s.length = sm at *
 generalize parV s = q at *
 obtain ⟨⟨P, N, W⟩, n, e⟩ := q
 simp only at *
 (refine awp_sr fun Y hY => ?_; simp [go_sem]; ((repeat' (first|(refine ag_x ?_;simp [go_sem])|intro _|apply And.intro|(apply hY;clear hY Y)));all_goals first|apply Hold.mk|omega|with_reducible assumption|skip))
 (refine awp_sr fun Y hY => ?_; simp [go_sem]; ((repeat' (first|(refine ag_x ?_;simp [go_sem])|intro _|apply And.intro|(apply hY;clear hY Y)));all_goals first|apply Hold.mk|omega|with_reducible assumption|skip))
 ((try refine CallT.toA ?_); refine callT_m (.inl ⟨rfl,rfl⟩) (by simp [go_sem]) ?_; intro args ha; simp [go_sem] at ha; subst ha; refine ⟨_, PL, ?_⟩; rintro _ rfl; simp [go_sem]; ((repeat' (first|(refine ag_x ?_;simp [go_sem])|intro _|apply And.intro|(apply hY;clear hY Y)));all_goals first|apply Hold.mk|omega|with_reducible assumption|skip))
 (refine awp_sr fun Y hY => ?_; simp [go_sem]; ((repeat' (first|(refine ag_x ?_;simp [go_sem])|intro _|apply And.intro|(apply hY;clear hY Y)));all_goals first|apply Hold.mk|omega|with_reducible assumption|skip))
 ((try refine CallT.toA ?_); refine callT_m (.inl ⟨rfl,rfl⟩) (by simp [go_sem]) ?_; intro args ha; simp [go_sem] at ha; subst ha; refine ⟨_, PR, ?_⟩; rintro _ rfl; simp [go_sem]; ((repeat' (first|(refine ag_x ?_;simp [go_sem])|intro _|apply And.intro|(apply hY;clear hY Y)));all_goals first|apply Hold.mk|omega|with_reducible assumption|skip))
 rename_i g3 g6
 ((refine awp_dr (.qs [0, 2] (.kp 1 (.kp 3 (.qs [4, 5, 6, 7, 8, 9, 10, 11, 12, 13, 14, 15, 17] (.kp 16 (.kp 18 (.qs [19, 20, 21] (.nil)))))))) (by kernel_rfl) ?_ ?_ ?_ ?_); (kernel_rfl); (exact (by decide +kernel)); (kernel_rfl); intro Y hY; ((repeat' (first|(refine ag_x ?_;simp [go_sem])|refine adr_nil ?_|((first|refine adr_qs fun Y hY=>?_|refine adr_y fun Y hY=>?_);simp [go_sem])|intro _|apply And.intro|(apply hY;clear hY Y)));all_goals first|apply Hold.mk|omega|with_reducible assumption|skip))
 ((try refine CallT.toA ?_); refine callT_m (.inl ⟨rfl,rfl⟩) (by simp [go_sem]) ?_; intro args ha; simp [go_sem] at ha; subst ha; refine ⟨_, A, ?_⟩; rintro _ rfl; simp [go_sem]; ((repeat' (first|(refine ag_x ?_;simp [go_sem])|refine adr_nil ?_|((first|refine adr_qs fun Y hY=>?_|refine adr_y fun Y hY=>?_);simp [go_sem])|intro _|apply And.intro|(apply hY;clear hY Y)));all_goals first|apply Hold.mk|omega|with_reducible assumption|skip))
 ((try refine CallT.toA ?_); refine callT_m (.inl ⟨rfl,rfl⟩) (by simp [go_sem]) ?_; intro args ha; simp [go_sem] at ha; subst ha; refine ⟨_, E, ?_⟩; rintro _ rfl; simp [go_sem]; ((repeat' (first|(refine ag_x ?_;simp [go_sem])|refine adr_nil ?_|((first|refine adr_qs fun Y hY=>?_|refine adr_y fun Y hY=>?_);simp [go_sem])|intro _|apply And.intro|(apply hY;clear hY Y)));all_goals first|apply Hold.mk|omega|with_reducible assumption|skip))
 (refine agc_f (dI sm) (.inl ⟨rfl,rfl⟩) ?_ rfl ?_; (intro hc args ha; simp [go_sem] at ha; subst ha; exact S1); simp [go_sem]; ((repeat' (first|(refine ag_x ?_;simp [go_sem])|refine adr_nil ?_|((first|refine adr_qs fun Y hY=>?_|refine adr_y fun Y hY=>?_);simp [go_sem])|intro _|apply And.intro|(apply hY;clear hY Y)));all_goals first|apply Hold.mk|omega|with_reducible assumption|skip))
 (refine agc_f (dI sm) (.inl ⟨rfl,rfl⟩) ?_ rfl ?_; (intro hc args ha; simp [go_sem] at ha; subst ha; exact S2); simp [go_sem]; ((repeat' (first|(refine ag_x ?_;simp [go_sem])|refine adr_nil ?_|((first|refine adr_qs fun Y hY=>?_|refine adr_y fun Y hY=>?_);simp [go_sem])|intro _|apply And.intro|(apply hY;clear hY Y)));all_goals first|apply Hold.mk|omega|with_reducible assumption|skip))
 (refine awp_ret ?_; simp [go_sem])
end Go.Proofs.YtchnagdaljblnaaGreatDoor
set_option maxRecDepth 20000
namespace Go.Lk
open Go.Lib Go.Wh Go.Ver
/-! how long a valid lock's text is, and of how many lines -/
theorem dots_cnt (c : UInt8) : ∀ s : Bs, (dots c s).length = s.count c + 1
 | [] => by simp [dots]
 | b :: l => by
  have ih := dots_cnt c l
  unfold dots
  split
  ·rename_i e; subst e; simp [ih]
  ·rename_i e
   have hc : (b :: l).count c = l.count c := by rw [List.count_cons]; simp [e]
   rw [hc]
   cases hd : dots c l with
   | nil => exact absurd hd (dots_ne c l)
   | cons x y => rw [hd] at ih; simp [consH] at ih ⊢; omega
def NdOk (n : Prs) : Prop := n.1.length ≤ 20 ∧ n.2.length ≤ 1300 ∧ 10 ∉ bodyL n
theorem want_small {ind : Bs} (hi : ind.length ≤ 4) (h10 : 10 ∉ ind) {n : Prs} (h : NdOk n) : (wantL ind n).length ≤ 1328 ∧ (wantL ind n).count 10 ≤ 1 := by
 obtain ⟨a, b, c⟩ := h
 refine ⟨by have := wantL_len ind n; omega, ?_⟩
 rw [wantL_body, List.count_append, List.count_append, List.count_eq_zero_of_not_mem h10, List.count_eq_zero_of_not_mem c]
 decide
theorem nds_small {ind : Bs} {l : List Prs} (hi : ind.length ≤ 4) (h10 : 10 ∉ ind) (h : ∀ n ∈ l, NdOk n) : ∀ k, (ndsT ind l k).length ≤ k * 1328 ∧ (ndsT ind l k).count 10 ≤ k
 | 0 => by simp [ndsT]
 | k + 1 => by
  obtain ⟨ih1, ih2⟩ := nds_small hi h10 h k
  have e : (k + 1) * 1328 = k * 1328 + 1328 := Nat.succ_mul _ _
  by_cases hk : k < l.length
  ·have hx := List.getElem?_eq_getElem hk
   obtain ⟨q1, q2⟩ := want_small hi h10 (h _ (List.getElem_mem hk))
   rw [ndsT_step hx, List.length_append, List.count_append, e]
   exact ⟨Nat.add_le_add ih1 q1, Nat.add_le_add ih2 q2⟩
  ·have : ndsT ind l (k + 1) = ndsT ind l k := by
    unfold ndsT; rw [List.take_of_length_le (by omega), List.take_of_length_le (by omega)]
   rw [this, e]
   exact ⟨Nat.le_trans ih1 (Nat.le_add_right _ _), Nat.le_trans ih2 (Nat.le_succ _)⟩
theorem needsV_nd {m : Nat} {l : List Prs} (h : needsV m l = true) : ∀ n ∈ l, NdOk n := fun n hn => by
 obtain ⟨a, b⟩ := needsV_each h n hn
 exact ⟨(name_nm a).2.2, condsV_len b, body_out a (condsV_out out10 b)⟩
theorem pks_small {L : Lck} (h : lockV L = true) : ∀ i, i ≤ L.1.length → (pksT L i).length ≤ 5 + i * 8054 ∧ (pksT L i).count 10 ≤ 1 + i * 7
 | 0, _ => by simp [pksT, gemsH]
 | i + 1, hi => by
  obtain ⟨v1, v2, v3, v4⟩ := lockV_parts h
  obtain ⟨ih1, ih2⟩ := pks_small h i (by omega)
  have hx := List.getElem?_eq_getElem (l := L.1) (i := i) (by omega)
  have hr := List.getElem?_eq_getElem (l := L.2.1) (i := i) (by omega)
  obtain ⟨a1, a2, a3⟩ := lockV_pick h hx hr
  have hnl := needsV_len a3
  obtain ⟨n1, n2⟩ := nds_small (ind := pre4) (by decide) (by decide) (needsV_nd a3) (L.2.1[i]).length
  have hb := body_out a1 (readV_out out10 a2)
  have hp := pickL_body (readV_ne a2)
  have hpl : (pickL L.1[i]).length ≤ 86 := by
   have := (name_nm a1).2.2
   have := readV_len a2
   simp [pickL]; omega
  have hpc : (pickL L.1[i]).count 10 = 1 := by
   rw [hp, List.count_append, List.count_append, List.count_eq_zero_of_not_mem hb]
   decide
  have e : (i + 1) * 8054 = i * 8054 + 8054 := Nat.succ_mul _ _
  have n1' : (ndsT pre4 L.2.1[i] L.2.1[i].length).length ≤ 7968 := Nat.le_trans n1 (Nat.le_trans (Nat.mul_le_mul_right _ hnl) (by decide))
  rw [pksT_step hx hr, e]
  simp only [List.length_append, List.count_append, hpc]
  refine ⟨?_, by omega⟩
  have : 5 + (i * 8054 + 8054) = (5 + i * 8054) + (86 + 7968) := by omega
  rw [this]
  exact Nat.add_le_add ih1 (Nat.add_le_add hpl n1')
theorem text_tiny {L : Lck} (h : lockV L = true) : (textV L).length ≤ 500000 ∧ (textV L).count 10 ≤ 500 := by
 obtain ⟨v1, v2, v3, v4⟩ := lockV_parts h
 obtain ⟨p1, p2⟩ := pks_small h L.1.length (Nat.le_refl _)
 obtain ⟨n1, n2⟩ := nds_small (ind := pre2) (by decide) (by decide) (needsV_nd v3) L.2.2.length
 have hw := needsV_len v3
 have hm := sumV_lt (headT L) (headT L).length
 have hil := itoa_length_le (sumV (headT L) (headT L).length : Nat) (by omega) (by omega)
 have p1' : (pksT L L.1.length).length ≤ 483245 := Nat.le_trans p1 (Nat.le_trans (Nat.add_le_add_left (Nat.mul_le_mul_right _ v1) 5) (by decide))
 have n1' : (ndsT pre2 L.2.2 L.2.2.length).length ≤ 10624 := Nat.le_trans n1 (Nat.le_trans (Nat.mul_le_mul_right _ hw) (by decide))
 have hi10 : (itoa (sumV (headT L) (headT L).length : Nat)).count 10 = 0 := by
  refine List.count_eq_zero_of_not_mem fun q => ?_
  unfold itoa at q
  rw [if_neg (by omega), Int.toNat_natCast] at q
  have := decDigits_isD _ 10 q
  revert this; decide
 constructor
 ·unfold textV
  generalize itoa (sumV (headT L) (headT L).length : Nat) = d at *
  unfold headT
  simp only [List.length_append]
  have e1 : wishH.length = 6 := rfl
  have e2 : preSum.length = 4 := rfl
  have e3 : ([10] : Bs).length = 1 := rfl
  rw [e1, e2, e3]
  omega
 ·unfold textV
  generalize itoa (sumV (headT L) (headT L).length : Nat) = d at *
  unfold headT
  simp only [List.count_append, hi10]
  have e1 : wishH.count 10 = 2 := by decide
  have e2 : preSum.count 10 = 0 := by decide
  have e3 : ([10] : Bs).count 10 = 1 := by decide
  rw [e1, e2, e3]
  omega
end Go.Lk
namespace Go.Proofs.YtchnagdaljblnaaGreatDoor
open Go.Eng Go.Wh Go.Ver Go.RowKit Go.Lk
set_option maxRecDepth 20000
attribute [local irreducible] AG CallA CallT AWp PCall ACall AgC
theorem dec_small {n : Nat} (h : n < 10) : Lib.decDigits n = [UInt8.ofNat (48 + n)] := by
 rw [Lib.decDigits, dif_pos h]
theorem dec_big {n : Nat} (h : ¬ n < 10) : Lib.decDigits n = Lib.decDigits (n / 10) ++ Lib.decDigits (n % 10) := by
 rw [dec_small (Nat.mod_lt n (by decide))]
 conv => lhs; rw [Lib.decDigits, dif_neg h]
theorem dig_lit : ∀ n : Nat, n < 10 → ({ data := #[48, 49, 50, 51, 52, 53, 54, 55, 56, 57] } : ByteArray).extract n (n + 1) = { data := #[UInt8.ofNat (48 + n)] } := by decide
set_option maxHeartbeats 4000000 in
theorem digits_spec : ∀ (f n : Nat), n < f → n ≤ 1000000000 → PCall Tryz.prog 13 [dI n] fun r => r = dS (Lib.decDigits n)
 | 0, n, h, _ => absurd h (by omega)
 | f + 1, n, h, hn => by
  refine pcall_of Tryz.func13 rfl rfl Tryz.ntmps13 (rs := [.tmp 2]) (tys := [9]) rfl rfl (by simp) ?_
  by_cases h10 : n < 10
  ·have hi : (n : Int) < 10 := by omega
   have hl := dig_lit n h10
   have e1 : ((n : Int) + 1).toNat = n + 1 := by omega
   have e2 : (n : Int) ≤ (n : Int) + 1 := by omega
   have e3 : (n : Int) + 1 ≤ 10 := by omega
   rw [dec_small h10]
   (refine awp_sr fun Y hY => ?_; simp [go_sem]; ((repeat' (first|(refine ag_x ?_;simp [go_sem])|intro _|apply And.intro|(apply hY;clear hY Y)));all_goals first|apply Hold.mk|omega|with_reducible assumption|skip))
   refine awp_seq_k fun K1 hK1 => ?_
   (refine awp_sr fun Y hY => ?_; simp [go_sem, hi]; ((repeat' (first|(refine ag_x ?_;simp [go_sem, hi])|intro _|apply And.intro|(apply hY;clear hY Y)));all_goals first|apply Hold.mk|omega|with_reducible assumption|skip))
   (refine awp_if fun T F hT hF => ?_; simp [go_sem, hi]; refine hT ?_; clear hT hF T F)
   (refine awp_sr fun Y hY => ?_; simp [go_sem, hl, e1, e2, e3]; ((repeat' (first|(refine ag_x ?_;simp [go_sem, hl, e1, e2, e3])|intro _|apply And.intro|(apply hY;clear hY Y)));all_goals first|apply Hold.mk|omega|with_reducible assumption|skip))
   (refine awp_ret ?_; simp [go_sem])
  ·have hi : ¬ (n : Int) < 10 := by omega
   have D1 := digits_spec f (n / 10) (by omega) (by omega)
   have D2 := digits_spec f (n % 10) (by omega) (by omega)
   have q1 : ((n : Int).tdiv 10) = ((n / 10 : Nat) : Int) := by rw [Int.tdiv_eq_ediv_of_nonneg (by omega)]; rfl
   have q2 : ((n : Int).tmod 10) = ((n % 10 : Nat) : Int) := by rw [Int.tmod_eq_emod_of_nonneg (by omega)]; rfl
   have l1 := Lib.itoa_length_le ((n / 10 : Nat) : Int) (by omega) (by omega)
   have l2 := Lib.itoa_length_le ((n % 10 : Nat) : Int) (by omega) (by omega)
   unfold Lib.itoa at l1 l2
   rw [if_neg (by omega), Int.toNat_natCast] at l1 l2
   rw [dec_big h10]
   generalize Lib.decDigits (n / 10) = a at *
   generalize Lib.decDigits (n % 10) = b at *
   (refine awp_sr fun Y hY => ?_; simp [go_sem]; ((repeat' (first|(refine ag_x ?_;simp [go_sem])|intro _|apply And.intro|(apply hY;clear hY Y)));all_goals first|apply Hold.mk|omega|with_reducible assumption|skip))
   refine awp_seq_k fun K1 hK1 => ?_
   (refine awp_sr fun Y hY => ?_; simp [go_sem, hi]; ((repeat' (first|(refine ag_x ?_;simp [go_sem, hi])|intro _|apply And.intro|(apply hY;clear hY Y)));all_goals first|apply Hold.mk|omega|with_reducible assumption|skip))
   (refine awp_if fun T F hT hF => ?_; simp [go_sem, hi]; refine hF ?_; clear hT hF T F)
   refine awp_skip ?_
   refine hK1 _ ?_; clear hK1
   (refine awp_sr fun Y hY => ?_; simp [go_sem, q1, q2]; ((repeat' (first|(refine ag_x ?_;simp [go_sem, q1, q2])|intro _|apply And.intro|(apply hY;clear hY Y)));all_goals first|apply Hold.mk|omega|with_reducible assumption|skip))
   ((try refine CallT.toA ?_); refine callT_m (.inl ⟨rfl,rfl⟩) (by simp [go_sem]) ?_; intro args ha; simp [go_sem] at ha; subst ha; refine ⟨_, D1, ?_⟩; rintro _ rfl; simp [go_sem, q1, q2]; ((repeat' (first|(refine ag_x ?_;simp [go_sem, q1, q2])|intro _|apply And.intro|(apply hY;clear hY Y)));all_goals first|apply Hold.mk|omega|with_reducible assumption|skip))
   ((try refine CallT.toA ?_); refine callT_m (.inl ⟨rfl,rfl⟩) (by simp [go_sem]) ?_; intro args ha; simp [go_sem] at ha; subst ha; refine ⟨_, D2, ?_⟩; rintro _ rfl; simp [go_sem, q1, q2]; ((repeat' (first|(refine ag_x ?_;simp [go_sem, q1, q2])|intro _|apply And.intro|(apply hY;clear hY Y)));all_goals first|apply Hold.mk|omega|with_reducible assumption|skip))
   (refine awp_ret ?_; simp [go_sem])
def SOk (s : Bs) : Prop := s.length ≤ 600000 ∧ s.count 10 ≤ 5000
theorem sok_parses {s : Bs} (h : SOk s) : PCall Tryz.prog 9 [dS s] fun r => r = dB true := parses_spec s (by have := h.1; omega) (by rw [dots_cnt]; have := h.2; omega)
theorem sub_le {a b : Bs} (h : a.Sublist b) : a.length ≤ b.length ∧ a.count 10 ≤ b.count 10 := ⟨h.length_le, h.count_le 10⟩
end Go.Proofs.YtchnagdaljblnaaGreatDoor
