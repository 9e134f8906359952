/- Part of a proof: see the last text. -/
import Derived.Test.YteekfnhhlcmcgaaGreatDoorGF
set_option linter.unusedVariables false
set_option linter.unusedSimpArgs false
namespace Go.Proofs.YteekfnhhlcmcgaaGreatDoor
open Go.Eng Go.Wh Go.Ver Go.RowKit Go.Lk
set_option maxRecDepth 20000
attribute [local irreducible] AG CallA CallT AWp PCall ACall AgC
set_option maxHeartbeats 8000000 in
theorem line2_ok (P W : List Prs) (N : List (List Prs)) (sum : Bs) (p' : PS) (s : Bs) (gb gp gn gw : Nat) (rs : List (Nat × List Prs)) (hp : PsOk ⟨2, P, N, W, sum⟩ rs) (hl : s.length ≤ 1000000) (he : lineV ⟨2, P, N, W, sum⟩ s = some p') :
  ACall Tryz.prog 118 [.ptr 900002 gb 0, dS s] (rdH ⟨2, P, N, W, sum⟩ gb gp gn gw rs) (900002 :: 900003 :: 900004 :: 900005 :: famS 1 0 p'.needs.length)
   fun ps r => ∃ gp' gn' gw' rs', rs'.map (·.2) = p'.needs ∧ ps = (gb, .box [dI p'.part, .own 900003 gp', .own 900004 gn', .own 900005 gw', dS p'.sum]) :: (gp', .row 41 2 (p'.picks.map cP)) :: (gn', .row 38 1 (famO 1 0 rs')) :: (gw', .row 114 2 (p'.wish.map cP)) :: famP 114 2 mP rs' ∧ r = dB true := by 
 refine acall_of Tryz.func118 rfl rfl Tryz.ntmps118 (rs := [.tmp 4]) (tys := [4]) rfl rfl (by simp) ?_ ?_
 ·exact rdH_ok _ gb gp gn gw rs _ (by have h1 := line_len he; have h2 := congrArg List.length hp.en; simp only [List.length_map] at h1 h2; omega)
 have hq := hp
 obtain ⟨hrs, hnl, hpl, hwl, hrl⟩ := hp
 simp only at hrs hnl hpl hwl hrl
 have hrl2 := congrArg List.length hrs
 simp only [List.length_map] at hrl2
 simp only [lineV] at he
 split at he
 ·rename_i h1
  simp only [Option.some.injEq] at he
  subst he
  have h1' : (s.toArray == wishT.toArray) = true := by rw [h1]; rfl
  focus
   (refine awp_sr fun Y Yh => ?_; simp [go_sem]; ((repeat' (first|(refine ag_x ?_;simp [go_sem])|intro _|apply And.intro|(apply Yh;clear Yh Y)));all_goals first|apply Hold.mk|omega|assumption|skip))
   refine awp_seq_k fun K1 hK1 => ?_
   (refine awp_sr fun Y Yh => ?_; simp [go_sem]; ((repeat' (first|(refine ag_x ?_;simp [go_sem])|intro _|apply And.intro|(apply Yh;clear Yh Y)));all_goals first|apply Hold.mk|omega|assumption|skip))
   refine awp_block ?_
   refine awp_seq_k fun K2 hK2 => ?_
   (refine awp_sr fun Y Yh => ?_; simp [go_sem]; ((repeat' (first|(refine ag_x ?_;simp [go_sem])|intro _|apply And.intro|(apply Yh;clear Yh Y)));all_goals first|apply Hold.mk|omega|assumption|skip))
   (refine awp_if fun T F hT hF => ?_; simp [go_sem]; refine hF ?_; clear hT hF T F)
   (refine awp_r fun Y Yh => ?_; simp [go_sem]; ((repeat' (first|(refine ag_x ?_;simp [go_sem])|intro _|apply And.intro|(apply Yh;clear Yh Y)));all_goals first|apply Hold.mk|omega|assumption|skip))
   refine hK2 _ ?_; clear hK2
   (refine awp_if fun T F hT hF => ?_; simp [go_sem]; refine hT ?_; clear hT hF T F)
   (refine awp_sr fun Y Yh => ?_; simp [go_sem]; ((repeat' (first|(refine ag_x ?_;simp [go_sem])|intro _|apply And.intro|(apply Yh;clear Yh Y)));all_goals first|apply Hold.mk|omega|assumption|skip))
   refine awp_cov (S' := ⟨[(0, .ptr 900002 gb 0), (1, dS s)], rdH ⟨3, P, N, W, sum⟩ gb gp gn gw rs⟩) (by (refine cov_of ?_ ?_ <;> simp [go_sem])) ?_
   refine awp_sr fun Y Yh => ?_
   simp (maxSteps := 2000000) [go_sem]
   ((repeat' (first|(refine ag_x ?_;simp [go_sem])|refine adr_nil ?_|refine adr_two ?_ ?_|refine adr_kq ?_ ?_|refine adr_three ?_ ?_ ?_|refine adr_four ?_ ?_ ?_ ?_|refine adr_kp2 ?_ ?_|refine adr_kp3 ?_ ?_ ?_|((first|refine adr_qs fun Y Yh=>?_|refine adr_y fun Y Yh=>?_);simp [go_sem])|intro _|apply And.intro|(apply Yh;clear Yh Y)));all_goals first|apply Hold.mk|omega|assumption|skip)
   (refine awp_ret ?_; simp [go_sem, h1, wishT])
   refine postK_fam (b := 1) (e := 114) (k := 2) (f := mP) rs 0 N.length _ hrl2 (by simp [go_sem]) ?_
   exact ⟨gp, gn, gw, rs, hrs, by simp⟩
 ·cases he
end Go.Proofs.YteekfnhhlcmcgaaGreatDoor
