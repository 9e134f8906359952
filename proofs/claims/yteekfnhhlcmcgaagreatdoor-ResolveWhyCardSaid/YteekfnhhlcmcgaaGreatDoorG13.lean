/- Part of a proof: see the last text. -/
import Derived.Test.YteekfnhhlcmcgaaGreatDoorG12
import Derived.Test.YteekfnhhlcmcgaaGreatDoorG11
set_option linter.unusedVariables false
set_option linter.unusedSimpArgs false
namespace Go.Proofs.YteekfnhhlcmcgaaGreatDoor
open Go.Eng Go.Wh Go.Ver Go.Lk
set_option maxRecDepth 20000
attribute [local irreducible] AG CallA CallT AWp PCall ACall AgC
set_option maxHeartbeats 16000000 in
theorem resolveWhy_spec (a : List Int) (ha : a.length ≤ 9223372036854775807) : PCall Tryz.prog 5 [dIs a] fun r => r = dB true := by 
 refine pcall_of Tryz.func5 rfl rfl Tryz.ntmps5 (rs := [.tmp 2]) (tys := [4]) rfl rfl (by simp) ?_
 have G := rGrown_spec a ha
 (refine awp_sr fun Y Yh => ?_; simp [go_sem]; ((repeat' (first|(refine ag_x ?_;simp [go_sem])|intro _|apply And.intro|(apply Yh;clear Yh Y)));all_goals first|apply Hold.mk|omega|with_reducible assumption|skip))
 (refine awp_sr fun Y Yh => ?_; simp [go_sem]; ((repeat' (first|(refine ag_x ?_;simp [go_sem])|intro _|apply And.intro|(apply Yh;clear Yh Y)));all_goals first|apply Hold.mk|omega|with_reducible assumption|skip))
 ((try refine CallT.toA ?_); refine callT_m (.inl ⟨rfl,rfl⟩) (by simp [go_sem]) ?_; intro args ha; simp [go_sem] at ha; subst ha; refine ⟨_, G, ?_⟩; rintro _ ⟨s, w, hG, rfl⟩; simp [go_sem]; ((repeat' (first|(refine ag_x ?_;simp [go_sem])|intro _|apply And.intro|(apply Yh;clear Yh Y)));all_goals first|apply Hold.mk|omega|with_reducible assumption|skip))
 have hc := grOk_chk hG
 have hsu := grOk_su hG
 have hs := suV_sz hsu
 have hw := grOk_wz hG
 refine awp_frzbox 3 rfl rfl ?_
 simp only [go_sem]
 (refine awp_sr fun Y Yh => ?_; simp [go_sem]; ((repeat' (first|(refine ag_x ?_;simp [go_sem])|intro _|apply And.intro|(apply Yh;clear Yh Y)));all_goals first|apply Hold.mk|omega|with_reducible assumption|skip))
 ((try refine CallT.toA ?_); refine callT_m (.inl ⟨rfl,rfl⟩) (by simp [go_sem]) ?_; intro args ha; simp [go_sem] at ha; subst ha; refine ⟨_, (Back_spec s hs), ?_⟩; rintro _ rfl; simp [go_sem]; ((repeat' (first|(refine ag_x ?_;simp [go_sem])|intro _|apply And.intro|(apply Yh;clear Yh Y)));all_goals first|apply Hold.mk|omega|with_reducible assumption|skip))
 refine awp_frzbox 5 rfl rfl ?_
 simp only [go_sem]
 have S1 := fun w' hw' => Solve_spec s w' 2000 hs hw' (by constructor <;> decide)
 have W1 := Why_spec s w 2000 hs hw (by constructor <;> decide)
 have hsl : s.length ≤ 5 := by have := congrArg List.length hG.nm; simp [gnmL] at this; omega
 have hcap := fun w' => @solV_cap s w' 2000 hsu hsl (fun g hg => (hG.vs g hg).2) (by decide)
 have hlaw := why_law2 hc hcap (by decide) (by decide)
 generalize whyV s w 2000 = q at *
 obtain ⟨l, e⟩ := q
 simp only at W1 hlaw
 ((refine awp_dr (.qs [1, 0] (.kp 2 (.kp 3 (.qs [4, 5, 6, 7, 8] (.nil))))) (by kernel_rfl) ?_ ?_ ?_ ?_); (kernel_rfl); (exact (by decide +kernel)); (kernel_rfl); intro Y Yh; ((repeat' (first|(refine ag_x ?_;simp [go_sem])|refine adr_nil ?_|((first|refine adr_qs fun Y Yh=>?_|refine adr_y fun Y Yh=>?_);simp [go_sem])|intro _|apply And.intro|(apply Yh;clear Yh Y)));all_goals first|apply Hold.mk|omega|with_reducible assumption|skip))
 ((try refine CallT.toA ?_); refine callT_m (.inl ⟨rfl,rfl⟩) (by simp [go_sem]) ?_; intro args ha; simp [go_sem] at ha; subst ha; refine ⟨_, (back12_spec w hw.1), ?_⟩; rintro _ rfl; simp [go_sem]; ((repeat' (first|(refine ag_x ?_;simp [go_sem])|refine adr_nil ?_|((first|refine adr_qs fun Y Yh=>?_|refine adr_y fun Y Yh=>?_);simp [go_sem])|intro _|apply And.intro|(apply Yh;clear Yh Y)));all_goals first|apply Hold.mk|omega|with_reducible assumption|skip))
 ((try refine CallT.toA ?_); refine callT_m (.inl ⟨rfl,rfl⟩) (by simp [go_sem]) ?_; intro args ha; simp [go_sem] at ha; subst ha; refine ⟨_, W1, ?_⟩; rintro _ rfl; simp [go_sem]; ((repeat' (first|(refine ag_x ?_;simp [go_sem])|refine adr_nil ?_|((first|refine adr_qs fun Y Yh=>?_|refine adr_y fun Y Yh=>?_);simp [go_sem])|intro _|apply And.intro|(apply Yh;clear Yh Y)));all_goals first|apply Hold.mk|omega|with_reducible assumption|skip))
 refine awp_seq_k fun K2 hK2 => ?_
 (refine awp_sr fun Y Yh => ?_; simp [go_sem]; ((repeat' (first|(refine ag_x ?_;simp [go_sem])|intro _|apply And.intro|(apply Yh;clear Yh Y)));all_goals first|apply Hold.mk|omega|with_reducible assumption|skip))
 rcases hlaw with ⟨h1, h0⟩ | ⟨l', h1, hne, hll, hcl, h3, hj⟩
 ·simp only [Prod.mk.injEq] at h1
  obtain ⟨rfl, rfl⟩ := h1
  (refine awp_if fun T F hT hF => ?_; simp [go_sem]; refine hT ?_; clear hT hF T F)
  have S0 := S1 w hw
  generalize solV s w 2000 = q at *
  obtain ⟨ql, qn, qe⟩ := q
  simp only at S0 h0
  subst h0
  ((refine awp_dr (.qs [1, 0] (.kp 2 (.kp 3 (.qs [4, 5, 6, 7, 8] (.nil))))) (by kernel_rfl) ?_ ?_ ?_ ?_); (kernel_rfl); (exact (by decide +kernel)); (kernel_rfl); intro Y Yh; ((repeat' (first|(refine ag_x ?_;simp [go_sem])|refine adr_nil ?_|((first|refine adr_qs fun Y Yh=>?_|refine adr_y fun Y Yh=>?_);simp [go_sem])|intro _|apply And.intro|(apply Yh;clear Yh Y)));all_goals first|apply Hold.mk|omega|with_reducible assumption|skip))
  ((try refine CallT.toA ?_); refine callT_m (.inl ⟨rfl,rfl⟩) (by simp [go_sem]) ?_; intro args ha; simp [go_sem] at ha; subst ha; refine ⟨_, (back12_spec w hw.1), ?_⟩; rintro _ rfl; simp [go_sem]; ((repeat' (first|(refine ag_x ?_;simp [go_sem])|refine adr_nil ?_|((first|refine adr_qs fun Y Yh=>?_|refine adr_y fun Y Yh=>?_);simp [go_sem])|intro _|apply And.intro|(apply Yh;clear Yh Y)));all_goals first|apply Hold.mk|omega|with_reducible assumption|skip))
  ((try refine CallT.toA ?_); refine callT_m (.inl ⟨rfl,rfl⟩) (by simp [go_sem]) ?_; intro args ha; simp [go_sem] at ha; subst ha; refine ⟨_, S0, ?_⟩; rintro _ rfl; simp [go_sem]; ((repeat' (first|(refine ag_x ?_;simp [go_sem])|refine adr_nil ?_|((first|refine adr_qs fun Y Yh=>?_|refine adr_y fun Y Yh=>?_);simp [go_sem])|intro _|apply And.intro|(apply Yh;clear Yh Y)));all_goals first|apply Hold.mk|omega|with_reducible assumption|skip))
  (refine awp_sr fun Y Yh => ?_; simp [go_sem]; ((repeat' (first|(refine ag_false ?_ ?_ ?_;(focus (simp [go_sem, undef];done));(focus (simp [go_sem];done));simp [go_sem])|(refine ag_true ?_ ?_;(focus (simp [go_sem, undef];done));simp [go_sem])|(refine ag_x ?_;simp [go_sem, undef])|intro _|apply And.intro|(apply Yh;clear Yh Y)));all_goals first|apply Hold.mk|omega|with_reducible assumption|skip))
  ((try refine CallT.toA ?_); refine callT_m (.inl ⟨rfl,rfl⟩) (by simp [go_sem]) ?_; intro args ha; simp [go_sem] at ha; subst ha; refine ⟨_, sane12_spec, ?_⟩; rintro _ rfl; simp [go_sem]; ((repeat' (first|(refine ag_false ?_ ?_ ?_;(focus (simp [go_sem, undef];done));(focus (simp [go_sem];done));simp [go_sem])|(refine ag_true ?_ ?_;(focus (simp [go_sem, undef];done));simp [go_sem])|(refine ag_x ?_;simp [go_sem, undef])|intro _|apply And.intro|(apply Yh;clear Yh Y)));all_goals first|apply Hold.mk|omega|with_reducible assumption|skip))
  (refine awp_ret ?_; simp [go_sem])
 ·simp only [Prod.mk.injEq] at h1
  obtain ⟨rfl, rfl⟩ := h1
  (refine awp_if fun T F hT hF => ?_; simp [go_sem]; refine hF ?_; clear hT hF T F)
  refine awp_skip ?_
  refine hK2 _ ?_; clear hK2
  have hl0 : 0 < l.length := List.length_pos_iff.2 hne
  have hlz := (chk_parts hcl).2.1
  have S0 := S1 l hlz
  generalize solV s l 2000 = q at S0 h3
  obtain ⟨ql, qn, qe⟩ := q
  simp only at S0 h3
  subst h3
  refine awp_seq_k fun K3 hK3 => ?_
  (refine awp_sr fun Y Yh => ?_; simp [go_sem]; ((repeat' (first|(refine ag_x ?_;simp [go_sem])|intro _|apply And.intro|(apply Yh;clear Yh Y)));all_goals first|apply Hold.mk|omega|with_reducible assumption|skip))
  (refine awp_if fun T F hT hF => ?_; simp [go_sem, hl0, hne]; refine hF ?_; clear hT hF T F)
  refine awp_skip ?_
  refine hK3 _ ?_; clear hK3
  (refine awp_sr fun Y Yh => ?_; simp [go_sem]; ((repeat' (first|(refine ag_x ?_;simp [go_sem])|intro _|apply And.intro|(apply Yh;clear Yh Y)));all_goals first|apply Hold.mk|omega|with_reducible assumption|skip))
  ((try refine CallT.toA ?_); refine callT_m (.inl ⟨rfl,rfl⟩) (by simp [go_sem]) ?_; intro args ha; simp [go_sem] at ha; subst ha; refine ⟨_, S0, ?_⟩; rintro _ rfl; simp [go_sem]; ((repeat' (first|(refine ag_x ?_;simp [go_sem])|intro _|apply And.intro|(apply Yh;clear Yh Y)));all_goals first|apply Hold.mk|omega|with_reducible assumption|skip))
  refine awp_seq_k fun K4 hK4 => ?_
  (refine awp_sr fun Y Yh => ?_; simp [go_sem]; ((repeat' (first|(refine ag_x ?_;simp [go_sem])|intro _|apply And.intro|(apply Yh;clear Yh Y)));all_goals first|apply Hold.mk|omega|with_reducible assumption|skip))
  (refine awp_if fun T F hT hF => ?_; simp [go_sem]; refine hF ?_; clear hT hF T F)
  refine awp_skip ?_
  refine hK4 _ ?_; clear hK4
  refine awp_seq_k fun K5 hK5 => ?_
  (refine awp_sr fun Y Yh => ?_; simp [go_sem]; ((repeat' (first|(refine ag_x ?_;simp [go_sem])|intro _|apply And.intro|(apply Yh;clear Yh Y)));all_goals first|apply Hold.mk|omega|with_reducible assumption|skip))
  refine awp_block ?_
  have hlz1 := hlz.1
  refine awp_loop (σ := Nat) (fun i => ⟨[(5, .rd [dGms s]), (6, dPs l), (12, dI i)], []⟩) (fun i => i ≤ l.length) (fun i => l.length - i) 0 ?_ ?_ ?_
  ·(refine cov_of ?_ ?_ <;> simp [go_sem])
  ·simp
  rintro i hi
  refine awp_seq_k fun K6 hK6 => ?_
  (refine awp_sr fun Y Yh => ?_; simp [go_sem]; ((repeat' (first|(refine ag_x ?_;simp [go_sem])|intro _|apply And.intro|(apply Yh;clear Yh Y)));all_goals first|apply Hold.mk|omega|with_reducible assumption|skip))
  (refine awp_if fun T F hT hF => ?_; simp [go_sem]; refine BR.intro (fun h5 => hT ?_) (fun h5 => hF ?_); all_goals clear hT hF T F; try simp at h5)
  ·refine awp_skip ?_
   refine hK6 _ ?_; clear hK6
   have hil : i < l.length := by omega
   have h0 := hj i hil
   have hcn := chkV_sub hcl (lessN_sub l i)
   have S2 := S1 (lessN l i) (chk_parts hcn).2.1
   have hcell : dPs (lessN l i) = D.sl 2 ((l.map cP).take i ++ (l.map cP).drop (i + 1)) := by unfold lessN; show D.sl 2 _ = _; rw [List.map_append, List.map_take, List.map_drop]
   rw [hcell] at S2
   generalize solV s (lessN l i) 2000 = q at S2 h0
   obtain ⟨ql2, qn2, qe2⟩ := q
   simp only at S2 h0
   subst h0
   refine awp_seq_k fun K7 hK7 => ?_
   have tl7 : ∀ S', Cov S' ⟨[(5, .rd [dGms s]), (6, dPs l), (12, dI i)], []⟩ → K7 S' := fun S' hS => by
    refine hK7 _ ?_; clear hK7
    refine awp_cov hS ?_; clear hS
    (refine awp_r fun Y Yh => ?_; simp [go_sem]; ((repeat' (first|(refine ag_x ?_;simp [go_sem])|intro _|apply And.intro|(apply Yh;clear Yh Y)));all_goals first|apply Hold.mk|omega|with_reducible assumption|skip))
    refine ⟨i + 1, ?_, by omega, by omega⟩
    (refine cov_of ?_ ?_ <;> simp [go_sem])
   clear hK7
   refine awp_block ?_
   ((refine awp_dr (.qs [2, 3, 4, 6, 7, 8, 9] (.two 0 (.kp 1 (.kp 5 (.one 10 (.one 11 (.qs [12, 13, 14, 15, 16] (.nil)))))) 1 (.kq 0 (.one 5 (.one 10 (.one 11 (.qs [12, 13, 14, 15, 16] (.nil))))) 5 (.kq 0 (.one 10 (.one 11 (.qs [12, 13, 14, 15, 16] (.nil)))) 10 (.qs [0] (.one 11 (.qs [12, 13, 14, 15, 16] (.nil)))))))) (by kernel_rfl) ?_ ?_ ?_ ?_); (kernel_rfl); (exact (by decide +kernel)); (kernel_rfl); intro Y Yh; ((repeat' (first|(refine ag_x ?_;simp [go_sem])|refine adr_nil ?_|refine adr_two ?_ ?_|refine adr_kq ?_ ?_|((first|refine adr_qs fun Y Yh=>?_|refine adr_y fun Y Yh=>?_);simp [go_sem])|intro _|apply And.intro|(apply Yh;clear Yh Y)));all_goals first|apply Hold.mk|omega|with_reducible assumption|skip))
   all_goals ((try refine CallT.toA ?_); refine callT_z (.inl ⟨rfl,rfl⟩) rfl (by simp [go_sem]) (by simp [go_sem]) ?_; intro args ha; simp [go_sem] at ha; subst ha; refine ⟨_, S2, ?_⟩; rintro _ rfl; simp [go_sem]; ((repeat' (first|(refine ag_x ?_;simp [go_sem])|refine adr_nil ?_|refine adr_two ?_ ?_|refine adr_kq ?_ ?_|((first|refine adr_qs fun Y Yh=>?_|refine adr_y fun Y Yh=>?_);simp [go_sem])|intro _|apply And.intro|(apply Yh;clear Yh Y)));all_goals first|apply Hold.mk|omega|with_reducible assumption|skip))
   all_goals
    (refine awp_sr fun Y Yh => ?_; simp [go_sem]; ((repeat' (first|(refine ag_x ?_;simp [go_sem])|intro _|apply And.intro|(apply Yh;clear Yh Y)));all_goals first|apply Hold.mk|omega|with_reducible assumption|skip))
    (refine awp_if fun T F hT hF => ?_; simp [go_sem]; refine hF ?_; clear hT hF T F)
    refine awp_skip ?_
    refine tl7 _ ?_
    (refine cov_of ?_ ?_ <;> simp [go_sem])
  ·refine awp_exit ?_
   simp only [go_sem]
   refine hK5 _ ?_; clear hK5
   (refine awp_sr fun Y Yh => ?_; simp [go_sem]; ((repeat' (first|(refine ag_x ?_;simp [go_sem])|intro _|apply And.intro|(apply Yh;clear Yh Y)));all_goals first|apply Hold.mk|omega|with_reducible assumption|skip))
   ((try refine CallT.toA ?_); refine callT_m (.inl ⟨rfl,rfl⟩) (by simp [go_sem]) ?_; intro args ha; simp [go_sem] at ha; subst ha; refine ⟨_, sane12_spec, ?_⟩; rintro _ rfl; simp [go_sem]; ((repeat' (first|(refine ag_x ?_;simp [go_sem])|intro _|apply And.intro|(apply Yh;clear Yh Y)));all_goals first|apply Hold.mk|omega|with_reducible assumption|skip))
   (refine awp_ret ?_; simp [go_sem])
end Go.Proofs.YteekfnhhlcmcgaaGreatDoor
