/- Part of a proof: see the last text. -/
import Derived.Test.YtchnagdaljblnaaGreatDoorG09
import Derived.Test.YtchnagdaljblnaaGreatDoorG07
import Derived.Test.YtchnagdaljblnaaGreatDoorG08
set_option linter.unusedVariables false
set_option linter.unusedSimpArgs false
namespace Go.Proofs.YtchnagdaljblnaaGreatDoor
open Go.Eng Go.Wh Go.Ver Go.RowKit Go.Lk
set_option maxRecDepth 20000
set_option linter.unusedSimpArgs false
set_option linter.unusedVariables false
attribute [local irreducible] AG CallA CallT AWp PCall ACall AgC
set_option maxHeartbeats 8000000 in
theorem rline4_bad (P W : List Prs) (N : List (List Prs)) (sum : Bs) (n0 : Nat) (s : Bs) (gb gp gn gw : Nat) (rs : List (Nat × List Prs)) (hp : PsOk ⟨4, P, N, W, sum⟩ rs) (hl : s.length ≤ 1000000) (he : lineV ⟨4, P, N, W, sum⟩ s = none) :
    ACall Tryz.prog 71 [.ptr 900002 gb 0, dS s] (rrH ⟨4, P, N, W, sum⟩ n0 gb gp gn gw rs) (900002 :: 900003 :: 900004 :: 900005 :: famS 1 0 N.length)
      fun ps r => r = dB false := by 
  refine acall_of Tryz.func71 rfl rfl Tryz.ntmps71 (rs := [.tmp 4]) (tys := [4]) rfl rfl (by simp) ?_ ?_
  · exact rrH_ok _ n0 gb gp gn gw rs _ (by have h2 := congrArg List.length hp.en; simp only [List.length_map] at h2; omega)
  have hq := hp
  obtain ⟨hrs, hnl, hpl, hwl, hrl⟩ := hp
  simp only at hrs hnl hpl hwl hrl
  have hrl2 := congrArg List.length hrs
  simp only [List.length_map] at hrl2
  simp only [lineV] at he
  have he2 : ¬ (preSum.isPrefixOf s = true ∧ digV (s.drop 4) = true) := fun q => by rw [if_pos q] at he; cases he
  clear he
  have TP := trimPre_spec s preSum (by omega) (by decide)
  (refine awp_sr fun KK hKK => ?_; simp [go_sem]; ((repeat' (first|(refine ag_x ?_;simp [go_sem])|intro _|refine And.intro ?_ ?_|(apply hKK;clear hKK KK)));all_goals first|refine Hold.mk ?_|omega|with_reducible assumption|(simp only [InR] at *;omega)|skip))
  refine awp_seq_k fun K1 hK1 => ?_
  (refine awp_sr fun KK hKK => ?_; simp [go_sem]; ((repeat' (first|(refine ag_x ?_;simp [go_sem])|intro _|refine And.intro ?_ ?_|(apply hKK;clear hKK KK)));all_goals first|refine Hold.mk ?_|omega|with_reducible assumption|(simp only [InR] at *;omega)|skip))
  refine awp_block ?_
  (refine awp_sr fun KK hKK => ?_; simp [go_sem]; ((repeat' (first|(refine ag_x ?_;simp [go_sem])|intro _|refine And.intro ?_ ?_|(apply hKK;clear hKK KK)));all_goals first|refine Hold.mk ?_|omega|with_reducible assumption|(simp only [InR] at *;omega)|skip))
  (refine awp_if fun T F hT hF => ?_; simp [go_sem]; refine hF ?_; clear hT hF T F)
  (refine awp_sr fun KK hKK => ?_; simp [go_sem]; ((repeat' (first|(refine ag_x ?_;simp [go_sem])|intro _|refine And.intro ?_ ?_|(apply hKK;clear hKK KK)));all_goals first|refine Hold.mk ?_|omega|with_reducible assumption|(simp only [InR] at *;omega)|skip))
  (refine awp_if fun T F hT hF => ?_; simp [go_sem]; refine hF ?_; clear hT hF T F)
  (refine awp_sr fun KK hKK => ?_; simp [go_sem]; ((repeat' (first|(refine ag_x ?_;simp [go_sem])|intro _|refine And.intro ?_ ?_|(apply hKK;clear hKK KK)));all_goals first|refine Hold.mk ?_|omega|with_reducible assumption|(simp only [InR] at *;omega)|skip))
  (refine awp_if fun T F hT hF => ?_; simp [go_sem]; refine hF ?_; clear hT hF T F)
  (refine awp_sr fun KK hKK => ?_; simp [go_sem]; ((repeat' (first|(refine ag_x ?_;simp [go_sem])|intro _|refine And.intro ?_ ?_|(apply hKK;clear hKK KK)));all_goals first|refine Hold.mk ?_|omega|with_reducible assumption|(simp only [InR] at *;omega)|skip))
  (refine awp_if fun T F hT hF => ?_; simp [go_sem]; refine hF ?_; clear hT hF T F)
  (refine awp_sr fun KK hKK => ?_; simp [go_sem]; ((repeat' (first|(refine ag_x ?_;simp [go_sem])|intro _|refine And.intro ?_ ?_|(apply hKK;clear hKK KK)));all_goals first|refine Hold.mk ?_|omega|with_reducible assumption|(simp only [InR] at *;omega)|skip))
  (refine awp_if fun T F hT hF => ?_; simp [go_sem]; refine hT ?_; clear hT hF T F)
  (refine awp_sr fun KK hKK => ?_; simp [go_sem]; ((repeat' (first|(refine ag_x ?_;simp [go_sem])|intro _|refine And.intro ?_ ?_|(apply hKK;clear hKK KK)));all_goals first|refine Hold.mk ?_|omega|with_reducible assumption|(simp only [InR] at *;omega)|skip))
  (refine awp_sr fun KK hKK => ?_; simp [go_sem]; ((repeat' (first|(refine ag_x ?_;simp [go_sem])|intro _|refine And.intro ?_ ?_|(apply hKK;clear hKK KK)));all_goals first|refine Hold.mk ?_|omega|with_reducible assumption|(simp only [InR] at *;omega)|skip))
  by_cases h1 : preSum.isPrefixOf s = true
  · rw [if_pos h1] at TP
    have hsl : 4 ≤ s.length := (List.isPrefixOf_iff_prefix.1 h1).length_le
    rw [show s.drop preSum.length = s.drop 4 from rfl] at TP
    have hlen : (s.drop 4).length = s.length - 4 := List.length_drop
    have hne : ¬ s.drop 4 = s := fun q => by rw [q] at hlen; omega
    have he3 : ¬ digV (s.drop 4) = true := fun q => he2 ⟨h1, q⟩
    clear he2
    generalize s.drop 4 = d at *
    have T1 := trimS_spec d tenD (by omega) (by decide) (by decide)
    have htd := trim_digits d
    ((try refine CallT.toA ?_); refine callT_m (by first | exact .inl ⟨rfl, rfl⟩ | exact .inr rfl) (by simp [go_sem]) ?_; intro args ha; simp [go_sem] at ha; subst ha; refine ⟨_, TP, ?_⟩; rintro _ rfl; simp [go_sem]; ((repeat' (first|(refine ag_x ?_;simp [go_sem])|intro _|refine And.intro ?_ ?_|(apply hKK;clear hKK KK)));all_goals first|refine Hold.mk ?_|omega|with_reducible assumption|(simp only [InR] at *;omega)|skip))
    refine awp_seq_k fun K2 hK2 => ?_
    cases d with
    | nil =>
      have hnb : (([] : Bs) == s) = false := by rw [beq_eq_false_iff_ne]; exact hne
      (refine awp_sr fun KK hKK => ?_; simp [go_sem, hne, hnb]; ((repeat' (first|(refine ag_false ?_ ?_ ?_;(focus (simp [go_sem, undef, hne, hnb];done));(focus (simp [go_sem];done));simp [go_sem, hne, hnb])|(refine ag_true ?_ ?_;(focus (simp [go_sem, undef, hne, hnb];done));simp [go_sem, hne, hnb])|(refine ag_x ?_;simp [go_sem, undef, hne, hnb])|intro _|refine And.intro ?_ ?_|(apply hKK;clear hKK KK)));all_goals first|refine Hold.mk ?_|omega|with_reducible assumption|(simp only [InR] at *;omega)|skip))
      (refine awp_if fun T F hT hF => ?_; simp [go_sem, hne, hnb]; refine hT ?_; clear hT hF T F)
      (refine awp_sr fun KK hKK => ?_; simp [go_sem]; ((repeat' (first|(refine ag_x ?_;simp [go_sem])|intro _|refine And.intro ?_ ?_|(apply hKK;clear hKK KK)));all_goals first|refine Hold.mk ?_|omega|with_reducible assumption|(simp only [InR] at *;omega)|skip))
      (refine awp_ret ?_; simp [go_sem])
      exact postK_fam (b := 1) (e := 94) (k := 2) (f := mP) rs 0 N.length _ hrl2 (by first | (simp [go_sem]; done) | exact FamIn.refl _ _ | (simp [go_sem]; exact FamIn.app _ _)) (by simp)
    | cons c r =>
      have hnb : ((c :: r : Bs) == s) = false := by rw [beq_eq_false_iff_ne]; exact hne
      generalize Lib.trimS (c :: r) tenD = q at *
      by_cases hall : (c :: r : Bs).all isD = true
      · have hq := htd.2 hall
        subst hq
        have h48 : c = 48 ∧ ¬ r = [] := by
          unfold digV at he3
          simp only [Bool.and_eq_true, decide_eq_true_eq, Bool.or_eq_true, hall, and_true] at he3
          simp at he3
          exact ⟨he3.2, fun q => he3.1 he3.2 q⟩
        obtain ⟨rfl, hr0⟩ := h48
        obtain ⟨x, r, rfl⟩ : ∃ x y, r = x :: y := by
          cases r with
          | nil => exact absurd rfl hr0
          | cons x y => exact ⟨x, y, rfl⟩
        simp only [List.length_cons] at hlen
        have hq1 : ((r.length : Int) + 1 + 1) ≤ 9223372036854775807 := by omega
        have hq3 : (1 : Int) < (r.length : Int) + 1 + 1 := by omega
        (refine awp_sr fun KK hKK => ?_; simp [go_sem, hne, hnb, hq1, hq3]; ((repeat' (first|(refine ag_false ?_ ?_ ?_;(focus (simp [go_sem, undef, hne, hnb, hq1, hq3];done));(focus (simp [go_sem];done));simp [go_sem, hne, hnb, hq1, hq3])|(refine ag_true ?_ ?_;(focus (simp [go_sem, undef, hne, hnb, hq1, hq3];done));simp [go_sem, hne, hnb, hq1, hq3])|(refine ag_x ?_;simp [go_sem, undef, hne, hnb, hq1, hq3])|intro _|refine And.intro ?_ ?_|(apply hKK;clear hKK KK)));all_goals first|refine Hold.mk ?_|omega|with_reducible assumption|(simp only [InR] at *;omega)|skip))
        ((try refine CallT.toA ?_); refine callT_m (by first | exact .inl ⟨rfl, rfl⟩ | exact .inr rfl) (by simp [go_sem]) ?_; intro args ha; simp [go_sem] at ha; subst ha; refine ⟨_, T1, ?_⟩; rintro _ rfl; simp [go_sem, hne, hnb, hq1, hq3]; ((repeat' (first|(refine ag_false ?_ ?_ ?_;(focus (simp [go_sem, undef, hne, hnb, hq1, hq3];done));(focus (simp [go_sem];done));simp [go_sem, hne, hnb, hq1, hq3])|(refine ag_true ?_ ?_;(focus (simp [go_sem, undef, hne, hnb, hq1, hq3];done));simp [go_sem, hne, hnb, hq1, hq3])|(refine ag_x ?_;simp [go_sem, undef, hne, hnb, hq1, hq3])|intro _|refine And.intro ?_ ?_|(apply hKK;clear hKK KK)));all_goals first|refine Hold.mk ?_|omega|with_reducible assumption|(simp only [InR] at *;omega)|skip))
        (refine awp_if fun T F hT hF => ?_; simp [go_sem, hne, hnb, hq1, hq3]; refine hT ?_; clear hT hF T F)
        (refine awp_sr fun KK hKK => ?_; simp [go_sem]; ((repeat' (first|(refine ag_x ?_;simp [go_sem])|intro _|refine And.intro ?_ ?_|(apply hKK;clear hKK KK)));all_goals first|refine Hold.mk ?_|omega|with_reducible assumption|(simp only [InR] at *;omega)|skip))
        (refine awp_ret ?_; simp [go_sem])
        exact postK_fam (b := 1) (e := 94) (k := 2) (f := mP) rs 0 N.length _ hrl2 (by first | (simp [go_sem]; done) | exact FamIn.refl _ _ | (simp [go_sem]; exact FamIn.app _ _)) (by simp)
      · obtain ⟨x, q, rfl⟩ : ∃ x y, q = x :: y := by
          cases q with
          | nil => exact absurd (htd.1 rfl) hall
          | cons x y => exact ⟨x, y, rfl⟩
        (refine awp_sr fun KK hKK => ?_; simp [go_sem, hne, hnb]; ((repeat' (first|(refine ag_false ?_ ?_ ?_;(focus (simp [go_sem, undef, hne, hnb];done));(focus (simp [go_sem];done));simp [go_sem, hne, hnb])|(refine ag_true ?_ ?_;(focus (simp [go_sem, undef, hne, hnb];done));simp [go_sem, hne, hnb])|(refine ag_x ?_;simp [go_sem, undef, hne, hnb])|intro _|refine And.intro ?_ ?_|(apply hKK;clear hKK KK)));all_goals first|refine Hold.mk ?_|omega|with_reducible assumption|(simp only [InR] at *;omega)|skip))
        ((try refine CallT.toA ?_); refine callT_m (by first | exact .inl ⟨rfl, rfl⟩ | exact .inr rfl) (by simp [go_sem]) ?_; intro args ha; simp [go_sem] at ha; subst ha; refine ⟨_, T1, ?_⟩; rintro _ rfl; simp [go_sem, hne, hnb]; ((repeat' (first|(refine ag_false ?_ ?_ ?_;(focus (simp [go_sem, undef, hne, hnb];done));(focus (simp [go_sem];done));simp [go_sem, hne, hnb])|(refine ag_true ?_ ?_;(focus (simp [go_sem, undef, hne, hnb];done));simp [go_sem, hne, hnb])|(refine ag_x ?_;simp [go_sem, undef, hne, hnb])|intro _|refine And.intro ?_ ?_|(apply hKK;clear hKK KK)));all_goals first|refine Hold.mk ?_|omega|with_reducible assumption|(simp only [InR] at *;omega)|skip))
        (refine awp_if fun T F hT hF => ?_; simp [go_sem, hne, hnb]; refine hT ?_; clear hT hF T F)
        (refine awp_sr fun KK hKK => ?_; simp [go_sem]; ((repeat' (first|(refine ag_x ?_;simp [go_sem])|intro _|refine And.intro ?_ ?_|(apply hKK;clear hKK KK)));all_goals first|refine Hold.mk ?_|omega|with_reducible assumption|(simp only [InR] at *;omega)|skip))
        (refine awp_ret ?_; simp [go_sem])
        exact postK_fam (b := 1) (e := 94) (k := 2) (f := mP) rs 0 N.length _ hrl2 (by first | (simp [go_sem]; done) | exact FamIn.refl _ _ | (simp [go_sem]; exact FamIn.app _ _)) (by simp)
  · rw [if_neg h1] at TP
    ((try refine CallT.toA ?_); refine callT_m (by first | exact .inl ⟨rfl, rfl⟩ | exact .inr rfl) (by simp [go_sem]) ?_; intro args ha; simp [go_sem] at ha; subst ha; refine ⟨_, TP, ?_⟩; rintro _ rfl; simp [go_sem]; ((repeat' (first|(refine ag_x ?_;simp [go_sem])|intro _|refine And.intro ?_ ?_|(apply hKK;clear hKK KK)));all_goals first|refine Hold.mk ?_|omega|with_reducible assumption|(simp only [InR] at *;omega)|skip))
    refine awp_seq_k fun K2 hK2 => ?_
    (refine awp_sr fun KK hKK => ?_; simp [go_sem]; ((repeat' (first|(refine ag_false ?_ ?_ ?_;(focus (simp [go_sem, undef];done));(focus (simp [go_sem];done));simp [go_sem])|(refine ag_true ?_ ?_;(focus (simp [go_sem, undef];done));simp [go_sem])|(refine ag_x ?_;simp [go_sem, undef])|intro _|refine And.intro ?_ ?_|(apply hKK;clear hKK KK)));all_goals first|refine Hold.mk ?_|omega|with_reducible assumption|(simp only [InR] at *;omega)|skip))
    (refine awp_if fun T F hT hF => ?_; simp [go_sem]; refine hT ?_; clear hT hF T F)
    (refine awp_sr fun KK hKK => ?_; simp [go_sem]; ((repeat' (first|(refine ag_x ?_;simp [go_sem])|intro _|refine And.intro ?_ ?_|(apply hKK;clear hKK KK)));all_goals first|refine Hold.mk ?_|omega|with_reducible assumption|(simp only [InR] at *;omega)|skip))
    (refine awp_ret ?_; simp [go_sem])
    exact postK_fam (b := 1) (e := 94) (k := 2) (f := mP) rs 0 N.length _ hrl2 (by first | (simp [go_sem]; done) | exact FamIn.refl _ _ | (simp [go_sem]; exact FamIn.app _ _)) (by simp)
end Go.Proofs.YtchnagdaljblnaaGreatDoor

namespace Go.Proofs.YtchnagdaljblnaaGreatDoor
open Go.Eng Go.Wh Go.Ver Go.RowKit Go.Lk
set_option maxRecDepth 20000
set_option linter.unusedSimpArgs false
set_option linter.unusedVariables false
attribute [local irreducible] AG CallA CallT AWp PCall ACall AgC
/-- the number that the reference's reader holds -/
def nOf (p : PS) : Nat := if p.part = 5 then satV p.sum else 0
theorem line_ok (p p' : PS) (s : Bs) (gb gp gn gw : Nat) (rs : List (Nat × List Prs)) (hp : PsOk p rs) (hl : s.length ≤ 1000000) (he : lineV p s = some p') :
    ACall Tryz.prog 68 [.ptr 900002 gb 0, dS s] (rdH p gb gp gn gw rs) (900002 :: 900003 :: 900004 :: 900005 :: famS 1 0 p'.needs.length)
      fun ps r => ∃ gp' gn' gw' rs', rs'.map (·.2) = p'.needs ∧ ps = (gb, .box [dI p'.part, .own 900003 gp', .own 900004 gn', .own 900005 gw', dS p'.sum]) :: (gp', .row 83 2 (p'.picks.map cP)) :: (gn', .row 43 1 (famO 1 0 rs')) :: (gw', .row 100 2 (p'.wish.map cP)) :: famP 100 2 mP rs' ∧ r = dB true := by
  obtain ⟨part, P, N, W, sum⟩ := p
  match part, hp, he with
  | 0, hp, he => exact line0_ok P W N sum p' s gb gp gn gw rs hp hl he
  | 1, hp, he => exact line1_ok P W N sum p' s gb gp gn gw rs hp hl he
  | 2, hp, he => exact line2_ok P W N sum p' s gb gp gn gw rs hp hl he
  | 3, hp, he => exact line3_ok P W N sum p' s gb gp gn gw rs hp hl he
  | 4, hp, he => exact line4_ok P W N sum p' s gb gp gn gw rs hp hl he
  | n + 5, hp, he => simp [lineV] at he
theorem line_bad (p : PS) (s : Bs) (gb gp gn gw : Nat) (rs : List (Nat × List Prs)) (hp : PsOk p rs) (hl : s.length ≤ 1000000) (he : lineV p s = none) :
    ACall Tryz.prog 68 [.ptr 900002 gb 0, dS s] (rdH p gb gp gn gw rs) (900002 :: 900003 :: 900004 :: 900005 :: famS 1 0 p.needs.length)
      fun ps r => r = dB false := by
  obtain ⟨part, P, N, W, sum⟩ := p
  match part, hp, he with
  | 0, hp, he => exact line0_bad P W N sum s gb gp gn gw rs hp hl he
  | 1, hp, he => exact line1_bad P W N sum s gb gp gn gw rs hp hl he
  | 2, hp, he => exact line2_bad P W N sum s gb gp gn gw rs hp hl he
  | 3, hp, he => exact line3_bad P W N sum s gb gp gn gw rs hp hl he
  | 4, hp, he => exact line4_bad P W N sum s gb gp gn gw rs hp hl he
  | n + 5, hp, he => exact line5_bad P W N sum s gb gp gn gw rs n hp hl he
theorem line_four {p p' : PS} {s : Bs} (he : lineV p s = some p') (h4 : ¬ p.part = 4) : nOf p = 0 ∧ nOf p' = 0 := by
  have h5 : ¬ p.part = 5 := fun q => by
    obtain ⟨part, P, N, W, sum⟩ := p
    simp only at q; subst q
    simp [lineV] at he
  refine ⟨by unfold nOf; rw [if_neg h5], ?_⟩
  unfold nOf
  rw [if_neg fun q => h4 (line_five he q).1]
theorem rline_ok (p p' : PS) (s : Bs) (gb gp gn gw : Nat) (rs : List (Nat × List Prs)) (hp : PsOk p rs) (hl : s.length ≤ 1000000) (he : lineV p s = some p') :
    ACall Tryz.prog 71 [.ptr 900002 gb 0, dS s] (rrH p (nOf p) gb gp gn gw rs) (900002 :: 900003 :: 900004 :: 900005 :: famS 1 0 p'.needs.length)
      fun ps r => ∃ gp' gn' gw' rs', rs'.map (·.2) = p'.needs ∧ ps = (gb, .box [.own 900003 gp', .own 900004 gn', .own 900005 gw', dI p'.part, dI (nOf p')]) :: (gp', .row 91 2 (p'.picks.map cP)) :: (gn', .row 32 1 (famO 1 0 rs')) :: (gw', .row 94 2 (p'.wish.map cP)) :: famP 94 2 mP rs' ∧ r = dB true := by
  by_cases h4 : p.part = 4
  · have e1 : nOf p = 0 := by unfold nOf; rw [if_neg (by omega)]
    have e2 : nOf p' = satV p'.sum := by
      obtain ⟨part, P, N, W, sum⟩ := p
      simp only at h4; subst h4
      simp only [lineV] at he
      split at he
      · simp only [Option.some.injEq] at he; subst he; rfl
      · cases he
    rw [e1, e2]
    obtain ⟨part, P, N, W, sum⟩ := p
    simp only at h4; subst h4
    exact rline4_ok P W N sum p' s gb gp gn gw rs hp hl he
  · obtain ⟨e1, e2⟩ := line_four he h4
    rw [e1, e2]
    obtain ⟨part, P, N, W, sum⟩ := p
    match part, hp, he, h4 with
    | 0, hp, he, _ => exact rline0_ok P W N sum 0 p' s gb gp gn gw rs hp hl he
    | 1, hp, he, _ => exact rline1_ok P W N sum 0 p' s gb gp gn gw rs hp hl he
    | 2, hp, he, _ => exact rline2_ok P W N sum 0 p' s gb gp gn gw rs hp hl he
    | 3, hp, he, _ => exact rline3_ok P W N sum 0 p' s gb gp gn gw rs hp hl he
    | 4, hp, he, h4 => exact absurd rfl h4
    | n + 5, hp, he, _ => simp [lineV] at he
theorem rline_bad (p : PS) (n0 : Nat) (s : Bs) (gb gp gn gw : Nat) (rs : List (Nat × List Prs)) (hp : PsOk p rs) (hl : s.length ≤ 1000000) (he : lineV p s = none) :
    ACall Tryz.prog 71 [.ptr 900002 gb 0, dS s] (rrH p n0 gb gp gn gw rs) (900002 :: 900003 :: 900004 :: 900005 :: famS 1 0 p.needs.length)
      fun ps r => r = dB false := by
  obtain ⟨part, P, N, W, sum⟩ := p
  match part, hp, he with
  | 0, hp, he => exact rline0_bad P W N sum n0 s gb gp gn gw rs hp hl he
  | 1, hp, he => exact rline1_bad P W N sum n0 s gb gp gn gw rs hp hl he
  | 2, hp, he => exact rline2_bad P W N sum n0 s gb gp gn gw rs hp hl he
  | 3, hp, he => exact rline3_bad P W N sum n0 s gb gp gn gw rs hp hl he
  | 4, hp, he => exact rline4_bad P W N sum n0 s gb gp gn gw rs hp hl he
  | n + 5, hp, he => exact rline5_bad P W N sum n0 s gb gp gn gw rs n hp hl he
theorem psOk_sz {p : PS} {k m : Nat} {rs : List (Nat × List Prs)} (h : SzOk p k m) (hk : k ≤ 100000) (he : rs.map (fun x => x.2) = p.needs) : PsOk p rs :=
  ⟨he, h.nl, by have := h.pl; omega, by have := h.wl; omega, fun r hr => by
    have := h.rl r.2 (by rw [← he]; exact List.mem_map.2 ⟨r, hr, rfl⟩)
    omega⟩
theorem lkOk_sz {p : PS} {k m : Nat} (h : SzOk p k m) (hk : k ≤ 100000) (hm : m ≤ 1000000) : LkOk (lkOf p) := by
  refine ⟨?_, ?_, ?_, fun x hx => ?_, fun r hr => ⟨?_, fun x hx => ?_⟩, fun x hx => ?_⟩
  · have := h.pl; simp only [lkOf]; omega
  · have := h.pl; have := h.nl; simp only [lkOf]; omega
  · have := h.wl; simp only [lkOf]; omega
  · have := h.ps x hx; exact ⟨by omega, by omega⟩
  · have := h.rl r hr; omega
  · have := h.ns r hr x hx; exact ⟨by omega, by omega⟩
  · have := h.ws x hx; exact ⟨by omega, by omega⟩
end Go.Proofs.YtchnagdaljblnaaGreatDoor

namespace Go.Proofs.YtchnagdaljblnaaGreatDoor
open Go.Eng Go.Wh Go.Ver Go.RowKit Go.Lk
set_option maxRecDepth 20000
set_option linter.unusedSimpArgs false
set_option linter.unusedVariables false
attribute [local irreducible] AG CallA CallT AWp PCall ACall AgC
theorem putPs_st : ∀ (S : St) (ss : List Nat) (ps : List (Nat × Blk)), ps.length = ss.length → ∃ h, putPs S ss ps = ⟨S.slots, h⟩ ∧ ∀ k, k ∉ ss → Eng.look h k = Eng.look S.heap k
  | S, [], ps, hl => ⟨S.heap, by simp [putPs], fun _ _ => rfl⟩
  | S, s :: ss, [], hl => by simp at hl
  | S, s :: ss, p :: ps, hl => by
    obtain ⟨h, e, hh⟩ := putPs_st S ss ps (by simpa using hl)
    refine ⟨(s, p) :: h, ?_, fun k hk => ?_⟩
    · simp only [putPs, e, St.hput]
    · simp only [List.mem_cons, not_or] at hk
      simp only [Eng.look]
      rw [if_neg fun q => hk.1 q.symm]
      exact hh k hk.2
theorem look_fam_app {α : Type} {b e k s : Nat} {f : α → List (List D)} {l : List (Nat × (Nat × Blk))} : ∀ (rs : List (Nat × α)) (i : Nat), s < 1000000 → Eng.look (fam b e k f i rs ++ l) s = Eng.look l s
  | [], i, h => rfl
  | r :: rs, i, h => by
    rw [fam, List.cons_append, Eng.look, if_neg (fs_nlit h)]
    exact look_fam_app rs (i + 1) h
theorem lastIndex_spec (s sub : Bs) (hs : s.length < 4611686018427387904) : PCall Tryz.prog 69 [dS s, dS sub] fun r => r = dI (Lib.lastIndex s sub) := by
  refine pcall_below ⟨_, Tryz.func69, rfl, rfl⟩ fun C w us hc hg hr => ?_
  obtain rfl := repL_v (us := [.string ⟨s.toArray⟩, .string ⟨sub.toArray⟩]) hr
  refine (Tryz.strings_LastIndex ⟨s.toArray⟩ ⟨sub.toArray⟩ (by simpa [ByteArray.size] using hs) w).mono ?_
  rintro e w' ⟨rfl, rfl⟩
  exact ⟨_, _, rfl, by simp, .v _, Below.refl _ _⟩
theorem ba_take (s : List UInt8) (n : Nat) : ({ data := s.toArray } : ByteArray).extract 0 n = { data := (s.take n).toArray } := by
  apply ByteArray.ext
  simp
set_option maxHeartbeats 8000000 in
theorem lParse_spec (s : Bs) (hl : s.length ≤ 99000) : PCall Tryz.prog 33 [dS s] fun r => r = .tup [dLk (parV s).1, dI (parV s).2.1, dI (parV s).2.2] := by 
  refine pcall_of Tryz.func33 rfl rfl Tryz.ntmps33 (rs := [.cell 2 45, .tmp 3, .tmp 4]) (tys := [45, 3, 27]) rfl rfl (by simp) ?_
  have SS := split_spec s [10] (by omega) (by decide)
  rw [split_dots 10 s] at SS
  have hcount := dots_count 10 s
  have hne := List.length_pos_iff.2 (dots_ne 10 s)
  have hlen := line_le s
  have hsz := lines_sz s
  have hF := @parV_form s
  have hS := @parV_short s
  have hU := @parV_full s
  have hB := @last_beg s
  have hG0 : goL ps0 0 (dots 10 s) = goL ps0 0 ((dots 10 s).drop 0) := rfl
  have hL0 : linesV (dots 10 s) 0 = some ps0 := rfl
  generalize hls : dots 10 s = ls at *
  obtain ⟨last, hlast⟩ : ∃ k, ls.length = k + 1 := ⟨ls.length - 1, by omega⟩
  have hlast1 : (last : Int) + 1 - 1 = last := by omega
  (refine awp_sr fun KK hKK => ?_; simp [go_sem]; ((repeat' (first|(refine ag_x ?_;simp [go_sem])|intro _|refine And.intro ?_ ?_|(apply hKK;clear hKK KK)));all_goals first|refine Hold.mk ?_|omega|with_reducible assumption|(simp only [InR] at *;omega)|skip))
  rename_i g2
  (refine awp_sr fun KK hKK => ?_; simp [go_sem]; ((repeat' (first|(refine ag_x ?_;simp [go_sem])|intro _|refine And.intro ?_ ?_|(apply hKK;clear hKK KK)));all_goals first|refine Hold.mk ?_|omega|with_reducible assumption|(simp only [InR] at *;omega)|skip))
  rename_i g5
  refine awp_renbox 5 900002 rfl rfl (by decide) fun gb0 => ?_
  simp only [go_sem]
  refine awp_nilbox 900003 83 2 1 (sb := 900002) rfl rfl (by decide) fun gp0 => ?_
  refine awp_nilbox 900004 43 1 2 (sb := 900002) rfl rfl (by decide) fun gn0 => ?_
  refine awp_nilbox 900005 100 2 3 (sb := 900002) rfl rfl (by decide) fun gw0 => ?_
  simp only [List.set, go_sem]
  (refine awp_sr fun KK hKK => ?_; simp [go_sem]; ((repeat' (first|(refine ag_x ?_;simp [go_sem])|intro _|refine And.intro ?_ ?_|(apply hKK;clear hKK KK)));all_goals first|refine Hold.mk ?_|omega|with_reducible assumption|(simp only [InR] at *;omega)|skip))
  ((try refine CallT.toA ?_); refine callT_m (by first | exact .inl ⟨rfl, rfl⟩ | exact .inr rfl) (by simp [go_sem]) ?_; intro args ha; simp [go_sem] at ha; subst ha; refine ⟨_, SS, ?_⟩; rintro _ rfl; simp [go_sem]; ((repeat' (first|(refine ag_x ?_;simp [go_sem])|intro _|refine And.intro ?_ ?_|(apply hKK;clear hKK KK)));all_goals first|refine Hold.mk ?_|omega|with_reducible assumption|(simp only [InR] at *;omega)|skip))
  (refine awp_sr fun KK hKK => ?_; simp [go_sem, hlast]; ((repeat' (first|(refine ag_x ?_;simp [go_sem, hlast])|intro _|refine And.intro ?_ ?_|(apply hKK;clear hKK KK)));all_goals first|refine Hold.mk ?_|omega|with_reducible assumption|(simp only [InR] at *;omega)|skip))
  refine awp_seq_k fun K1 hK1 => ?_
  have tl1 : ∀ S' p gb gp gn gw rs, PsOk p rs → goL ps0 0 ls = (some p, last) → linesV ls last = some p → ls[last]? = some [] → Cov S' ⟨[(0, dS s), (2, .ptr 2 g2 0), (5, .ptr 900002 gb 0), (7, dI last)], (2, (g2, .box [.v (.slice none 0 0), .v (.slice none 0 0), .v (.slice none 0 0)])) :: rdH p gb gp gn gw rs⟩ → K1 S' := fun S' p gb gp gn gw rs hp hg hlv hle hS' => by
    refine hK1 _ ?_; clear hK1
    refine awp_cov hS' ?_; clear hS'
    refine awp_seq_k fun K2 hK2 => ?_
    by_cases h5 : p.part = 5
    · obtain ⟨b1, b2, b3⟩ := hB hlast.symm hle hlv h5
      have hu := hU hg h5 b3
      have hz := hsz _ _ hlv
      (refine awp_sr fun KK hKK => ?_; simp [go_sem, h5]; ((repeat' (first|(refine ag_x ?_;simp [go_sem, h5])|intro _|refine And.intro ?_ ?_|(apply hKK;clear hKK KK)));all_goals first|refine Hold.mk ?_|omega|with_reducible assumption|(simp only [InR] at *;omega)|skip))
      (refine awp_if fun T F hT hF => ?_; simp [go_sem, h5]; refine hF ?_; clear hT hF T F)
      refine awp_skip ?_
      refine hK2 _ ?_; clear hK2
      have LI := lastIndex_spec s preSum (by omega)
      rw [b3] at LI
      generalize begV ls last = b at *
      have SU := sum_spec (s.take b) (by rw [List.length_take]; omega)
      have hsl := sumV_lt (s.take b) (s.take b).length
      have IT := itoa_spec (sumV (s.take b) (s.take b).length : Nat) (by omega) (by omega)
      have CK := lCheck_spec (lkOf p) (lkOk_sz hz (by omega) (by omega))
      generalize sumV (s.take b) (s.take b).length = sm at *
      have hbi : (b : Int) ≤ s.length := by omega
      (refine awp_sr fun KK hKK => ?_; simp [go_sem]; ((repeat' (first|(refine ag_x ?_;simp [go_sem])|intro _|refine And.intro ?_ ?_|(apply hKK;clear hKK KK)));all_goals first|refine Hold.mk ?_|omega|with_reducible assumption|(simp only [InR] at *;omega)|skip))
      ((try refine CallT.toA ?_); refine callT_m (by first | exact .inl ⟨rfl, rfl⟩ | exact .inr rfl) (by simp [go_sem]) ?_; intro args ha; simp [go_sem] at ha; subst ha; refine ⟨_, LI, ?_⟩; rintro _ rfl; simp [go_sem, hbi, b2]; ((repeat' (first|(refine ag_x ?_;simp [go_sem, hbi, b2])|intro _|refine And.intro ?_ ?_|(apply hKK;clear hKK KK)));all_goals first|refine Hold.mk ?_|omega|with_reducible assumption|(simp only [InR] at *;omega)|skip))
      refine awp_seq_k fun K4 hK4 => ?_
      ((refine awp_dr (.qs [0, 1, 2, 4, 3] (.kp 5 (.kp 6 (.qs [7] (.nil))))) (by kernel_rfl) ?_ ?_ ?_ ?_); (kernel_rfl); (exact (by decide +kernel)); (kernel_rfl); intro KK hKK; ((repeat' (first|(refine ag_x ?_;simp [go_sem])|refine adr_nil ?_|refine adr_two ?_ ?_|refine adr_kq ?_ ?_|refine adr_three ?_ ?_ ?_|refine adr_four ?_ ?_ ?_ ?_|refine adr_kp2 ?_ ?_|refine adr_kp3 ?_ ?_ ?_|((first|refine adr_qs fun KK hKK=>?_|refine adr_y fun KK hKK=>?_);simp [go_sem])|intro _|refine And.intro ?_ ?_|(apply hKK;clear hKK KK)));all_goals first|refine Hold.mk ?_|omega|with_reducible assumption|(simp only [InR] at *;omega)|skip))
      ((try refine CallT.toA ?_); refine callT_m (by first | exact .inl ⟨rfl, rfl⟩ | exact .inr rfl) (by simp [go_sem]) ?_; intro args ha; simp [go_sem] at ha; subst ha; refine ⟨_, (by first | exact SU | (rw [ba_take]; exact SU)), ?_⟩; rintro _ rfl; simp [go_sem]; ((repeat' (first|(refine ag_x ?_;simp [go_sem])|refine adr_nil ?_|refine adr_two ?_ ?_|refine adr_kq ?_ ?_|refine adr_three ?_ ?_ ?_|refine adr_four ?_ ?_ ?_ ?_|refine adr_kp2 ?_ ?_|refine adr_kp3 ?_ ?_ ?_|((first|refine adr_qs fun KK hKK=>?_|refine adr_y fun KK hKK=>?_);simp [go_sem])|intro _|refine And.intro ?_ ?_|(apply hKK;clear hKK KK)));all_goals first|refine Hold.mk ?_|omega|with_reducible assumption|(simp only [InR] at *;omega)|skip))
      ((try refine CallT.toA ?_); refine callT_m (by first | exact .inl ⟨rfl, rfl⟩ | exact .inr rfl) (by simp [go_sem]) ?_; intro args ha; simp [go_sem] at ha; subst ha; refine ⟨_, IT, ?_⟩; rintro _ rfl; simp [go_sem]; ((repeat' (first|(refine ag_x ?_;simp [go_sem])|refine adr_nil ?_|refine adr_two ?_ ?_|refine adr_kq ?_ ?_|refine adr_three ?_ ?_ ?_|refine adr_four ?_ ?_ ?_ ?_|refine adr_kp2 ?_ ?_|refine adr_kp3 ?_ ?_ ?_|((first|refine adr_qs fun KK hKK=>?_|refine adr_y fun KK hKK=>?_);simp [go_sem])|intro _|refine And.intro ?_ ?_|(apply hKK;clear hKK KK)));all_goals first|refine Hold.mk ?_|omega|with_reducible assumption|(simp only [InR] at *;omega)|skip))
      by_cases hsum : p.sum = Lib.itoa sm
      · rw [if_neg (by simp [hsum])] at hu
        (refine awp_if fun T F hT hF => ?_; simp [go_sem, hsum]; refine hF ?_; clear hT hF T F)
        refine awp_skip ?_
        refine hK4 _ ?_; clear hK4
        refine awp_seq_k fun K6 hK6 => ?_
        refine awp_frzin 900003 900002 1 rfl rfl (by decide) rfl ?_
        simp only [go_sem, List.set]
        refine awp_frzin 900005 900002 3 rfl rfl (by decide) rfl ?_
        simp only [go_sem, List.set]
        refine awp_frzfam (b := 1) (e := 100) (k := 2) (f := mP) (go := gn) (eo := 43) 900004 (rs := rs) (ho := [(2, (g2, .box [.v (.slice none 0 0), .v (.slice none 0 0), .v (.slice none 0 0)])), (900002, (gb, .box [dI p.part, dPs p.picks, .own 900004 gn, dPs p.wish, dS p.sum]))]) (by simp [go_sem]) (by simp [go_sem]) (by decide) (by simp [go_sem, h5]) (by simp) ?_
        refine awp_frzin 900004 900002 2 rfl rfl (by decide) rfl ?_
        simp only [go_sem, List.set]
        have hN : (rs.map fun r => [D.sl 2 (mP r.2)]) = p.needs.map fun n => [dPs n] := by rw [← hp.en, List.map_map]; rfl
        rw [hN]
        simp only [lkOf] at CK
        (refine awp_sr fun KK hKK => ?_; simp [go_sem]; ((repeat' (first|(refine ag_x ?_;simp [go_sem])|intro _|refine And.intro ?_ ?_|(apply hKK;clear hKK KK)));all_goals first|refine Hold.mk ?_|omega|with_reducible assumption|(simp only [InR] at *;omega)|skip))
        ((try refine CallT.toA ?_); refine callT_m (by first | exact .inl ⟨rfl, rfl⟩ | exact .inr rfl) (by simp [go_sem]) ?_; intro args ha; simp [go_sem] at ha; subst ha; refine ⟨_, CK, ?_⟩; rintro _ rfl; simp [go_sem]; ((repeat' (first|(refine ag_x ?_;simp [go_sem])|intro _|refine And.intro ?_ ?_|(apply hKK;clear hKK KK)));all_goals first|refine Hold.mk ?_|omega|with_reducible assumption|(simp only [InR] at *;omega)|skip))
        (refine awp_sr fun KK hKK => ?_; simp [go_sem]; ((repeat' (first|(refine ag_x ?_;simp [go_sem])|intro _|refine And.intro ?_ ?_|(apply hKK;clear hKK KK)));all_goals first|refine Hold.mk ?_|omega|with_reducible assumption|(simp only [InR] at *;omega)|skip))
        by_cases hlk : lockV (lkOf p) = true
        · have hlk' : lockV (p.picks, p.needs, p.wish) = true := hlk
          rw [if_pos hlk] at hu
          (refine awp_if fun T F hT hF => ?_; simp [go_sem, hlk']; refine hF ?_; clear hT hF T F)
          refine awp_skip ?_
          refine hK6 _ ?_; clear hK6
          (refine awp_sr fun KK hKK => ?_; simp [go_sem]; ((repeat' (first|(refine ag_x ?_;simp [go_sem])|intro _|refine And.intro ?_ ?_|(apply hKK;clear hKK KK)));all_goals first|refine Hold.mk ?_|omega|with_reducible assumption|(simp only [InR] at *;omega)|skip))
          (refine awp_ret ?_; simp [go_sem, hu, lkOf])
        · have hlk' : lockV (p.picks, p.needs, p.wish) = false := by simpa [lkOf] using hlk
          rw [if_neg (by simp [hlk])] at hu
          (refine awp_if fun T F hT hF => ?_; simp [go_sem, hlk']; refine hT ?_; clear hT hF T F)
          (refine awp_sr fun KK hKK => ?_; simp [go_sem, hlk']; ((repeat' (first|(refine ag_x ?_;simp [go_sem, hlk'])|intro _|refine And.intro ?_ ?_|(apply hKK;clear hKK KK)));all_goals first|refine Hold.mk ?_|omega|with_reducible assumption|(simp only [InR] at *;omega)|skip))
          (refine awp_ret ?_; simp [go_sem, hu, hlk'])
      · rw [if_pos hsum] at hu
        have hsumb : (p.sum == Lib.itoa (sm : Int)) = false := by simpa using hsum
        (refine awp_if fun T F hT hF => ?_; simp [go_sem, hsum, hsumb]; refine hT ?_; clear hT hF T F)
        (refine awp_sr fun KK hKK => ?_; simp [go_sem]; ((repeat' (first|(refine ag_x ?_;simp [go_sem])|intro _|refine And.intro ?_ ?_|(apply hKK;clear hKK KK)));all_goals first|refine Hold.mk ?_|omega|with_reducible assumption|(simp only [InR] at *;omega)|skip))
        (refine awp_ret ?_; simp [go_sem, hu])
    · have e := hS hg h5
      have h5i : ¬ (p.part : Int) = 5 := by omega
      (refine awp_sr fun KK hKK => ?_; simp [go_sem, h5, h5i]; ((repeat' (first|(refine ag_x ?_;simp [go_sem, h5, h5i])|intro _|refine And.intro ?_ ?_|(apply hKK;clear hKK KK)));all_goals first|refine Hold.mk ?_|omega|with_reducible assumption|(simp only [InR] at *;omega)|skip))
      (refine awp_if fun T F hT hF => ?_; simp [go_sem, h5, h5i]; refine hT ?_; clear hT hF T F)
      (refine awp_sr fun KK hKK => ?_; simp [go_sem]; ((repeat' (first|(refine ag_x ?_;simp [go_sem])|intro _|refine And.intro ?_ ?_|(apply hKK;clear hKK KK)));all_goals first|refine Hold.mk ?_|omega|with_reducible assumption|(simp only [InR] at *;omega)|skip))
      (refine awp_ret ?_; simp [go_sem, e])
  clear hK1
  (refine awp_sr fun KK hKK => ?_; simp [go_sem]; ((repeat' (first|(refine ag_x ?_;simp [go_sem])|intro _|refine And.intro ?_ ?_|(apply hKK;clear hKK KK)));all_goals first|refine Hold.mk ?_|omega|with_reducible assumption|(simp only [InR] at *;omega)|skip))
  refine awp_block ?_
  refine awp_loop (σ := Nat × PS × Nat × Nat × Nat × Nat × List (Nat × List Prs)) (fun x => ⟨[(0, dS s), (2, .ptr 2 g2 0), (5, .ptr 900002 x.2.2.1 0), (7, dI last), (19, dSs ls), (20, dI ls.length), (21, dI x.1)], (2, (g2, .box [.v (.slice none 0 0), .v (.slice none 0 0), .v (.slice none 0 0)])) :: rdH x.2.1 x.2.2.1 x.2.2.2.1 x.2.2.2.2.1 x.2.2.2.2.2.1 x.2.2.2.2.2.2⟩)
    (fun x => x.1 ≤ last ∧ linesV ls x.1 = some x.2.1 ∧ goL ps0 0 ls = goL x.2.1 x.1 (ls.drop x.1) ∧ x.2.2.2.2.2.2.map (fun x => x.2) = x.2.1.needs) (fun x => ls.length - x.1) (0, ps0, gb0, gp0, gn0, gw0, []) ?_ ?_ ?_
  · (refine cov_of ?_ ?_ <;> simp [go_sem, ps0, famO, fam, hlast])
  · exact ⟨by omega, hL0, hG0, rfl⟩
  rintro ⟨i, p, gb, gp, gn, gw, rs⟩ ⟨hi, hlv, hg, hrs⟩
  simp only at hi hlv hg hrs
  obtain ⟨l, hx⟩ : ∃ l, ls[i]? = some l := ⟨_, List.getElem?_eq_getElem (by omega)⟩
  have hp : PsOk p rs := psOk_sz (hsz _ _ hlv) (by omega) hrs
  have hll := hlen l (List.mem_of_getElem? hx)
  (refine awp_sr fun KK hKK => ?_; simp [go_sem]; ((repeat' (first|(refine ag_x ?_;simp [go_sem])|intro _|refine And.intro ?_ ?_|(apply hKK;clear hKK KK)));all_goals first|refine Hold.mk ?_|omega|with_reducible assumption|(simp only [InR] at *;omega)|skip))
  refine awp_seq_k fun K8 hK8 => ?_
  (refine awp_if fun T F hT hF => ?_; simp [go_sem]; refine BR.intro (fun h9 => hT ?_) (fun h9 => hF ?_); all_goals clear hT hF T F; try simp at h9)
  · refine awp_skip ?_
    refine hK8 _ ?_; clear hK8
    refine awp_seq_k fun K10 hK10 => ?_
    refine awp_block ?_
    (refine awp_sr fun KK hKK => ?_; simp [go_sem, hx]; ((repeat' (first|(refine ag_x ?_;simp [go_sem, hx])|intro _|refine And.intro ?_ ?_|(apply hKK;clear hKK KK)));all_goals first|refine Hold.mk ?_|omega|with_reducible assumption|(simp only [InR] at *;omega)|skip))
    refine awp_seq_k fun K11 hK11 => ?_
    by_cases hi2 : i = last
    · subst hi2
      have hgl := goL_last (p := p) hx hlast.symm
      by_cases hl0 : l = []
      · subst hl0
        rw [if_pos rfl] at hgl
        (refine awp_sr fun KK hKK => ?_; simp [go_sem]; ((repeat' (first|(refine ag_x ?_;simp [go_sem])|intro _|refine And.intro ?_ ?_|(apply hKK;clear hKK KK)));all_goals first|refine Hold.mk ?_|omega|with_reducible assumption|(simp only [InR] at *;omega)|skip))
        (refine awp_if fun T F hT hF => ?_; simp [go_sem]; refine hT ?_; clear hT hF T F)
        refine awp_exit ?_
        simp only [go_sem]
        refine tl1 _ p gb gp gn gw rs hp (hg.trans hgl) hlv hx ?_
        (refine cov_of ?_ ?_ <;> simp [go_sem])
      · rw [if_neg hl0] at hgl
        have e := hF (hg.trans hgl)
        have hl0' : l.isEmpty = false := by cases l with
          | nil => exact absurd rfl hl0
          | cons => rfl
        (refine awp_sr fun KK hKK => ?_; simp [go_sem, hl0, hl0']; ((repeat' (first|(refine ag_x ?_;simp [go_sem, hl0, hl0'])|intro _|refine And.intro ?_ ?_|(apply hKK;clear hKK KK)));all_goals first|refine Hold.mk ?_|omega|with_reducible assumption|(simp only [InR] at *;omega)|skip))
        (refine awp_if fun T F hT hF => ?_; simp [go_sem, hl0, hl0']; refine hF ?_; clear hT hF T F)
        refine awp_skip ?_
        refine hK11 _ ?_; clear hK11
        (refine awp_sr fun KK hKK => ?_; simp [go_sem]; ((repeat' (first|(refine ag_false ?_ ?_ ?_;(focus (simp [go_sem, undef];done));(focus (simp [go_sem];done));simp [go_sem])|(refine ag_true ?_ ?_;(focus (simp [go_sem, undef];done));simp [go_sem])|(refine ag_x ?_;simp [go_sem, undef])|intro _|refine And.intro ?_ ?_|(apply hKK;clear hKK KK)));all_goals first|refine Hold.mk ?_|omega|with_reducible assumption|(simp only [InR] at *;omega)|skip))
        (refine awp_if fun T F hT hF => ?_; simp [go_sem]; refine hT ?_; clear hT hF T F)
        (refine awp_sr fun KK hKK => ?_; simp [go_sem]; ((repeat' (first|(refine ag_x ?_;simp [go_sem])|intro _|refine And.intro ?_ ?_|(apply hKK;clear hKK KK)));all_goals first|refine Hold.mk ?_|omega|with_reducible assumption|(simp only [InR] at *;omega)|skip))
        (refine awp_ret ?_; simp [go_sem, e])
    · have hi3 : i + 1 < ls.length := by omega
      have hgl := goL_more (p := p) hx hi3
      have hne2 : ¬ (i : Int) = last := by omega
      (refine awp_sr fun KK hKK => ?_; simp [go_sem, hi2, hne2]; ((repeat' (first|(refine ag_false ?_ ?_ ?_;(focus (simp [go_sem, undef, hi2, hne2];done));(focus (simp [go_sem];done));simp [go_sem, hi2, hne2])|(refine ag_true ?_ ?_;(focus (simp [go_sem, undef, hi2, hne2];done));simp [go_sem, hi2, hne2])|(refine ag_x ?_;simp [go_sem, undef, hi2, hne2])|intro _|refine And.intro ?_ ?_|(apply hKK;clear hKK KK)));all_goals first|refine Hold.mk ?_|omega|with_reducible assumption|(simp only [InR] at *;omega)|skip))
      (refine awp_if fun T F hT hF => ?_; simp [go_sem, hi2, hne2]; refine hF ?_; clear hT hF T F)
      refine awp_skip ?_
      refine hK11 _ ?_; clear hK11
      cases he : lineV p l with
      | none =>
        rw [he] at hgl
        have e := hF (hg.trans hgl)
        (refine awp_sr fun KK hKK => ?_; simp [go_sem, hi2, hne2]; ((repeat' (first|(refine ag_false ?_ ?_ ?_;(focus (simp [go_sem, undef, hi2, hne2];done));(focus (simp [go_sem];done));simp [go_sem, hi2, hne2])|(refine ag_true ?_ ?_;(focus (simp [go_sem, undef, hi2, hne2];done));simp [go_sem, hi2, hne2])|(refine ag_x ?_;simp [go_sem, undef, hi2, hne2])|intro _|refine And.intro ?_ ?_|(apply hKK;clear hKK KK)));all_goals first|refine Hold.mk ?_|omega|with_reducible assumption|(simp only [InR] at *;omega)|skip))
        refine callA_l (900002 :: 900003 :: 900004 :: 900005 :: famS 1 0 p.needs.length) (by first | exact .inl ⟨rfl, rfl⟩ | exact .inr rfl) (by simp [go_sem]) ?_
        intro args ha; simp [go_sem] at ha; subst ha
        refine ⟨_, _, line_bad p l gb gp gn gw rs hp (by omega) he, (by simp [go_sem]), ?_⟩
        rintro ps r hps rfl
        obtain ⟨h, eh, hh⟩ := putPs_st _ _ _ hps
        rw [eh]
        have h2 := hh 2 (by
          simp only [List.mem_cons, famS_mem, not_or]
          refine ⟨by decide, by decide, by decide, by decide, ?_⟩
          rintro ⟨j, _, _, e⟩
          exact absurd e.symm (fs_nlit (by decide)))
        simp [go_sem] at h2
        simp [go_sem]
        ((repeat' (first|(refine ag_false ?_ ?_ ?_;(focus (simp [go_sem, undef];done));(focus (simp [go_sem];done));simp [go_sem])|(refine ag_true ?_ ?_;(focus (simp [go_sem, undef];done));simp [go_sem])|(refine ag_x ?_;simp [go_sem, undef])|intro _|refine And.intro ?_ ?_|(apply hKK;clear hKK KK)));all_goals first|refine Hold.mk ?_|omega|with_reducible assumption|(simp only [InR] at *;omega)|skip)
        (refine awp_if fun T F hT hF => ?_; simp [go_sem]; refine hT ?_; clear hT hF T F)
        (refine awp_sr fun KK hKK => ?_; simp [go_sem, h2]; ((repeat' (first|(refine ag_x ?_;simp [go_sem, h2])|intro _|refine And.intro ?_ ?_|(apply hKK;clear hKK KK)));all_goals first|refine Hold.mk ?_|omega|with_reducible assumption|(simp only [InR] at *;omega)|skip))
        (refine awp_ret ?_; simp [go_sem, e])
      | some q =>
        rw [he] at hgl
        (refine awp_sr fun KK hKK => ?_; simp [go_sem, hi2, hne2]; ((repeat' (first|(refine ag_false ?_ ?_ ?_;(focus (simp [go_sem, undef, hi2, hne2];done));(focus (simp [go_sem];done));simp [go_sem, hi2, hne2])|(refine ag_true ?_ ?_;(focus (simp [go_sem, undef, hi2, hne2];done));simp [go_sem, hi2, hne2])|(refine ag_x ?_;simp [go_sem, undef, hi2, hne2])|intro _|refine And.intro ?_ ?_|(apply hKK;clear hKK KK)));all_goals first|refine Hold.mk ?_|omega|with_reducible assumption|(simp only [InR] at *;omega)|skip))
        (refine callA_l (900002 :: 900003 :: 900004 :: 900005 :: famS 1 0 q.needs.length) (by first | exact .inl ⟨rfl, rfl⟩ | exact .inr rfl) (by simp [go_sem]) ?_; intro args ha; simp [go_sem] at ha; subst ha; refine ⟨_, _, (line_ok p q l gb gp gn gw rs hp (by omega) he), (by simp [go_sem]), ?_⟩; rintro ps r hps ⟨gp', gn', gw', rs', hrs', rfl, rfl⟩; simp [go_sem]; ((repeat' (first|(refine ag_false ?_ ?_ ?_;(focus (simp [go_sem, undef];done));(focus (simp [go_sem];done));simp [go_sem])|(refine ag_true ?_ ?_;(focus (simp [go_sem, undef];done));simp [go_sem])|(refine ag_x ?_;simp [go_sem, undef])|intro _|refine And.intro ?_ ?_|(apply hKK;clear hKK KK)));all_goals first|refine Hold.mk ?_|omega|with_reducible assumption|(simp only [InR] at *;omega)|skip))
        rw [putPs_fam (b := 1) (e := 100) (k := 2) (f := mP) rs' 0 _ (by have := congrArg List.length hrs'; simpa using this)]
        simp [go_sem]
        ((repeat' (first|(refine ag_false ?_ ?_ ?_;(focus (simp [go_sem, undef];done));(focus (simp [go_sem];done));simp [go_sem])|(refine ag_true ?_ ?_;(focus (simp [go_sem, undef];done));simp [go_sem])|(refine ag_x ?_;simp [go_sem, undef])|intro _|refine And.intro ?_ ?_|(apply hKK;clear hKK KK)));all_goals first|refine Hold.mk ?_|omega|with_reducible assumption|(simp only [InR] at *;omega)|skip)
        (refine awp_if fun T F hT hF => ?_; simp [go_sem]; refine hF ?_; clear hT hF T F)
        refine awp_skip ?_
        refine hK10 _ ?_; clear hK10
        (refine awp_r fun KK hKK => ?_; simp [go_sem]; ((repeat' (first|(refine ag_x ?_;simp [go_sem])|intro _|refine And.intro ?_ ?_|(apply hKK;clear hKK KK)));all_goals first|refine Hold.mk ?_|omega|with_reducible assumption|(simp only [InR] at *;omega)|skip))
        refine ⟨(i + 1, q, gb, gp', gn', gw', rs'), ?_, ⟨by simp only; omega, (linesV_step hlv hx).trans he, hg.trans hgl, hrs'⟩, by simp only; omega⟩
        (refine cov_of ?_ ?_ <;> simp [go_sem])
        exact ⟨by rw [look_fam_app _ _ (by decide)]; simp [go_sem], FamIn.app _ _⟩
  · refine awp_exit ?_
    omega
end Go.Proofs.YtchnagdaljblnaaGreatDoor

namespace Go.Proofs.YtchnagdaljblnaaGreatDoor
open Go.Eng Go.Wh Go.Ver Go.RowKit Go.Lk
set_option maxRecDepth 20000
set_option linter.unusedSimpArgs false
set_option linter.unusedVariables false
attribute [local irreducible] AG CallA CallT AWp PCall ACall AgC
theorem ba_mid (s : List UInt8) (n k : Nat) : ({ data := s.toArray } : ByteArray).extract n (n + k) = { data := ((s.drop n).take k).toArray } := by
  apply ByteArray.ext
  simp [List.take_drop]
theorem at_end {s : Bs} {n : Nat} (h : n < (dots 10 s).length) (he : ¬ offV (dots 10 s) n < s.length) : n + 1 = (dots 10 s).length ∧ (dots 10 s)[n]? = some [] := by
  obtain ⟨l, hl⟩ : ∃ l, (dots 10 s)[n]? = some l := ⟨_, List.getElem?_eq_getElem h⟩
  by_cases h1 : n + 1 < (dots 10 s).length
  · have := (line_more h1 hl).2.2.1; omega
  · have h2 : n + 1 = (dots 10 s).length := by omega
    have := (line_last h2 hl).2
    have hl0 : l.length = 0 := by omega
    rw [List.length_eq_zero_iff.1 hl0] at hl
    exact ⟨h2, hl⟩
theorem beg_next {ls : List Bs} {n : Nat} {p : PS} (h : linesV ls n = some p) : begV ls (n + 1) = if p.part = 4 then offV ls n else begV ls n := by
  rw [begV, h]; simp
theorem sat_sum {d : Bs} (h : digV d = true) (m : Nat) (hm : m < 1000003) : d = Lib.itoa (m : Int) ↔ satV d = m := by
  rw [sum_same h, satV_eq _ d rfl]; omega
set_option maxHeartbeats 8000000 in
theorem rParse_spec (s : Bs) (hl : s.length ≤ 99000) : PCall Tryz.prog 34 [dS s] fun r => r = .tup [dLk (parV s).1, dI (parV s).2.1, dI (parV s).2.2] := by 
  refine pcall_of Tryz.func34 rfl rfl Tryz.ntmps34 (rs := [.cell 2 34, .tmp 3, .tmp 4]) (tys := [34, 3, 27]) rfl rfl (by simp) ?_
  have hcount := dots_count 10 s
  have hne := List.length_pos_iff.2 (dots_ne 10 s)
  have hlen := line_le s
  have hsz := lines_sz s
  have hF := @parV_form s
  have hS := @parV_short s
  have hU := @parV_full s
  have hB := @last_beg s
  have hM := @line_more s
  have hLa := @line_last s
  have hAt := at_line s
  have hEnd := @at_end s
  have hBl := begV_le s
  have hG0 : goL ps0 0 (dots 10 s) = goL ps0 0 ((dots 10 s).drop 0) := rfl
  have hL0 : linesV (dots 10 s) 0 = some ps0 := rfl
  generalize hls : dots 10 s = ls at *
  (refine awp_sr fun KK hKK => ?_; simp [go_sem]; ((repeat' (first|(refine ag_x ?_;simp [go_sem])|intro _|refine And.intro ?_ ?_|(apply hKK;clear hKK KK)));all_goals first|refine Hold.mk ?_|omega|with_reducible assumption|(simp only [InR] at *;omega)|skip))
  rename_i g2
  (refine awp_sr fun KK hKK => ?_; simp [go_sem]; ((repeat' (first|(refine ag_x ?_;simp [go_sem])|intro _|refine And.intro ?_ ?_|(apply hKK;clear hKK KK)));all_goals first|refine Hold.mk ?_|omega|with_reducible assumption|(simp only [InR] at *;omega)|skip))
  rename_i g5
  refine awp_renbox 5 900002 rfl rfl (by decide) fun gb0 => ?_
  simp only [go_sem]
  refine awp_nilbox 900003 91 2 0 (sb := 900002) rfl rfl (by decide) fun gp0 => ?_
  refine awp_nilbox 900004 32 1 1 (sb := 900002) rfl rfl (by decide) fun gn0 => ?_
  refine awp_nilbox 900005 94 2 2 (sb := 900002) rfl rfl (by decide) fun gw0 => ?_
  simp only [List.set, go_sem]
  (refine awp_sr fun KK hKK => ?_; simp [go_sem]; ((repeat' (first|(refine ag_x ?_;simp [go_sem])|intro _|refine And.intro ?_ ?_|(apply hKK;clear hKK KK)));all_goals first|refine Hold.mk ?_|omega|with_reducible assumption|(simp only [InR] at *;omega)|skip))
  (refine awp_sr fun KK hKK => ?_; simp [go_sem]; ((repeat' (first|(refine ag_x ?_;simp [go_sem])|intro _|refine And.intro ?_ ?_|(apply hKK;clear hKK KK)));all_goals first|refine Hold.mk ?_|omega|with_reducible assumption|(simp only [InR] at *;omega)|skip))
  (refine awp_sr fun KK hKK => ?_; simp [go_sem]; ((repeat' (first|(refine ag_x ?_;simp [go_sem])|intro _|refine And.intro ?_ ?_|(apply hKK;clear hKK KK)));all_goals first|refine Hold.mk ?_|omega|with_reducible assumption|(simp only [InR] at *;omega)|skip))
  refine awp_seq_k fun K1 hK1 => ?_
  refine awp_block ?_
  refine awp_loop (σ := Nat × PS × Nat × Nat × Nat × Nat × List (Nat × List Prs)) (fun x => ⟨[(0, dS s), (2, .ptr 2 g2 0), (5, .ptr 900002 x.2.2.1 0), (6, dI (offV ls x.1)), (7, dI (begV ls x.1)), (8, dI x.1)], (2, (g2, .box [.v (.slice none 0 0), .v (.slice none 0 0), .v (.slice none 0 0)])) :: rrH x.2.1 (nOf x.2.1) x.2.2.1 x.2.2.2.1 x.2.2.2.2.1 x.2.2.2.2.2.1 x.2.2.2.2.2.2⟩)
    (fun x => x.1 < ls.length ∧ linesV ls x.1 = some x.2.1 ∧ goL ps0 0 ls = goL x.2.1 x.1 (ls.drop x.1) ∧ x.2.2.2.2.2.2.map (fun x => x.2) = x.2.1.needs) (fun x => ls.length - x.1) (0, ps0, gb0, gp0, gn0, gw0, []) ?_ ?_ ?_
  · (refine cov_of ?_ ?_ <;> simp [go_sem, ps0, famO, fam, nOf, offV, begV])
  · exact ⟨by omega, hL0, hG0, rfl⟩
  rintro ⟨n, p, gb, gp, gn, gw, rs⟩ ⟨hi, hlv, hg, hrs⟩
  simp only at hi hlv hg hrs
  obtain ⟨l, hx⟩ : ∃ l, ls[n]? = some l := ⟨_, List.getElem?_eq_getElem (by omega)⟩
  have hp : PsOk p rs := psOk_sz (hsz _ _ hlv) (by omega) hrs
  have hll := hlen l (List.mem_of_getElem? hx)
  have hat1 := (hAt n hi).1
  have hM1 := @hM l n
  have hLa1 := @hLa l n
  have hB1 := @hB n p
  have hEnd1 := @hEnd n hi
  have hbn := beg_next (n := n) hlv
  have hbl := hBl n hi
  have hofn : offV ls (n + 1) = offV ls n + l.length + 1 := by simp [offV, hx]
  refine awp_seq_k fun K2 hK2 => ?_
  (refine awp_sr fun KK hKK => ?_; simp [go_sem]; ((repeat' (first|(refine ag_x ?_;simp [go_sem])|intro _|refine And.intro ?_ ?_|(apply hKK;clear hKK KK)));all_goals first|refine Hold.mk ?_|omega|with_reducible assumption|(simp only [InR] at *;omega)|skip))
  (refine awp_if fun T F hT hF => ?_; simp [go_sem]; refine BR.intro (fun h3 => hT ?_) (fun h3 => hF ?_); all_goals clear hT hF T F; try simp at h3) 
  · refine awp_skip ?_
    refine hK2 _ ?_; clear hK2
    refine awp_block ?_
    (refine awp_sr fun KK hKK => ?_; simp [go_sem]; ((repeat' (first|(refine ag_x ?_;simp [go_sem])|intro _|refine And.intro ?_ ?_|(apply hKK;clear hKK KK)));all_goals first|refine Hold.mk ?_|omega|with_reducible assumption|(simp only [InR] at *;omega)|skip))
    have hati : (offV ls n : Int) ≤ s.length := by omega
    have IB := iByte_spec (s.drop (offV ls n)) 10
    (refine awp_sr fun KK hKK => ?_; simp [go_sem, hati, hat1]; ((repeat' (first|(refine ag_x ?_;simp [go_sem, hati, hat1])|intro _|refine And.intro ?_ ?_|(apply hKK;clear hKK KK)));all_goals first|refine Hold.mk ?_|omega|with_reducible assumption|(simp only [InR] at *;omega)|skip))
    ((try refine CallT.toA ?_); refine callT_m (by first | exact .inl ⟨rfl, rfl⟩ | exact .inr rfl) (by simp [go_sem]) ?_; intro args ha; simp [go_sem] at ha; subst ha; refine ⟨_, (by rw [ba_drop]; exact IB), ?_⟩; rintro _ rfl; simp [go_sem]; ((repeat' (first|(refine ag_x ?_;simp [go_sem])|intro _|refine And.intro ?_ ?_|(apply hKK;clear hKK KK)));all_goals first|refine Hold.mk ?_|omega|with_reducible assumption|(simp only [InR] at *;omega)|skip))
    refine awp_seq_k fun K4 hK4 => ?_
    have tl4 : ∀ S', Cov S' ⟨[(0, dS s), (2, .ptr 2 g2 0), (5, .ptr 900002 gb 0), (6, dI (offV ls n)), (7, dI (begV ls (n + 1))), (8, dI ((n : Int) + 1)), (9, dI (Lib.indexByte (s.drop (offV ls n)) 10))], (2, (g2, .box [.v (.slice none 0 0), .v (.slice none 0 0), .v (.slice none 0 0)])) :: rrH p (nOf p) gb gp gn gw rs⟩ → K4 S' := fun S' hS' => by
      refine hK4 _ ?_; clear hK4
      refine awp_cov hS' ?_; clear hS'
      refine awp_seq_k fun K5 hK5 => ?_
      by_cases hi3 : n + 1 < ls.length
      · have hgl := goL_more (p := p) hx hi3
        obtain ⟨m1, m2, m3, m4, _⟩ := hM1 hi3 hx
        rw [m1]
        have hk0 : ¬ ((l.length : Int) < 0) := by omega
        have hs1 : (offV ls n : Int) ≤ (offV ls n : Int) + l.length := by omega
        have hs2 : (offV ls n : Int) + l.length ≤ s.length := by omega
        have htn : ((offV ls n : Int) + l.length).toNat = offV ls n + l.length := by omega
        cases he : lineV p l with
        | none =>
          rw [he] at hgl
          have e := hF (hg.trans hgl)
          (refine awp_sr fun KK hKK => ?_; simp [go_sem, hk0, hs1, hs2, htn]; ((repeat' (first|(refine ag_false ?_ ?_ ?_;(focus (simp [go_sem, undef, hk0, hs1, hs2, htn];done));(focus (simp [go_sem];done));simp [go_sem, hk0, hs1, hs2, htn])|(refine ag_true ?_ ?_;(focus (simp [go_sem, undef, hk0, hs1, hs2, htn];done));simp [go_sem, hk0, hs1, hs2, htn])|(refine ag_x ?_;simp [go_sem, undef, hk0, hs1, hs2, htn])|intro _|refine And.intro ?_ ?_|(apply hKK;clear hKK KK)));all_goals first|refine Hold.mk ?_|omega|with_reducible assumption|(simp only [InR] at *;omega)|skip))
          refine callA_l (900002 :: 900003 :: 900004 :: 900005 :: famS 1 0 p.needs.length) (by first | exact .inl ⟨rfl, rfl⟩ | exact .inr rfl) (by simp [go_sem]) ?_
          intro args ha; simp [go_sem] at ha; subst ha
          refine ⟨_, _, by rw [ba_mid, m2]; exact rline_bad p (nOf p) l gb gp gn gw rs hp (by omega) he, (by simp [go_sem]), ?_⟩
          rintro ps r hps rfl
          obtain ⟨h, eh, hh⟩ := putPs_st _ _ _ hps
          rw [eh]
          have h2 := hh 2 (by
            simp only [List.mem_cons, famS_mem, not_or]
            refine ⟨by decide, by decide, by decide, by decide, ?_⟩
            rintro ⟨j, _, _, e⟩
            exact absurd e.symm (fs_nlit (by decide)))
          simp [go_sem] at h2
          simp [go_sem]
          ((repeat' (first|(refine ag_false ?_ ?_ ?_;(focus (simp [go_sem, undef];done));(focus (simp [go_sem];done));simp [go_sem])|(refine ag_true ?_ ?_;(focus (simp [go_sem, undef];done));simp [go_sem])|(refine ag_x ?_;simp [go_sem, undef])|intro _|refine And.intro ?_ ?_|(apply hKK;clear hKK KK)));all_goals first|refine Hold.mk ?_|omega|with_reducible assumption|(simp only [InR] at *;omega)|skip)
          (refine awp_if fun T F hT hF => ?_; simp [go_sem]; refine hT ?_; clear hT hF T F)
          (refine awp_sr fun KK hKK => ?_; simp [go_sem, h2]; ((repeat' (first|(refine ag_x ?_;simp [go_sem, h2])|intro _|refine And.intro ?_ ?_|(apply hKK;clear hKK KK)));all_goals first|refine Hold.mk ?_|omega|with_reducible assumption|(simp only [InR] at *;omega)|skip))
          (refine awp_ret ?_; simp [go_sem, e])
        | some q =>
          rw [he] at hgl
          (refine awp_sr fun KK hKK => ?_; simp [go_sem, hk0, hs1, hs2, htn]; ((repeat' (first|(refine ag_false ?_ ?_ ?_;(focus (simp [go_sem, undef, hk0, hs1, hs2, htn];done));(focus (simp [go_sem];done));simp [go_sem, hk0, hs1, hs2, htn])|(refine ag_true ?_ ?_;(focus (simp [go_sem, undef, hk0, hs1, hs2, htn];done));simp [go_sem, hk0, hs1, hs2, htn])|(refine ag_x ?_;simp [go_sem, undef, hk0, hs1, hs2, htn])|intro _|refine And.intro ?_ ?_|(apply hKK;clear hKK KK)));all_goals first|refine Hold.mk ?_|omega|with_reducible assumption|(simp only [InR] at *;omega)|skip))
          (refine callA_l (900002 :: 900003 :: 900004 :: 900005 :: famS 1 0 q.needs.length) (by first | exact .inl ⟨rfl, rfl⟩ | exact .inr rfl) (by simp [go_sem]) ?_; intro args ha; simp [go_sem] at ha; subst ha; refine ⟨_, _, (by rw [ba_mid, m2]; exact rline_ok p q l gb gp gn gw rs hp (by omega) he), (by simp [go_sem]), ?_⟩; rintro ps r hps ⟨gp', gn', gw', rs', hrs', rfl, rfl⟩; simp [go_sem]; ((repeat' (first|(refine ag_false ?_ ?_ ?_;(focus (simp [go_sem, undef];done));(focus (simp [go_sem];done));simp [go_sem])|(refine ag_true ?_ ?_;(focus (simp [go_sem, undef];done));simp [go_sem])|(refine ag_x ?_;simp [go_sem, undef])|intro _|refine And.intro ?_ ?_|(apply hKK;clear hKK KK)));all_goals first|refine Hold.mk ?_|omega|with_reducible assumption|(simp only [InR] at *;omega)|skip))
          rw [putPs_fam (b := 1) (e := 94) (k := 2) (f := mP) rs' 0 _ (by have := congrArg List.length hrs'; simpa using this)]
          simp [go_sem]
          ((repeat' (first|(refine ag_false ?_ ?_ ?_;(focus (simp [go_sem, undef];done));(focus (simp [go_sem];done));simp [go_sem])|(refine ag_true ?_ ?_;(focus (simp [go_sem, undef];done));simp [go_sem])|(refine ag_x ?_;simp [go_sem, undef])|intro _|refine And.intro ?_ ?_|(apply hKK;clear hKK KK)));all_goals first|refine Hold.mk ?_|omega|with_reducible assumption|(simp only [InR] at *;omega)|skip)
          (refine awp_if fun T F hT hF => ?_; simp [go_sem]; refine hF ?_; clear hT hF T F)
          refine awp_skip ?_
          refine hK5 _ ?_; clear hK5
          (refine awp_r fun KK hKK => ?_; simp [go_sem]; ((repeat' (first|(refine ag_x ?_;simp [go_sem])|intro _|refine And.intro ?_ ?_|(apply hKK;clear hKK KK)));all_goals first|refine Hold.mk ?_|omega|with_reducible assumption|(simp only [InR] at *;omega)|skip))
          refine ⟨(n + 1, q, gb, gp', gn', gw', rs'), ?_, ⟨by simp only; omega, (linesV_step hlv hx).trans he, hg.trans hgl, hrs'⟩, by simp only; omega⟩
          rw [hofn]
          (refine cov_of ?_ ?_ <;> simp [go_sem])
          exact ⟨by rw [look_fam_app _ _ (by decide)]; simp [go_sem], FamIn.app _ _⟩
      · have hi4 : n + 1 = ls.length := by omega
        obtain ⟨m1, m2⟩ := hLa1 hi4 hx
        have hl0 : ¬ l = [] := fun q => by rw [q] at m2; simp at m2; omega
        have hgl := goL_last (p := p) hx hi4
        rw [if_neg hl0] at hgl
        have e := hF (hg.trans hgl)
        rw [m1]
        (refine awp_sr fun KK hKK => ?_; simp [go_sem]; ((repeat' (first|(refine ag_false ?_ ?_ ?_;(focus (simp [go_sem, undef];done));(focus (simp [go_sem];done));simp [go_sem])|(refine ag_true ?_ ?_;(focus (simp [go_sem, undef];done));simp [go_sem])|(refine ag_x ?_;simp [go_sem, undef])|intro _|refine And.intro ?_ ?_|(apply hKK;clear hKK KK)));all_goals first|refine Hold.mk ?_|omega|with_reducible assumption|(simp only [InR] at *;omega)|skip))
        (refine awp_if fun T F hT hF => ?_; simp [go_sem]; refine hT ?_; clear hT hF T F)
        (refine awp_sr fun KK hKK => ?_; simp [go_sem]; ((repeat' (first|(refine ag_x ?_;simp [go_sem])|intro _|refine And.intro ?_ ?_|(apply hKK;clear hKK KK)));all_goals first|refine Hold.mk ?_|omega|with_reducible assumption|(simp only [InR] at *;omega)|skip))
        (refine awp_ret ?_; simp [go_sem, e])
    clear hK4
    (refine awp_sr fun KK hKK => ?_; simp [go_sem]; ((repeat' (first|(refine ag_x ?_;simp [go_sem])|intro _|refine And.intro ?_ ?_|(apply hKK;clear hKK KK)));all_goals first|refine Hold.mk ?_|omega|with_reducible assumption|(simp only [InR] at *;omega)|skip))
    (refine awp_if fun T F hT hF => ?_; simp [go_sem]; refine BR.intro (fun h7 => hT ?_) (fun h7 => hF ?_); all_goals clear hT hF T F; try simp at h7) 
    · (refine awp_r fun KK hKK => ?_; simp [go_sem]; ((repeat' (first|(refine ag_x ?_;simp [go_sem])|intro _|refine And.intro ?_ ?_|(apply hKK;clear hKK KK)));all_goals first|refine Hold.mk ?_|omega|with_reducible assumption|(simp only [InR] at *;omega)|skip))
      refine tl4 _ ?_
      have : begV ls (n + 1) = offV ls n := by rw [hbn, if_pos (by omega)]
      rw [this]
      (refine cov_of ?_ ?_ <;> simp [go_sem])
    · refine awp_skip ?_
      refine tl4 _ ?_
      have : begV ls (n + 1) = begV ls n := by rw [hbn, if_neg (by omega)]
      rw [this]
      (refine cov_of ?_ ?_ <;> simp [go_sem])
  · refine awp_exit ?_
    simp only [go_sem]
    refine hK1 _ ?_; clear hK1
    obtain ⟨e1, e2⟩ := hEnd1 (by omega)
    have hgl := goL_last (p := p) hx e1
    rw [hx] at e2
    obtain rfl := Option.some.inj e2
    rw [if_pos rfl] at hgl
    have hgE := hg.trans hgl
    refine awp_seq_k fun K8 hK8 => ?_
    by_cases h5 : p.part = 5
    · obtain ⟨b1, b2, b3⟩ := hB1 e1 hx hlv h5
      have hu := hU hgE h5 b3
      have hz := hsz _ _ hlv
      have hnof : nOf p = satV p.sum := by unfold nOf; rw [if_pos h5]
      rw [hnof]
      (refine awp_sr fun KK hKK => ?_; simp [go_sem, h5]; ((repeat' (first|(refine ag_x ?_;simp [go_sem, h5])|intro _|refine And.intro ?_ ?_|(apply hKK;clear hKK KK)));all_goals first|refine Hold.mk ?_|omega|with_reducible assumption|(simp only [InR] at *;omega)|skip))
      (refine awp_if fun T F hT hF => ?_; simp [go_sem, h5]; refine hF ?_; clear hT hF T F)
      refine awp_skip ?_
      refine hK8 _ ?_; clear hK8
      generalize begV ls n = b at *
      have SU := rsum_spec (s.take b) (by rw [List.length_take]; omega)
      have hsl := sumV_lt (s.take b) (s.take b).length
      have CK := rLValid_spec (lkOf p) (lkOk_sz hz (by omega) (by omega))
      generalize sumV (s.take b) (s.take b).length = sm at *
      have hsat := sat_sum b1 sm hsl
      have hbi : (b : Int) ≤ s.length := by omega
      refine awp_seq_k fun K10 hK10 => ?_
      ((refine awp_dr (.qs [0, 1, 2, 4, 5, 6, 7] (.kp 3 (.qs [8] (.nil)))) (by kernel_rfl) ?_ ?_ ?_ ?_); (kernel_rfl); (exact (by decide +kernel)); (kernel_rfl); intro KK hKK; ((repeat' (first|(refine ag_x ?_;simp [go_sem, hbi, b2])|refine adr_nil ?_|refine adr_two ?_ ?_|refine adr_kq ?_ ?_|refine adr_three ?_ ?_ ?_|refine adr_four ?_ ?_ ?_ ?_|refine adr_kp2 ?_ ?_|refine adr_kp3 ?_ ?_ ?_|((first|refine adr_qs fun KK hKK=>?_|refine adr_y fun KK hKK=>?_);simp [go_sem, hbi, b2])|intro _|refine And.intro ?_ ?_|(apply hKK;clear hKK KK)));all_goals first|refine Hold.mk ?_|omega|with_reducible assumption|(simp only [InR] at *;omega)|skip))
      ((try refine CallT.toA ?_); refine callT_m (by first | exact .inl ⟨rfl, rfl⟩ | exact .inr rfl) (by simp [go_sem]) ?_; intro args ha; simp [go_sem] at ha; subst ha; refine ⟨_, (by first | exact SU | (rw [ba_take]; exact SU)), ?_⟩; rintro _ rfl; simp [go_sem]; ((repeat' (first|(refine ag_x ?_;simp [go_sem])|refine adr_nil ?_|refine adr_two ?_ ?_|refine adr_kq ?_ ?_|refine adr_three ?_ ?_ ?_|refine adr_four ?_ ?_ ?_ ?_|refine adr_kp2 ?_ ?_|refine adr_kp3 ?_ ?_ ?_|((first|refine adr_qs fun KK hKK=>?_|refine adr_y fun KK hKK=>?_);simp [go_sem])|intro _|refine And.intro ?_ ?_|(apply hKK;clear hKK KK)));all_goals first|refine Hold.mk ?_|omega|with_reducible assumption|(simp only [InR] at *;omega)|skip))
      by_cases hsum : p.sum = Lib.itoa sm
      · rw [if_neg (by simp [hsum])] at hu
        have hq : sm = satV p.sum := (hsat.1 hsum).symm
        (refine awp_if fun T F hT hF => ?_; simp [go_sem, hq]; refine hF ?_; clear hT hF T F)
        refine awp_skip ?_
        refine hK10 _ ?_; clear hK10
        refine awp_seq_k fun K12 hK12 => ?_
        refine awp_frzin 900003 900002 0 rfl rfl (by decide) rfl ?_
        simp only [go_sem, List.set]
        refine awp_frzin 900005 900002 2 rfl rfl (by decide) rfl ?_
        simp only [go_sem, List.set]
        refine awp_frzfam (b := 1) (e := 94) (k := 2) (f := mP) (go := gn) (eo := 32) 900004 (rs := rs) (ho := [(2, (g2, .box [.v (.slice none 0 0), .v (.slice none 0 0), .v (.slice none 0 0)])), (900002, (gb, .box [dPs p.picks, .own 900004 gn, dPs p.wish, dI p.part, dI (satV p.sum)]))]) (by simp [go_sem]) (by simp [go_sem]) (by decide) (by simp [go_sem, h5]) (by simp) ?_
        refine awp_frzin 900004 900002 1 rfl rfl (by decide) rfl ?_
        simp only [go_sem, List.set]
        have hN : (rs.map fun r => [D.sl 2 (mP r.2)]) = p.needs.map fun n => [dPs n] := by rw [← hp.en, List.map_map]; rfl
        rw [hN]
        simp only [lkOf] at CK
        (refine awp_sr fun KK hKK => ?_; simp [go_sem]; ((repeat' (first|(refine ag_x ?_;simp [go_sem])|intro _|refine And.intro ?_ ?_|(apply hKK;clear hKK KK)));all_goals first|refine Hold.mk ?_|omega|with_reducible assumption|(simp only [InR] at *;omega)|skip))
        ((try refine CallT.toA ?_); refine callT_m (by first | exact .inl ⟨rfl, rfl⟩ | exact .inr rfl) (by simp [go_sem]) ?_; intro args ha; simp [go_sem] at ha; subst ha; refine ⟨_, CK, ?_⟩; rintro _ rfl; simp [go_sem]; ((repeat' (first|(refine ag_x ?_;simp [go_sem])|intro _|refine And.intro ?_ ?_|(apply hKK;clear hKK KK)));all_goals first|refine Hold.mk ?_|omega|with_reducible assumption|(simp only [InR] at *;omega)|skip))
        by_cases hlk : lockV (lkOf p) = true
        · have hlk' : lockV (p.picks, p.needs, p.wish) = true := hlk
          rw [if_pos hlk] at hu
          (refine awp_if fun T F hT hF => ?_; simp [go_sem, hlk']; refine hF ?_; clear hT hF T F)
          refine awp_skip ?_
          refine hK12 _ ?_; clear hK12
          (refine awp_sr fun KK hKK => ?_; simp [go_sem]; ((repeat' (first|(refine ag_x ?_;simp [go_sem])|intro _|refine And.intro ?_ ?_|(apply hKK;clear hKK KK)));all_goals first|refine Hold.mk ?_|omega|with_reducible assumption|(simp only [InR] at *;omega)|skip))
          (refine awp_ret ?_; simp [go_sem, hu, lkOf])
        · have hlk' : lockV (p.picks, p.needs, p.wish) = false := by simpa [lkOf] using hlk
          rw [if_neg (by simp [hlk])] at hu
          (refine awp_if fun T F hT hF => ?_; simp [go_sem, hlk']; refine hT ?_; clear hT hF T F)
          (refine awp_sr fun KK hKK => ?_; simp [go_sem, hlk']; ((repeat' (first|(refine ag_x ?_;simp [go_sem, hlk'])|intro _|refine And.intro ?_ ?_|(apply hKK;clear hKK KK)));all_goals first|refine Hold.mk ?_|omega|with_reducible assumption|(simp only [InR] at *;omega)|skip))
          (refine awp_ret ?_; simp [go_sem, hu, hlk'])
      · rw [if_pos hsum] at hu
        have hq : ¬ sm = satV p.sum := fun q => hsum (hsat.2 q.symm)
        have hqi : ¬ (sm : Int) = satV p.sum := by omega
        (refine awp_if fun T F hT hF => ?_; simp [go_sem, hq, hqi]; refine hT ?_; clear hT hF T F)
        (refine awp_sr fun KK hKK => ?_; simp [go_sem]; ((repeat' (first|(refine ag_x ?_;simp [go_sem])|intro _|refine And.intro ?_ ?_|(apply hKK;clear hKK KK)));all_goals first|refine Hold.mk ?_|omega|with_reducible assumption|(simp only [InR] at *;omega)|skip))
        (refine awp_ret ?_; simp [go_sem, hu])
    · have e := hS hgE h5
      have h5i : ¬ (p.part : Int) = 5 := by omega
      (refine awp_sr fun KK hKK => ?_; simp [go_sem, h5, h5i]; ((repeat' (first|(refine ag_x ?_;simp [go_sem, h5, h5i])|intro _|refine And.intro ?_ ?_|(apply hKK;clear hKK KK)));all_goals first|refine Hold.mk ?_|omega|with_reducible assumption|(simp only [InR] at *;omega)|skip))
      (refine awp_if fun T F hT hF => ?_; simp [go_sem, h5, h5i]; refine hT ?_; clear hT hF T F)
      (refine awp_sr fun KK hKK => ?_; simp [go_sem]; ((repeat' (first|(refine ag_x ?_;simp [go_sem])|intro _|refine And.intro ?_ ?_|(apply hKK;clear hKK KK)));all_goals first|refine Hold.mk ?_|omega|with_reducible assumption|(simp only [InR] at *;omega)|skip))
      (refine awp_ret ?_; simp [go_sem, e])
end Go.Proofs.YtchnagdaljblnaaGreatDoor

set_option linter.unusedVariables false
set_option linter.unusedSimpArgs false
set_option maxRecDepth 20000
namespace Go.Lk
open Go.Lib Go.Wh Go.Ver
/-! a lock's text is read as the lock -/
theorem join_no {k : UInt8} {ps : List Bs} {sep : Bs} (h : ∀ p ∈ ps, k ∉ p) (hs : k ∉ sep) : k ∉ join ps sep := by
  cases ps with
  | nil => simp [join_nil]
  | cons x r =>
    rw [join_cons, joinTail]
    intro hm
    rcases List.mem_append.1 hm with hm | hm
    · exact h x (by simp) hm
    · obtain ⟨q, hq, hm⟩ := List.mem_flatten.1 hm
      obtain ⟨p, hp, rfl⟩ := List.mem_map.1 hq
      rcases List.mem_append.1 hm with hm | hm
      · exact hs hm
      · exact h p (by simp [hp]) hm
/-- a byte that no version holds -/
def outC (k : UInt8) : Prop := isL k = false ∧ isD k = false ∧ k ≠ 46 ∧ k ≠ 32 ∧ k ≠ 44 ∧ k ≠ 61 ∧ k ≠ 33 ∧ k ≠ 62 ∧ k ≠ 60 ∧ k ≠ 126
theorem out10 : outC 10 := by unfold outC; decide
theorem out41 : outC 41 := by unfold outC; decide
theorem segT_out {k : UInt8} (hk : outC k) {x : Seg} (h : SegOk x) : k ∉ segT x := by
  rcases h with ⟨h1, h2, h3, h4⟩ | ⟨h1, h2, h3⟩
  · simp only [segT, ne_eq, h1, not_false_eq_true, if_true]
    intro hm
    have := List.all_eq_true.1 h3 k hm
    rw [hk.1] at this; cases this
  · simp only [segT, h1, ne_eq, not_true_eq_false, if_false]
    unfold itoa
    rw [if_neg (by omega)]
    intro hm
    have := decDigits_isD _ k hm
    rw [hk.2.1] at this; cases this
theorem textV_out {k : UInt8} (hk : outC k) {l : List Seg} (h : ∀ x ∈ l, SegOk x) : k ∉ Go.Ver.textV l := by
  unfold Go.Ver.textV
  refine join_no (fun p hp => ?_) ?_
  · obtain ⟨x, hx, rfl⟩ := List.mem_map.1 hp
    exact segT_out hk (h x hx)
  · have := hk.2.2.1
    simpa using this
theorem readV_out {k : UInt8} (hk : outC k) {v : Bs} (h : (readV v).isSome = true) : k ∉ v := by
  obtain ⟨l, hl⟩ := Option.isSome_iff_exists.1 h
  obtain ⟨h1, h2, _⟩ := readV_ok hl
  rw [← h2]
  exact textV_out hk h1.2.2
theorem readV_ne {v : Bs} (h : (readV v).isSome = true) : v ≠ [] := fun q => by
  subst q
  have : readV [] = none := by decide
  rw [this] at h; cases h
theorem ops_out {k : UInt8} (hk : outC k) {o : Bs} (h : o ∈ opsV) : k ∉ o := by
  obtain ⟨_, _, _, _, _, h61, h33, h62, h60, h126⟩ := hk
  simp only [opsV, List.mem_cons, List.not_mem_nil, or_false] at h
  rcases h with rfl | rfl | rfl | rfl | rfl | rfl | rfl <;> simp [h61, h33, h62, h60, h126]
theorem condsV_out {k : UInt8} (hk : outC k) {w : Bs} (h : (condsV w).isSome = true) : k ∉ w := by
  obtain ⟨l, hl⟩ := Option.isSome_iff_exists.1 h
  obtain ⟨h1, h2, _⟩ := condsV_ok hl
  rw [← h1]
  unfold textR
  refine join_no (fun p hp => ?_) ?_
  · obtain ⟨c, hc, rfl⟩ := List.mem_map.1 hp
    unfold textC
    have q1 := ops_out hk (h2 c hc).1
    have q2 := textV_out hk (h2 c hc).2.1.2.2
    simp [q1, q2, hk.2.2.2.1]
  · simp [hk.2.2.2.1, hk.2.2.2.2.1]
theorem name_nm {g : Bs} (h : nameV g = true) : g ≠ [] ∧ g.all nmC = true ∧ g.length ≤ 20 := by
  cases g with
  | nil => simp [nameV] at h
  | cons c r =>
    simp only [nameV, Bool.and_eq_true, decide_eq_true_eq] at h
    refine ⟨by simp, ?_, by simp; omega⟩
    simp only [List.all_cons, Bool.and_eq_true]
    refine ⟨?_, h.1.2⟩
    unfold nmC; simp [h.1.1]
/-- the rest of a line behind its indent -/
def bodyL (n : Prs) : Bs := if n.2 = [] then n.1 else n.1 ++ ([32, 40] ++ (n.2 ++ [41]))
theorem nmd_body {n : Prs} (h : nameV n.1 = true) (h41 : 41 ∉ n.2) : nmdV (bodyL n) = some (n.1, n.2, decide (n.2 ≠ [])) := by
  obtain ⟨g, w⟩ := n
  obtain ⟨h1, h2, _⟩ := name_nm h
  simp only at h1 h2 h41
  have h32 : (32 : UInt8) ∉ g := nm_no h2 (by decide)
  unfold bodyL
  simp only
  split
  · rename_i e
    subst e
    have := nmd_eq (cut_no (t := [40]) h32)
    rw [this, if_neg (by simp [h1, h2]), if_pos rfl]
    simp
  · rename_i e
    have hc : cut (g ++ ([32, 40] ++ (w ++ [41]))) [32, 40] = (g, w ++ [41], true) := by
      have := cut_at (a := g) (c := 32) (t := [40]) (r := w ++ [41]) h32
      exact this
    have hd : cut (w ++ [41]) [41] = (w, [], true) := by
      have := cut_at (a := w) (c := 41) (t := []) (r := []) h41
      rw [← this]; simp
    rw [nmd_eq hc, if_neg (by simp [h1, h2]), if_neg (by simp), hd, if_pos ⟨rfl, rfl, e⟩]
    simp [e]
theorem body_out {n : Prs} (h : nameV n.1 = true) (h10 : 10 ∉ n.2) : 10 ∉ bodyL n := by
  obtain ⟨_, h2, _⟩ := name_nm h
  have hg : (10 : UInt8) ∉ n.1 := nm_no h2 (by decide)
  unfold bodyL
  split
  · exact hg
  · simp [hg, h10]
theorem wantL_body (ind : Bs) (n : Prs) : wantL ind n = (ind ++ bodyL n) ++ [10] := by
  unfold wantL bodyL; split <;> simp
theorem pickL_body {n : Prs} (h : n.2 ≠ []) : pickL n = (pre2 ++ bodyL n) ++ [10] := by
  unfold pickL bodyL; rw [if_neg h]; simp [pre2]
/-- complete lines that take the reader from one state to another -/
def Reads (p : PS) (t : Bs) (q : PS) : Prop := ∀ i s, ∃ j, goL p i (dots 10 (t ++ s)) = goL q j (dots 10 s)
theorem Reads.nil (p : PS) : Reads p [] p := fun i s => ⟨i, rfl⟩
theorem Reads.trans {p q r : PS} {t u : Bs} (h : Reads p t q) (k : Reads q u r) : Reads p (t ++ u) r := fun i s => by
  obtain ⟨j, hj⟩ := h i (u ++ s)
  obtain ⟨m, hm⟩ := k j s
  exact ⟨m, by rw [List.append_assoc, hj, hm]⟩
theorem Reads.line {p q : PS} {l : Bs} (h : 10 ∉ l) (hq : lineV p l = some q) : Reads p (l ++ [10]) q := fun i s => by
  refine ⟨i + 1, ?_⟩
  rw [List.append_assoc, show ([10] : Bs) ++ s = 10 :: s from rfl, dots_app _ h]
  obtain ⟨m, r, hm⟩ : ∃ m r, dots 10 s = m :: r := by
    cases hd : dots 10 s with
    | nil => exact absurd hd (dots_ne 10 s)
    | cons m r => exact ⟨m, r, rfl⟩
  rw [hm]
  conv => lhs; unfold goL
  rw [hq]
theorem lineV_need {P : List Prs} {N : List (List Prs)} {n : Prs} {r : List Prs} (hn : N.length = P.length) (hP : P ≠ []) (hr : N[P.length - 1]? = some r) (h : nameV n.1 = true) (h41 : 41 ∉ n.2) :
    lineV ⟨1, P, N, [], []⟩ (pre4 ++ bodyL n) = some ⟨1, P, N.set (P.length - 1) (r ++ [n]), [], []⟩ := by
  have hd := nmd_body h h41
  have e : (pre4 ++ bodyL n).drop 4 = bodyL n := rfl
  have hp : pre4.isPrefixOf (pre4 ++ bodyL n) = true := List.isPrefixOf_iff_prefix.2 ⟨_, rfl⟩
  have e2 : N.getD (P.length - 1) [] = r := by simp [List.getD, hr]
  simp only [lineV]
  rw [if_neg (by simp [pre4])]
  unfold entryV
  rw [if_pos hp, e, hd]
  simp only
  rw [if_neg (by simp [hP]), e2]
theorem lineV_pick {P : List Prs} {N : List (List Prs)} {n : Prs} (h : nameV n.1 = true) (h41 : 41 ∉ n.2) (hne : n.2 ≠ []) :
    lineV ⟨1, P, N, [], []⟩ (pre2 ++ bodyL n) = some ⟨1, P ++ [n], N ++ [[]], [], []⟩ := by
  have hd := nmd_body h h41
  obtain ⟨h1, h2, _⟩ := name_nm h
  have e : (pre2 ++ bodyL n).drop 2 = bodyL n := rfl
  have hp : pre2.isPrefixOf (pre2 ++ bodyL n) = true := List.isPrefixOf_iff_prefix.2 ⟨_, rfl⟩
  have hq : ¬ pre4.isPrefixOf (pre2 ++ bodyL n) = true := fun q => by
    obtain ⟨t, ht⟩ := List.isPrefixOf_iff_prefix.1 q
    have h32 : (32 : UInt8) ∉ n.1 := nm_no h2 (by decide)
    simp only [pre4, pre2, List.cons_append, List.nil_append, List.cons.injEq, true_and] at ht
    unfold bodyL at ht
    rw [if_neg hne] at ht
    cases hg : n.1 with
    | nil => exact h1 hg
    | cons c r =>
      rw [hg] at ht h32
      simp at ht
      exact h32 (by rw [ht.1]; simp)
  simp only [lineV]
  rw [if_neg (by simp [pre2])]
  unfold entryV
  rw [if_neg hq, if_pos hp, e, hd]
  simp only
  rw [if_neg (by simp [hne]), if_neg (by decide)]
theorem lineV_wish {P : List Prs} {N : List (List Prs)} {W : List Prs} {n : Prs} (h : nameV n.1 = true) (h41 : 41 ∉ n.2) :
    lineV ⟨3, P, N, W, []⟩ (pre2 ++ bodyL n) = some ⟨3, P, N, W ++ [n], []⟩ := by
  have hd := nmd_body h h41
  obtain ⟨h1, h2, _⟩ := name_nm h
  have e : (pre2 ++ bodyL n).drop 2 = bodyL n := rfl
  have hp : pre2.isPrefixOf (pre2 ++ bodyL n) = true := List.isPrefixOf_iff_prefix.2 ⟨_, rfl⟩
  have hq : ¬ pre4.isPrefixOf (pre2 ++ bodyL n) = true := fun q => by
    obtain ⟨t, ht⟩ := List.isPrefixOf_iff_prefix.1 q
    have h32 : (32 : UInt8) ∉ n.1 := nm_no h2 (by decide)
    simp only [pre4, pre2, List.cons_append, List.nil_append, List.cons.injEq, true_and] at ht
    unfold bodyL at ht
    cases hg : n.1 with
    | nil => exact h1 hg
    | cons c r =>
      rw [hg] at ht h32
      split at ht
      · simp at ht
        exact h32 (by rw [ht.1]; simp)
      · simp at ht
        exact h32 (by rw [ht.1]; simp)
  simp only [lineV]
  rw [if_neg (by simp [pre2])]
  unfold entryV
  rw [if_neg hq, if_pos hp, e, hd]
  simp only
  rw [if_neg (by simp)]
  simp
theorem reads_needs {P : List Prs} {N : List (List Prs)} {r0 : List Prs} (hn : N.length + 1 = P.length) (l : List Prs) (h : ∀ n ∈ l, nameV n.1 = true ∧ (condsV n.2).isSome = true) : ∀ k, k ≤ l.length →
    Reads ⟨1, P, N ++ [[]], [], []⟩ (ndsT pre4 l k) ⟨1, P, N ++ [l.take k], [], []⟩
  | 0, _ => Reads.nil _
  | k + 1, hk => by
    have ih := reads_needs (r0 := r0) hn l h k (by omega)
    have hx := List.getElem?_eq_getElem (l := l) (i := k) (by omega)
    obtain ⟨a1, a2⟩ := h _ (List.getElem_mem (show k < l.length by omega))
    have htk : l.take (k + 1) = l.take k ++ [l[k]] := by rw [List.take_add_one, hx]; rfl
    rw [ndsT_step hx, wantL_body]
    refine ih.trans (Reads.line ?_ ?_)
    · have := body_out a1 (condsV_out out10 a2)
      simp [pre4, this]
    · have hP : P ≠ [] := fun q => by rw [q] at hn; simp at hn
      have hi : P.length - 1 = N.length := by omega
      have hr : (N ++ [l.take k])[P.length - 1]? = some (l.take k) := by rw [hi]; simp
      rw [lineV_need (by simp; omega) hP hr a1 (condsV_out out41 a2), hi, htk]
      congr 2
      rw [List.set_append_right _ _ (by omega)]
      simp
theorem needsV_each {m : Nat} {l : List Prs} (h : needsV m l = true) : ∀ n ∈ l, nameV n.1 = true ∧ (condsV n.2).isSome = true := fun n hn => by
  unfold needsV at h
  rw [Bool.and_eq_true] at h
  obtain ⟨i, hi⟩ := List.getElem?_of_mem hn
  have := needTo_at h.1 (List.getElem?_eq_some_iff.1 hi).1
  unfold needAt at this
  rw [hi] at this
  simp only [Bool.and_eq_true] at this
  exact this.1
theorem reads_picks {L : Lck} (h : lockV L = true) : ∀ i, i ≤ L.1.length → Reads ps0 (pksT L i) ⟨1, L.1.take i, L.2.1.take i, [], []⟩
  | 0, _ => by
    have := Reads.line (p := ps0) (q := ⟨1, [], [], [], []⟩) (l := gemsT) (by decide) (by simp [lineV, ps0])
    simpa [pksT, gemsH, gemsT] using this
  | i + 1, hi => by
    obtain ⟨v1, v2, v3, v4⟩ := lockV_parts h
    have ih := reads_picks h i (by omega)
    have hx := List.getElem?_eq_getElem (l := L.1) (i := i) (by omega)
    have hr := List.getElem?_eq_getElem (l := L.2.1) (i := i) (by omega)
    obtain ⟨a1, a2, a3⟩ := lockV_pick h hx hr
    have t1 : L.1.take (i + 1) = L.1.take i ++ [L.1[i]] := by rw [List.take_add_one, hx]; rfl
    have t2 : L.2.1.take (i + 1) = L.2.1.take i ++ [L.2.1[i]] := by rw [List.take_add_one, hr]; rfl
    have hne := readV_ne a2
    rw [pksT_step hx hr]
    refine ih.trans (Reads.trans (q := ⟨1, L.1.take i ++ [L.1[i]], L.2.1.take i ++ [[]], [], []⟩) ?_ ?_)
    · rw [pickL_body hne]
      refine Reads.line ?_ (lineV_pick a1 (readV_out out41 a2) hne)
      have := body_out a1 (readV_out out10 a2)
      simp [pre2, this]
    · rw [t1, t2]
      have := reads_needs (P := L.1.take i ++ [L.1[i]]) (N := L.2.1.take i) (r0 := []) (by simp; omega) L.2.1[i] (needsV_each a3) _ (Nat.le_refl _)
      rwa [List.take_length] at this
theorem reads_wish {P : List Prs} {N : List (List Prs)} (l : List Prs) (h : ∀ n ∈ l, nameV n.1 = true ∧ (condsV n.2).isSome = true) : ∀ k, k ≤ l.length →
    Reads ⟨3, P, N, [], []⟩ (ndsT pre2 l k) ⟨3, P, N, l.take k, []⟩
  | 0, _ => Reads.nil _
  | k + 1, hk => by
    have ih := reads_wish (P := P) (N := N) l h k (by omega)
    have hx := List.getElem?_eq_getElem (l := l) (i := k) (by omega)
    obtain ⟨a1, a2⟩ := h _ (List.getElem_mem (show k < l.length by omega))
    have htk : l.take (k + 1) = l.take k ++ [l[k]] := by rw [List.take_add_one, hx]; rfl
    rw [ndsT_step hx, wantL_body]
    refine ih.trans (Reads.line ?_ ?_)
    · have := body_out a1 (condsV_out out10 a2)
      simp [pre2, this]
    · rw [lineV_wish a1 (condsV_out out41 a2), htk]
theorem reads_head {L : Lck} (h : lockV L = true) : Reads ps0 (headT L) ⟨4, L.1, L.2.1, L.2.2, []⟩ := by
  obtain ⟨v1, v2, v3, v4⟩ := lockV_parts h
  have h1 := reads_picks h L.1.length (Nat.le_refl _)
  rw [List.take_length, ← v2, List.take_length, v2] at h1
  have h2 : Reads ⟨1, L.1, L.2.1, [], []⟩ ([] ++ [10]) ⟨2, L.1, L.2.1, [], []⟩ := Reads.line (by simp) (by simp [lineV])
  have h3 : Reads ⟨2, L.1, L.2.1, [], []⟩ (wishT ++ [10]) ⟨3, L.1, L.2.1, [], []⟩ := Reads.line (by decide) (by simp [lineV])
  have h4 := reads_wish (P := L.1) (N := L.2.1) L.2.2 (needsV_each v3) L.2.2.length (Nat.le_refl _)
  rw [List.take_length] at h4
  have h5 : Reads ⟨3, L.1, L.2.1, L.2.2, []⟩ ([] ++ [10]) ⟨4, L.1, L.2.1, L.2.2, []⟩ := Reads.line (by simp) (by simp [lineV])
  have := h1.trans ((h2.trans h3).trans (h4.trans h5))
  exact this
theorem digV_dec (m : Nat) : digV (decDigits m) = true := by
  have hne := decDigits_ne m
  have hD := decDigits_isD m
  unfold digV
  simp only [Bool.and_eq_true, decide_eq_true_eq, Bool.or_eq_true, List.all_eq_true]
  refine ⟨⟨hne, hD⟩, ?_⟩
  by_cases h0 : m = 0
  · subst h0; left; simp [decDigits]
  · right; exact decDigits_head m (by omega)
theorem parV_text {L : Lck} (h : lockV L = true) : parV (textV L) = (L, 0, 0) := by
  have hh := reads_head h
  have hm := sumV_lt (headT L) (headT L).length
  obtain ⟨d, hd⟩ : ∃ d, itoa (sumV (headT L) (headT L).length : Nat) = d := ⟨_, rfl⟩
  have hd2 : d = decDigits (sumV (headT L) (headT L).length) := by rw [← hd]; unfold itoa; rw [if_neg (by omega), Int.toNat_natCast]
  have hdg : digV d = true := by rw [hd2]; exact digV_dec _
  have h10 : (10 : UInt8) ∉ d := fun q => by
    rw [hd2] at q
    have := decDigits_isD _ 10 q
    revert this; decide
  have hl : Reads ⟨4, L.1, L.2.1, L.2.2, []⟩ ((preSum ++ d) ++ [10]) ⟨5, L.1, L.2.1, L.2.2, d⟩ := by
    refine Reads.line (by simp [preSum, h10]) ?_
    simp only [lineV]
    rw [if_pos ⟨List.isPrefixOf_iff_prefix.2 ⟨d, rfl⟩, by rw [show (preSum ++ d).drop 4 = d from rfl]; exact hdg⟩]
    rfl
  obtain ⟨j, hj⟩ := (hh.trans hl) 0 []
  have ht : textV L = headT L ++ ((preSum ++ d) ++ [10]) := by unfold textV; rw [hd]; simp
  rw [List.append_nil, ← ht] at hj
  have hend : goL ⟨5, L.1, L.2.1, L.2.2, d⟩ j (dots 10 []) = (some ⟨5, L.1, L.2.1, L.2.2, d⟩, j) := rfl
  rw [hend] at hj
  have hla : lastIndex (textV L) preSum = ((headT L).length : Int) := by
    rw [ht]
    have := last_at (a := headT L) hdg
    rw [← this]; simp
  have hpf := parV_full hj rfl hla
  have htk : (textV L).take (headT L).length = headT L := by rw [ht]; simp
  rw [hpf, htk]
  simp only
  rw [if_neg (by simp [hd]), lkOf, if_pos h]
theorem goL_lines (s : Bs) {p : PS} {n : Nat} (h : goL ps0 0 (dots 10 s) = (some p, n)) : ∃ k, k < (dots 10 s).length ∧ linesV (dots 10 s) k = some p := by
  have key : ∀ m i q, i + m = (dots 10 s).length → 0 < m → linesV (dots 10 s) i = some q → goL q i ((dots 10 s).drop i) = (some p, n) → ∃ k, k < (dots 10 s).length ∧ linesV (dots 10 s) k = some p := by
    intro m
    induction m with
    | zero => intro i q _ h0; omega
    | succ m ih =>
      intro i q hm _ hq hg
      have hx := List.getElem?_eq_getElem (l := dots 10 s) (i := i) (by omega)
      by_cases h0 : m = 0
      · rw [goL_last hx (by omega)] at hg
        split at hg
        · simp at hg; obtain ⟨rfl, _⟩ := hg; exact ⟨i, by omega, hq⟩
        · simp at hg
      · rw [goL_more hx (by omega)] at hg
        cases he : lineV q (dots 10 s)[i] with
        | none => rw [he] at hg; simp at hg
        | some q' =>
          rw [he] at hg
          exact ih (i + 1) q' (by omega) (by omega) ((linesV_step hq hx).trans he) hg
  exact key (dots 10 s).length 0 ps0 (by omega) (List.length_pos_iff.2 (dots_ne 10 s)) rfl h
end Go.Lk

namespace Go.Proofs.YtchnagdaljblnaaGreatDoor
open Go.Eng Go.Wh Go.Ver Go.RowKit Go.Lk
set_option maxRecDepth 20000
set_option linter.unusedSimpArgs false
set_option linter.unusedVariables false
attribute [local irreducible] AG CallA CallT AWp PCall ACall AgC
theorem parV_ok (s : Bs) (hl : s.length ≤ 99000) : LkOk (parV s).1 := by
  have h0 : LkOk lk0 := by unfold LkOk; simp
  unfold parV
  split
  · exact h0
  · rename_i p n hg
    obtain ⟨k, hk, hlv⟩ := goL_lines s hg
    split
    · exact h0
    · split
      · exact h0
      · split
        · exact lkOk_sz (lines_sz s k p hlv) (by have := dots_count 10 s; omega) (by omega)
        · exact h0
theorem lk0_ok : LkOk lk0 := by unfold LkOk; simp
theorem lk0_v : lockV lk0 = true := by decide
theorem lk0_text : Lk.textV lk0 = [71, 69, 77, 83, 10, 10, 87, 73, 83, 72, 10, 10, 83, 85, 77, 32, 51, 55, 55, 50, 10] := by
  have h1 : headT lk0 = [71, 69, 77, 83, 10, 10, 87, 73, 83, 72, 10, 10] := by decide
  have h2 : sumV [71, 69, 77, 83, 10, 10, 87, 73, 83, 72, 10, 10] 12 = 3772 := by decide +kernel
  unfold Lk.textV
  rw [h1]
  have h3 : ([71, 69, 77, 83, 10, 10, 87, 73, 83, 72, 10, 10] : Bs).length = 12 := rfl
  rw [h3, h2]
  have h4 : Lib.itoa (3772 : Nat) = [51, 55, 55, 50] := by
    unfold Lib.itoa
    rw [if_neg (by omega), Int.toNat_natCast]
    simp [Lib.decDigits]
  rw [h4]
  rfl
set_option maxHeartbeats 4000000 in
theorem sane_spec : PCall Tryz.prog 10 [] fun r => r = dB true := by 
  refine pcall_of Tryz.func10 rfl rfl Tryz.ntmps10 (rs := [.tmp 0]) (tys := [4]) rfl rfl (by simp) ?_
  have T0 := lText_spec lk0 lk0_ok
  rw [lk0_v, if_pos rfl, if_pos rfl, lk0_text] at T0
  have P0 := parV_text lk0_v
  rw [lk0_text] at P0
  have PS := lParse_spec [71, 69, 77, 83, 10, 10, 87, 73, 83, 72, 10, 10, 83, 85, 77, 32, 51, 55, 55, 50, 10] (by decide)
  rw [P0] at PS
  (refine awp_sr fun KK hKK => ?_; simp [go_sem]; ((repeat' (first|(refine ag_x ?_;simp [go_sem])|intro _|refine And.intro ?_ ?_|(apply hKK;clear hKK KK)));all_goals first|refine Hold.mk ?_|omega|with_reducible assumption|(simp only [InR] at *;omega)|skip))
  (refine awp_sr fun KK hKK => ?_; simp [go_sem]; ((repeat' (first|(refine ag_x ?_;simp [go_sem])|intro _|refine And.intro ?_ ?_|(apply hKK;clear hKK KK)));all_goals first|refine Hold.mk ?_|omega|with_reducible assumption|(simp only [InR] at *;omega)|skip))
  ((try refine CallT.toA ?_); refine callT_m (by first | exact .inl ⟨rfl, rfl⟩ | exact .inr rfl) (by simp [go_sem]) ?_; intro args ha; simp [go_sem] at ha; subst ha; refine ⟨_, T0, ?_⟩; rintro _ rfl; simp [go_sem]; ((repeat' (first|(refine ag_x ?_;simp [go_sem])|intro _|refine And.intro ?_ ?_|(apply hKK;clear hKK KK)));all_goals first|refine Hold.mk ?_|omega|with_reducible assumption|(simp only [InR] at *;omega)|skip))
  (refine awp_sr fun KK hKK => ?_; simp [go_sem]; ((repeat' (first|(refine ag_x ?_;simp [go_sem])|intro _|refine And.intro ?_ ?_|(apply hKK;clear hKK KK)));all_goals first|refine Hold.mk ?_|omega|with_reducible assumption|(simp only [InR] at *;omega)|skip))
  ((try refine CallT.toA ?_); refine callT_m (by first | exact .inl ⟨rfl, rfl⟩ | exact .inr rfl) (by simp [go_sem]) ?_; intro args ha; simp [go_sem] at ha; subst ha; refine ⟨_, PS, ?_⟩; rintro _ rfl; simp [go_sem]; ((repeat' (first|(refine ag_x ?_;simp [go_sem])|intro _|refine And.intro ?_ ?_|(apply hKK;clear hKK KK)));all_goals first|refine Hold.mk ?_|omega|with_reducible assumption|(simp only [InR] at *;omega)|skip))
  (refine awp_sr fun KK hKK => ?_; simp [go_sem]; ((repeat' (first|(refine ag_x ?_;simp [go_sem])|intro _|refine And.intro ?_ ?_|(apply hKK;clear hKK KK)));all_goals first|refine Hold.mk ?_|omega|with_reducible assumption|(simp only [InR] at *;omega)|skip))
  (refine awp_ret ?_; simp [go_sem])
set_option maxHeartbeats 4000000 in
theorem parses_spec (s : Bs) (hl : s.length ≤ 99000) : PCall Tryz.prog 9 [dS s] fun r => r = dB true := by 
  refine pcall_of Tryz.func9 rfl rfl Tryz.ntmps9 (rs := [.tmp 2]) (tys := [4]) rfl rfl (by simp) ?_
  have PL := lParse_spec s hl
  have PR := rParse_spec s hl
  have S1 := sum_spec s (by omega)
  have S2 := rsum_spec s (by omega)
  have hok : LkOk (parV s).1 := parV_ok s hl
  have A := as_spec (parV s).1 hok
  have E := rSame_spec (parV s).1 (parV s).1 hok hok
  rw [decide_eq_true rfl] at E
  generalize sumV s s.length = sm at *
  generalize parV s = q at *
  obtain ⟨⟨P, N, W⟩, n, e⟩ := q
  simp only at *
  (refine awp_sr fun KK hKK => ?_; simp [go_sem]; ((repeat' (first|(refine ag_x ?_;simp [go_sem])|intro _|refine And.intro ?_ ?_|(apply hKK;clear hKK KK)));all_goals first|refine Hold.mk ?_|omega|with_reducible assumption|(simp only [InR] at *;omega)|skip))
  (refine awp_sr fun KK hKK => ?_; simp [go_sem]; ((repeat' (first|(refine ag_x ?_;simp [go_sem])|intro _|refine And.intro ?_ ?_|(apply hKK;clear hKK KK)));all_goals first|refine Hold.mk ?_|omega|with_reducible assumption|(simp only [InR] at *;omega)|skip))
  ((try refine CallT.toA ?_); refine callT_m (by first | exact .inl ⟨rfl, rfl⟩ | exact .inr rfl) (by simp [go_sem]) ?_; intro args ha; simp [go_sem] at ha; subst ha; refine ⟨_, PL, ?_⟩; rintro _ rfl; simp [go_sem]; ((repeat' (first|(refine ag_x ?_;simp [go_sem])|intro _|refine And.intro ?_ ?_|(apply hKK;clear hKK KK)));all_goals first|refine Hold.mk ?_|omega|with_reducible assumption|(simp only [InR] at *;omega)|skip))
  (refine awp_sr fun KK hKK => ?_; simp [go_sem]; ((repeat' (first|(refine ag_x ?_;simp [go_sem])|intro _|refine And.intro ?_ ?_|(apply hKK;clear hKK KK)));all_goals first|refine Hold.mk ?_|omega|with_reducible assumption|(simp only [InR] at *;omega)|skip))
  ((try refine CallT.toA ?_); refine callT_m (by first | exact .inl ⟨rfl, rfl⟩ | exact .inr rfl) (by simp [go_sem]) ?_; intro args ha; simp [go_sem] at ha; subst ha; refine ⟨_, PR, ?_⟩; rintro _ rfl; simp [go_sem]; ((repeat' (first|(refine ag_x ?_;simp [go_sem])|intro _|refine And.intro ?_ ?_|(apply hKK;clear hKK KK)));all_goals first|refine Hold.mk ?_|omega|with_reducible assumption|(simp only [InR] at *;omega)|skip))
  rename_i g3 g6
  ((refine awp_dr (.qs [0, 2] (.kp 1 (.kp 3 (.qs [4, 5, 6, 7, 8, 9, 10, 11, 12, 13, 14, 15, 17] (.kp 16 (.kp 18 (.qs [19, 20, 21] (.nil)))))))) (by kernel_rfl) ?_ ?_ ?_ ?_); (kernel_rfl); (exact (by decide +kernel)); (kernel_rfl); intro KK hKK; ((repeat' (first|(refine ag_x ?_;simp [go_sem])|refine adr_nil ?_|refine adr_two ?_ ?_|refine adr_kq ?_ ?_|refine adr_three ?_ ?_ ?_|refine adr_four ?_ ?_ ?_ ?_|refine adr_kp2 ?_ ?_|refine adr_kp3 ?_ ?_ ?_|((first|refine adr_qs fun KK hKK=>?_|refine adr_y fun KK hKK=>?_);simp [go_sem])|intro _|refine And.intro ?_ ?_|(apply hKK;clear hKK KK)));all_goals first|refine Hold.mk ?_|omega|with_reducible assumption|(simp only [InR] at *;omega)|skip))
  ((try refine CallT.toA ?_); refine callT_m (by first | exact .inl ⟨rfl, rfl⟩ | exact .inr rfl) (by simp [go_sem]) ?_; intro args ha; simp [go_sem] at ha; subst ha; refine ⟨_, A, ?_⟩; rintro _ rfl; simp [go_sem]; ((repeat' (first|(refine ag_x ?_;simp [go_sem])|refine adr_nil ?_|refine adr_two ?_ ?_|refine adr_kq ?_ ?_|refine adr_three ?_ ?_ ?_|refine adr_four ?_ ?_ ?_ ?_|refine adr_kp2 ?_ ?_|refine adr_kp3 ?_ ?_ ?_|((first|refine adr_qs fun KK hKK=>?_|refine adr_y fun KK hKK=>?_);simp [go_sem])|intro _|refine And.intro ?_ ?_|(apply hKK;clear hKK KK)));all_goals first|refine Hold.mk ?_|omega|with_reducible assumption|(simp only [InR] at *;omega)|skip))
  ((try refine CallT.toA ?_); refine callT_m (by first | exact .inl ⟨rfl, rfl⟩ | exact .inr rfl) (by simp [go_sem]) ?_; intro args ha; simp [go_sem] at ha; subst ha; refine ⟨_, E, ?_⟩; rintro _ rfl; simp [go_sem]; ((repeat' (first|(refine ag_x ?_;simp [go_sem])|refine adr_nil ?_|refine adr_two ?_ ?_|refine adr_kq ?_ ?_|refine adr_three ?_ ?_ ?_|refine adr_four ?_ ?_ ?_ ?_|refine adr_kp2 ?_ ?_|refine adr_kp3 ?_ ?_ ?_|((first|refine adr_qs fun KK hKK=>?_|refine adr_y fun KK hKK=>?_);simp [go_sem])|intro _|refine And.intro ?_ ?_|(apply hKK;clear hKK KK)));all_goals first|refine Hold.mk ?_|omega|with_reducible assumption|(simp only [InR] at *;omega)|skip))
  (refine agc_f (dI sm) (by first | exact .inl ⟨rfl, rfl⟩ | exact .inr rfl) ?_ rfl ?_; (intro hc args ha; simp [go_sem] at ha; subst ha; exact S1); simp [go_sem]; ((repeat' (first|(refine ag_x ?_;simp [go_sem])|refine adr_nil ?_|refine adr_two ?_ ?_|refine adr_kq ?_ ?_|refine adr_three ?_ ?_ ?_|refine adr_four ?_ ?_ ?_ ?_|refine adr_kp2 ?_ ?_|refine adr_kp3 ?_ ?_ ?_|((first|refine adr_qs fun KK hKK=>?_|refine adr_y fun KK hKK=>?_);simp [go_sem])|intro _|refine And.intro ?_ ?_|(apply hKK;clear hKK KK)));all_goals first|refine Hold.mk ?_|omega|with_reducible assumption|(simp only [InR] at *;omega)|skip))
  (refine agc_f (dI sm) (by first | exact .inl ⟨rfl, rfl⟩ | exact .inr rfl) ?_ rfl ?_; (intro hc args ha; simp [go_sem] at ha; subst ha; exact S2); simp [go_sem]; ((repeat' (first|(refine ag_x ?_;simp [go_sem])|refine adr_nil ?_|refine adr_two ?_ ?_|refine adr_kq ?_ ?_|refine adr_three ?_ ?_ ?_|refine adr_four ?_ ?_ ?_ ?_|refine adr_kp2 ?_ ?_|refine adr_kp3 ?_ ?_ ?_|((first|refine adr_qs fun KK hKK=>?_|refine adr_y fun KK hKK=>?_);simp [go_sem])|intro _|refine And.intro ?_ ?_|(apply hKK;clear hKK KK)));all_goals first|refine Hold.mk ?_|omega|with_reducible assumption|(simp only [InR] at *;omega)|skip))
  (refine awp_ret ?_; simp [go_sem])
set_option maxHeartbeats 4000000 in
theorem lockParses_spec (s : Bs) : PCall Tryz.prog 3 [dS s] fun r => r = dB true := by 
  refine pcall_of Tryz.func3 rfl rfl Tryz.ntmps3 (rs := [.tmp 2]) (tys := [4]) rfl rfl (by simp) ?_
  (refine awp_sr fun KK hKK => ?_; simp [go_sem]; ((repeat' (first|(refine ag_x ?_;simp [go_sem])|intro _|refine And.intro ?_ ?_|(apply hKK;clear hKK KK)));all_goals first|refine Hold.mk ?_|omega|with_reducible assumption|(simp only [InR] at *;omega)|skip))
  by_cases hl : (5000 : Int) < s.length
  · (refine awp_sr fun KK hKK => ?_; simp [go_sem, hl]; ((repeat' (first|(refine ag_false ?_ ?_ ?_;(focus (simp [go_sem, undef, hl];done));(focus (simp [go_sem];done));simp [go_sem, hl])|(refine ag_true ?_ ?_;(focus (simp [go_sem, undef, hl];done));simp [go_sem, hl])|(refine ag_x ?_;simp [go_sem, undef, hl])|intro _|refine And.intro ?_ ?_|(apply hKK;clear hKK KK)));all_goals first|refine Hold.mk ?_|omega|with_reducible assumption|(simp only [InR] at *;omega)|skip))
    ((try refine CallT.toA ?_); refine callT_m (by first | exact .inl ⟨rfl, rfl⟩ | exact .inr rfl) (by simp [go_sem]) ?_; intro args ha; simp [go_sem] at ha; subst ha; refine ⟨_, sane_spec, ?_⟩; rintro _ rfl; simp [go_sem]; ((repeat' (first|(refine ag_false ?_ ?_ ?_;(focus (simp [go_sem, undef];done));(focus (simp [go_sem];done));simp [go_sem])|(refine ag_true ?_ ?_;(focus (simp [go_sem, undef];done));simp [go_sem])|(refine ag_x ?_;simp [go_sem, undef])|intro _|refine And.intro ?_ ?_|(apply hKK;clear hKK KK)));all_goals first|refine Hold.mk ?_|omega|with_reducible assumption|(simp only [InR] at *;omega)|skip))
    (refine awp_ret ?_; simp [go_sem])
  · (refine awp_sr fun KK hKK => ?_; simp [go_sem, hl]; ((repeat' (first|(refine ag_false ?_ ?_ ?_;(focus (simp [go_sem, undef, hl];done));(focus (simp [go_sem];done));simp [go_sem, hl])|(refine ag_true ?_ ?_;(focus (simp [go_sem, undef, hl];done));simp [go_sem, hl])|(refine ag_x ?_;simp [go_sem, undef, hl])|intro _|refine And.intro ?_ ?_|(apply hKK;clear hKK KK)));all_goals first|refine Hold.mk ?_|omega|with_reducible assumption|(simp only [InR] at *;omega)|skip))
    ((try refine CallT.toA ?_); refine callT_m (by first | exact .inl ⟨rfl, rfl⟩ | exact .inr rfl) (by simp [go_sem]) ?_; intro args ha; simp [go_sem] at ha; subst ha; refine ⟨_, (parses_spec s (by omega)), ?_⟩; rintro _ rfl; simp [go_sem]; ((repeat' (first|(refine ag_false ?_ ?_ ?_;(focus (simp [go_sem, undef];done));(focus (simp [go_sem];done));simp [go_sem])|(refine ag_true ?_ ?_;(focus (simp [go_sem, undef];done));simp [go_sem])|(refine ag_x ?_;simp [go_sem, undef])|intro _|refine And.intro ?_ ?_|(apply hKK;clear hKK KK)));all_goals first|refine Hold.mk ?_|omega|with_reducible assumption|(simp only [InR] at *;omega)|skip))
    ((try refine CallT.toA ?_); refine callT_m (by first | exact .inl ⟨rfl, rfl⟩ | exact .inr rfl) (by simp [go_sem]) ?_; intro args ha; simp [go_sem] at ha; subst ha; refine ⟨_, sane_spec, ?_⟩; rintro _ rfl; simp [go_sem]; ((repeat' (first|(refine ag_false ?_ ?_ ?_;(focus (simp [go_sem, undef];done));(focus (simp [go_sem];done));simp [go_sem])|(refine ag_true ?_ ?_;(focus (simp [go_sem, undef];done));simp [go_sem])|(refine ag_x ?_;simp [go_sem, undef])|intro _|refine And.intro ?_ ?_|(apply hKK;clear hKK KK)));all_goals first|refine Hold.mk ?_|omega|with_reducible assumption|(simp only [InR] at *;omega)|skip))
    (refine awp_ret ?_; simp [go_sem])
end Go.Proofs.YtchnagdaljblnaaGreatDoor
