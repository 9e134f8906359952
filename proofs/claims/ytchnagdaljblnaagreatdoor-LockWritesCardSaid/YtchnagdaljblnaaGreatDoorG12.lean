/- Part of a proof: see the last text. -/
import Derived.Test.YtchnagdaljblnaaGreatDoorG11
import Derived.Test.YtchnagdaljblnaaGreatDoorG07
import Derived.Test.YtchnagdaljblnaaGreatDoorG08
import Derived.Test.YtchnagdaljblnaaGreatDoorG10
import Derived.Lib.ItoaLen
import Derived.Test.YtchnagdaljblnaaGreatDoorG04
import Derived.Test.YtchnagdaljblnaaGreatDoorG05
set_option linter.unusedVariables false
set_option linter.unusedSimpArgs false
namespace Go.Proofs.YtchnagdaljblnaaGreatDoor
open Go.Eng Go.Wh Go.Ver Go.RowKit Go.Lk
set_option maxRecDepth 20000
attribute [local irreducible] AG CallA CallT AWp PCall ACall AgC
set_option maxHeartbeats 8000000 in
theorem line4_bad (P W : List Prs) (N : List (List Prs)) (sum : Bs) (s : Bs) (gb gp gn gw : Nat) (rs : List (Nat × List Prs)) (hp : PsOk ⟨4, P, N, W, sum⟩ rs) (hl : s.length ≤ 1000000) (he : lineV ⟨4, P, N, W, sum⟩ s = none) :
  ACall Tryz.prog 68 [.ptr 900002 gb 0, dS s] (rdH ⟨4, P, N, W, sum⟩ gb gp gn gw rs) (900002 :: 900003 :: 900004 :: 900005 :: famS 1 0 N.length)
   fun ps r => r = dB false := by 
 refine acall_of Tryz.func68 rfl rfl Tryz.ntmps68 (rs := [.tmp 4]) (tys := [4]) rfl rfl (by simp) ?_ ?_
 ·exact rdH_ok _ gb gp gn gw rs _ (by have h2 := congrArg List.length hp.en; simp only [List.length_map] at h2; omega)
 have hq := hp
 obtain ⟨hrs, hnl, hpl, hwl, hrl⟩ := hp
 simp only at hrs hnl hpl hwl hrl
 have hrl2 := congrArg List.length hrs
 simp only [List.length_map] at hrl2
 have CP := cutPre_spec s preSum (by omega) (by decide)
 simp only [lineV] at he
 have he2 : ¬ (preSum.isPrefixOf s = true ∧ digV (s.drop 4) = true) := fun q => by rw [if_pos q] at he; cases he
 clear he
 have hlen : (s.drop 4).length ≤ s.length := by rw [List.length_drop]; omega
 rw [show s.drop preSum.length = s.drop 4 from rfl] at CP
 generalize hpb : preSum.isPrefixOf s = pb at *
 generalize hd : (if pb = true then s.drop 4 else s) = d at *
 have hdl : d.length ≤ s.length := by rw [← hd]; split <;> omega
 have he3 : ¬ (pb = true ∧ digV d = true) := fun q => by
  obtain ⟨q1, q2⟩ := q
  subst q1
  rw [if_pos rfl] at hd
  exact he2 ⟨rfl, by rw [hd]; exact q2⟩
 have ND := notDigit_spec d
 (refine awp_sr fun KK hKK => ?_; simp [go_sem]; ((repeat' (first|(refine ag_x ?_;simp [go_sem])|intro _|refine And.intro ?_ ?_|(apply hKK;clear hKK KK)));all_goals first|refine Hold.mk ?_|omega|with_reducible assumption|skip))
 refine awp_seq_k fun K1 hK1 => ?_
 (refine awp_sr fun KK hKK => ?_; simp [go_sem]; ((repeat' (first|(refine ag_x ?_;simp [go_sem])|intro _|refine And.intro ?_ ?_|(apply hKK;clear hKK KK)));all_goals first|refine Hold.mk ?_|omega|with_reducible assumption|skip))
 refine awp_block ?_
 refine awp_seq_k fun K2 hK2 => ?_
 (refine awp_sr fun KK hKK => ?_; simp [go_sem]; ((repeat' (first|(refine ag_x ?_;simp [go_sem])|intro _|refine And.intro ?_ ?_|(apply hKK;clear hKK KK)));all_goals first|refine Hold.mk ?_|omega|with_reducible assumption|skip))
 (refine awp_if fun T F hT hF => ?_; simp [go_sem]; refine hF ?_; clear hT hF T F)
 (refine awp_r fun KK hKK => ?_; simp [go_sem]; ((repeat' (first|(refine ag_x ?_;simp [go_sem])|intro _|refine And.intro ?_ ?_|(apply hKK;clear hKK KK)));all_goals first|refine Hold.mk ?_|omega|with_reducible assumption|skip))
 refine hK2 _ ?_; clear hK2
 (refine awp_if fun T F hT hF => ?_; simp [go_sem]; refine hF ?_; clear hT hF T F)
 refine awp_seq_k fun K4 hK4 => ?_
 (refine awp_sr fun KK hKK => ?_; simp [go_sem]; ((repeat' (first|(refine ag_x ?_;simp [go_sem])|intro _|refine And.intro ?_ ?_|(apply hKK;clear hKK KK)));all_goals first|refine Hold.mk ?_|omega|with_reducible assumption|skip))
 (refine awp_if fun T F hT hF => ?_; simp [go_sem]; refine hF ?_; clear hT hF T F)
 (refine awp_r fun KK hKK => ?_; simp [go_sem]; ((repeat' (first|(refine ag_x ?_;simp [go_sem])|intro _|refine And.intro ?_ ?_|(apply hKK;clear hKK KK)));all_goals first|refine Hold.mk ?_|omega|with_reducible assumption|skip))
 refine hK4 _ ?_; clear hK4
 (refine awp_if fun T F hT hF => ?_; simp [go_sem]; refine hF ?_; clear hT hF T F)
 (refine awp_sr fun KK hKK => ?_; simp [go_sem]; ((repeat' (first|(refine ag_x ?_;simp [go_sem])|intro _|refine And.intro ?_ ?_|(apply hKK;clear hKK KK)));all_goals first|refine Hold.mk ?_|omega|with_reducible assumption|skip))
 (refine awp_if fun T F hT hF => ?_; simp [go_sem]; refine hT ?_; clear hT hF T F)
 (refine awp_sr fun KK hKK => ?_; simp [go_sem]; ((repeat' (first|(refine ag_x ?_;simp [go_sem])|intro _|refine And.intro ?_ ?_|(apply hKK;clear hKK KK)));all_goals first|refine Hold.mk ?_|omega|with_reducible assumption|skip))
 (refine awp_sr fun KK hKK => ?_; simp [go_sem]; ((repeat' (first|(refine ag_x ?_;simp [go_sem])|intro _|refine And.intro ?_ ?_|(apply hKK;clear hKK KK)));all_goals first|refine Hold.mk ?_|omega|with_reducible assumption|skip))
 ((try refine CallT.toA ?_); refine callT_m (by first | exact .inl ⟨rfl, rfl⟩ | exact .inr rfl) (by simp [go_sem]) ?_; intro args ha; simp [go_sem] at ha; subst ha; refine ⟨_, CP, ?_⟩; rintro _ rfl; simp [go_sem]; ((repeat' (first|(refine ag_x ?_;simp [go_sem])|intro _|refine And.intro ?_ ?_|(apply hKK;clear hKK KK)));all_goals first|refine Hold.mk ?_|omega|with_reducible assumption|skip))
 (refine awp_sr fun KK hKK => ?_; simp [go_sem]; ((repeat' (first|(refine ag_x ?_;simp [go_sem])|intro _|refine And.intro ?_ ?_|(apply hKK;clear hKK KK)));all_goals first|refine Hold.mk ?_|omega|with_reducible assumption|skip))
 cases d with
 | nil =>
  (refine awp_sr fun KK hKK => ?_; simp [go_sem, undef]; ((repeat' (first|(refine ag_false ?_ ?_ ?_;(focus (simp [go_sem, undef, undef];done));(focus (simp [go_sem];done));simp [go_sem, undef])|(refine ag_x ?_;simp [go_sem, undef, undef])|intro _|refine And.intro ?_ ?_|(apply hKK;clear hKK KK)));all_goals first|refine Hold.mk ?_|omega|with_reducible assumption|skip))
  cases pb with
  | false =>
   (refine awp_sr fun KK hKK => ?_; simp [go_sem, undef]; ((repeat' (first|(refine ag_false ?_ ?_ ?_;(focus (simp [go_sem, undef, undef];done));(focus (simp [go_sem];done));simp [go_sem, undef])|(refine ag_x ?_;simp [go_sem, undef, undef])|intro _|refine And.intro ?_ ?_|(apply hKK;clear hKK KK)));all_goals first|refine Hold.mk ?_|omega|with_reducible assumption|skip))
   (refine awp_ret ?_; simp [go_sem])
   exact postK_fam (b := 1) (e := 100) (k := 2) (f := mP) rs 0 N.length _ hrl2 (by first | (simp [go_sem]; done) | exact FamIn.refl _ _) (by first | (simp; done) | trivial | rfl | (simp [go_sem]; done) | assumption)
  | true =>
   (refine awp_sr fun KK hKK => ?_; simp [go_sem, undef]; ((repeat' (first|(refine ag_false ?_ ?_ ?_;(focus (simp [go_sem, undef, undef];done));(focus (simp [go_sem];done));simp [go_sem, undef])|(refine ag_x ?_;simp [go_sem, undef, undef])|intro _|refine And.intro ?_ ?_|(apply hKK;clear hKK KK)));all_goals first|refine Hold.mk ?_|omega|with_reducible assumption|skip))
   (refine awp_ret ?_; simp [go_sem])
   exact postK_fam (b := 1) (e := 100) (k := 2) (f := mP) rs 0 N.length _ hrl2 (by first | (simp [go_sem]; done) | exact FamIn.refl _ _) (by first | (simp; done) | trivial | rfl | (simp [go_sem]; done) | assumption)
 | cons c r =>
  generalize hal : (c :: r).all isD = al at *
  (refine awp_sr fun KK hKK => ?_; simp [go_sem]; ((repeat' (first|(refine ag_x ?_;simp [go_sem])|intro _|refine And.intro ?_ ?_|(apply hKK;clear hKK KK)));all_goals first|refine Hold.mk ?_|omega|with_reducible assumption|skip))
  (refine agc_f (dB (!al)) (by first | exact .inl ⟨rfl, rfl⟩ | exact .inr rfl) ?_ rfl ?_; (intro hc args ha; simp [go_sem] at ha; subst ha; exact ND); simp [go_sem]; ((repeat' (first|(refine ag_x ?_;simp [go_sem])|intro _|refine And.intro ?_ ?_|(apply hKK;clear hKK KK)));all_goals first|refine Hold.mk ?_|omega|with_reducible assumption|skip))
  cases pb with
  | false =>
   (refine awp_sr fun KK hKK => ?_; simp [go_sem, undef]; ((repeat' (first|(refine ag_false ?_ ?_ ?_;(focus (simp [go_sem, undef, undef];done));(focus (simp [go_sem];done));simp [go_sem, undef])|(refine ag_x ?_;simp [go_sem, undef, undef])|intro _|refine And.intro ?_ ?_|(apply hKK;clear hKK KK)));all_goals first|refine Hold.mk ?_|omega|with_reducible assumption|skip))
   (refine awp_ret ?_; simp [go_sem])
   exact postK_fam (b := 1) (e := 100) (k := 2) (f := mP) rs 0 N.length _ hrl2 (by first | (simp [go_sem]; done) | exact FamIn.refl _ _) (by first | (simp; done) | trivial | rfl | (simp [go_sem]; done) | assumption)
  | true =>
   cases al with
   | false =>
    (refine awp_sr fun KK hKK => ?_; simp [go_sem, undef]; ((repeat' (first|(refine ag_false ?_ ?_ ?_;(focus (simp [go_sem, undef, undef];done));(focus (simp [go_sem];done));simp [go_sem, undef])|(refine ag_x ?_;simp [go_sem, undef, undef])|intro _|refine And.intro ?_ ?_|(apply hKK;clear hKK KK)));all_goals first|refine Hold.mk ?_|omega|with_reducible assumption|skip))
    (refine awp_ret ?_; simp [go_sem])
    exact postK_fam (b := 1) (e := 100) (k := 2) (f := mP) rs 0 N.length _ hrl2 (by first | (simp [go_sem]; done) | exact FamIn.refl _ _) (by first | (simp; done) | trivial | rfl | (simp [go_sem]; done) | assumption)
   | true =>
    have hc : c = 48 ∧ r ≠ [] := by
     have q : ¬ digV (c :: r) = true := fun q => he3 ⟨rfl, q⟩
     unfold digV at q
     rw [hal] at q
     simp at q
     exact ⟨q.2, q.1 q.2⟩
    obtain ⟨rfl, hr0⟩ := hc
    have hq1 : (r.length : Int) + 1 ≤ 9223372036854775807 := by simp at hdl; omega
    have hq2 : (r.length : Int) ≤ 9223372036854775807 := by omega
    (refine awp_sr fun KK hKK => ?_; simp [go_sem, hr0, hq1, hq2]; ((repeat' (first|(refine ag_x ?_;simp [go_sem, hr0, hq1, hq2])|intro _|refine And.intro ?_ ?_|(apply hKK;clear hKK KK)));all_goals first|refine Hold.mk ?_|omega|with_reducible assumption|skip))
    (refine awp_ret ?_; simp [go_sem, hr0])
    exact postK_fam (b := 1) (e := 100) (k := 2) (f := mP) rs 0 N.length _ hrl2 (by first | (simp [go_sem]; done) | exact FamIn.refl _ _) (by first | (simp; done) | trivial | rfl | (simp [go_sem]; done) | assumption)
end Go.Proofs.YtchnagdaljblnaaGreatDoor

namespace Go.Proofs.YtchnagdaljblnaaGreatDoor
open Go.Eng Go.Wh Go.Ver Go.RowKit Go.Lk
set_option maxRecDepth 20000
attribute [local irreducible] AG CallA CallT AWp PCall ACall AgC
set_option maxHeartbeats 8000000 in
theorem line0_bad (P W : List Prs) (N : List (List Prs)) (sum : Bs) (s : Bs) (gb gp gn gw : Nat) (rs : List (Nat × List Prs)) (hp : PsOk ⟨0, P, N, W, sum⟩ rs) (hl : s.length ≤ 1000000) (he : lineV ⟨0, P, N, W, sum⟩ s = none) :
  ACall Tryz.prog 68 [.ptr 900002 gb 0, dS s] (rdH ⟨0, P, N, W, sum⟩ gb gp gn gw rs) (900002 :: 900003 :: 900004 :: 900005 :: famS 1 0 N.length)
   fun ps r => r = dB false := by 
 refine acall_of Tryz.func68 rfl rfl Tryz.ntmps68 (rs := [.tmp 4]) (tys := [4]) rfl rfl (by simp) ?_ ?_
 ·exact rdH_ok _ gb gp gn gw rs _ (by have h2 := congrArg List.length hp.en; simp only [List.length_map] at h2; omega)
 have hq := hp
 obtain ⟨hrs, hnl, hpl, hwl, hrl⟩ := hp
 simp only at hrs hnl hpl hwl hrl
 have hrl2 := congrArg List.length hrs
 simp only [List.length_map] at hrl2
 simp only [lineV] at he
 have h1 : ¬ s = gemsT := fun q => by rw [if_pos q] at he; cases he
 have h2 : ¬ s = [71, 69, 77, 83] := h1
 (refine awp_sr fun KK hKK => ?_; simp [go_sem]; ((repeat' (first|(refine ag_x ?_;simp [go_sem])|intro _|refine And.intro ?_ ?_|(apply hKK;clear hKK KK)));all_goals first|refine Hold.mk ?_|omega|with_reducible assumption|skip))
 refine awp_seq_k fun K1 hK1 => ?_
 (refine awp_sr fun KK hKK => ?_; simp [go_sem]; ((repeat' (first|(refine ag_x ?_;simp [go_sem])|intro _|refine And.intro ?_ ?_|(apply hKK;clear hKK KK)));all_goals first|refine Hold.mk ?_|omega|with_reducible assumption|skip))
 refine awp_block ?_
 refine awp_seq_k fun K2 hK2 => ?_
 (refine awp_sr fun KK hKK => ?_; simp [go_sem]; ((repeat' (first|(refine ag_x ?_;simp [go_sem])|intro _|refine And.intro ?_ ?_|(apply hKK;clear hKK KK)));all_goals first|refine Hold.mk ?_|omega|with_reducible assumption|skip))
 (refine awp_if fun T F hT hF => ?_; simp [go_sem]; refine hT ?_; clear hT hF T F)
 refine awp_skip ?_
 refine hK2 _ ?_; clear hK2
 (refine awp_if fun T F hT hF => ?_; simp [go_sem]; refine hT ?_; clear hT hF T F)
 (refine awp_sr fun KK hKK => ?_; simp [go_sem]; ((repeat' (first|(refine ag_x ?_;simp [go_sem])|intro _|refine And.intro ?_ ?_|(apply hKK;clear hKK KK)));all_goals first|refine Hold.mk ?_|omega|with_reducible assumption|skip))
 refine awp_cov (S' := ⟨[(0, .ptr 900002 gb 0), (1, dS s)], rdH ⟨1, P, N, W, sum⟩ gb gp gn gw rs⟩) (by (refine cov_of ?_ ?_ <;> simp [go_sem])) ?_
 refine awp_sr fun KK hKK => ?_
 simp (maxSteps := 2000000) [go_sem]
 ((repeat' (first|(refine ag_x ?_;simp [go_sem])|refine adr_nil ?_|refine adr_two ?_ ?_|refine adr_kq ?_ ?_|refine adr_three ?_ ?_ ?_|refine adr_four ?_ ?_ ?_ ?_|refine adr_kp2 ?_ ?_|refine adr_kp3 ?_ ?_ ?_|((first|refine adr_qs fun KK hKK=>?_|refine adr_y fun KK hKK=>?_);simp [go_sem])|intro _|refine And.intro ?_ ?_|(apply hKK;clear hKK KK)));all_goals first|refine Hold.mk ?_|omega|with_reducible assumption|skip)
 (refine awp_ret ?_; simp [go_sem, h1, h2])
 exact postK_fam (b := 1) (e := 100) (k := 2) (f := mP) rs 0 N.length _ hrl2 (by simp [go_sem]) (by simp)
end Go.Proofs.YtchnagdaljblnaaGreatDoor

namespace Go.Proofs.YtchnagdaljblnaaGreatDoor
open Go.Eng Go.Wh Go.Ver Go.RowKit Go.Lk
set_option maxRecDepth 20000
attribute [local irreducible] AG CallA CallT AWp PCall ACall AgC
set_option maxHeartbeats 8000000 in
theorem line2_bad (P W : List Prs) (N : List (List Prs)) (sum : Bs) (s : Bs) (gb gp gn gw : Nat) (rs : List (Nat × List Prs)) (hp : PsOk ⟨2, P, N, W, sum⟩ rs) (hl : s.length ≤ 1000000) (he : lineV ⟨2, P, N, W, sum⟩ s = none) :
  ACall Tryz.prog 68 [.ptr 900002 gb 0, dS s] (rdH ⟨2, P, N, W, sum⟩ gb gp gn gw rs) (900002 :: 900003 :: 900004 :: 900005 :: famS 1 0 N.length)
   fun ps r => r = dB false := by 
 refine acall_of Tryz.func68 rfl rfl Tryz.ntmps68 (rs := [.tmp 4]) (tys := [4]) rfl rfl (by simp) ?_ ?_
 ·exact rdH_ok _ gb gp gn gw rs _ (by have h2 := congrArg List.length hp.en; simp only [List.length_map] at h2; omega)
 have hq := hp
 obtain ⟨hrs, hnl, hpl, hwl, hrl⟩ := hp
 simp only at hrs hnl hpl hwl hrl
 have hrl2 := congrArg List.length hrs
 simp only [List.length_map] at hrl2
 simp only [lineV] at he
 have h1 : ¬ s = wishT := fun q => by rw [if_pos q] at he; cases he
 have h2 : ¬ s = [87, 73, 83, 72] := h1
 (refine awp_sr fun KK hKK => ?_; simp [go_sem]; ((repeat' (first|(refine ag_x ?_;simp [go_sem])|intro _|refine And.intro ?_ ?_|(apply hKK;clear hKK KK)));all_goals first|refine Hold.mk ?_|omega|with_reducible assumption|skip))
 refine awp_seq_k fun K1 hK1 => ?_
 (refine awp_sr fun KK hKK => ?_; simp [go_sem]; ((repeat' (first|(refine ag_x ?_;simp [go_sem])|intro _|refine And.intro ?_ ?_|(apply hKK;clear hKK KK)));all_goals first|refine Hold.mk ?_|omega|with_reducible assumption|skip))
 refine awp_block ?_
 refine awp_seq_k fun K2 hK2 => ?_
 (refine awp_sr fun KK hKK => ?_; simp [go_sem]; ((repeat' (first|(refine ag_x ?_;simp [go_sem])|intro _|refine And.intro ?_ ?_|(apply hKK;clear hKK KK)));all_goals first|refine Hold.mk ?_|omega|with_reducible assumption|skip))
 (refine awp_if fun T F hT hF => ?_; simp [go_sem]; refine hF ?_; clear hT hF T F)
 (refine awp_r fun KK hKK => ?_; simp [go_sem]; ((repeat' (first|(refine ag_x ?_;simp [go_sem])|intro _|refine And.intro ?_ ?_|(apply hKK;clear hKK KK)));all_goals first|refine Hold.mk ?_|omega|with_reducible assumption|skip))
 refine hK2 _ ?_; clear hK2
 (refine awp_if fun T F hT hF => ?_; simp [go_sem]; refine hT ?_; clear hT hF T F)
 (refine awp_sr fun KK hKK => ?_; simp [go_sem]; ((repeat' (first|(refine ag_x ?_;simp [go_sem])|intro _|refine And.intro ?_ ?_|(apply hKK;clear hKK KK)));all_goals first|refine Hold.mk ?_|omega|with_reducible assumption|skip))
 refine awp_cov (S' := ⟨[(0, .ptr 900002 gb 0), (1, dS s)], rdH ⟨3, P, N, W, sum⟩ gb gp gn gw rs⟩) (by (refine cov_of ?_ ?_ <;> simp [go_sem])) ?_
 refine awp_sr fun KK hKK => ?_
 simp (maxSteps := 2000000) [go_sem]
 ((repeat' (first|(refine ag_x ?_;simp [go_sem])|refine adr_nil ?_|refine adr_two ?_ ?_|refine adr_kq ?_ ?_|refine adr_three ?_ ?_ ?_|refine adr_four ?_ ?_ ?_ ?_|refine adr_kp2 ?_ ?_|refine adr_kp3 ?_ ?_ ?_|((first|refine adr_qs fun KK hKK=>?_|refine adr_y fun KK hKK=>?_);simp [go_sem])|intro _|refine And.intro ?_ ?_|(apply hKK;clear hKK KK)));all_goals first|refine Hold.mk ?_|omega|with_reducible assumption|skip)
 (refine awp_ret ?_; simp [go_sem, h1, h2])
 exact postK_fam (b := 1) (e := 100) (k := 2) (f := mP) rs 0 N.length _ hrl2 (by simp [go_sem]) (by simp)
end Go.Proofs.YtchnagdaljblnaaGreatDoor

namespace Go.Proofs.YtchnagdaljblnaaGreatDoor
open Go.Eng Go.Wh Go.Ver Go.RowKit Go.Lk
set_option maxRecDepth 20000
attribute [local irreducible] AG CallA CallT AWp PCall ACall AgC
/-- what is lent of the reference's reader -/
@[go_sem] abbrev rrH (p : PS) (n gb gp gn gw : Nat) (rs : List (Nat × List Prs)) : List (Nat × (Nat × Blk)) :=
 (900002, (gb, .box [.own 900003 gp, .own 900004 gn, .own 900005 gw, dI p.part, dI n])) :: (900003, (gp, .row 91 2 (p.picks.map cP))) :: (900004, (gn, .row 32 1 (famO 1 0 rs))) :: (900005, (gw, .row 94 2 (p.wish.map cP))) :: fam 1 94 2 mP 0 rs
end Go.Proofs.YtchnagdaljblnaaGreatDoor

namespace Go.Proofs.YtchnagdaljblnaaGreatDoor
open Go.Eng Go.Wh Go.Ver Go.RowKit Go.Lk
set_option maxRecDepth 20000
attribute [local irreducible] AG CallA CallT AWp PCall ACall AgC
end Go.Proofs.YtchnagdaljblnaaGreatDoor

namespace Go.Proofs.YtchnagdaljblnaaGreatDoor
open Go.Eng Go.Wh Go.Ver Go.RowKit Go.Lk
set_option maxRecDepth 20000
attribute [local irreducible] AG CallA CallT AWp PCall ACall AgC
end Go.Proofs.YtchnagdaljblnaaGreatDoor

namespace Go.Proofs.YtchnagdaljblnaaGreatDoor
open Go.Eng Go.Wh Go.Ver Go.RowKit Go.Lk
set_option maxRecDepth 20000
attribute [local irreducible] AG CallA CallT AWp PCall ACall AgC
end Go.Proofs.YtchnagdaljblnaaGreatDoor

namespace Go.Proofs.YtchnagdaljblnaaGreatDoor
open Go.Eng Go.Wh Go.Ver Go.RowKit Go.Lk
set_option maxRecDepth 20000
attribute [local irreducible] AG CallA CallT AWp PCall ACall AgC
end Go.Proofs.YtchnagdaljblnaaGreatDoor

namespace Go.Proofs.YtchnagdaljblnaaGreatDoor
open Go.Eng Go.Wh Go.Ver Go.RowKit Go.Lk
set_option maxRecDepth 20000
attribute [local irreducible] AG CallA CallT AWp PCall ACall AgC
end Go.Proofs.YtchnagdaljblnaaGreatDoor

namespace Go.Proofs.YtchnagdaljblnaaGreatDoor
open Go.Eng Go.Wh Go.Ver Go.RowKit Go.Lk
set_option maxRecDepth 20000
attribute [local irreducible] AG CallA CallT AWp PCall ACall AgC
end Go.Proofs.YtchnagdaljblnaaGreatDoor

namespace Go.Proofs.YtchnagdaljblnaaGreatDoor
open Go.Eng Go.Wh Go.Ver Go.RowKit Go.Lk
set_option maxRecDepth 20000
attribute [local irreducible] AG CallA CallT AWp PCall ACall AgC
theorem line_ok (p p' : PS) (s : Bs) (gb gp gn gw : Nat) (rs : List (Nat × List Prs)) (hp : PsOk p rs) (hl : s.length ≤ 1000000) (he : lineV p s = some p') :
  ACall Tryz.prog 68 [.ptr 900002 gb 0, dS s] (rdH p gb gp gn gw rs) (900002 :: 900003 :: 900004 :: 900005 :: famS 1 0 p'.needs.length)
   fun ps r => ∃ gp' gn' gw' rs', rs'.map (·.2) = p'.needs ∧ ps = (gb, .box [dI p'.part, .own 900003 gp', .own 900004 gn', .own 900005 gw', dS p'.sum]) :: (gp', .row 83 2 (p'.picks.map cP)) :: (gn', .row 43 1 (famO 1 0 rs')) :: (gw', .row 100 2 (p'.wish.map cP)) :: famP 100 2 mP rs' ∧ r = dB true := by
 obtain ⟨part, P, N, W, sum⟩ := p
 match part, hp, he with
 | 0, hp, he => exact line0_ok P W N sum p' s gb gp gn gw rs hp hl he
 | 1, hp, he => exact line1_ok P W N sum p' s gb gp gn gw rs hp hl he
 | 2, hp, he => exact line2_ok P W N sum p' s gb gp gn gw rs hp hl he
 | 3, hp, he => exact line3_ok P W N sum p' s gb gp gn gw rs hp hl he
 | 4, hp, he => exact line4_ok P W N sum p' s gb gp gn gw rs hp hl he
 | n + 5, hp, he => simp [lineV] at he
theorem line_bad (p : PS) (s : Bs) (gb gp gn gw : Nat) (rs : List (Nat × List Prs)) (hp : PsOk p rs) (hl : s.length ≤ 1000000) (he : lineV p s = none) :
  ACall Tryz.prog 68 [.ptr 900002 gb 0, dS s] (rdH p gb gp gn gw rs) (900002 :: 900003 :: 900004 :: 900005 :: famS 1 0 p.needs.length)
   fun ps r => r = dB false := by
 obtain ⟨part, P, N, W, sum⟩ := p
 match part, hp, he with
 | 0, hp, he => exact line0_bad P W N sum s gb gp gn gw rs hp hl he
 | 1, hp, he => exact line1_bad P W N sum s gb gp gn gw rs hp hl he
 | 2, hp, he => exact line2_bad P W N sum s gb gp gn gw rs hp hl he
 | 3, hp, he => exact line3_bad P W N sum s gb gp gn gw rs hp hl he
 | 4, hp, he => exact line4_bad P W N sum s gb gp gn gw rs hp hl he
 | n + 5, hp, he => exact line5_bad P W N sum s gb gp gn gw rs n hp hl he
theorem psOk_sz {p : PS} {k m : Nat} {rs : List (Nat × List Prs)} (h : SzOk p k m) (hk : k ≤ 100000) (he : rs.map (fun x => x.2) = p.needs) : PsOk p rs :=
 ⟨he, h.nl, by have := h.pl; omega, by have := h.wl; omega, fun r hr => by
  have := h.rl r.2 (by rw [← he]; exact List.mem_map.2 ⟨r, hr, rfl⟩)
  omega⟩
theorem lkOk_sz {p : PS} {k m : Nat} (h : SzOk p k m) (hk : k ≤ 100000) (hm : m ≤ 1000000) : LkOk (lkOf p) := by
 refine ⟨?_, ?_, ?_, fun x hx => ?_, fun r hr => ⟨?_, fun x hx => ?_⟩, fun x hx => ?_⟩
 ·have := h.pl; simp only [lkOf]; omega
 ·have := h.pl; have := h.nl; simp only [lkOf]; omega
 ·have := h.wl; simp only [lkOf]; omega
 ·have := h.ps x hx; exact ⟨by omega, by omega⟩
 ·have := h.rl r hr; omega
 ·have := h.ns r hr x hx; exact ⟨by omega, by omega⟩
 ·have := h.ws x hx; exact ⟨by omega, by omega⟩
end Go.Proofs.YtchnagdaljblnaaGreatDoor

namespace Go.Proofs.YtchnagdaljblnaaGreatDoor
open Go.Eng Go.Wh Go.Ver Go.RowKit Go.Lk
set_option maxRecDepth 20000
attribute [local irreducible] AG CallA CallT AWp PCall ACall AgC
theorem putPs_st : ∀ (S : St) (ss : List Nat) (ps : List (Nat × Blk)), ps.length = ss.length → ∃ h, putPs S ss ps = ⟨S.slots, h⟩ ∧ ∀ k, k ∉ ss → Eng.look h k = Eng.look S.heap k
 | S, [], ps, hl => ⟨S.heap, by simp [putPs], fun _ _ => rfl⟩
 | S, s :: ss, [], hl => by simp at hl
 | S, s :: ss, p :: ps, hl => by
  obtain ⟨h, e, hh⟩ := putPs_st S ss ps (by simpa using hl)
  refine ⟨(s, p) :: h, ?_, fun k hk => ?_⟩
  ·simp only [putPs, e, St.hput]
  ·simp only [List.mem_cons, not_or] at hk
   simp only [Eng.look]
   rw [if_neg fun q => hk.1 q.symm]
   exact hh k hk.2
theorem look_fam_app {α : Type} {b e k s : Nat} {f : α → List (List D)} {l : List (Nat × (Nat × Blk))} : ∀ (rs : List (Nat × α)) (i : Nat), s < 1000000 → Eng.look (fam b e k f i rs ++ l) s = Eng.look l s
 | [], i, h => rfl
 | r :: rs, i, h => by
  rw [fam, List.cons_append, Eng.look, if_neg (fs_nlit h)]
  exact look_fam_app rs (i + 1) h
theorem lastIndex_spec (s sub : Bs) (hs : s.length < 4611686018427387904) : PCall Tryz.prog 69 [dS s, dS sub] fun r => r = dI (Lib.lastIndex s sub) := by
 refine pcall_below ⟨_, Tryz.func69, rfl, rfl⟩ fun C w us hc hg hr => ?_
 obtain rfl := repL_v (us := [.string ⟨s.toArray⟩, .string ⟨sub.toArray⟩]) hr
 refine (Tryz.strings_LastIndex ⟨s.toArray⟩ ⟨sub.toArray⟩ (by simpa [ByteArray.size] using hs) w).mono ?_
 rintro e w' ⟨rfl, rfl⟩
 exact ⟨_, _, rfl, by simp, .v _, Below.refl _ _⟩
theorem ba_take (s : List UInt8) (n : Nat) : ({ data := s.toArray } : ByteArray).extract 0 n = { data := (s.take n).toArray } := by
 apply ByteArray.ext
 simp
set_option maxHeartbeats 8000000 in
theorem lParse_spec (s : Bs) (hl : s.length ≤ 1000000) (hcount : (dots 10 s).length ≤ 100000) : PCall Tryz.prog 33 [dS s] fun r => r = .tup [dLk (parV s).1, dI (parV s).2.1, dI (parV s).2.2] := by 
 refine pcall_of Tryz.func33 rfl rfl Tryz.ntmps33 (rs := [.cell 2 45, .tmp 3, .tmp 4]) (tys := [45, 3, 27]) rfl rfl (by simp) ?_
 have SS := split_spec s [10] (by omega) (by decide)
 rw [split_dots 10 s] at SS
 have hne := List.length_pos_iff.2 (dots_ne 10 s)
 have hlen := line_le s
 have hsz := lines_sz s
 have hF := @parV_form s
 have hS := @parV_short s
 have hU := @parV_full s
 have hB := @last_beg s
 have hG0 : goL ps0 0 (dots 10 s) = goL ps0 0 ((dots 10 s).drop 0) := rfl
 have hL0 : linesV (dots 10 s) 0 = some ps0 := rfl
 generalize hls : dots 10 s = ls at *
 obtain ⟨last, hlast⟩ : ∃ k, ls.length = k + 1 := ⟨ls.length - 1, by omega⟩
 have hlast1 : (last : Int) + 1 - 1 = last := by omega
 (refine awp_sr fun KK hKK => ?_; simp [go_sem]; ((repeat' (first|(refine ag_x ?_;simp [go_sem])|intro _|refine And.intro ?_ ?_|(apply hKK;clear hKK KK)));all_goals first|refine Hold.mk ?_|omega|with_reducible assumption|skip))
 rename_i g2
 (refine awp_sr fun KK hKK => ?_; simp [go_sem]; ((repeat' (first|(refine ag_x ?_;simp [go_sem])|intro _|refine And.intro ?_ ?_|(apply hKK;clear hKK KK)));all_goals first|refine Hold.mk ?_|omega|with_reducible assumption|skip))
 rename_i g5
 refine awp_renbox 5 900002 rfl rfl (by decide) fun gb0 => ?_
 simp only [go_sem]
 refine awp_nilbox 900003 83 2 1 (sb := 900002) rfl rfl (by decide) fun gp0 => ?_
 refine awp_nilbox 900004 43 1 2 (sb := 900002) rfl rfl (by decide) fun gn0 => ?_
 refine awp_nilbox 900005 100 2 3 (sb := 900002) rfl rfl (by decide) fun gw0 => ?_
 simp only [List.set, go_sem]
 (refine awp_sr fun KK hKK => ?_; simp [go_sem]; ((repeat' (first|(refine ag_x ?_;simp [go_sem])|intro _|refine And.intro ?_ ?_|(apply hKK;clear hKK KK)));all_goals first|refine Hold.mk ?_|omega|with_reducible assumption|skip))
 ((try refine CallT.toA ?_); refine callT_m (by first | exact .inl ⟨rfl, rfl⟩ | exact .inr rfl) (by simp [go_sem]) ?_; intro args ha; simp [go_sem] at ha; subst ha; refine ⟨_, SS, ?_⟩; rintro _ rfl; simp [go_sem]; ((repeat' (first|(refine ag_x ?_;simp [go_sem])|intro _|refine And.intro ?_ ?_|(apply hKK;clear hKK KK)));all_goals first|refine Hold.mk ?_|omega|with_reducible assumption|skip))
 (refine awp_sr fun KK hKK => ?_; simp [go_sem, hlast]; ((repeat' (first|(refine ag_x ?_;simp [go_sem, hlast])|intro _|refine And.intro ?_ ?_|(apply hKK;clear hKK KK)));all_goals first|refine Hold.mk ?_|omega|with_reducible assumption|skip))
 refine awp_seq_k fun K1 hK1 => ?_
 have tl1 : ∀ S' p gb gp gn gw rs, PsOk p rs → goL ps0 0 ls = (some p, last) → linesV ls last = some p → ls[last]? = some [] → Cov S' ⟨[(0, dS s), (2, .ptr 2 g2 0), (5, .ptr 900002 gb 0), (7, dI last)], (2, (g2, .box [.v (.slice none 0 0), .v (.slice none 0 0), .v (.slice none 0 0)])) :: rdH p gb gp gn gw rs⟩ → K1 S' := fun S' p gb gp gn gw rs hp hg hlv hle hS' => by
  refine hK1 _ ?_; clear hK1
  refine awp_cov hS' ?_; clear hS'
  refine awp_seq_k fun K2 hK2 => ?_
  by_cases h5 : p.part = 5
  ·obtain ⟨b1, b2, b3⟩ := hB hlast.symm hle hlv h5
   have hu := hU hg h5 b3
   have hz := hsz _ _ hlv
   (refine awp_sr fun KK hKK => ?_; simp [go_sem, h5]; ((repeat' (first|(refine ag_x ?_;simp [go_sem, h5])|intro _|refine And.intro ?_ ?_|(apply hKK;clear hKK KK)));all_goals first|refine Hold.mk ?_|omega|with_reducible assumption|skip))
   (refine awp_if fun T F hT hF => ?_; simp [go_sem, h5]; refine hF ?_; clear hT hF T F)
   refine awp_skip ?_
   refine hK2 _ ?_; clear hK2
   have LI := lastIndex_spec s preSum (by omega)
   rw [b3] at LI
   generalize begV ls last = b at *
   have SU := sum_spec (s.take b) (by rw [List.length_take]; omega)
   have hsl := sumV_lt (s.take b) (s.take b).length
   have IT := itoa_spec (sumV (s.take b) (s.take b).length : Nat) (by omega) (by omega)
   have CK := lCheck_spec (lkOf p) (lkOk_sz hz (by omega) (by omega))
   generalize sumV (s.take b) (s.take b).length = sm at *
   have hbi : (b : Int) ≤ s.length := by omega
   (refine awp_sr fun KK hKK => ?_; simp [go_sem]; ((repeat' (first|(refine ag_x ?_;simp [go_sem])|intro _|refine And.intro ?_ ?_|(apply hKK;clear hKK KK)));all_goals first|refine Hold.mk ?_|omega|with_reducible assumption|skip))
   ((try refine CallT.toA ?_); refine callT_m (by first | exact .inl ⟨rfl, rfl⟩ | exact .inr rfl) (by simp [go_sem]) ?_; intro args ha; simp [go_sem] at ha; subst ha; refine ⟨_, LI, ?_⟩; rintro _ rfl; simp [go_sem, hbi, b2]; ((repeat' (first|(refine ag_x ?_;simp [go_sem, hbi, b2])|intro _|refine And.intro ?_ ?_|(apply hKK;clear hKK KK)));all_goals first|refine Hold.mk ?_|omega|with_reducible assumption|skip))
   refine awp_seq_k fun K4 hK4 => ?_
   ((refine awp_dr (.qs [0, 1, 2, 4, 3] (.kp 5 (.kp 6 (.qs [7] (.nil))))) (by kernel_rfl) ?_ ?_ ?_ ?_); (kernel_rfl); (exact (by decide +kernel)); (kernel_rfl); intro KK hKK; ((repeat' (first|(refine ag_x ?_;simp [go_sem])|refine adr_nil ?_|((first|refine adr_qs fun KK hKK=>?_|refine adr_y fun KK hKK=>?_);simp [go_sem])|intro _|refine And.intro ?_ ?_|(apply hKK;clear hKK KK)));all_goals first|refine Hold.mk ?_|omega|with_reducible assumption|skip))
   ((try refine CallT.toA ?_); refine callT_m (by first | exact .inl ⟨rfl, rfl⟩ | exact .inr rfl) (by simp [go_sem]) ?_; intro args ha; simp [go_sem] at ha; subst ha; refine ⟨_, (by first | exact SU | (rw [ba_take]; exact SU)), ?_⟩; rintro _ rfl; simp [go_sem]; ((repeat' (first|(refine ag_x ?_;simp [go_sem])|refine adr_nil ?_|((first|refine adr_qs fun KK hKK=>?_|refine adr_y fun KK hKK=>?_);simp [go_sem])|intro _|refine And.intro ?_ ?_|(apply hKK;clear hKK KK)));all_goals first|refine Hold.mk ?_|omega|with_reducible assumption|skip))
   ((try refine CallT.toA ?_); refine callT_m (by first | exact .inl ⟨rfl, rfl⟩ | exact .inr rfl) (by simp [go_sem]) ?_; intro args ha; simp [go_sem] at ha; subst ha; refine ⟨_, IT, ?_⟩; rintro _ rfl; simp [go_sem]; ((repeat' (first|(refine ag_x ?_;simp [go_sem])|refine adr_nil ?_|((first|refine adr_qs fun KK hKK=>?_|refine adr_y fun KK hKK=>?_);simp [go_sem])|intro _|refine And.intro ?_ ?_|(apply hKK;clear hKK KK)));all_goals first|refine Hold.mk ?_|omega|with_reducible assumption|skip))
   by_cases hsum : p.sum = Lib.itoa sm
   ·rw [if_neg (by simp [hsum])] at hu
    (refine awp_if fun T F hT hF => ?_; simp [go_sem, hsum]; refine hF ?_; clear hT hF T F)
    refine awp_skip ?_
    refine hK4 _ ?_; clear hK4
    refine awp_seq_k fun K6 hK6 => ?_
    refine awp_frzin 900003 900002 1 rfl rfl (by decide) rfl ?_
    simp only [go_sem, List.set]
    refine awp_frzin 900005 900002 3 rfl rfl (by decide) rfl ?_
    simp only [go_sem, List.set]
    refine awp_frzfam (b := 1) (e := 100) (k := 2) (f := mP) (go := gn) (eo := 43) 900004 (rs := rs) (ho := [(2, (g2, .box [.v (.slice none 0 0), .v (.slice none 0 0), .v (.slice none 0 0)])), (900002, (gb, .box [dI p.part, dPs p.picks, .own 900004 gn, dPs p.wish, dS p.sum]))]) (by simp [go_sem]) (by simp [go_sem]) (by decide) (by simp [go_sem, h5]) (by simp) ?_
    refine awp_frzin 900004 900002 2 rfl rfl (by decide) rfl ?_
    simp only [go_sem, List.set]
    have hN : (rs.map fun r => [D.sl 2 (mP r.2)]) = p.needs.map fun n => [dPs n] := by rw [← hp.en, List.map_map]; rfl
    rw [hN]
    simp only [lkOf] at CK
    (refine awp_sr fun KK hKK => ?_; simp [go_sem]; ((repeat' (first|(refine ag_x ?_;simp [go_sem])|intro _|refine And.intro ?_ ?_|(apply hKK;clear hKK KK)));all_goals first|refine Hold.mk ?_|omega|with_reducible assumption|skip))
    ((try refine CallT.toA ?_); refine callT_m (by first | exact .inl ⟨rfl, rfl⟩ | exact .inr rfl) (by simp [go_sem]) ?_; intro args ha; simp [go_sem] at ha; subst ha; refine ⟨_, CK, ?_⟩; rintro _ rfl; simp [go_sem]; ((repeat' (first|(refine ag_x ?_;simp [go_sem])|intro _|refine And.intro ?_ ?_|(apply hKK;clear hKK KK)));all_goals first|refine Hold.mk ?_|omega|with_reducible assumption|skip))
    (refine awp_sr fun KK hKK => ?_; simp [go_sem]; ((repeat' (first|(refine ag_x ?_;simp [go_sem])|intro _|refine And.intro ?_ ?_|(apply hKK;clear hKK KK)));all_goals first|refine Hold.mk ?_|omega|with_reducible assumption|skip))
    by_cases hlk : lockV (lkOf p) = true
    ·have hlk' : lockV (p.picks, p.needs, p.wish) = true := hlk
     rw [if_pos hlk] at hu
     (refine awp_if fun T F hT hF => ?_; simp [go_sem, hlk']; refine hF ?_; clear hT hF T F)
     refine awp_skip ?_
     refine hK6 _ ?_; clear hK6
     (refine awp_sr fun KK hKK => ?_; simp [go_sem]; ((repeat' (first|(refine ag_x ?_;simp [go_sem])|intro _|refine And.intro ?_ ?_|(apply hKK;clear hKK KK)));all_goals first|refine Hold.mk ?_|omega|with_reducible assumption|skip))
     (refine awp_ret ?_; simp [go_sem, hu, lkOf])
    ·have hlk' : lockV (p.picks, p.needs, p.wish) = false := by simpa [lkOf] using hlk
     rw [if_neg (by simp [hlk])] at hu
     (refine awp_if fun T F hT hF => ?_; simp [go_sem, hlk']; refine hT ?_; clear hT hF T F)
     (refine awp_sr fun KK hKK => ?_; simp [go_sem, hlk']; ((repeat' (first|(refine ag_x ?_;simp [go_sem, hlk'])|intro _|refine And.intro ?_ ?_|(apply hKK;clear hKK KK)));all_goals first|refine Hold.mk ?_|omega|with_reducible assumption|skip))
     (refine awp_ret ?_; simp [go_sem, hu, hlk'])
   ·rw [if_pos hsum] at hu
    have hsumb : (p.sum == Lib.itoa (sm : Int)) = false := by simpa using hsum
    (refine awp_if fun T F hT hF => ?_; simp [go_sem, hsum, hsumb]; refine hT ?_; clear hT hF T F)
    (refine awp_sr fun KK hKK => ?_; simp [go_sem]; ((repeat' (first|(refine ag_x ?_;simp [go_sem])|intro _|refine And.intro ?_ ?_|(apply hKK;clear hKK KK)));all_goals first|refine Hold.mk ?_|omega|with_reducible assumption|skip))
    (refine awp_ret ?_; simp [go_sem, hu])
  ·have e := hS hg h5
   have h5i : ¬ (p.part : Int) = 5 := by omega
   (refine awp_sr fun KK hKK => ?_; simp [go_sem, h5, h5i]; ((repeat' (first|(refine ag_x ?_;simp [go_sem, h5, h5i])|intro _|refine And.intro ?_ ?_|(apply hKK;clear hKK KK)));all_goals first|refine Hold.mk ?_|omega|with_reducible assumption|skip))
   (refine awp_if fun T F hT hF => ?_; simp [go_sem, h5, h5i]; refine hT ?_; clear hT hF T F)
   (refine awp_sr fun KK hKK => ?_; simp [go_sem]; ((repeat' (first|(refine ag_x ?_;simp [go_sem])|intro _|refine And.intro ?_ ?_|(apply hKK;clear hKK KK)));all_goals first|refine Hold.mk ?_|omega|with_reducible assumption|skip))
   (refine awp_ret ?_; simp [go_sem, e])
 clear hK1
 (refine awp_sr fun KK hKK => ?_; simp [go_sem]; ((repeat' (first|(refine ag_x ?_;simp [go_sem])|intro _|refine And.intro ?_ ?_|(apply hKK;clear hKK KK)));all_goals first|refine Hold.mk ?_|omega|with_reducible assumption|skip))
 refine awp_block ?_
 refine awp_loop (σ := Nat × PS × Nat × Nat × Nat × Nat × List (Nat × List Prs)) (fun x => ⟨[(0, dS s), (2, .ptr 2 g2 0), (5, .ptr 900002 x.2.2.1 0), (7, dI last), (19, dSs ls), (20, dI ls.length), (21, dI x.1)], (2, (g2, .box [.v (.slice none 0 0), .v (.slice none 0 0), .v (.slice none 0 0)])) :: rdH x.2.1 x.2.2.1 x.2.2.2.1 x.2.2.2.2.1 x.2.2.2.2.2.1 x.2.2.2.2.2.2⟩)
  (fun x => x.1 ≤ last ∧ linesV ls x.1 = some x.2.1 ∧ goL ps0 0 ls = goL x.2.1 x.1 (ls.drop x.1) ∧ x.2.2.2.2.2.2.map (fun x => x.2) = x.2.1.needs) (fun x => ls.length - x.1) (0, ps0, gb0, gp0, gn0, gw0, []) ?_ ?_ ?_
 ·(refine cov_of ?_ ?_ <;> simp [go_sem, ps0, famO, fam, hlast])
 ·exact ⟨by omega, hL0, hG0, rfl⟩
 rintro ⟨i, p, gb, gp, gn, gw, rs⟩ ⟨hi, hlv, hg, hrs⟩
 simp only at hi hlv hg hrs
 obtain ⟨l, hx⟩ : ∃ l, ls[i]? = some l := ⟨_, List.getElem?_eq_getElem (by omega)⟩
 have hp : PsOk p rs := psOk_sz (hsz _ _ hlv) (by omega) hrs
 have hll := hlen l (List.mem_of_getElem? hx)
 (refine awp_sr fun KK hKK => ?_; simp [go_sem]; ((repeat' (first|(refine ag_x ?_;simp [go_sem])|intro _|refine And.intro ?_ ?_|(apply hKK;clear hKK KK)));all_goals first|refine Hold.mk ?_|omega|with_reducible assumption|skip))
 refine awp_seq_k fun K8 hK8 => ?_
 (refine awp_if fun T F hT hF => ?_; simp [go_sem]; refine BR.intro (fun h9 => hT ?_) (fun h9 => hF ?_); all_goals clear hT hF T F; try simp at h9)
 ·refine awp_skip ?_
  refine hK8 _ ?_; clear hK8
  refine awp_seq_k fun K10 hK10 => ?_
  refine awp_block ?_
  (refine awp_sr fun KK hKK => ?_; simp [go_sem, hx]; ((repeat' (first|(refine ag_x ?_;simp [go_sem, hx])|intro _|refine And.intro ?_ ?_|(apply hKK;clear hKK KK)));all_goals first|refine Hold.mk ?_|omega|with_reducible assumption|skip))
  refine awp_seq_k fun K11 hK11 => ?_
  by_cases hi2 : i = last
  ·subst hi2
   have hgl := goL_last (p := p) hx hlast.symm
   by_cases hl0 : l = []
   ·subst hl0
    rw [if_pos rfl] at hgl
    (refine awp_sr fun KK hKK => ?_; simp [go_sem]; ((repeat' (first|(refine ag_x ?_;simp [go_sem])|intro _|refine And.intro ?_ ?_|(apply hKK;clear hKK KK)));all_goals first|refine Hold.mk ?_|omega|with_reducible assumption|skip))
    (refine awp_if fun T F hT hF => ?_; simp [go_sem]; refine hT ?_; clear hT hF T F)
    refine awp_exit ?_
    simp only [go_sem]
    refine tl1 _ p gb gp gn gw rs hp (hg.trans hgl) hlv hx ?_
    (refine cov_of ?_ ?_ <;> simp [go_sem])
   ·rw [if_neg hl0] at hgl
    have e := hF (hg.trans hgl)
    have hl0' : l.isEmpty = false := by cases l with
     | nil => exact absurd rfl hl0
     | cons => rfl
    (refine awp_sr fun KK hKK => ?_; simp [go_sem, hl0, hl0']; ((repeat' (first|(refine ag_x ?_;simp [go_sem, hl0, hl0'])|intro _|refine And.intro ?_ ?_|(apply hKK;clear hKK KK)));all_goals first|refine Hold.mk ?_|omega|with_reducible assumption|skip))
    (refine awp_if fun T F hT hF => ?_; simp [go_sem, hl0, hl0']; refine hF ?_; clear hT hF T F)
    refine awp_skip ?_
    refine hK11 _ ?_; clear hK11
    (refine awp_sr fun KK hKK => ?_; simp [go_sem]; ((repeat' (first|(refine ag_false ?_ ?_ ?_;(focus (simp [go_sem, undef];done));(focus (simp [go_sem];done));simp [go_sem])|(refine ag_true ?_ ?_;(focus (simp [go_sem, undef];done));simp [go_sem])|(refine ag_x ?_;simp [go_sem, undef])|intro _|refine And.intro ?_ ?_|(apply hKK;clear hKK KK)));all_goals first|refine Hold.mk ?_|omega|with_reducible assumption|skip))
    (refine awp_if fun T F hT hF => ?_; simp [go_sem]; refine hT ?_; clear hT hF T F)
    (refine awp_sr fun KK hKK => ?_; simp [go_sem]; ((repeat' (first|(refine ag_x ?_;simp [go_sem])|intro _|refine And.intro ?_ ?_|(apply hKK;clear hKK KK)));all_goals first|refine Hold.mk ?_|omega|with_reducible assumption|skip))
    (refine awp_ret ?_; simp [go_sem, e])
  ·have hi3 : i + 1 < ls.length := by omega
   have hgl := goL_more (p := p) hx hi3
   have hne2 : ¬ (i : Int) = last := by omega
   (refine awp_sr fun KK hKK => ?_; simp [go_sem, hi2, hne2]; ((repeat' (first|(refine ag_false ?_ ?_ ?_;(focus (simp [go_sem, undef, hi2, hne2];done));(focus (simp [go_sem];done));simp [go_sem, hi2, hne2])|(refine ag_true ?_ ?_;(focus (simp [go_sem, undef, hi2, hne2];done));simp [go_sem, hi2, hne2])|(refine ag_x ?_;simp [go_sem, undef, hi2, hne2])|intro _|refine And.intro ?_ ?_|(apply hKK;clear hKK KK)));all_goals first|refine Hold.mk ?_|omega|with_reducible assumption|skip))
   (refine awp_if fun T F hT hF => ?_; simp [go_sem, hi2, hne2]; refine hF ?_; clear hT hF T F)
   refine awp_skip ?_
   refine hK11 _ ?_; clear hK11
   cases he : lineV p l with
   | none =>
    rw [he] at hgl
    have e := hF (hg.trans hgl)
    (refine awp_sr fun KK hKK => ?_; simp [go_sem, hi2, hne2]; ((repeat' (first|(refine ag_false ?_ ?_ ?_;(focus (simp [go_sem, undef, hi2, hne2];done));(focus (simp [go_sem];done));simp [go_sem, hi2, hne2])|(refine ag_true ?_ ?_;(focus (simp [go_sem, undef, hi2, hne2];done));simp [go_sem, hi2, hne2])|(refine ag_x ?_;simp [go_sem, undef, hi2, hne2])|intro _|refine And.intro ?_ ?_|(apply hKK;clear hKK KK)));all_goals first|refine Hold.mk ?_|omega|with_reducible assumption|skip))
    refine callA_l (900002 :: 900003 :: 900004 :: 900005 :: famS 1 0 p.needs.length) (by first | exact .inl ⟨rfl, rfl⟩ | exact .inr rfl) (by simp [go_sem]) ?_
    intro args ha; simp [go_sem] at ha; subst ha
    refine ⟨_, _, line_bad p l gb gp gn gw rs hp (by omega) he, (by simp [go_sem]), ?_⟩
    rintro ps r hps rfl
    obtain ⟨h, eh, hh⟩ := putPs_st _ _ _ hps
    rw [eh]
    have h2 := hh 2 (by
     simp only [List.mem_cons, famS_mem, not_or]
     refine ⟨by decide, by decide, by decide, by decide, ?_⟩
     rintro ⟨j, _, _, e⟩
     exact absurd e.symm (fs_nlit (by decide)))
    simp [go_sem] at h2
    simp [go_sem]
    ((repeat' (first|(refine ag_false ?_ ?_ ?_;(focus (simp [go_sem, undef];done));(focus (simp [go_sem];done));simp [go_sem])|(refine ag_true ?_ ?_;(focus (simp [go_sem, undef];done));simp [go_sem])|(refine ag_x ?_;simp [go_sem, undef])|intro _|refine And.intro ?_ ?_|(apply hKK;clear hKK KK)));all_goals first|refine Hold.mk ?_|omega|with_reducible assumption|skip)
    (refine awp_if fun T F hT hF => ?_; simp [go_sem]; refine hT ?_; clear hT hF T F)
    (refine awp_sr fun KK hKK => ?_; simp [go_sem, h2]; ((repeat' (first|(refine ag_x ?_;simp [go_sem, h2])|intro _|refine And.intro ?_ ?_|(apply hKK;clear hKK KK)));all_goals first|refine Hold.mk ?_|omega|with_reducible assumption|skip))
    (refine awp_ret ?_; simp [go_sem, e])
   | some q =>
    rw [he] at hgl
    (refine awp_sr fun KK hKK => ?_; simp [go_sem, hi2, hne2]; ((repeat' (first|(refine ag_false ?_ ?_ ?_;(focus (simp [go_sem, undef, hi2, hne2];done));(focus (simp [go_sem];done));simp [go_sem, hi2, hne2])|(refine ag_true ?_ ?_;(focus (simp [go_sem, undef, hi2, hne2];done));simp [go_sem, hi2, hne2])|(refine ag_x ?_;simp [go_sem, undef, hi2, hne2])|intro _|refine And.intro ?_ ?_|(apply hKK;clear hKK KK)));all_goals first|refine Hold.mk ?_|omega|with_reducible assumption|skip))
    (refine callA_l (900002 :: 900003 :: 900004 :: 900005 :: famS 1 0 q.needs.length) (by first | exact .inl ⟨rfl, rfl⟩ | exact .inr rfl) (by simp [go_sem]) ?_; intro args ha; simp [go_sem] at ha; subst ha; refine ⟨_, _, (line_ok p q l gb gp gn gw rs hp (by omega) he), (by simp [go_sem]), ?_⟩; rintro ps r hps ⟨gp', gn', gw', rs', hrs', rfl, rfl⟩; simp [go_sem]; ((repeat' (first|(refine ag_false ?_ ?_ ?_;(focus (simp [go_sem, undef];done));(focus (simp [go_sem];done));simp [go_sem])|(refine ag_true ?_ ?_;(focus (simp [go_sem, undef];done));simp [go_sem])|(refine ag_x ?_;simp [go_sem, undef])|intro _|refine And.intro ?_ ?_|(apply hKK;clear hKK KK)));all_goals first|refine Hold.mk ?_|omega|with_reducible assumption|skip))
    rw [putPs_fam (b := 1) (e := 100) (k := 2) (f := mP) rs' 0 _ (by have := congrArg List.length hrs'; simpa using this)]
    simp [go_sem]
    ((repeat' (first|(refine ag_false ?_ ?_ ?_;(focus (simp [go_sem, undef];done));(focus (simp [go_sem];done));simp [go_sem])|(refine ag_true ?_ ?_;(focus (simp [go_sem, undef];done));simp [go_sem])|(refine ag_x ?_;simp [go_sem, undef])|intro _|refine And.intro ?_ ?_|(apply hKK;clear hKK KK)));all_goals first|refine Hold.mk ?_|omega|with_reducible assumption|skip)
    (refine awp_if fun T F hT hF => ?_; simp [go_sem]; refine hF ?_; clear hT hF T F)
    refine awp_skip ?_
    refine hK10 _ ?_; clear hK10
    (refine awp_r fun KK hKK => ?_; simp [go_sem]; ((repeat' (first|(refine ag_x ?_;simp [go_sem])|intro _|refine And.intro ?_ ?_|(apply hKK;clear hKK KK)));all_goals first|refine Hold.mk ?_|omega|with_reducible assumption|skip))
    refine ⟨(i + 1, q, gb, gp', gn', gw', rs'), ?_, ⟨by simp only; omega, (linesV_step hlv hx).trans he, hg.trans hgl, hrs'⟩, by simp only; omega⟩
    (refine cov_of ?_ ?_ <;> simp [go_sem])
    exact ⟨by rw [look_fam_app _ _ (by decide)]; simp [go_sem], FamIn.app _ _⟩
 ·refine awp_exit ?_
  omega
end Go.Proofs.YtchnagdaljblnaaGreatDoor

namespace Go.Proofs.YtchnagdaljblnaaGreatDoor
open Go.Eng Go.Wh Go.Ver Go.RowKit Go.Lk
set_option maxRecDepth 20000
attribute [local irreducible] AG CallA CallT AWp PCall ACall AgC
end Go.Proofs.YtchnagdaljblnaaGreatDoor

namespace Go.Proofs.YtchnagdaljblnaaGreatDoor
open Go.Eng Go.Wh Go.Ver Go.RowKit Go.Lk
set_option maxRecDepth 20000
attribute [local irreducible] AG CallA CallT AWp PCall ACall AgC
theorem lk0_ok : LkOk lk0 := by unfold LkOk; simp
theorem lk0_v : lockV lk0 = true := by decide
theorem lk0_text : Lk.textV lk0 = [71, 69, 77, 83, 10, 10, 87, 73, 83, 72, 10, 10, 83, 85, 77, 32, 51, 55, 55, 50, 10] := by
 have h1 : headT lk0 = [71, 69, 77, 83, 10, 10, 87, 73, 83, 72, 10, 10] := by decide
 have h2 : sumV [71, 69, 77, 83, 10, 10, 87, 73, 83, 72, 10, 10] 12 = 3772 := by decide +kernel
 unfold Lk.textV
 rw [h1]
 have h3 : ([71, 69, 77, 83, 10, 10, 87, 73, 83, 72, 10, 10] : Bs).length = 12 := rfl
 rw [h3, h2]
 have h4 : Lib.itoa (3772 : Nat) = [51, 55, 55, 50] := by
  unfold Lib.itoa
  rw [if_neg (by omega), Int.toNat_natCast]
  simp [Lib.decDigits]
 rw [h4]
 rfl
set_option maxHeartbeats 4000000 in
theorem sane_spec : PCall Tryz.prog 10 [] fun r => r = dB true := by 
 refine pcall_of Tryz.func10 rfl rfl Tryz.ntmps10 (rs := [.tmp 0]) (tys := [4]) rfl rfl (by simp) ?_
 have T0 := lText_spec lk0 lk0_ok
 rw [lk0_v, if_pos rfl, if_pos rfl, lk0_text] at T0
 have P0 := parV_text lk0_v
 rw [lk0_text] at P0
 have PS := lParse_spec [71, 69, 77, 83, 10, 10, 87, 73, 83, 72, 10, 10, 83, 85, 77, 32, 51, 55, 55, 50, 10] (by decide) (by decide)
 rw [P0] at PS
 (refine awp_sr fun KK hKK => ?_; simp [go_sem]; ((repeat' (first|(refine ag_x ?_;simp [go_sem])|intro _|refine And.intro ?_ ?_|(apply hKK;clear hKK KK)));all_goals first|refine Hold.mk ?_|omega|with_reducible assumption|skip))
 (refine awp_sr fun KK hKK => ?_; simp [go_sem]; ((repeat' (first|(refine ag_x ?_;simp [go_sem])|intro _|refine And.intro ?_ ?_|(apply hKK;clear hKK KK)));all_goals first|refine Hold.mk ?_|omega|with_reducible assumption|skip))
 ((try refine CallT.toA ?_); refine callT_m (by first | exact .inl ⟨rfl, rfl⟩ | exact .inr rfl) (by simp [go_sem]) ?_; intro args ha; simp [go_sem] at ha; subst ha; refine ⟨_, T0, ?_⟩; rintro _ rfl; simp [go_sem]; ((repeat' (first|(refine ag_x ?_;simp [go_sem])|intro _|refine And.intro ?_ ?_|(apply hKK;clear hKK KK)));all_goals first|refine Hold.mk ?_|omega|with_reducible assumption|skip))
 (refine awp_sr fun KK hKK => ?_; simp [go_sem]; ((repeat' (first|(refine ag_x ?_;simp [go_sem])|intro _|refine And.intro ?_ ?_|(apply hKK;clear hKK KK)));all_goals first|refine Hold.mk ?_|omega|with_reducible assumption|skip))
 ((try refine CallT.toA ?_); refine callT_m (by first | exact .inl ⟨rfl, rfl⟩ | exact .inr rfl) (by simp [go_sem]) ?_; intro args ha; simp [go_sem] at ha; subst ha; refine ⟨_, PS, ?_⟩; rintro _ rfl; simp [go_sem]; ((repeat' (first|(refine ag_x ?_;simp [go_sem])|intro _|refine And.intro ?_ ?_|(apply hKK;clear hKK KK)));all_goals first|refine Hold.mk ?_|omega|with_reducible assumption|skip))
 (refine awp_sr fun KK hKK => ?_; simp [go_sem]; ((repeat' (first|(refine ag_x ?_;simp [go_sem])|intro _|refine And.intro ?_ ?_|(apply hKK;clear hKK KK)));all_goals first|refine Hold.mk ?_|omega|with_reducible assumption|skip))
 (refine awp_ret ?_; simp [go_sem])
end Go.Proofs.YtchnagdaljblnaaGreatDoor

set_option maxRecDepth 20000
namespace Go.Lk
open Go.Lib Go.Wh Go.Ver
/-! how long a valid lock's text is, and of how many lines -/
theorem dots_cnt (c : UInt8) : ∀ s : Bs, (dots c s).length = s.count c + 1
 | [] => by simp [dots]
 | b :: l => by
  have ih := dots_cnt c l
  unfold dots
  split
  ·rename_i e; subst e; simp [ih]
  ·rename_i e
   have hc : (b :: l).count c = l.count c := by rw [List.count_cons]; simp [e]
   rw [hc]
   cases hd : dots c l with
   | nil => exact absurd hd (dots_ne c l)
   | cons x y => rw [hd] at ih; simp [consH] at ih ⊢; omega
def NdOk (n : Prs) : Prop := n.1.length ≤ 20 ∧ n.2.length ≤ 1300 ∧ 10 ∉ bodyL n
theorem want_small {ind : Bs} (hi : ind.length ≤ 4) (h10 : 10 ∉ ind) {n : Prs} (h : NdOk n) : (wantL ind n).length ≤ 1328 ∧ (wantL ind n).count 10 ≤ 1 := by
 obtain ⟨a, b, c⟩ := h
 refine ⟨by have := wantL_len ind n; omega, ?_⟩
 rw [wantL_body, List.count_append, List.count_append, List.count_eq_zero_of_not_mem h10, List.count_eq_zero_of_not_mem c]
 decide
theorem nds_small {ind : Bs} {l : List Prs} (hi : ind.length ≤ 4) (h10 : 10 ∉ ind) (h : ∀ n ∈ l, NdOk n) : ∀ k, (ndsT ind l k).length ≤ k * 1328 ∧ (ndsT ind l k).count 10 ≤ k
 | 0 => by simp [ndsT]
 | k + 1 => by
  obtain ⟨ih1, ih2⟩ := nds_small hi h10 h k
  have e : (k + 1) * 1328 = k * 1328 + 1328 := Nat.succ_mul _ _
  by_cases hk : k < l.length
  ·have hx := List.getElem?_eq_getElem hk
   obtain ⟨q1, q2⟩ := want_small hi h10 (h _ (List.getElem_mem hk))
   rw [ndsT_step hx, List.length_append, List.count_append, e]
   exact ⟨Nat.add_le_add ih1 q1, Nat.add_le_add ih2 q2⟩
  ·have : ndsT ind l (k + 1) = ndsT ind l k := by
    unfold ndsT; rw [List.take_of_length_le (by omega), List.take_of_length_le (by omega)]
   rw [this, e]
   exact ⟨Nat.le_trans ih1 (Nat.le_add_right _ _), Nat.le_trans ih2 (Nat.le_succ _)⟩
theorem needsV_nd {m : Nat} {l : List Prs} (h : needsV m l = true) : ∀ n ∈ l, NdOk n := fun n hn => by
 obtain ⟨a, b⟩ := needsV_each h n hn
 exact ⟨(name_nm a).2.2, condsV_len b, body_out a (condsV_out out10 b)⟩
theorem pks_small {L : Lck} (h : lockV L = true) : ∀ i, i ≤ L.1.length → (pksT L i).length ≤ 5 + i * 8054 ∧ (pksT L i).count 10 ≤ 1 + i * 7
 | 0, _ => by simp [pksT, gemsH]
 | i + 1, hi => by
  obtain ⟨v1, v2, v3, v4⟩ := lockV_parts h
  obtain ⟨ih1, ih2⟩ := pks_small h i (by omega)
  have hx := List.getElem?_eq_getElem (l := L.1) (i := i) (by omega)
  have hr := List.getElem?_eq_getElem (l := L.2.1) (i := i) (by omega)
  obtain ⟨a1, a2, a3⟩ := lockV_pick h hx hr
  have hnl := needsV_len a3
  obtain ⟨n1, n2⟩ := nds_small (ind := pre4) (by decide) (by decide) (needsV_nd a3) (L.2.1[i]).length
  have hb := body_out a1 (readV_out out10 a2)
  have hp := pickL_body (readV_ne a2)
  have hpl : (pickL L.1[i]).length ≤ 86 := by
   have := (name_nm a1).2.2
   have := readV_len a2
   simp [pickL]; omega
  have hpc : (pickL L.1[i]).count 10 = 1 := by
   rw [hp, List.count_append, List.count_append, List.count_eq_zero_of_not_mem hb]
   decide
  have e : (i + 1) * 8054 = i * 8054 + 8054 := Nat.succ_mul _ _
  have n1' : (ndsT pre4 L.2.1[i] L.2.1[i].length).length ≤ 7968 := Nat.le_trans n1 (Nat.le_trans (Nat.mul_le_mul_right _ hnl) (by decide))
  rw [pksT_step hx hr, e]
  simp only [List.length_append, List.count_append, hpc]
  refine ⟨?_, by omega⟩
  have : 5 + (i * 8054 + 8054) = (5 + i * 8054) + (86 + 7968) := by omega
  rw [this]
  exact Nat.add_le_add ih1 (Nat.add_le_add hpl n1')
theorem text_small {L : Lck} (h : lockV L = true) : (textV L).length ≤ 1000000 ∧ (dots 10 (textV L)).length ≤ 100000 := by
 obtain ⟨v1, v2, v3, v4⟩ := lockV_parts h
 obtain ⟨p1, p2⟩ := pks_small h L.1.length (Nat.le_refl _)
 obtain ⟨n1, n2⟩ := nds_small (ind := pre2) (by decide) (by decide) (needsV_nd v3) L.2.2.length
 have hw := needsV_len v3
 have hm := sumV_lt (headT L) (headT L).length
 have hil := itoa_length_le (sumV (headT L) (headT L).length : Nat) (by omega) (by omega)
 have p1' : (pksT L L.1.length).length ≤ 483245 := Nat.le_trans p1 (Nat.le_trans (Nat.add_le_add_left (Nat.mul_le_mul_right _ v1) 5) (by decide))
 have n1' : (ndsT pre2 L.2.2 L.2.2.length).length ≤ 10624 := Nat.le_trans n1 (Nat.le_trans (Nat.mul_le_mul_right _ hw) (by decide))
 have hi10 : (itoa (sumV (headT L) (headT L).length : Nat)).count 10 = 0 := by
  refine List.count_eq_zero_of_not_mem fun q => ?_
  unfold itoa at q
  rw [if_neg (by omega), Int.toNat_natCast] at q
  have := decDigits_isD _ 10 q
  revert this; decide
 constructor
 ·unfold textV
  generalize itoa (sumV (headT L) (headT L).length : Nat) = d at *
  unfold headT
  simp only [List.length_append]
  have e1 : wishH.length = 6 := rfl
  have e2 : preSum.length = 4 := rfl
  have e3 : ([10] : Bs).length = 1 := rfl
  rw [e1, e2, e3]
  omega
 ·rw [dots_cnt]
  unfold textV
  generalize itoa (sumV (headT L) (headT L).length : Nat) = d at *
  unfold headT
  simp only [List.count_append, hi10]
  have e1 : wishH.count 10 = 2 := by decide
  have e2 : preSum.count 10 = 0 := by decide
  have e3 : ([10] : Bs).count 10 = 1 := by decide
  rw [e1, e2, e3]
  omega
end Go.Lk

namespace Go.Proofs.YtchnagdaljblnaaGreatDoor
open Go.Eng Go.Wh Go.Ver Go.RowKit Go.Lk
set_option maxRecDepth 20000
attribute [local irreducible] AG CallA CallT AWp PCall ACall AgC
set_option maxHeartbeats 8000000 in
theorem writes_spec (L : Lck) (hL : LkOk L) : PCall Tryz.prog 16 [dLk L] fun r => r = dB true := by 
 refine pcall_of Tryz.func16 rfl rfl Tryz.ntmps16 (rs := [.tmp 2]) (tys := [4]) rfl rfl (by simp) ?_
 have A := as_spec L hL
 have V := rLValid_spec L hL
 have T := lText_spec L hL
 have RT := rText_spec L hL
 have CK := lCheck_spec L hL
 have S1 := rSame_spec L L hL hL
 have S2 := lSame_spec L L hL hL
 rw [decide_eq_true rfl] at S1 S2
 have hPT := @parV_text L
 have hTL := @text_small L
 by_cases hv : lockV L = true
 ·rw [if_pos hv] at CK
  rw [if_pos hv, if_pos hv] at T RT
  rw [hv] at V
  have PL := lParse_spec (Lk.textV L) (hTL hv).1 (hTL hv).2
  rw [hPT hv] at PL
  generalize Lk.textV L = tx at *
  obtain ⟨P, N, W⟩ := L
  simp only at A V T RT CK S1 S2 PL
  (refine awp_sr fun KK hKK => ?_; simp [go_sem]; ((repeat' (first|(refine ag_x ?_;simp [go_sem])|intro _|refine And.intro ?_ ?_|(apply hKK;clear hKK KK)));all_goals first|refine Hold.mk ?_|omega|with_reducible assumption|skip))
  rename_i g1
  (refine awp_sr fun KK hKK => ?_; simp [go_sem]; ((repeat' (first|(refine ag_x ?_;simp [go_sem])|intro _|refine And.intro ?_ ?_|(apply hKK;clear hKK KK)));all_goals first|refine Hold.mk ?_|omega|with_reducible assumption|skip))
  refine awp_seq_k fun K1 hK1 => ?_
  (refine awp_sr fun KK hKK => ?_; simp [go_sem]; ((repeat' (first|(refine ag_x ?_;simp [go_sem])|intro _|refine And.intro ?_ ?_|(apply hKK;clear hKK KK)));all_goals first|refine Hold.mk ?_|omega|with_reducible assumption|skip))
  ((try refine CallT.toA ?_); refine callT_m (by first | exact .inl ⟨rfl, rfl⟩ | exact .inr rfl) (by simp [go_sem]) ?_; intro args ha; simp [go_sem] at ha; subst ha; refine ⟨_, A, ?_⟩; rintro _ rfl; simp [go_sem]; ((repeat' (first|(refine ag_x ?_;simp [go_sem])|intro _|refine And.intro ?_ ?_|(apply hKK;clear hKK KK)));all_goals first|refine Hold.mk ?_|omega|with_reducible assumption|skip))
  ((try refine CallT.toA ?_); refine callT_m (by first | exact .inl ⟨rfl, rfl⟩ | exact .inr rfl) (by simp [go_sem]) ?_; intro args ha; simp [go_sem] at ha; subst ha; refine ⟨_, V, ?_⟩; rintro _ rfl; simp [go_sem]; ((repeat' (first|(refine ag_x ?_;simp [go_sem])|intro _|refine And.intro ?_ ?_|(apply hKK;clear hKK KK)));all_goals first|refine Hold.mk ?_|omega|with_reducible assumption|skip))
  (refine awp_if fun T F hT hF => ?_; simp [go_sem]; refine hT ?_; clear hT hF T F)
  (refine awp_r fun KK hKK => ?_; simp [go_sem]; ((repeat' (first|(refine ag_x ?_;simp [go_sem])|intro _|refine And.intro ?_ ?_|(apply hKK;clear hKK KK)));all_goals first|refine Hold.mk ?_|omega|with_reducible assumption|skip))
  refine hK1 _ ?_; clear hK1
  (refine awp_sr fun KK hKK => ?_; simp [go_sem]; ((repeat' (first|(refine ag_x ?_;simp [go_sem])|intro _|refine And.intro ?_ ?_|(apply hKK;clear hKK KK)));all_goals first|refine Hold.mk ?_|omega|with_reducible assumption|skip))
  ((try refine CallT.toA ?_); refine callT_m (by first | exact .inl ⟨rfl, rfl⟩ | exact .inr rfl) (by simp [go_sem]) ?_; intro args ha; simp [go_sem] at ha; subst ha; refine ⟨_, T, ?_⟩; rintro _ rfl; simp [go_sem]; ((repeat' (first|(refine ag_x ?_;simp [go_sem])|intro _|refine And.intro ?_ ?_|(apply hKK;clear hKK KK)));all_goals first|refine Hold.mk ?_|omega|with_reducible assumption|skip))
  (refine awp_sr fun KK hKK => ?_; simp [go_sem]; ((repeat' (first|(refine ag_x ?_;simp [go_sem])|intro _|refine And.intro ?_ ?_|(apply hKK;clear hKK KK)));all_goals first|refine Hold.mk ?_|omega|with_reducible assumption|skip))
  ((try refine CallT.toA ?_); refine callT_m (by first | exact .inl ⟨rfl, rfl⟩ | exact .inr rfl) (by simp [go_sem]) ?_; intro args ha; simp [go_sem] at ha; subst ha; refine ⟨_, A, ?_⟩; rintro _ rfl; simp [go_sem]; ((repeat' (first|(refine ag_x ?_;simp [go_sem])|intro _|refine And.intro ?_ ?_|(apply hKK;clear hKK KK)));all_goals first|refine Hold.mk ?_|omega|with_reducible assumption|skip))
  ((try refine CallT.toA ?_); refine callT_m (by first | exact .inl ⟨rfl, rfl⟩ | exact .inr rfl) (by simp [go_sem]) ?_; intro args ha; simp [go_sem] at ha; subst ha; refine ⟨_, RT, ?_⟩; rintro _ rfl; simp [go_sem]; ((repeat' (first|(refine ag_x ?_;simp [go_sem])|intro _|refine And.intro ?_ ?_|(apply hKK;clear hKK KK)));all_goals first|refine Hold.mk ?_|omega|with_reducible assumption|skip))
  refine awp_seq_k fun K2 hK2 => ?_
  (refine awp_sr fun KK hKK => ?_; simp [go_sem]; ((repeat' (first|(refine ag_x ?_;simp [go_sem])|intro _|refine And.intro ?_ ?_|(apply hKK;clear hKK KK)));all_goals first|refine Hold.mk ?_|omega|with_reducible assumption|skip))
  ((try refine CallT.toA ?_); refine callT_m (by first | exact .inl ⟨rfl, rfl⟩ | exact .inr rfl) (by simp [go_sem]) ?_; intro args ha; simp [go_sem] at ha; subst ha; refine ⟨_, CK, ?_⟩; rintro _ rfl; simp [go_sem]; ((repeat' (first|(refine ag_x ?_;simp [go_sem])|intro _|refine And.intro ?_ ?_|(apply hKK;clear hKK KK)));all_goals first|refine Hold.mk ?_|omega|with_reducible assumption|skip))
  (refine awp_if fun T F hT hF => ?_; simp [go_sem]; refine hF ?_; clear hT hF T F)
  refine awp_skip ?_
  refine hK2 _ ?_; clear hK2
  refine awp_seq_k fun K3 hK3 => ?_
  (refine awp_sr fun KK hKK => ?_; simp [go_sem]; ((repeat' (first|(refine ag_x ?_;simp [go_sem])|intro _|refine And.intro ?_ ?_|(apply hKK;clear hKK KK)));all_goals first|refine Hold.mk ?_|omega|with_reducible assumption|skip))
  (refine awp_if fun T F hT hF => ?_; simp [go_sem]; refine hT ?_; clear hT hF T F)
  (refine awp_sr fun KK hKK => ?_; simp [go_sem]; ((repeat' (first|(refine ag_x ?_;simp [go_sem])|intro _|refine And.intro ?_ ?_|(apply hKK;clear hKK KK)));all_goals first|refine Hold.mk ?_|omega|with_reducible assumption|skip))
  ((try refine CallT.toA ?_); refine callT_m (by first | exact .inl ⟨rfl, rfl⟩ | exact .inr rfl) (by simp [go_sem]) ?_; intro args ha; simp [go_sem] at ha; subst ha; refine ⟨_, PL, ?_⟩; rintro _ rfl; simp [go_sem]; ((repeat' (first|(refine ag_x ?_;simp [go_sem])|intro _|refine And.intro ?_ ?_|(apply hKK;clear hKK KK)));all_goals first|refine Hold.mk ?_|omega|with_reducible assumption|skip))
  rename_i g8
  ((refine awp_dr (.qs [0, 1, 2, 3, 4, 5, 6, 7, 9] (.kp 8 (.kp 10 (.kp 11 (.qs [12, 13] (.nb (.qs [14, 15] (.one 16 (.qs [17, 18] (.nil)))))))))) (by kernel_rfl) ?_ ?_ ?_ ?_); (kernel_rfl); (exact (by decide +kernel)); (kernel_rfl); intro KK hKK; ((repeat' (first|(refine ag_x ?_;simp [go_sem])|refine adr_nil ?_|((first|refine adr_qs fun KK hKK=>?_|refine adr_y fun KK hKK=>?_);simp [go_sem])|intro _|refine And.intro ?_ ?_|(apply hKK;clear hKK KK)));all_goals first|refine Hold.mk ?_|omega|with_reducible assumption|skip))
  (refine agc_m (dLk (P, N, W)) (by first | exact .inl ⟨rfl, rfl⟩ | exact .inr rfl) (by simp [go_sem]) ?_ ?_; (intro hc args ha; simp [go_sem] at ha; subst ha; exact A); simp [go_sem]; ((repeat' (first|(refine ag_x ?_;simp [go_sem])|refine adr_nil ?_|((first|refine adr_qs fun KK hKK=>?_|refine adr_y fun KK hKK=>?_);simp [go_sem])|intro _|refine And.intro ?_ ?_|(apply hKK;clear hKK KK)));all_goals first|refine Hold.mk ?_|omega|with_reducible assumption|skip))
  (refine agc_m (dLk (P, N, W)) (by first | exact .inl ⟨rfl, rfl⟩ | exact .inr rfl) (by simp [go_sem]) ?_ ?_; (intro hc args ha; simp [go_sem] at ha; subst ha; exact A); simp [go_sem]; ((repeat' (first|(refine ag_x ?_;simp [go_sem])|refine adr_nil ?_|((first|refine adr_qs fun KK hKK=>?_|refine adr_y fun KK hKK=>?_);simp [go_sem])|intro _|refine And.intro ?_ ?_|(apply hKK;clear hKK KK)));all_goals first|refine Hold.mk ?_|omega|with_reducible assumption|skip))
  (refine agc_f (dB true) (by first | exact .inl ⟨rfl, rfl⟩ | exact .inr rfl) ?_ rfl ?_; (intro hc args ha; simp [go_sem] at ha; subst ha; exact S1); simp [go_sem]; ((repeat' (first|(refine ag_x ?_;simp [go_sem])|refine adr_nil ?_|((first|refine adr_qs fun KK hKK=>?_|refine adr_y fun KK hKK=>?_);simp [go_sem])|intro _|refine And.intro ?_ ?_|(apply hKK;clear hKK KK)));all_goals first|refine Hold.mk ?_|omega|with_reducible assumption|skip))
  (refine agc_f (dB true) (by first | exact .inl ⟨rfl, rfl⟩ | exact .inr rfl) ?_ rfl ?_; (intro hc args ha; simp [go_sem] at ha; subst ha; exact S2); simp [go_sem]; ((repeat' (first|(refine ag_x ?_;simp [go_sem])|refine adr_nil ?_|((first|refine adr_qs fun KK hKK=>?_|refine adr_y fun KK hKK=>?_);simp [go_sem])|intro _|refine And.intro ?_ ?_|(apply hKK;clear hKK KK)));all_goals first|refine Hold.mk ?_|omega|with_reducible assumption|skip))
  (refine awp_ret ?_; simp [go_sem])
 ·have hvf : lockV L = false := by simpa using hv
  rw [if_neg hv] at CK
  rw [if_neg hv, if_neg hv] at T RT
  rw [hvf] at V
  obtain ⟨P, N, W⟩ := L
  (refine awp_sr fun KK hKK => ?_; simp [go_sem]; ((repeat' (first|(refine ag_x ?_;simp [go_sem])|intro _|refine And.intro ?_ ?_|(apply hKK;clear hKK KK)));all_goals first|refine Hold.mk ?_|omega|with_reducible assumption|skip))
  rename_i g1
  (refine awp_sr fun KK hKK => ?_; simp [go_sem]; ((repeat' (first|(refine ag_x ?_;simp [go_sem])|intro _|refine And.intro ?_ ?_|(apply hKK;clear hKK KK)));all_goals first|refine Hold.mk ?_|omega|with_reducible assumption|skip))
  refine awp_seq_k fun K1 hK1 => ?_
  (refine awp_sr fun KK hKK => ?_; simp [go_sem]; ((repeat' (first|(refine ag_x ?_;simp [go_sem])|intro _|refine And.intro ?_ ?_|(apply hKK;clear hKK KK)));all_goals first|refine Hold.mk ?_|omega|with_reducible assumption|skip))
  ((try refine CallT.toA ?_); refine callT_m (by first | exact .inl ⟨rfl, rfl⟩ | exact .inr rfl) (by simp [go_sem]) ?_; intro args ha; simp [go_sem] at ha; subst ha; refine ⟨_, A, ?_⟩; rintro _ rfl; simp [go_sem]; ((repeat' (first|(refine ag_x ?_;simp [go_sem])|intro _|refine And.intro ?_ ?_|(apply hKK;clear hKK KK)));all_goals first|refine Hold.mk ?_|omega|with_reducible assumption|skip))
  ((try refine CallT.toA ?_); refine callT_m (by first | exact .inl ⟨rfl, rfl⟩ | exact .inr rfl) (by simp [go_sem]) ?_; intro args ha; simp [go_sem] at ha; subst ha; refine ⟨_, V, ?_⟩; rintro _ rfl; simp [go_sem]; ((repeat' (first|(refine ag_x ?_;simp [go_sem])|intro _|refine And.intro ?_ ?_|(apply hKK;clear hKK KK)));all_goals first|refine Hold.mk ?_|omega|with_reducible assumption|skip))
  (refine awp_if fun T F hT hF => ?_; simp [go_sem]; refine hF ?_; clear hT hF T F)
  refine awp_skip ?_
  refine hK1 _ ?_; clear hK1
  (refine awp_sr fun KK hKK => ?_; simp [go_sem]; ((repeat' (first|(refine ag_x ?_;simp [go_sem])|intro _|refine And.intro ?_ ?_|(apply hKK;clear hKK KK)));all_goals first|refine Hold.mk ?_|omega|with_reducible assumption|skip))
  ((try refine CallT.toA ?_); refine callT_m (by first | exact .inl ⟨rfl, rfl⟩ | exact .inr rfl) (by simp [go_sem]) ?_; intro args ha; simp [go_sem] at ha; subst ha; refine ⟨_, T, ?_⟩; rintro _ rfl; simp [go_sem]; ((repeat' (first|(refine ag_x ?_;simp [go_sem])|intro _|refine And.intro ?_ ?_|(apply hKK;clear hKK KK)));all_goals first|refine Hold.mk ?_|omega|with_reducible assumption|skip))
  (refine awp_sr fun KK hKK => ?_; simp [go_sem]; ((repeat' (first|(refine ag_x ?_;simp [go_sem])|intro _|refine And.intro ?_ ?_|(apply hKK;clear hKK KK)));all_goals first|refine Hold.mk ?_|omega|with_reducible assumption|skip))
  ((try refine CallT.toA ?_); refine callT_m (by first | exact .inl ⟨rfl, rfl⟩ | exact .inr rfl) (by simp [go_sem]) ?_; intro args ha; simp [go_sem] at ha; subst ha; refine ⟨_, A, ?_⟩; rintro _ rfl; simp [go_sem]; ((repeat' (first|(refine ag_x ?_;simp [go_sem])|intro _|refine And.intro ?_ ?_|(apply hKK;clear hKK KK)));all_goals first|refine Hold.mk ?_|omega|with_reducible assumption|skip))
  ((try refine CallT.toA ?_); refine callT_m (by first | exact .inl ⟨rfl, rfl⟩ | exact .inr rfl) (by simp [go_sem]) ?_; intro args ha; simp [go_sem] at ha; subst ha; refine ⟨_, RT, ?_⟩; rintro _ rfl; simp [go_sem]; ((repeat' (first|(refine ag_x ?_;simp [go_sem])|intro _|refine And.intro ?_ ?_|(apply hKK;clear hKK KK)));all_goals first|refine Hold.mk ?_|omega|with_reducible assumption|skip))
  refine awp_seq_k fun K2 hK2 => ?_
  (refine awp_sr fun KK hKK => ?_; simp [go_sem]; ((repeat' (first|(refine ag_x ?_;simp [go_sem])|intro _|refine And.intro ?_ ?_|(apply hKK;clear hKK KK)));all_goals first|refine Hold.mk ?_|omega|with_reducible assumption|skip))
  ((try refine CallT.toA ?_); refine callT_m (by first | exact .inl ⟨rfl, rfl⟩ | exact .inr rfl) (by simp [go_sem]) ?_; intro args ha; simp [go_sem] at ha; subst ha; refine ⟨_, CK, ?_⟩; rintro _ rfl; simp [go_sem]; ((repeat' (first|(refine ag_x ?_;simp [go_sem])|intro _|refine And.intro ?_ ?_|(apply hKK;clear hKK KK)));all_goals first|refine Hold.mk ?_|omega|with_reducible assumption|skip))
  (refine awp_if fun T F hT hF => ?_; simp [go_sem]; refine hF ?_; clear hT hF T F)
  refine awp_skip ?_
  refine hK2 _ ?_; clear hK2
  refine awp_seq_k fun K3 hK3 => ?_
  (refine awp_sr fun KK hKK => ?_; simp [go_sem]; ((repeat' (first|(refine ag_x ?_;simp [go_sem])|intro _|refine And.intro ?_ ?_|(apply hKK;clear hKK KK)));all_goals first|refine Hold.mk ?_|omega|with_reducible assumption|skip))
  (refine awp_if fun T F hT hF => ?_; simp [go_sem]; refine hF ?_; clear hT hF T F)
  refine awp_skip ?_
  refine hK3 _ ?_; clear hK3
  (refine awp_sr fun KK hKK => ?_; simp [go_sem]; ((repeat' (first|(refine ag_x ?_;simp [go_sem])|intro _|refine And.intro ?_ ?_|(apply hKK;clear hKK KK)));all_goals first|refine Hold.mk ?_|omega|with_reducible assumption|skip))
  (refine awp_ret ?_; simp [go_sem])
end Go.Proofs.YtchnagdaljblnaaGreatDoor

namespace Go.Proofs.YtchnagdaljblnaaGreatDoor
open Go.Eng Go.Wh Go.Ver Go.RowKit Go.Lk
set_option maxRecDepth 20000
attribute [local irreducible] AG CallA CallT AWp PCall ACall AgC
abbrev Z1 (x : Prs) : Prop := x.1.length ≤ 140737488355328 ∧ x.2.length ≤ 140737488355328
abbrev ZN (r : List Prs) : Prop := r.length ≤ 140737488355328 ∧ ∀ x ∈ r, Z1 x
abbrev ZL (L : Lck) : Prop := ZN L.1 ∧ (L.2.1.length ≤ 140737488355328 ∧ ∀ r ∈ L.2.1, ZN r) ∧ ZN L.2.2
theorem take_in {α : Type} {p : α → Prop} {l : List α} {i : Nat} {y : α} (h : l[i]? = some y) (h1 : ∀ x ∈ l.take i, p x) (h2 : p y) : ∀ x ∈ l.take (i + 1), p x := by
 rw [List.take_add_one, h]
 intro x hx
 rcases List.mem_append.1 hx with q | q
 ·exact h1 x q
 ·simp at q; subst q; exact h2
theorem quo100 (n : Nat) : ((n : Int).tdiv 100) = ((n / 100 : Nat) : Int) := by
 rw [Int.tdiv_eq_ediv_of_nonneg (by omega)]; rfl
set_option maxHeartbeats 16000000 in
theorem large_spec (L : Lck) (hZ : ZL L) : PCall Tryz.prog 15 [dLk L] fun r => ∃ b, (b = false → LkOk L) ∧ r = dB b := by 
 refine pcall_of Tryz.func15 rfl rfl Tryz.ntmps15 (rs := [.tmp 2]) (tys := [4]) rfl rfl (by simp) ?_
 obtain ⟨P, N, W⟩ := L
 obtain ⟨⟨zP, zP1⟩, ⟨zN, zN1⟩, zW, zW1⟩ := hZ
 simp only at zP zP1 zN zN1 zW zW1
 (refine awp_sr fun KK hKK => ?_; simp [go_sem]; ((repeat' (first|(refine ag_x ?_;simp [go_sem])|intro _|refine And.intro ?_ ?_|(apply hKK;clear hKK KK)));all_goals first|refine Hold.mk ?_|omega|with_reducible assumption|skip))
 rename_i g1
 (refine awp_sr fun KK hKK => ?_; simp [go_sem]; ((repeat' (first|(refine ag_x ?_;simp [go_sem])|intro _|refine And.intro ?_ ?_|(apply hKK;clear hKK KK)));all_goals first|refine Hold.mk ?_|omega|with_reducible assumption|skip))
 refine awp_seq_k fun K1 hK1 => ?_
 have tl1 : ∀ S' n, n ≤ 562949953421312 → P.length + N.length + W.length ≤ n → (n < 1000 → ∀ r ∈ N, r.length ≤ 1000000 ∧ ∀ x ∈ r, PrOk x) → Cov S' ⟨[(1, .ptr 1 g1 0), (3, dI n)], [(1, (g1, .box [dPs P, dNs N, dPs W]))]⟩ → K1 S' := fun S' n hn hpw hN hS => by
  refine hK1 _ ?_; clear hK1
  refine awp_cov hS ?_; clear hS
  refine awp_seq_k fun K2 hK2 => ?_
  have tl2 : ∀ S' n, n ≤ 562949953421312 → P.length + N.length + W.length ≤ n → (n < 1000 → ∀ r ∈ N, r.length ≤ 1000000 ∧ ∀ x ∈ r, PrOk x) → (n < 1000 → ∀ x ∈ P, PrOk x) → Cov S' ⟨[(1, .ptr 1 g1 0), (3, dI n)], [(1, (g1, .box [dPs P, dNs N, dPs W]))]⟩ → K2 S' := fun S' n hn hpw hN hP hS => by
   refine hK2 _ ?_; clear hK2
   refine awp_cov hS ?_; clear hS
   refine awp_seq_k fun K3 hK3 => ?_
   have tl3 : ∀ S' n, n ≤ 562949953421312 → P.length + N.length + W.length ≤ n → (n < 1000 → ∀ r ∈ N, r.length ≤ 1000000 ∧ ∀ x ∈ r, PrOk x) → (n < 1000 → ∀ x ∈ P, PrOk x) → (n < 1000 → ∀ x ∈ W, PrOk x) → Cov S' ⟨[(1, .ptr 1 g1 0), (3, dI n)], [(1, (g1, .box [dPs P, dNs N, dPs W]))]⟩ → K3 S' := fun S' n hn hpw hN hP hW hS => by
    refine hK3 _ ?_; clear hK3
    refine awp_cov hS ?_; clear hS
    (refine awp_sr fun KK hKK => ?_; simp [go_sem]; ((repeat' (first|(refine ag_x ?_;simp [go_sem])|intro _|refine And.intro ?_ ?_|(apply hKK;clear hKK KK)));all_goals first|refine Hold.mk ?_|omega|with_reducible assumption|skip))
    (refine awp_ret ?_; simp [go_sem])
    intro hlt
    exact ⟨by show P.length ≤ _; omega, by show N.length ≤ _; omega, by show W.length ≤ _; omega, hP (by omega), hN (by omega), hW (by omega)⟩
   clear hK3
   (refine awp_sr fun KK hKK => ?_; simp [go_sem]; ((repeat' (first|(refine ag_x ?_;simp [go_sem])|intro _|refine And.intro ?_ ?_|(apply hKK;clear hKK KK)));all_goals first|refine Hold.mk ?_|omega|with_reducible assumption|skip))
   refine awp_block ?_
   refine awp_loop (σ := Nat × Nat) (fun z => ⟨[(1, .ptr 1 g1 0), (3, dI z.2), (7, dI z.1)], [(1, (g1, .box [dPs P, dNs N, dPs W]))]⟩) (fun z => z.1 ≤ W.length ∧ n ≤ z.2 ∧ z.2 ≤ 562949953421312 ∧ (z.2 < 1000 → ∀ x ∈ W.take z.1, PrOk x)) (fun z => W.length - z.1) (0, n) ?_ ?_ ?_
   ·(refine cov_of ?_ ?_ <;> simp [go_sem])
   ·exact ⟨by simp, Nat.le_refl _, hn, fun _ => by simp⟩
   rintro ⟨i, m⟩ ⟨hi, hnm, hm, hT⟩
   simp only at hi hnm hm hT
   refine awp_seq_k fun K4 hK4 => ?_
   by_cases h1 : i < W.length
   ·by_cases h2 : m < 1000
    ·have h2i : (m : Int) < 1000 := by omega
     have h1i : (i : Int) < W.length := by omega
     obtain ⟨x, hx⟩ : ∃ x, W[i]? = some x := ⟨_, List.getElem?_eq_getElem h1⟩
     obtain ⟨x1, x2⟩ := zW1 x (List.mem_of_getElem? hx)
     have q1 := quo100 x.1.length
     have q2 := quo100 x.2.length
     (refine awp_sr fun KK hKK => ?_; simp [go_sem, h1, h1i, h2, h2i]; ((repeat' (first|(refine ag_x ?_;simp [go_sem, h1, h1i, h2, h2i])|intro _|refine And.intro ?_ ?_|(apply hKK;clear hKK KK)));all_goals first|refine Hold.mk ?_|omega|with_reducible assumption|skip))
     (refine awp_if fun T F hT hF => ?_; simp [go_sem, h1, h1i, h2, h2i]; refine hT ?_; clear hT hF T F)
     refine awp_skip ?_
     refine hK4 _ ?_; clear hK4
     refine awp_seq_k fun K5 hK5 => ?_
     refine awp_block ?_
     ((refine awp_d (.qs [0, 1, 3, 10, 12, 2, 4, 5, 6, 7, 8, 9, 11, 13, 14, 15, 16, 17, 18, 19] (.nil)) (by kernel_rfl) ?_ ?_ ?_ ?_); (kernel_rfl); (exact (by decide +kernel)); (kernel_rfl); intro KK hKK; ((repeat' (first|(refine ag_x ?_;simp [go_sem, hx, q1, q2])|refine adr_nil ?_|((first|refine adr_qs fun KK hKK=>?_|refine adr_y fun KK hKK=>?_);simp [go_sem, hx, q1, q2])|intro _|refine And.intro ?_ ?_|(apply hKK;clear hKK KK)));all_goals first|refine Hold.mk ?_|omega|with_reducible assumption|skip))
     refine hK5 _ ?_; clear hK5
     (refine awp_r fun KK hKK => ?_; simp [go_sem]; ((repeat' (first|(refine ag_x ?_;simp [go_sem])|intro _|refine And.intro ?_ ?_|(apply hKK;clear hKK KK)));all_goals first|refine Hold.mk ?_|omega|with_reducible assumption|skip))
     refine ⟨(i + 1, m + x.1.length / 100 + x.2.length / 100), ?_, ⟨by simp only; omega, by simp only; omega, by simp only; omega, fun q => take_in hx (hT h2) ⟨by simp only at q; omega, by simp only at q; omega⟩⟩, by simp only; omega⟩
     (refine cov_of ?_ ?_ <;> simp [go_sem])
    ·have h2i : ¬ (m : Int) < 1000 := by omega
     have h1i : (i : Int) < W.length := by omega
     (refine awp_sr fun KK hKK => ?_; simp [go_sem, h1, h1i, h2, h2i]; ((repeat' (first|(refine ag_x ?_;simp [go_sem, h1, h1i, h2, h2i])|intro _|refine And.intro ?_ ?_|(apply hKK;clear hKK KK)));all_goals first|refine Hold.mk ?_|omega|with_reducible assumption|skip))
     (refine awp_if fun T F hT hF => ?_; simp [go_sem, h1, h1i, h2, h2i]; refine hF ?_; clear hT hF T F)
     refine awp_exit ?_
     simp only [go_sem]
     refine tl3 _ m hm (by omega) (fun q => hN (by omega)) (fun q => hP (by omega)) (fun q => absurd q h2) ?_
     (refine cov_of ?_ ?_ <;> simp [go_sem])
   ·have h1i : ¬ (i : Int) < W.length := by omega
    have hie : i = W.length := by omega
    (refine awp_sr fun KK hKK => ?_; simp [go_sem, h1, h1i]; ((repeat' (first|(refine ag_false ?_ ?_ ?_;(focus (simp [go_sem, undef, h1, h1i];done));(focus (simp [go_sem];done));simp [go_sem, h1, h1i])|(refine ag_true ?_ ?_;(focus (simp [go_sem, undef, h1, h1i];done));simp [go_sem, h1, h1i])|(refine ag_x ?_;simp [go_sem, undef, h1, h1i])|intro _|refine And.intro ?_ ?_|(apply hKK;clear hKK KK)));all_goals first|refine Hold.mk ?_|omega|with_reducible assumption|skip))
    (refine awp_if fun T F hT hF => ?_; simp [go_sem, h1, h1i]; refine hF ?_; clear hT hF T F)
    refine awp_exit ?_
    simp only [go_sem]
    rw [hie, List.take_length] at hT
    refine tl3 _ m hm (by omega) (fun q => hN (by omega)) (fun q => hP (by omega)) hT ?_
    (refine cov_of ?_ ?_ <;> simp [go_sem])
  clear hK2
  (refine awp_sr fun KK hKK => ?_; simp [go_sem]; ((repeat' (first|(refine ag_x ?_;simp [go_sem])|intro _|refine And.intro ?_ ?_|(apply hKK;clear hKK KK)));all_goals first|refine Hold.mk ?_|omega|with_reducible assumption|skip))
  refine awp_block ?_
  refine awp_loop (σ := Nat × Nat) (fun z => ⟨[(1, .ptr 1 g1 0), (3, dI z.2), (6, dI z.1)], [(1, (g1, .box [dPs P, dNs N, dPs W]))]⟩) (fun z => z.1 ≤ P.length ∧ n ≤ z.2 ∧ z.2 ≤ 562949953421312 ∧ (z.2 < 1000 → ∀ x ∈ P.take z.1, PrOk x)) (fun z => P.length - z.1) (0, n) ?_ ?_ ?_
  ·(refine cov_of ?_ ?_ <;> simp [go_sem])
  ·exact ⟨by simp, Nat.le_refl _, hn, fun _ => by simp⟩
  rintro ⟨i, m⟩ ⟨hi, hnm, hm, hT⟩
  simp only at hi hnm hm hT
  refine awp_seq_k fun K4 hK4 => ?_
  by_cases h1 : i < P.length
  ·by_cases h2 : m < 1000
   ·have h2i : (m : Int) < 1000 := by omega
    have h1i : (i : Int) < P.length := by omega
    obtain ⟨x, hx⟩ : ∃ x, P[i]? = some x := ⟨_, List.getElem?_eq_getElem h1⟩
    obtain ⟨x1, x2⟩ := zP1 x (List.mem_of_getElem? hx)
    have q1 := quo100 x.1.length
    have q2 := quo100 x.2.length
    (refine awp_sr fun KK hKK => ?_; simp [go_sem, h1, h1i, h2, h2i]; ((repeat' (first|(refine ag_x ?_;simp [go_sem, h1, h1i, h2, h2i])|intro _|refine And.intro ?_ ?_|(apply hKK;clear hKK KK)));all_goals first|refine Hold.mk ?_|omega|with_reducible assumption|skip))
    (refine awp_if fun T F hT hF => ?_; simp [go_sem, h1, h1i, h2, h2i]; refine hT ?_; clear hT hF T F)
    refine awp_skip ?_
    refine hK4 _ ?_; clear hK4
    refine awp_seq_k fun K5 hK5 => ?_
    refine awp_block ?_
    ((refine awp_d (.qs [0, 1, 3, 10, 12, 2, 4, 5, 6, 7, 8, 9, 11, 13, 14, 15, 16, 17, 18, 19] (.nil)) (by kernel_rfl) ?_ ?_ ?_ ?_); (kernel_rfl); (exact (by decide +kernel)); (kernel_rfl); intro KK hKK; ((repeat' (first|(refine ag_x ?_;simp [go_sem, hx, q1, q2])|refine adr_nil ?_|((first|refine adr_qs fun KK hKK=>?_|refine adr_y fun KK hKK=>?_);simp [go_sem, hx, q1, q2])|intro _|refine And.intro ?_ ?_|(apply hKK;clear hKK KK)));all_goals first|refine Hold.mk ?_|omega|with_reducible assumption|skip))
    refine hK5 _ ?_; clear hK5
    (refine awp_r fun KK hKK => ?_; simp [go_sem]; ((repeat' (first|(refine ag_x ?_;simp [go_sem])|intro _|refine And.intro ?_ ?_|(apply hKK;clear hKK KK)));all_goals first|refine Hold.mk ?_|omega|with_reducible assumption|skip))
    refine ⟨(i + 1, m + x.1.length / 100 + x.2.length / 100), ?_, ⟨by simp only; omega, by simp only; omega, by simp only; omega, fun q => take_in hx (hT h2) ⟨by simp only at q; omega, by simp only at q; omega⟩⟩, by simp only; omega⟩
    (refine cov_of ?_ ?_ <;> simp [go_sem])
   ·have h2i : ¬ (m : Int) < 1000 := by omega
    have h1i : (i : Int) < P.length := by omega
    (refine awp_sr fun KK hKK => ?_; simp [go_sem, h1, h1i, h2, h2i]; ((repeat' (first|(refine ag_x ?_;simp [go_sem, h1, h1i, h2, h2i])|intro _|refine And.intro ?_ ?_|(apply hKK;clear hKK KK)));all_goals first|refine Hold.mk ?_|omega|with_reducible assumption|skip))
    (refine awp_if fun T F hT hF => ?_; simp [go_sem, h1, h1i, h2, h2i]; refine hF ?_; clear hT hF T F)
    refine awp_exit ?_
    simp only [go_sem]
    refine tl2 _ m hm (by omega) (fun q => hN (by omega)) (fun q => absurd q h2) ?_
    (refine cov_of ?_ ?_ <;> simp [go_sem])
  ·have h1i : ¬ (i : Int) < P.length := by omega
   have hie : i = P.length := by omega
   (refine awp_sr fun KK hKK => ?_; simp [go_sem, h1, h1i]; ((repeat' (first|(refine ag_false ?_ ?_ ?_;(focus (simp [go_sem, undef, h1, h1i];done));(focus (simp [go_sem];done));simp [go_sem, h1, h1i])|(refine ag_true ?_ ?_;(focus (simp [go_sem, undef, h1, h1i];done));simp [go_sem, h1, h1i])|(refine ag_x ?_;simp [go_sem, undef, h1, h1i])|intro _|refine And.intro ?_ ?_|(apply hKK;clear hKK KK)));all_goals first|refine Hold.mk ?_|omega|with_reducible assumption|skip))
   (refine awp_if fun T F hT hF => ?_; simp [go_sem, h1, h1i]; refine hF ?_; clear hT hF T F)
   refine awp_exit ?_
   simp only [go_sem]
   rw [hie, List.take_length] at hT
   refine tl2 _ m hm (by omega) (fun q => hN (by omega)) hT ?_
   (refine cov_of ?_ ?_ <;> simp [go_sem])
 clear hK1
 (refine awp_sr fun KK hKK => ?_; simp [go_sem]; ((repeat' (first|(refine ag_x ?_;simp [go_sem])|intro _|refine And.intro ?_ ?_|(apply hKK;clear hKK KK)));all_goals first|refine Hold.mk ?_|omega|with_reducible assumption|skip))
 refine awp_block ?_
 refine awp_loop (σ := Nat × Nat) (fun z => ⟨[(1, .ptr 1 g1 0), (3, dI z.2), (4, dI z.1)], [(1, (g1, .box [dPs P, dNs N, dPs W]))]⟩) (fun z => z.1 ≤ N.length ∧ P.length + N.length + W.length ≤ z.2 ∧ z.2 ≤ 562949953421312 ∧ (z.2 < 1000 → ∀ r ∈ N.take z.1, r.length ≤ 1000000 ∧ ∀ x ∈ r, PrOk x)) (fun z => N.length - z.1) (0, P.length + N.length + W.length) ?_ ?_ ?_
 ·(refine cov_of ?_ ?_ <;> simp [go_sem])
 ·exact ⟨by simp, Nat.le_refl _, by simp only; omega, fun _ => by simp⟩
 rintro ⟨i, m⟩ ⟨hi, hnm, hm, hT⟩
 simp only at hi hnm hm hT
 refine awp_seq_k fun K4 hK4 => ?_
 by_cases h1 : i < N.length
 ·by_cases h2 : m < 1000
  ·have h2i : (m : Int) < 1000 := by omega
   have h1i : (i : Int) < N.length := by omega
   obtain ⟨r, hr⟩ : ∃ r, N[i]? = some r := ⟨_, List.getElem?_eq_getElem h1⟩
   obtain ⟨zr, zr1⟩ := zN1 r (List.mem_of_getElem? hr)
   (refine awp_sr fun KK hKK => ?_; simp [go_sem, h1, h1i, h2, h2i]; ((repeat' (first|(refine ag_x ?_;simp [go_sem, h1, h1i, h2, h2i])|intro _|refine And.intro ?_ ?_|(apply hKK;clear hKK KK)));all_goals first|refine Hold.mk ?_|omega|with_reducible assumption|skip))
   (refine awp_if fun T F hT hF => ?_; simp [go_sem, h1, h1i, h2, h2i]; refine hT ?_; clear hT hF T F)
   refine awp_skip ?_
   refine hK4 _ ?_; clear hK4
   refine awp_seq_k fun K5 hK5 => ?_
   have tl5 : ∀ S' n, m ≤ n → n ≤ 562949953421312 → (n < 1000 → r.length ≤ 1000000 ∧ ∀ x ∈ r, PrOk x) → Cov S' ⟨[(1, .ptr 1 g1 0), (3, dI n), (4, dI i)], [(1, (g1, .box [dPs P, dNs N, dPs W]))]⟩ → K5 S' := fun S' n h1' h2' h3' hS => by
    refine hK5 _ ?_; clear hK5
    refine awp_cov hS ?_; clear hS
    (refine awp_r fun KK hKK => ?_; simp [go_sem]; ((repeat' (first|(refine ag_x ?_;simp [go_sem])|intro _|refine And.intro ?_ ?_|(apply hKK;clear hKK KK)));all_goals first|refine Hold.mk ?_|omega|with_reducible assumption|skip))
    refine ⟨(i + 1, n), ?_, ⟨by simp only; omega, by simp only; omega, h2', fun q => take_in hr (hT h2) (h3' q)⟩, by simp only; omega⟩
    (refine cov_of ?_ ?_ <;> simp [go_sem])
   clear hK5
   refine awp_block ?_
   (refine awp_sr fun KK hKK => ?_; simp [go_sem, hr]; ((repeat' (first|(refine ag_x ?_;simp [go_sem, hr])|intro _|refine And.intro ?_ ?_|(apply hKK;clear hKK KK)));all_goals first|refine Hold.mk ?_|omega|with_reducible assumption|skip))
   (refine awp_sr fun KK hKK => ?_; simp [go_sem]; ((repeat' (first|(refine ag_x ?_;simp [go_sem])|intro _|refine And.intro ?_ ?_|(apply hKK;clear hKK KK)));all_goals first|refine Hold.mk ?_|omega|with_reducible assumption|skip))
   refine awp_block ?_
   refine awp_loop (σ := Nat × Nat) (fun z => ⟨[(1, .ptr 1 g1 0), (3, dI z.2), (4, dI i), (5, dI z.1)], [(1, (g1, .box [dPs P, dNs N, dPs W]))]⟩) (fun z => z.1 ≤ r.length ∧ m + r.length ≤ z.2 ∧ z.2 ≤ 562949953421312 ∧ (z.2 < 1000 → ∀ x ∈ r.take z.1, PrOk x)) (fun z => r.length - z.1) (0, m + r.length) ?_ ?_ ?_
   ·(refine cov_of ?_ ?_ <;> simp [go_sem])
   ·exact ⟨by simp, Nat.le_refl _, by simp only; omega, fun _ => by simp⟩
   rintro ⟨k, n⟩ ⟨hk, hkn, hn, hR⟩
   simp only at hk hkn hn hR
   refine awp_seq_k fun K7 hK7 => ?_
   by_cases h3 : k < r.length
   ·by_cases h4 : n < 1000
    ·have h4i : (n : Int) < 1000 := by omega
     have h3i : (k : Int) < r.length := by omega
     obtain ⟨x, hx⟩ : ∃ x, r[k]? = some x := ⟨_, List.getElem?_eq_getElem h3⟩
     obtain ⟨x1, x2⟩ := zr1 x (List.mem_of_getElem? hx)
     have q1 := quo100 x.1.length
     have q2 := quo100 x.2.length
     (refine awp_sr fun KK hKK => ?_; simp [go_sem, hr, h3, h3i, h4, h4i]; ((repeat' (first|(refine ag_x ?_;simp [go_sem, hr, h3, h3i, h4, h4i])|intro _|refine And.intro ?_ ?_|(apply hKK;clear hKK KK)));all_goals first|refine Hold.mk ?_|omega|with_reducible assumption|skip))
     (refine awp_if fun T F hT hF => ?_; simp [go_sem, h3, h3i, h4, h4i]; refine hT ?_; clear hT hF T F)
     refine awp_skip ?_
     refine hK7 _ ?_; clear hK7
     refine awp_seq_k fun K8 hK8 => ?_
     refine awp_block ?_
     ((refine awp_d (.qs [0, 1, 3, 6, 13, 15, 18, 2, 4, 5, 7, 8, 9, 10, 11, 12, 14, 16, 17, 19, 20, 21, 22, 23, 24, 25] (.nil)) (by kernel_rfl) ?_ ?_ ?_ ?_); (kernel_rfl); (exact (by decide +kernel)); (kernel_rfl); intro KK hKK; ((repeat' (first|(refine ag_x ?_;simp [go_sem, hr, hx, q1, q2])|refine adr_nil ?_|((first|refine adr_qs fun KK hKK=>?_|refine adr_y fun KK hKK=>?_);simp [go_sem, hr, hx, q1, q2])|intro _|refine And.intro ?_ ?_|(apply hKK;clear hKK KK)));all_goals first|refine Hold.mk ?_|omega|with_reducible assumption|skip))
     refine hK8 _ ?_; clear hK8
     (refine awp_r fun KK hKK => ?_; simp [go_sem]; ((repeat' (first|(refine ag_x ?_;simp [go_sem])|intro _|refine And.intro ?_ ?_|(apply hKK;clear hKK KK)));all_goals first|refine Hold.mk ?_|omega|with_reducible assumption|skip))
     refine ⟨(k + 1, n + x.1.length / 100 + x.2.length / 100), ?_, ⟨by simp only; omega, by simp only; omega, by simp only; omega, fun q => take_in hx (hR h4) ⟨by simp only at q; omega, by simp only at q; omega⟩⟩, by simp only; omega⟩
     (refine cov_of ?_ ?_ <;> simp [go_sem])
    ·have h4i : ¬ (n : Int) < 1000 := by omega
     have h3i : (k : Int) < r.length := by omega
     (refine awp_sr fun KK hKK => ?_; simp [go_sem, hr, h3, h3i, h4, h4i]; ((repeat' (first|(refine ag_x ?_;simp [go_sem, hr, h3, h3i, h4, h4i])|intro _|refine And.intro ?_ ?_|(apply hKK;clear hKK KK)));all_goals first|refine Hold.mk ?_|omega|with_reducible assumption|skip))
     (refine awp_if fun T F hT hF => ?_; simp [go_sem, h3, h3i, h4, h4i]; refine hF ?_; clear hT hF T F)
     refine awp_exit ?_
     simp only [go_sem]
     refine tl5 _ n (by omega) hn (fun q => absurd q h4) ?_
     (refine cov_of ?_ ?_ <;> simp [go_sem])
   ·have h3i : ¬ (k : Int) < r.length := by omega
    have hke : k = r.length := by omega
    (refine awp_sr fun KK hKK => ?_; simp [go_sem, hr, h3, h3i]; ((repeat' (first|(refine ag_false ?_ ?_ ?_;(focus (simp [go_sem, undef, hr, h3, h3i];done));(focus (simp [go_sem];done));simp [go_sem, hr, h3, h3i])|(refine ag_true ?_ ?_;(focus (simp [go_sem, undef, hr, h3, h3i];done));simp [go_sem, hr, h3, h3i])|(refine ag_x ?_;simp [go_sem, undef, hr, h3, h3i])|intro _|refine And.intro ?_ ?_|(apply hKK;clear hKK KK)));all_goals first|refine Hold.mk ?_|omega|with_reducible assumption|skip))
    (refine awp_if fun T F hT hF => ?_; simp [go_sem, h3, h3i]; refine hF ?_; clear hT hF T F)
    refine awp_exit ?_
    simp only [go_sem]
    rw [hke, List.take_length] at hR
    refine tl5 _ n (by omega) hn (fun q => ⟨by omega, hR q⟩) ?_
    (refine cov_of ?_ ?_ <;> simp [go_sem])
  ·have h2i : ¬ (m : Int) < 1000 := by omega
   have h1i : (i : Int) < N.length := by omega
   (refine awp_sr fun KK hKK => ?_; simp [go_sem, h1, h1i, h2, h2i]; ((repeat' (first|(refine ag_x ?_;simp [go_sem, h1, h1i, h2, h2i])|intro _|refine And.intro ?_ ?_|(apply hKK;clear hKK KK)));all_goals first|refine Hold.mk ?_|omega|with_reducible assumption|skip))
   (refine awp_if fun T F hT hF => ?_; simp [go_sem, h1, h1i, h2, h2i]; refine hF ?_; clear hT hF T F)
   refine awp_exit ?_
   simp only [go_sem]
   refine tl1 _ m hm hnm (fun q => absurd q h2) ?_
   (refine cov_of ?_ ?_ <;> simp [go_sem])
 ·have h1i : ¬ (i : Int) < N.length := by omega
  have hie : i = N.length := by omega
  (refine awp_sr fun KK hKK => ?_; simp [go_sem, h1, h1i]; ((repeat' (first|(refine ag_false ?_ ?_ ?_;(focus (simp [go_sem, undef, h1, h1i];done));(focus (simp [go_sem];done));simp [go_sem, h1, h1i])|(refine ag_true ?_ ?_;(focus (simp [go_sem, undef, h1, h1i];done));simp [go_sem, h1, h1i])|(refine ag_x ?_;simp [go_sem, undef, h1, h1i])|intro _|refine And.intro ?_ ?_|(apply hKK;clear hKK KK)));all_goals first|refine Hold.mk ?_|omega|with_reducible assumption|skip))
  (refine awp_if fun T F hT hF => ?_; simp [go_sem, h1, h1i]; refine hF ?_; clear hT hF T F)
  refine awp_exit ?_
  simp only [go_sem]
  rw [hie, List.take_length] at hT
  refine tl1 _ m hm hnm hT ?_
  (refine cov_of ?_ ?_ <;> simp [go_sem])
set_option maxHeartbeats 4000000 in
theorem lockWrites_spec (L : Lck) (l : List Int) (hZ : ZL L) (hl : l.length ≤ 9223372036854775807) : PCall Tryz.prog 5 [dLk L, dIs l] fun r => r = dB true := by 
 refine pcall_of Tryz.func5 rfl rfl Tryz.ntmps5 (rs := [.tmp 4]) (tys := [4]) rfl rfl (by simp) ?_
 have LG := large_spec L hZ
 have GR := grown_spec l hl
 have WL := writes_spec L
 obtain ⟨P0, N0, W0⟩ := L
 (refine awp_sr fun KK hKK => ?_; simp [go_sem]; ((repeat' (first|(refine ag_x ?_;simp [go_sem])|intro _|refine And.intro ?_ ?_|(apply hKK;clear hKK KK)));all_goals first|refine Hold.mk ?_|omega|with_reducible assumption|skip))
 (refine awp_sr fun KK hKK => ?_; simp [go_sem]; ((repeat' (first|(refine ag_false ?_ ?_ ?_;(focus (simp [go_sem, undef];done));(focus (simp [go_sem];done));simp [go_sem])|(refine ag_true ?_ ?_;(focus (simp [go_sem, undef];done));simp [go_sem])|(refine ag_x ?_;simp [go_sem, undef])|intro _|refine And.intro ?_ ?_|(apply hKK;clear hKK KK)));all_goals first|refine Hold.mk ?_|omega|with_reducible assumption|skip))
 (try refine CallT.toA ?_)
 refine callT_m (by first | exact .inl ⟨rfl, rfl⟩ | exact .inr rfl) (by simp [go_sem]) ?_
 intro args ha
 simp [go_sem] at ha
 subst ha
 refine ⟨_, LG, ?_⟩
 rintro _ ⟨b, hb, rfl⟩
 cases b with
 | true =>
  simp [go_sem]
  ((repeat' (first|(refine ag_false ?_ ?_ ?_;(focus (simp [go_sem, undef];done));(focus (simp [go_sem];done));simp [go_sem])|(refine ag_true ?_ ?_;(focus (simp [go_sem, undef];done));simp [go_sem])|(refine ag_x ?_;simp [go_sem, undef])|intro _|refine And.intro ?_ ?_|(apply hKK;clear hKK KK)));all_goals first|refine Hold.mk ?_|omega|with_reducible assumption|skip)
  (try refine CallT.toA ?_)
  refine callT_m (by first | exact .inl ⟨rfl, rfl⟩ | exact .inr rfl) (by simp [go_sem]) ?_
  intro args ha
  simp [go_sem] at ha
  subst ha
  refine ⟨_, GR, ?_⟩
  rintro _ ⟨⟨P, N, W⟩, hv, rfl⟩
  have hok := lkOk_of (lockV_sz hv)
  have O1 := of_spec (P, N, W) hok
  have W1 := writes_spec (P, N, W) hok
  simp [go_sem]
  ((repeat' (first|(refine ag_false ?_ ?_ ?_;(focus (simp [go_sem, undef];done));(focus (simp [go_sem];done));simp [go_sem])|(refine ag_true ?_ ?_;(focus (simp [go_sem, undef];done));simp [go_sem])|(refine ag_x ?_;simp [go_sem, undef])|intro _|refine And.intro ?_ ?_|(apply hKK;clear hKK KK)));all_goals first|refine Hold.mk ?_|omega|with_reducible assumption|skip)
  ((try refine CallT.toA ?_); refine callT_m (by first | exact .inl ⟨rfl, rfl⟩ | exact .inr rfl) (by simp [go_sem]) ?_; intro args ha; simp [go_sem] at ha; subst ha; refine ⟨_, O1, ?_⟩; rintro _ rfl; simp [go_sem]; ((repeat' (first|(refine ag_false ?_ ?_ ?_;(focus (simp [go_sem, undef];done));(focus (simp [go_sem];done));simp [go_sem])|(refine ag_true ?_ ?_;(focus (simp [go_sem, undef];done));simp [go_sem])|(refine ag_x ?_;simp [go_sem, undef])|intro _|refine And.intro ?_ ?_|(apply hKK;clear hKK KK)));all_goals first|refine Hold.mk ?_|omega|with_reducible assumption|skip))
  ((try refine CallT.toA ?_); refine callT_m (by first | exact .inl ⟨rfl, rfl⟩ | exact .inr rfl) (by simp [go_sem]) ?_; intro args ha; simp [go_sem] at ha; subst ha; refine ⟨_, W1, ?_⟩; rintro _ rfl; simp [go_sem]; ((repeat' (first|(refine ag_false ?_ ?_ ?_;(focus (simp [go_sem, undef];done));(focus (simp [go_sem];done));simp [go_sem])|(refine ag_true ?_ ?_;(focus (simp [go_sem, undef];done));simp [go_sem])|(refine ag_x ?_;simp [go_sem, undef])|intro _|refine And.intro ?_ ?_|(apply hKK;clear hKK KK)));all_goals first|refine Hold.mk ?_|omega|with_reducible assumption|skip))
  ((try refine CallT.toA ?_); refine callT_m (by first | exact .inl ⟨rfl, rfl⟩ | exact .inr rfl) (by simp [go_sem]) ?_; intro args ha; simp [go_sem] at ha; subst ha; refine ⟨_, sane_spec, ?_⟩; rintro _ rfl; simp [go_sem]; ((repeat' (first|(refine ag_false ?_ ?_ ?_;(focus (simp [go_sem, undef];done));(focus (simp [go_sem];done));simp [go_sem])|(refine ag_true ?_ ?_;(focus (simp [go_sem, undef];done));simp [go_sem])|(refine ag_x ?_;simp [go_sem, undef])|intro _|refine And.intro ?_ ?_|(apply hKK;clear hKK KK)));all_goals first|refine Hold.mk ?_|omega|with_reducible assumption|skip))
  (refine awp_ret ?_; simp [go_sem])
 | false =>
  have WL1 := WL (hb rfl)
  simp [go_sem]
  ((repeat' (first|(refine ag_false ?_ ?_ ?_;(focus (simp [go_sem, undef];done));(focus (simp [go_sem];done));simp [go_sem])|(refine ag_true ?_ ?_;(focus (simp [go_sem, undef];done));simp [go_sem])|(refine ag_x ?_;simp [go_sem, undef])|intro _|refine And.intro ?_ ?_|(apply hKK;clear hKK KK)));all_goals first|refine Hold.mk ?_|omega|with_reducible assumption|skip)
  ((try refine CallT.toA ?_); refine callT_m (by first | exact .inl ⟨rfl, rfl⟩ | exact .inr rfl) (by simp [go_sem]) ?_; intro args ha; simp [go_sem] at ha; subst ha; refine ⟨_, WL1, ?_⟩; rintro _ rfl; simp [go_sem]; ((repeat' (first|(refine ag_false ?_ ?_ ?_;(focus (simp [go_sem, undef];done));(focus (simp [go_sem];done));simp [go_sem])|(refine ag_true ?_ ?_;(focus (simp [go_sem, undef];done));simp [go_sem])|(refine ag_x ?_;simp [go_sem, undef])|intro _|refine And.intro ?_ ?_|(apply hKK;clear hKK KK)));all_goals first|refine Hold.mk ?_|omega|with_reducible assumption|skip))
  (try refine CallT.toA ?_)
  refine callT_m (by first | exact .inl ⟨rfl, rfl⟩ | exact .inr rfl) (by simp [go_sem]) ?_
  intro args ha
  simp [go_sem] at ha
  subst ha
  refine ⟨_, GR, ?_⟩
  rintro _ ⟨⟨P, N, W⟩, hv, rfl⟩
  have hok := lkOk_of (lockV_sz hv)
  have O1 := of_spec (P, N, W) hok
  have W1 := writes_spec (P, N, W) hok
  simp [go_sem]
  ((repeat' (first|(refine ag_false ?_ ?_ ?_;(focus (simp [go_sem, undef];done));(focus (simp [go_sem];done));simp [go_sem])|(refine ag_true ?_ ?_;(focus (simp [go_sem, undef];done));simp [go_sem])|(refine ag_x ?_;simp [go_sem, undef])|intro _|refine And.intro ?_ ?_|(apply hKK;clear hKK KK)));all_goals first|refine Hold.mk ?_|omega|with_reducible assumption|skip)
  ((try refine CallT.toA ?_); refine callT_m (by first | exact .inl ⟨rfl, rfl⟩ | exact .inr rfl) (by simp [go_sem]) ?_; intro args ha; simp [go_sem] at ha; subst ha; refine ⟨_, O1, ?_⟩; rintro _ rfl; simp [go_sem]; ((repeat' (first|(refine ag_false ?_ ?_ ?_;(focus (simp [go_sem, undef];done));(focus (simp [go_sem];done));simp [go_sem])|(refine ag_true ?_ ?_;(focus (simp [go_sem, undef];done));simp [go_sem])|(refine ag_x ?_;simp [go_sem, undef])|intro _|refine And.intro ?_ ?_|(apply hKK;clear hKK KK)));all_goals first|refine Hold.mk ?_|omega|with_reducible assumption|skip))
  ((try refine CallT.toA ?_); refine callT_m (by first | exact .inl ⟨rfl, rfl⟩ | exact .inr rfl) (by simp [go_sem]) ?_; intro args ha; simp [go_sem] at ha; subst ha; refine ⟨_, W1, ?_⟩; rintro _ rfl; simp [go_sem]; ((repeat' (first|(refine ag_false ?_ ?_ ?_;(focus (simp [go_sem, undef];done));(focus (simp [go_sem];done));simp [go_sem])|(refine ag_true ?_ ?_;(focus (simp [go_sem, undef];done));simp [go_sem])|(refine ag_x ?_;simp [go_sem, undef])|intro _|refine And.intro ?_ ?_|(apply hKK;clear hKK KK)));all_goals first|refine Hold.mk ?_|omega|with_reducible assumption|skip))
  ((try refine CallT.toA ?_); refine callT_m (by first | exact .inl ⟨rfl, rfl⟩ | exact .inr rfl) (by simp [go_sem]) ?_; intro args ha; simp [go_sem] at ha; subst ha; refine ⟨_, sane_spec, ?_⟩; rintro _ rfl; simp [go_sem]; ((repeat' (first|(refine ag_false ?_ ?_ ?_;(focus (simp [go_sem, undef];done));(focus (simp [go_sem];done));simp [go_sem])|(refine ag_true ?_ ?_;(focus (simp [go_sem, undef];done));simp [go_sem])|(refine ag_x ?_;simp [go_sem, undef])|intro _|refine And.intro ?_ ?_|(apply hKK;clear hKK KK)));all_goals first|refine Hold.mk ?_|omega|with_reducible assumption|skip))
  (refine awp_ret ?_; simp [go_sem])
end Go.Proofs.YtchnagdaljblnaaGreatDoor

namespace Go.Proofs.YtchnagdaljblnaaGreatDoor
open Go.Eng Go.WideShapes Go.Wh Go.Ver Go.Lk
set_option maxRecDepth 100000
/-! the parameters with their sizes -/
theorem oz_int : OpensZ Tryz.prog 3 (fun n : Int => cI n) InR := opensZ_int Tryz.underlying3
theorem oz_str : OpensZ Tryz.prog 9 (fun s : List UInt8 => [dS s]) (fun s => s.length ≤ 140737488355328) :=
 (opensZ_str Tryz.underlying9).iso (fun s => s.data.toList) (fun s => by cases s; simp) (fun s h => by
  have h : s.data.size ≤ reachBytes := h
  rw [Array.length_toList]
  unfold reachBytes at h
  omega)
theorem oz_ints : OpensZ Tryz.prog 24 (fun l : List Int => [dIs l]) (fun l => l.length ≤ 9223372036854775807 ∧ ∀ x ∈ l, InR x) :=
 (opensZ_slice 1 Tryz.underlying24 (by kernel_rfl) (by decide) (fun _ => rfl) oz_int).iso (fun l => l) (fun _ => rfl) (fun l h => ⟨h.2.1, h.2.2⟩)
theorem ovz_ints : OpensZV Tryz.prog 24 (fun l : List Int => dIs l) (fun l => l.length ≤ 9223372036854775807 ∧ ∀ x ∈ l, InR x) := opensZV_cell (by rw [Tryz.underlying24]; rfl) oz_ints
theorem oz_pick : OpensZ Tryz.prog 83 (fun x : Prs => cP x) Z1 := by
 have h := opensZ_struct (e := 2) Tryz.underlying83 rfl (by kernel_rfl) (opensZS_cons (n := 1) rfl (by kernel_rfl) oz_str (opensZS_cons (n := 1) rfl (by kernel_rfl) oz_str opensZS_nil))
 exact h.iso (fun x => (x.1, x.2.1)) (fun _ => rfl) (fun _ q => ⟨q.1, q.2.1⟩)
theorem oz_need : OpensZ Tryz.prog 100 (fun x : Prs => cP x) Z1 := by
 have h := opensZ_struct (e := 2) Tryz.underlying100 rfl (by kernel_rfl) (opensZS_cons (n := 1) rfl (by kernel_rfl) oz_str (opensZS_cons (n := 1) rfl (by kernel_rfl) oz_str opensZS_nil))
 exact h.iso (fun x => (x.1, x.2.1)) (fun _ => rfl) (fun _ q => ⟨q.1, q.2.1⟩)
theorem by83 : Tryz.prog.bytesOf 83 = 32 := by kernel_rfl
theorem by100 : Tryz.prog.bytesOf 100 = 32 := by kernel_rfl
theorem by43 : Tryz.prog.bytesOf 43 = 24 := by kernel_rfl
theorem reach_le {n k : Nat} (h : n * k ≤ reachBytes) (hk : 1 ≤ k) : n ≤ 140737488355328 := by
 have h1 : n * 1 ≤ n * k := Nat.mul_le_mul_left _ hk
 unfold reachBytes at h
 omega
theorem oz_picks : OpensZ Tryz.prog 41 (fun l : List Prs => [dPs l]) ZN :=
 (opensZ_slice 2 Tryz.underlying41 (by kernel_rfl) (by decide) (fun _ => rfl) oz_pick).iso (fun l => l) (fun _ => rfl) (fun l h => ⟨reach_le h.1 (by rw [by83]; decide), h.2.2⟩)
theorem oz_needs : OpensZ Tryz.prog 43 (fun l : List Prs => [dPs l]) ZN :=
 (opensZ_slice 2 Tryz.underlying43 (by kernel_rfl) (by decide) (fun _ => rfl) oz_need).iso (fun l => l) (fun _ => rfl) (fun l h => ⟨reach_le h.1 (by rw [by100]; decide), h.2.2⟩)
theorem oz_nds : OpensZ Tryz.prog 42 (fun l : List (List Prs) => [dNs l]) (fun l => l.length ≤ 140737488355328 ∧ ∀ r ∈ l, ZN r) :=
 (opensZ_slice 1 Tryz.underlying42 (by kernel_rfl) (by decide) (fun _ => rfl) oz_needs).iso (fun l => l) (fun _ => rfl) (fun l h => ⟨reach_le h.1 (by rw [by43]; decide), h.2.2⟩)
theorem oz_lock : OpensZ Tryz.prog 45 (fun L : Lck => [dPs L.1, dNs L.2.1, dPs L.2.2]) ZL := by
 have h := opensZ_struct (e := 3) Tryz.underlying45 rfl (by kernel_rfl) (opensZS_cons (n := 1) rfl (by kernel_rfl) oz_picks (opensZS_cons (n := 1) rfl (by kernel_rfl) oz_nds (opensZS_cons (n := 1) rfl (by kernel_rfl) oz_needs opensZS_nil)))
 exact h.iso (fun x => (x.1, x.2.1, x.2.2.1)) (fun _ => rfl) (fun _ q => ⟨q.1, q.2.1, q.2.2.1⟩)
theorem ovz_lock : OpensZV Tryz.prog 45 (fun L : Lck => dLk L) ZL := opensZV_agg Tryz.underlying45 oz_lock
/-- the wrap for a row that lists variables, the world's shape and the arguments' sizes handed over -/
theorem wrapZ {H : Type} {enc : TypeId × Value → H} {a : Assume} {C : Checked} {os : Os} {f : FuncId} {fn : Func} {s : ChangeSpec} {conds : List PathCond} {apart fresh handsOn again : Bool} {X : World → Array Value → Prop}
  (hX : ∀ (w w' : World) (args : Array Value), w.heap = w'.heap → X w args → X w' args)
  (own : ownKnob C.prog.godebug = none) (started : os.Started) (noInit : C.prog.inits.idxOf? f = none) (hfn : C.prog.funcs[f]? = some fn)
  (witness : ∃ (w : World) (tape : Tape) (i : Input), w.os = os ∧ (w.forCall tape i).Shaped C.prog ∧ i.vars = [] ∧ Input.okWide C.prog (w.forCall tape i) .any w.heap.size f i ∧
   ((s.pre enc C.prog fn conds apart (w.forCall tape i).memory i.args ∧ X (w.forCall tape i).memory i.args) ∧ sizedMet enc C.prog fn (OpenSpec.ofChange s) apart (w.forCall tape i).memory i.args) ∧ a.holds C.prog (lone (Frame.enter C.prog f i.args .normal) [] (w.forCall tape i)))
  (contract : ∀ (W : World) (base : Nat) (args : Array Value) (ds gs : List (DataW H)) (before : List MemPlace),
   (∀ (j : Nat) t v, fn.params[j]? = some t → args[j]? = some v → Value.okWide C.prog W .any base t v) →
   DataW.Whole enc C.prog fn.params.toList s.vars apart W args.toList ds gs before → sizedMet enc C.prog fn (OpenSpec.ofChange s) apart W args → X W args → W.ShapedOpen C.prog →
   Calls C.prog f args W fun e W' => ∃ v, e = .returned v ∧ s.post enc C.prog fn apart fresh handsOn again W args v W') :
  ReturnsInHanded a C os f .any (fun w args => (s.pre enc C.prog fn conds apart w args ∧ X w args) ∧ sizedMet enc C.prog fn (OpenSpec.ofChange s) apart w args) (s.post enc C.prog fn apart fresh handsOn again) := by
 refine returnsInHanded_of_calls own started noInit witness ?_
 intro w tape i _ hsh _ hok hpre hholds
 obtain ⟨_, _, _, fn', hfn', _, _, _, _, hval⟩ := hok
 have e : fn' = fn := Option.some.inj (hfn'.symm.trans hfn)
 subst e
 obtain ⟨⟨⟨ds, gs, before, hw, hc⟩, hx⟩, hp, dz, gz, bz, hwz, hlz⟩ := hpre
 have hw' := DataW.Whole.of_heap (w' := w.forCall tape i) (by rfl) hw
 have hwz' := DataW.Whole.of_heap (w' := w.forCall tape i) (by rfl) hwz
 refine (contract (w.forCall tape i) w.heap.size i.args ds gs before hval hw' ⟨hp, dz, gz, bz, hwz', hlz⟩ (hX _ _ _ (by rfl) hx) hsh).mono fun e W' ⟨v, he, hp⟩ => ?_
 subst he
 exact ChangeSpec.post_blind hp
end Go.Proofs.YtchnagdaljblnaaGreatDoor
