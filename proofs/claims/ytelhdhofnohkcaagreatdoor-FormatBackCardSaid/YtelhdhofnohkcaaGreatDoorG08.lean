/- Part of a proof: see the last text. -/
import Derived.Test.YtelhdhofnohkcaaGreatDoorG07
set_option linter.unusedVariables false
set_option linter.unusedSimpArgs false
namespace Go.Proofs.YtelhdhofnohkcaaGreatDoor
open Go.Eng Go.Fm
set_option maxRecDepth 20000
attribute [local irreducible] AG CallA CallT AWp PCall ACall AgC
set_option maxHeartbeats 8000000 in
theorem spint_spec (b : Nat) (hb : BR4 b) (n : Int) (hn : InR n) : PCall Tryz.prog 16 [dS (showB b n), dI b, dI 64] fun r => r = .tup [dI n, .v .nilIface] := by 
 refine pcall_of Tryz.func16 rfl rfl Tryz.ntmps16 (rs := [.tmp 6, .tmp 7]) (tys := [2, 44]) rfl rfl (by simp) ?_
 have H := pint_spec b hb n hn
 generalize showB b n = t at *
 (refine awp_sr fun Y Yh => ?_; simp [go_sem]; ((repeat' (first|(refine ag_x ?_;simp [go_sem])|intro _|apply And.intro|(apply Yh;clear Yh Y)));all_goals first|apply Hold.mk|omega|with_reducible assumption|skip))
 (refine awp_sr fun Y Yh => ?_; simp [go_sem]; ((repeat' (first|(refine ag_x ?_;simp [go_sem])|intro _|apply And.intro|(apply Yh;clear Yh Y)));all_goals first|apply Hold.mk|omega|with_reducible assumption|skip))
 ((try refine CallT.toA ?_); refine callT_m (.inl ⟨rfl,rfl⟩) (by simp [go_sem]) ?_; intro args ha; simp [go_sem] at ha; subst ha; refine ⟨_, H, ?_⟩; rintro _ rfl; simp [go_sem]; ((repeat' (first|(refine ag_x ?_;simp [go_sem])|intro _|apply And.intro|(apply Yh;clear Yh Y)));all_goals first|apply Hold.mk|omega|with_reducible assumption|skip))
 refine awp_seq_k fun K1 hK1 => ?_
 (refine awp_sr fun Y Yh => ?_; simp [go_sem, if44]; ((repeat' (first|(refine ag_false ?_ ?_ ?_;(focus (simp [go_sem, undef, if44];done));(focus (simp [go_sem];done));simp [go_sem, if44])|(refine ag_x ?_;simp [go_sem, undef, if44])|intro _|apply And.intro|(apply Yh;clear Yh Y)));all_goals first|apply Hold.mk|omega|with_reducible assumption|skip))
 (refine awp_if fun T F hT hF => ?_; simp [go_sem]; refine hF ?_; clear hT hF T F)
 refine awp_skip ?_
 refine hK1 _ ?_; clear hK1
 (refine awp_sr fun Y Yh => ?_; simp [go_sem]; ((repeat' (first|(refine ag_x ?_;simp [go_sem])|intro _|apply And.intro|(apply Yh;clear Yh Y)));all_goals first|apply Hold.mk|omega|with_reducible assumption|skip))
 (refine awp_ret ?_; simp [go_sem])
theorem br_bk {c : UInt8} (h : c ∈ bkL) : BR4 (baseV c) := by
 simp only [bkL, List.mem_cons, List.not_mem_nil, or_false] at h
 rcases h with rfl | rfl | rfl | rfl <;> simp [BR4, baseV]
theorem rdp {c : UInt8} (h : c ∈ bkL) : ∀ f ∈ [fdL c false false], f.lt ≠ 112 := by
 intro f hf
 simp only [List.mem_singleton] at hf
 subst hf
 intro q
 have : c = 112 := q
 rw [this] at h; exact absurd h (by decide)
theorem rds {c : UInt8} (h : c ∈ bkL) : ∀ f ∈ [fdL c true true], f.lt ≠ 112 := by
 intro f hf
 simp only [List.mem_singleton] at hf
 subst hf
 intro q
 have : c = 112 := q
 rw [this] at h; exact absurd h (by decide)
theorem rplain {n : Int} (hn : InR n) {c : UInt8} (hc : c ∈ bkL) : PCall Tryz.prog 13 [dS [37, c], dAs [agI n]] fun r => r = .tup [dS (showB (baseV c) n), dI (0 : Nat)] := by
 have := form_np (args := [agI n]) (ags1 (agI_ok hn)) (by simp) (read_plain c hc) (rdp hc) (run_plain c hc n (by simp only [InR] at hn; omega))
 exact this
theorem rsign {n : Int} (hn : InR n) {c : UInt8} (hc : c ∈ bkL) : ∃ r, PCall Tryz.prog 13 [dS [37, 43, 35, c], dAs [agI n]] fun x => x = .tup [dS ((if n < 0 then 45 else 43) :: r), dI (0 : Nat)] := by
 obtain ⟨r, h⟩ := run_sign c hc n (by simp only [InR] at hn; omega)
 exact ⟨r, form_np (args := [agI n]) (ags1 (agI_ok hn)) (by simp) (read_sign c hc) (rds hc) h⟩
set_option maxHeartbeats 8000000 in
theorem back_spec (n : Int) (hn : InR n) : PCall Tryz.prog 6 [dI n] fun r => r = dB true := by 
 refine pcall_of Tryz.func6 rfl rfl Tryz.ntmps6 (rs := [.tmp 2]) (tys := [4]) rfl rfl (by simp) ?_
 (refine awp_sr fun Y Yh => ?_; simp [go_sem]; ((repeat' (first|(refine ag_x ?_;simp [go_sem])|intro _|apply And.intro|(apply Yh;clear Yh Y)));all_goals first|apply Hold.mk|omega|with_reducible assumption|skip))
 (refine awp_sr fun Y Yh => ?_; simp [go_sem]; ((repeat' (first|(refine ag_x ?_;simp [go_sem])|intro _|apply And.intro|(apply Yh;clear Yh Y)));all_goals first|apply Hold.mk|omega|with_reducible assumption|skip))
 (refine awp_sr fun Y Yh => ?_; simp [go_sem]; ((repeat' (first|(refine ag_x ?_;simp [go_sem])|intro _|apply And.intro|(apply Yh;clear Yh Y)));all_goals first|apply Hold.mk|omega|with_reducible assumption|skip))
 rename_i g1 g2
 refine awp_seq_k fun K1 hK1 => ?_
 (refine awp_sr fun Y Yh => ?_; simp [go_sem]; ((repeat' (first|(refine ag_x ?_;simp [go_sem])|intro _|apply And.intro|(apply Yh;clear Yh Y)));all_goals first|apply Hold.mk|omega|with_reducible assumption|skip))
 refine awp_block ?_
 refine awp_loop (σ := Nat) (fun x => ⟨[(0, dI n), (3, .own 12 g1), (4, .own 13 g2), (5, dI x)], [(13, g2, .row 3 1 [[dI 10], [dI 16], [dI 8], [dI 2]]), (12, g1, .row 9 1 [[dS [100]], [dS [120]], [dS [111]], [dS [98]]])]⟩) (fun x => x ≤ 4) (fun x => 4 - x) 0 ?_ ?_ ?_
 ·(refine cov_of ?_ ?_ <;> simp [go_sem])
 ·simp
 intro x hx
 refine awp_seq_k fun K2 hK2 => ?_
 (refine awp_sr fun Y Yh => ?_; simp [go_sem]; ((repeat' (first|(refine ag_x ?_;simp [go_sem])|intro _|apply And.intro|(apply Yh;clear Yh Y)));all_goals first|apply Hold.mk|omega|with_reducible assumption|skip))
 by_cases h3 : x < 4
 ·have h3' : (x : Int) < 4 := by omega
  (refine awp_if fun T F hT hF => ?_; simp [go_sem, h3']; refine hT ?_; clear hT hF T F)
  refine awp_skip ?_
  refine hK2 _ ?_; clear hK2
  refine awp_seq_k fun K4 hK4 => ?_
  refine awp_block ?_
  have hx' : x = 0 ∨ x = 1 ∨ x = 2 ∨ x = 3 := by omega
  rcases hx' with rfl | rfl | rfl | rfl
  ·have B := br_bk (c := 100) (by decide)
   have P := rplain hn (c := 100) (by decide)
   have I := spint_spec _ B n hn
   obtain ⟨r, G⟩ := rsign hn (c := 100) (by decide)
   simp only [dAs, List.map_cons, List.map_nil, agI] at P G
   simp only [show baseV 100 = 10 from rfl, show baseV 120 = 16 from rfl, show baseV 111 = 8 from rfl, show baseV 98 = 2 from rfl] at P I
   generalize showB _ n = t at *
   (refine awp_sr fun Y Yh => ?_; simp [go_sem, ba_app]; ((repeat' (first|(refine ag_x ?_;simp [go_sem, ba_app])|intro _|apply And.intro|(apply Yh;clear Yh Y)));all_goals first|apply Hold.mk|omega|with_reducible assumption|skip))
   ((try refine CallT.toA ?_); refine callT_f (.inl ⟨rfl,rfl⟩) ?_; intro args ha; simp [go_sem] at ha; subst ha; refine ⟨_, P, ?_⟩; rintro _ rfl; refine ⟨rfl, ?_⟩; simp [go_sem]; ((repeat' (first|(refine ag_x ?_;simp [go_sem])|intro _|apply And.intro|(apply Yh;clear Yh Y)));all_goals first|apply Hold.mk|omega|with_reducible assumption|skip))
   (refine awp_sr fun Y Yh => ?_; simp [go_sem]; ((repeat' (first|(refine ag_x ?_;simp [go_sem])|intro _|apply And.intro|(apply Yh;clear Yh Y)));all_goals first|apply Hold.mk|omega|with_reducible assumption|skip))
   ((try refine CallT.toA ?_); refine callT_m (.inl ⟨rfl,rfl⟩) (by simp [go_sem]) ?_; intro args ha; simp [go_sem] at ha; subst ha; refine ⟨_, I, ?_⟩; rintro _ rfl; simp [go_sem]; ((repeat' (first|(refine ag_x ?_;simp [go_sem])|intro _|apply And.intro|(apply Yh;clear Yh Y)));all_goals first|apply Hold.mk|omega|with_reducible assumption|skip))
   refine awp_seq_k fun K5 hK5 => ?_
   (refine awp_sr fun Y Yh => ?_; simp [go_sem, if44]; ((repeat' (first|(refine ag_false ?_ ?_ ?_;(focus (simp [go_sem, undef, if44];done));(focus (simp [go_sem];done));simp [go_sem, if44])|(refine ag_x ?_;simp [go_sem, undef, if44])|intro _|apply And.intro|(apply Yh;clear Yh Y)));all_goals first|apply Hold.mk|omega|with_reducible assumption|skip))
   (refine awp_if fun T F hT hF => ?_; simp [go_sem]; refine hF ?_; clear hT hF T F)
   refine awp_skip ?_
   refine hK5 _ ?_; clear hK5
   (refine awp_sr fun Y Yh => ?_; simp [go_sem, ba_app]; ((repeat' (first|(refine ag_x ?_;simp [go_sem, ba_app])|intro _|apply And.intro|(apply Yh;clear Yh Y)));all_goals first|apply Hold.mk|omega|with_reducible assumption|skip))
   ((try refine CallT.toA ?_); refine callT_f (.inl ⟨rfl,rfl⟩) ?_; intro args ha; simp [go_sem] at ha; subst ha; refine ⟨_, G, ?_⟩; rintro _ rfl; refine ⟨rfl, ?_⟩; simp [go_sem]; ((repeat' (first|(refine ag_x ?_;simp [go_sem])|intro _|apply And.intro|(apply Yh;clear Yh Y)));all_goals first|apply Hold.mk|omega|with_reducible assumption|skip))
   by_cases hs : n < 0
   ·have hs' : ¬ 0 ≤ n := by omega
    simp only [hs, if_true]
    (refine awp_sr fun Y Yh => ?_; simp [go_sem, hs, hs', ba_size, ba_cut]; ((repeat' (first|(refine ag_false ?_ ?_ ?_;(focus (simp [go_sem, undef, hs, hs', ba_size, ba_cut];done));(focus (simp [go_sem];done));simp [go_sem, hs, hs', ba_size, ba_cut])|(refine ag_x ?_;simp [go_sem, undef, hs, hs', ba_size, ba_cut])|intro _|apply And.intro|(apply Yh;clear Yh Y)));all_goals first|apply Hold.mk|omega|with_reducible assumption|skip))
    (refine awp_if fun T F hT hF => ?_; simp [go_sem]; refine hF ?_; clear hT hF T F)
    refine awp_skip ?_
    refine hK4 _ ?_; clear hK4
    (refine awp_r fun Y Yh => ?_; simp [go_sem]; ((repeat' (first|(refine ag_x ?_;simp [go_sem])|intro _|apply And.intro|(apply Yh;clear Yh Y)));all_goals first|apply Hold.mk|omega|with_reducible assumption|skip))
    refine ⟨(1 : Nat), ?_, by omega, by omega⟩
    (refine cov_of ?_ ?_ <;> simp [go_sem])
   ·have hs' : 0 ≤ n := by omega
    simp only [hs, if_false]
    (refine awp_sr fun Y Yh => ?_; simp [go_sem, hs, hs', ba_size, ba_cut]; ((repeat' (first|(refine ag_false ?_ ?_ ?_;(focus (simp [go_sem, undef, hs, hs', ba_size, ba_cut];done));(focus (simp [go_sem];done));simp [go_sem, hs, hs', ba_size, ba_cut])|(refine ag_x ?_;simp [go_sem, undef, hs, hs', ba_size, ba_cut])|intro _|apply And.intro|(apply Yh;clear Yh Y)));all_goals first|apply Hold.mk|omega|with_reducible assumption|skip))
    (refine awp_if fun T F hT hF => ?_; simp [go_sem]; refine hF ?_; clear hT hF T F)
    refine awp_skip ?_
    refine hK4 _ ?_; clear hK4
    (refine awp_r fun Y Yh => ?_; simp [go_sem]; ((repeat' (first|(refine ag_x ?_;simp [go_sem])|intro _|apply And.intro|(apply Yh;clear Yh Y)));all_goals first|apply Hold.mk|omega|with_reducible assumption|skip))
    refine ⟨(1 : Nat), ?_, by omega, by omega⟩
    (refine cov_of ?_ ?_ <;> simp [go_sem])
  ·have B := br_bk (c := 120) (by decide)
   have P := rplain hn (c := 120) (by decide)
   have I := spint_spec _ B n hn
   obtain ⟨r, G⟩ := rsign hn (c := 120) (by decide)
   simp only [dAs, List.map_cons, List.map_nil, agI] at P G
   simp only [show baseV 100 = 10 from rfl, show baseV 120 = 16 from rfl, show baseV 111 = 8 from rfl, show baseV 98 = 2 from rfl] at P I
   generalize showB _ n = t at *
   (refine awp_sr fun Y Yh => ?_; simp [go_sem, ba_app]; ((repeat' (first|(refine ag_x ?_;simp [go_sem, ba_app])|intro _|apply And.intro|(apply Yh;clear Yh Y)));all_goals first|apply Hold.mk|omega|with_reducible assumption|skip))
   ((try refine CallT.toA ?_); refine callT_f (.inl ⟨rfl,rfl⟩) ?_; intro args ha; simp [go_sem] at ha; subst ha; refine ⟨_, P, ?_⟩; rintro _ rfl; refine ⟨rfl, ?_⟩; simp [go_sem]; ((repeat' (first|(refine ag_x ?_;simp [go_sem])|intro _|apply And.intro|(apply Yh;clear Yh Y)));all_goals first|apply Hold.mk|omega|with_reducible assumption|skip))
   (refine awp_sr fun Y Yh => ?_; simp [go_sem]; ((repeat' (first|(refine ag_x ?_;simp [go_sem])|intro _|apply And.intro|(apply Yh;clear Yh Y)));all_goals first|apply Hold.mk|omega|with_reducible assumption|skip))
   ((try refine CallT.toA ?_); refine callT_m (.inl ⟨rfl,rfl⟩) (by simp [go_sem]) ?_; intro args ha; simp [go_sem] at ha; subst ha; refine ⟨_, I, ?_⟩; rintro _ rfl; simp [go_sem]; ((repeat' (first|(refine ag_x ?_;simp [go_sem])|intro _|apply And.intro|(apply Yh;clear Yh Y)));all_goals first|apply Hold.mk|omega|with_reducible assumption|skip))
   refine awp_seq_k fun K5 hK5 => ?_
   (refine awp_sr fun Y Yh => ?_; simp [go_sem, if44]; ((repeat' (first|(refine ag_false ?_ ?_ ?_;(focus (simp [go_sem, undef, if44];done));(focus (simp [go_sem];done));simp [go_sem, if44])|(refine ag_x ?_;simp [go_sem, undef, if44])|intro _|apply And.intro|(apply Yh;clear Yh Y)));all_goals first|apply Hold.mk|omega|with_reducible assumption|skip))
   (refine awp_if fun T F hT hF => ?_; simp [go_sem]; refine hF ?_; clear hT hF T F)
   refine awp_skip ?_
   refine hK5 _ ?_; clear hK5
   (refine awp_sr fun Y Yh => ?_; simp [go_sem, ba_app]; ((repeat' (first|(refine ag_x ?_;simp [go_sem, ba_app])|intro _|apply And.intro|(apply Yh;clear Yh Y)));all_goals first|apply Hold.mk|omega|with_reducible assumption|skip))
   ((try refine CallT.toA ?_); refine callT_f (.inl ⟨rfl,rfl⟩) ?_; intro args ha; simp [go_sem] at ha; subst ha; refine ⟨_, G, ?_⟩; rintro _ rfl; refine ⟨rfl, ?_⟩; simp [go_sem]; ((repeat' (first|(refine ag_x ?_;simp [go_sem])|intro _|apply And.intro|(apply Yh;clear Yh Y)));all_goals first|apply Hold.mk|omega|with_reducible assumption|skip))
   by_cases hs : n < 0
   ·have hs' : ¬ 0 ≤ n := by omega
    simp only [hs, if_true]
    (refine awp_sr fun Y Yh => ?_; simp [go_sem, hs, hs', ba_size, ba_cut]; ((repeat' (first|(refine ag_false ?_ ?_ ?_;(focus (simp [go_sem, undef, hs, hs', ba_size, ba_cut];done));(focus (simp [go_sem];done));simp [go_sem, hs, hs', ba_size, ba_cut])|(refine ag_x ?_;simp [go_sem, undef, hs, hs', ba_size, ba_cut])|intro _|apply And.intro|(apply Yh;clear Yh Y)));all_goals first|apply Hold.mk|omega|with_reducible assumption|skip))
    (refine awp_if fun T F hT hF => ?_; simp [go_sem]; refine hF ?_; clear hT hF T F)
    refine awp_skip ?_
    refine hK4 _ ?_; clear hK4
    (refine awp_r fun Y Yh => ?_; simp [go_sem]; ((repeat' (first|(refine ag_x ?_;simp [go_sem])|intro _|apply And.intro|(apply Yh;clear Yh Y)));all_goals first|apply Hold.mk|omega|with_reducible assumption|skip))
    refine ⟨(2 : Nat), ?_, by omega, by omega⟩
    (refine cov_of ?_ ?_ <;> simp [go_sem])
   ·have hs' : 0 ≤ n := by omega
    simp only [hs, if_false]
    (refine awp_sr fun Y Yh => ?_; simp [go_sem, hs, hs', ba_size, ba_cut]; ((repeat' (first|(refine ag_false ?_ ?_ ?_;(focus (simp [go_sem, undef, hs, hs', ba_size, ba_cut];done));(focus (simp [go_sem];done));simp [go_sem, hs, hs', ba_size, ba_cut])|(refine ag_x ?_;simp [go_sem, undef, hs, hs', ba_size, ba_cut])|intro _|apply And.intro|(apply Yh;clear Yh Y)));all_goals first|apply Hold.mk|omega|with_reducible assumption|skip))
    (refine awp_if fun T F hT hF => ?_; simp [go_sem]; refine hF ?_; clear hT hF T F)
    refine awp_skip ?_
    refine hK4 _ ?_; clear hK4
    (refine awp_r fun Y Yh => ?_; simp [go_sem]; ((repeat' (first|(refine ag_x ?_;simp [go_sem])|intro _|apply And.intro|(apply Yh;clear Yh Y)));all_goals first|apply Hold.mk|omega|with_reducible assumption|skip))
    refine ⟨(2 : Nat), ?_, by omega, by omega⟩
    (refine cov_of ?_ ?_ <;> simp [go_sem])
  ·have B := br_bk (c := 111) (by decide)
   have P := rplain hn (c := 111) (by decide)
   have I := spint_spec _ B n hn
   obtain ⟨r, G⟩ := rsign hn (c := 111) (by decide)
   simp only [dAs, List.map_cons, List.map_nil, agI] at P G
   simp only [show baseV 100 = 10 from rfl, show baseV 120 = 16 from rfl, show baseV 111 = 8 from rfl, show baseV 98 = 2 from rfl] at P I
   generalize showB _ n = t at *
   (refine awp_sr fun Y Yh => ?_; simp [go_sem, ba_app]; ((repeat' (first|(refine ag_x ?_;simp [go_sem, ba_app])|intro _|apply And.intro|(apply Yh;clear Yh Y)));all_goals first|apply Hold.mk|omega|with_reducible assumption|skip))
   ((try refine CallT.toA ?_); refine callT_f (.inl ⟨rfl,rfl⟩) ?_; intro args ha; simp [go_sem] at ha; subst ha; refine ⟨_, P, ?_⟩; rintro _ rfl; refine ⟨rfl, ?_⟩; simp [go_sem]; ((repeat' (first|(refine ag_x ?_;simp [go_sem])|intro _|apply And.intro|(apply Yh;clear Yh Y)));all_goals first|apply Hold.mk|omega|with_reducible assumption|skip))
   (refine awp_sr fun Y Yh => ?_; simp [go_sem]; ((repeat' (first|(refine ag_x ?_;simp [go_sem])|intro _|apply And.intro|(apply Yh;clear Yh Y)));all_goals first|apply Hold.mk|omega|with_reducible assumption|skip))
   ((try refine CallT.toA ?_); refine callT_m (.inl ⟨rfl,rfl⟩) (by simp [go_sem]) ?_; intro args ha; simp [go_sem] at ha; subst ha; refine ⟨_, I, ?_⟩; rintro _ rfl; simp [go_sem]; ((repeat' (first|(refine ag_x ?_;simp [go_sem])|intro _|apply And.intro|(apply Yh;clear Yh Y)));all_goals first|apply Hold.mk|omega|with_reducible assumption|skip))
   refine awp_seq_k fun K5 hK5 => ?_
   (refine awp_sr fun Y Yh => ?_; simp [go_sem, if44]; ((repeat' (first|(refine ag_false ?_ ?_ ?_;(focus (simp [go_sem, undef, if44];done));(focus (simp [go_sem];done));simp [go_sem, if44])|(refine ag_x ?_;simp [go_sem, undef, if44])|intro _|apply And.intro|(apply Yh;clear Yh Y)));all_goals first|apply Hold.mk|omega|with_reducible assumption|skip))
   (refine awp_if fun T F hT hF => ?_; simp [go_sem]; refine hF ?_; clear hT hF T F)
   refine awp_skip ?_
   refine hK5 _ ?_; clear hK5
   (refine awp_sr fun Y Yh => ?_; simp [go_sem, ba_app]; ((repeat' (first|(refine ag_x ?_;simp [go_sem, ba_app])|intro _|apply And.intro|(apply Yh;clear Yh Y)));all_goals first|apply Hold.mk|omega|with_reducible assumption|skip))
   ((try refine CallT.toA ?_); refine callT_f (.inl ⟨rfl,rfl⟩) ?_; intro args ha; simp [go_sem] at ha; subst ha; refine ⟨_, G, ?_⟩; rintro _ rfl; refine ⟨rfl, ?_⟩; simp [go_sem]; ((repeat' (first|(refine ag_x ?_;simp [go_sem])|intro _|apply And.intro|(apply Yh;clear Yh Y)));all_goals first|apply Hold.mk|omega|with_reducible assumption|skip))
   by_cases hs : n < 0
   ·have hs' : ¬ 0 ≤ n := by omega
    simp only [hs, if_true]
    (refine awp_sr fun Y Yh => ?_; simp [go_sem, hs, hs', ba_size, ba_cut]; ((repeat' (first|(refine ag_false ?_ ?_ ?_;(focus (simp [go_sem, undef, hs, hs', ba_size, ba_cut];done));(focus (simp [go_sem];done));simp [go_sem, hs, hs', ba_size, ba_cut])|(refine ag_x ?_;simp [go_sem, undef, hs, hs', ba_size, ba_cut])|intro _|apply And.intro|(apply Yh;clear Yh Y)));all_goals first|apply Hold.mk|omega|with_reducible assumption|skip))
    (refine awp_if fun T F hT hF => ?_; simp [go_sem]; refine hF ?_; clear hT hF T F)
    refine awp_skip ?_
    refine hK4 _ ?_; clear hK4
    (refine awp_r fun Y Yh => ?_; simp [go_sem]; ((repeat' (first|(refine ag_x ?_;simp [go_sem])|intro _|apply And.intro|(apply Yh;clear Yh Y)));all_goals first|apply Hold.mk|omega|with_reducible assumption|skip))
    refine ⟨(3 : Nat), ?_, by omega, by omega⟩
    (refine cov_of ?_ ?_ <;> simp [go_sem])
   ·have hs' : 0 ≤ n := by omega
    simp only [hs, if_false]
    (refine awp_sr fun Y Yh => ?_; simp [go_sem, hs, hs', ba_size, ba_cut]; ((repeat' (first|(refine ag_false ?_ ?_ ?_;(focus (simp [go_sem, undef, hs, hs', ba_size, ba_cut];done));(focus (simp [go_sem];done));simp [go_sem, hs, hs', ba_size, ba_cut])|(refine ag_x ?_;simp [go_sem, undef, hs, hs', ba_size, ba_cut])|intro _|apply And.intro|(apply Yh;clear Yh Y)));all_goals first|apply Hold.mk|omega|with_reducible assumption|skip))
    (refine awp_if fun T F hT hF => ?_; simp [go_sem]; refine hF ?_; clear hT hF T F)
    refine awp_skip ?_
    refine hK4 _ ?_; clear hK4
    (refine awp_r fun Y Yh => ?_; simp [go_sem]; ((repeat' (first|(refine ag_x ?_;simp [go_sem])|intro _|apply And.intro|(apply Yh;clear Yh Y)));all_goals first|apply Hold.mk|omega|with_reducible assumption|skip))
    refine ⟨(3 : Nat), ?_, by omega, by omega⟩
    (refine cov_of ?_ ?_ <;> simp [go_sem])
  ·have B := br_bk (c := 98) (by decide)
   have P := rplain hn (c := 98) (by decide)
   have I := spint_spec _ B n hn
   obtain ⟨r, G⟩ := rsign hn (c := 98) (by decide)
   simp only [dAs, List.map_cons, List.map_nil, agI] at P G
   simp only [show baseV 100 = 10 from rfl, show baseV 120 = 16 from rfl, show baseV 111 = 8 from rfl, show baseV 98 = 2 from rfl] at P I
   generalize showB _ n = t at *
   (refine awp_sr fun Y Yh => ?_; simp [go_sem, ba_app]; ((repeat' (first|(refine ag_x ?_;simp [go_sem, ba_app])|intro _|apply And.intro|(apply Yh;clear Yh Y)));all_goals first|apply Hold.mk|omega|with_reducible assumption|skip))
   ((try refine CallT.toA ?_); refine callT_f (.inl ⟨rfl,rfl⟩) ?_; intro args ha; simp [go_sem] at ha; subst ha; refine ⟨_, P, ?_⟩; rintro _ rfl; refine ⟨rfl, ?_⟩; simp [go_sem]; ((repeat' (first|(refine ag_x ?_;simp [go_sem])|intro _|apply And.intro|(apply Yh;clear Yh Y)));all_goals first|apply Hold.mk|omega|with_reducible assumption|skip))
   (refine awp_sr fun Y Yh => ?_; simp [go_sem]; ((repeat' (first|(refine ag_x ?_;simp [go_sem])|intro _|apply And.intro|(apply Yh;clear Yh Y)));all_goals first|apply Hold.mk|omega|with_reducible assumption|skip))
   ((try refine CallT.toA ?_); refine callT_m (.inl ⟨rfl,rfl⟩) (by simp [go_sem]) ?_; intro args ha; simp [go_sem] at ha; subst ha; refine ⟨_, I, ?_⟩; rintro _ rfl; simp [go_sem]; ((repeat' (first|(refine ag_x ?_;simp [go_sem])|intro _|apply And.intro|(apply Yh;clear Yh Y)));all_goals first|apply Hold.mk|omega|with_reducible assumption|skip))
   refine awp_seq_k fun K5 hK5 => ?_
   (refine awp_sr fun Y Yh => ?_; simp [go_sem, if44]; ((repeat' (first|(refine ag_false ?_ ?_ ?_;(focus (simp [go_sem, undef, if44];done));(focus (simp [go_sem];done));simp [go_sem, if44])|(refine ag_x ?_;simp [go_sem, undef, if44])|intro _|apply And.intro|(apply Yh;clear Yh Y)));all_goals first|apply Hold.mk|omega|with_reducible assumption|skip))
   (refine awp_if fun T F hT hF => ?_; simp [go_sem]; refine hF ?_; clear hT hF T F)
   refine awp_skip ?_
   refine hK5 _ ?_; clear hK5
   (refine awp_sr fun Y Yh => ?_; simp [go_sem, ba_app]; ((repeat' (first|(refine ag_x ?_;simp [go_sem, ba_app])|intro _|apply And.intro|(apply Yh;clear Yh Y)));all_goals first|apply Hold.mk|omega|with_reducible assumption|skip))
   ((try refine CallT.toA ?_); refine callT_f (.inl ⟨rfl,rfl⟩) ?_; intro args ha; simp [go_sem] at ha; subst ha; refine ⟨_, G, ?_⟩; rintro _ rfl; refine ⟨rfl, ?_⟩; simp [go_sem]; ((repeat' (first|(refine ag_x ?_;simp [go_sem])|intro _|apply And.intro|(apply Yh;clear Yh Y)));all_goals first|apply Hold.mk|omega|with_reducible assumption|skip))
   by_cases hs : n < 0
   ·have hs' : ¬ 0 ≤ n := by omega
    simp only [hs, if_true]
    (refine awp_sr fun Y Yh => ?_; simp [go_sem, hs, hs', ba_size, ba_cut]; ((repeat' (first|(refine ag_false ?_ ?_ ?_;(focus (simp [go_sem, undef, hs, hs', ba_size, ba_cut];done));(focus (simp [go_sem];done));simp [go_sem, hs, hs', ba_size, ba_cut])|(refine ag_x ?_;simp [go_sem, undef, hs, hs', ba_size, ba_cut])|intro _|apply And.intro|(apply Yh;clear Yh Y)));all_goals first|apply Hold.mk|omega|with_reducible assumption|skip))
    (refine awp_if fun T F hT hF => ?_; simp [go_sem]; refine hF ?_; clear hT hF T F)
    refine awp_skip ?_
    refine hK4 _ ?_; clear hK4
    (refine awp_r fun Y Yh => ?_; simp [go_sem]; ((repeat' (first|(refine ag_x ?_;simp [go_sem])|intro _|apply And.intro|(apply Yh;clear Yh Y)));all_goals first|apply Hold.mk|omega|with_reducible assumption|skip))
    refine ⟨(4 : Nat), ?_, by omega, by omega⟩
    (refine cov_of ?_ ?_ <;> simp [go_sem])
   ·have hs' : 0 ≤ n := by omega
    simp only [hs, if_false]
    (refine awp_sr fun Y Yh => ?_; simp [go_sem, hs, hs', ba_size, ba_cut]; ((repeat' (first|(refine ag_false ?_ ?_ ?_;(focus (simp [go_sem, undef, hs, hs', ba_size, ba_cut];done));(focus (simp [go_sem];done));simp [go_sem, hs, hs', ba_size, ba_cut])|(refine ag_x ?_;simp [go_sem, undef, hs, hs', ba_size, ba_cut])|intro _|apply And.intro|(apply Yh;clear Yh Y)));all_goals first|apply Hold.mk|omega|with_reducible assumption|skip))
    (refine awp_if fun T F hT hF => ?_; simp [go_sem]; refine hF ?_; clear hT hF T F)
    refine awp_skip ?_
    refine hK4 _ ?_; clear hK4
    (refine awp_r fun Y Yh => ?_; simp [go_sem]; ((repeat' (first|(refine ag_x ?_;simp [go_sem])|intro _|apply And.intro|(apply Yh;clear Yh Y)));all_goals first|apply Hold.mk|omega|with_reducible assumption|skip))
    refine ⟨(4 : Nat), ?_, by omega, by omega⟩
    (refine cov_of ?_ ?_ <;> simp [go_sem])
 ·have h3' : ¬ (x : Int) < 4 := by omega
  (refine awp_if fun T F hT hF => ?_; simp [go_sem, h3']; refine hF ?_; clear hT hF T F)
  refine awp_exit ?_
  simp only [go_sem]
  refine hK1 _ ?_; clear hK1
  (refine awp_sr fun Y Yh => ?_; simp [go_sem]; ((repeat' (first|(refine ag_x ?_;simp [go_sem])|intro _|apply And.intro|(apply Yh;clear Yh Y)));all_goals first|apply Hold.mk|omega|with_reducible assumption|skip))
  ((try refine CallT.toA ?_); refine callT_m (.inl ⟨rfl,rfl⟩) (by simp [go_sem]) ?_; intro args ha; simp [go_sem] at ha; subst ha; refine ⟨_, sane_spec, ?_⟩; rintro _ rfl; simp [go_sem]; ((repeat' (first|(refine ag_x ?_;simp [go_sem])|intro _|apply And.intro|(apply Yh;clear Yh Y)));all_goals first|apply Hold.mk|omega|with_reducible assumption|skip))
  (refine awp_ret ?_; simp [go_sem])
end Go.Proofs.YtelhdhofnohkcaaGreatDoor
