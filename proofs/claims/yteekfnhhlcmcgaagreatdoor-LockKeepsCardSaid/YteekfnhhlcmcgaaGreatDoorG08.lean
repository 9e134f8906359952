/- Part of a proof: see the last text. -/
import Derived.Test.YteekfnhhlcmcgaaGreatDoorG07
import Derived.Lib.ItoaLen
import Derived.Lib.SlicesCompact
import Derived.Sort.Walk0
set_option linter.unusedVariables false
set_option linter.unusedSimpArgs false
namespace Go.Proofs.YteekfnhhlcmcgaaGreatDoor
open Go.Eng Go.Wh Go.Ver Go.RowKit Go.Lk
set_option maxRecDepth 20000
attribute [local irreducible] AG CallA CallT AWp PCall ACall AgC
@[go_sem] abbrev cVr (v : Vrs) : List D := [dS v.1, dPs v.2]
@[go_sem] abbrev dVr (v : Vrs) : D := .agg [dS v.1, dPs v.2]
@[go_sem] abbrev dVrs (l : List Vrs) : D := .sl 2 (l.map cVr)
@[go_sem] abbrev cGm (g : Gm) : List D := [dS g.1, dVrs g.2]
@[go_sem] abbrev dGms (s : Src) : D := .sl 2 (s.map cGm)
@[go_sem] abbrev dSrc (s : Src) : D := .agg [dGms s]
theorem codeP_b (b : Bool) : codeP b = if b = true then 0 else 4 := rfl
set_option maxHeartbeats 8000000 in
theorem nu_spec (l : List Prs) (most : Nat) (hl : SzN l) (hm : most ≤ 1000000) : PCall Tryz.prog 107 [dPs l, dI most] fun r => r = dB (nuV most l) := by 
 refine pcall_of Tryz.func107 rfl rfl Tryz.ntmps107 (rs := [.tmp 4]) (tys := [4]) rfl rfl (by simp) ?_
 obtain ⟨hl0, hl1⟩ := hl
 have hbad := fun n (h : upTo (nuAt l) n = false) (hn : n ≤ l.length) => upTo_bad h l.length hn
 have hst := fun i x => @nu_step l x i
 have hz : upTo (nuAt l) 0 = true := rfl
 unfold nuV
 generalize upTo (nuAt l) = nt at *
 (refine awp_sr fun Y Yh=>?_;simp[go_sem];((repeat' (first|(refine ag_x ?_;simp[go_sem])|intro _|apply And.intro|(apply Yh;clear Yh Y)));all_goals first|apply Hold.mk|omega|assumption|skip))
 refine awp_seq_k fun K1 hK1 => ?_
 (refine awp_sr fun Y Yh=>?_;simp[go_sem];((repeat' (first|(refine ag_x ?_;simp[go_sem])|intro _|apply And.intro|(apply Yh;clear Yh Y)));all_goals first|apply Hold.mk|omega|assumption|skip))
 (refine awp_if fun T F hT hF=>?_;simp[go_sem];refine BR.intro (fun h2=>hT ?_) (fun h2=>hF ?_);all_goals clear hT hF T F;try simp at h2) 
 ·have : ¬ l.length ≤ most := by omega
  (refine awp_sr fun Y Yh=>?_;simp[go_sem];((repeat' (first|(refine ag_x ?_;simp[go_sem])|intro _|apply And.intro|(apply Yh;clear Yh Y)));all_goals first|apply Hold.mk|omega|assumption|skip))
  (refine awp_ret ?_;simp[go_sem, this])
 ·have hle : l.length ≤ most := by omega
  refine awp_skip ?_
  refine hK1 _ ?_; clear hK1
  refine awp_seq_k fun K3 hK3 => ?_
  (refine awp_sr fun Y Yh=>?_;simp[go_sem];((repeat' (first|(refine ag_x ?_;simp[go_sem])|intro _|apply And.intro|(apply Yh;clear Yh Y)));all_goals first|apply Hold.mk|omega|assumption|skip))
  refine awp_block ?_
  refine awp_loop (σ := Nat) (fun i => ⟨[(0, dPs l), (1, dI most), (5, dI i)], []⟩) (fun i => i ≤ l.length ∧ nt i = true) (fun i => l.length - i) 0 ?_ ?_ ?_
  ·(refine cov_of ?_ ?_ <;> simp[go_sem])
  ·exact ⟨by omega, hz⟩
  rintro i ⟨hi, hn⟩
  refine awp_seq_k fun K4 hK4 => ?_
  (refine awp_sr fun Y Yh=>?_;simp[go_sem];((repeat' (first|(refine ag_x ?_;simp[go_sem])|intro _|apply And.intro|(apply Yh;clear Yh Y)));all_goals first|apply Hold.mk|omega|assumption|skip))
  (refine awp_if fun T F hT hF=>?_;simp[go_sem];refine BR.intro (fun h5=>hT ?_) (fun h5=>hF ?_);all_goals clear hT hF T F;try simp at h5) 
  ·refine awp_skip ?_
   refine hK4 _ ?_; clear hK4
   obtain ⟨x, hx⟩ : ∃ x, l[i]? = some x := ⟨_, List.getElem?_eq_getElem (by omega)⟩
   have hxl := hl1 x (List.mem_of_getElem? hx)
   obtain ⟨hx1, hx2⟩ := hxl
   have N1 := risName_spec x.1 (by omega)
   have C1 := rCheck_spec x.2 hx2
   rw [codeP_b] at C1
   have hst1 := hst i x hx hn
   have hbad1 := fun h => hbad (i + 1) h (by omega)
   have hap := fun k y => @apart_step l x y k
   have hap0 : upTo (apartAt l x) 0 = true := rfl
   have hapb := fun n (h : upTo (apartAt l x) n = false) (hn : n ≤ i) => upTo_bad h i hn
   generalize upTo (apartAt l x) = ap at *
   generalize nameV x.1 = nb at *
   generalize (condsV x.2).isSome = cb at *
   refine awp_seq_k fun K6 hK6 => ?_
   refine awp_block ?_
   refine awp_seq_k fun K7 hK7 => ?_
   (refine awp_sr fun Y Yh=>?_;simp[go_sem, hx];((repeat' (first|(refine ag_x ?_;simp[go_sem, hx])|intro _|apply And.intro|(apply Yh;clear Yh Y)));all_goals first|apply Hold.mk|omega|assumption|skip))
   ((try refine CallT.toA ?_);refine callT_m (.inl ⟨rfl,rfl⟩) (by simp[go_sem]) ?_;intro args ha;simp[go_sem] at ha;subst ha;refine ⟨_, N1, ?_⟩;rintro _ rfl;simp[go_sem, hx];((repeat' (first|(refine ag_x ?_;simp[go_sem, hx])|intro _|apply And.intro|(apply Yh;clear Yh Y)));all_goals first|apply Hold.mk|omega|assumption|skip))
   (refine agc_f (dI (if cb = true then 0 else 4)) (.inl ⟨rfl,rfl⟩) ?_ rfl ?_;(intro hc args ha;simp[go_sem] at ha;subst ha;exact C1);simp[go_sem, hx];((repeat' (first|(refine ag_x ?_;simp[go_sem, hx])|intro _|apply And.intro|(apply Yh;clear Yh Y)));all_goals first|apply Hold.mk|omega|assumption|skip))
   cases nb with
   | false =>
    have hF := hbad1 (by rw [hst1]; simp)
    (refine awp_if fun T F hT hF=>?_;simp[go_sem];refine hT ?_;clear hT hF T F)
    (refine awp_sr fun Y Yh=>?_;simp[go_sem];((repeat' (first|(refine ag_x ?_;simp[go_sem])|intro _|apply And.intro|(apply Yh;clear Yh Y)));all_goals first|apply Hold.mk|omega|assumption|skip))
    (refine awp_ret ?_;simp[go_sem, hF])
   | true =>
    cases cb with
    | false =>
     have hF := hbad1 (by rw [hst1]; simp)
     (refine awp_if fun T F hT hF=>?_;simp[go_sem];refine hT ?_;clear hT hF T F)
     (refine awp_sr fun Y Yh=>?_;simp[go_sem];((repeat' (first|(refine ag_x ?_;simp[go_sem])|intro _|apply And.intro|(apply Yh;clear Yh Y)));all_goals first|apply Hold.mk|omega|assumption|skip))
     (refine awp_ret ?_;simp[go_sem, hF])
    | true =>
     (refine awp_if fun T F hT hF=>?_;simp[go_sem];refine hF ?_;clear hT hF T F)
     refine awp_skip ?_
     refine hK7 _ ?_; clear hK7
     simp only [Bool.true_and] at hst1
     (refine awp_sr fun Y Yh=>?_;simp[go_sem];((repeat' (first|(refine ag_x ?_;simp[go_sem])|intro _|apply And.intro|(apply Yh;clear Yh Y)));all_goals first|apply Hold.mk|omega|assumption|skip))
     refine awp_block ?_
     refine awp_loop (σ := Nat) (fun k => ⟨[(0, dPs l), (1, dI most), (5, dI i), (6, dI k)], []⟩) (fun k => k ≤ i ∧ ap k = true) (fun k => i - k) 0 ?_ ?_ ?_
     ·(refine cov_of ?_ ?_ <;> simp[go_sem])
     ·exact ⟨by omega, hap0⟩
     rintro k ⟨hk, ha⟩
     refine awp_seq_k fun K8 hK8 => ?_
     (refine awp_sr fun Y Yh=>?_;simp[go_sem];((repeat' (first|(refine ag_x ?_;simp[go_sem])|intro _|apply And.intro|(apply Yh;clear Yh Y)));all_goals first|apply Hold.mk|omega|assumption|skip))
     (refine awp_if fun T F hT hF=>?_;simp[go_sem];refine BR.intro (fun h9=>hT ?_) (fun h9=>hF ?_);all_goals clear hT hF T F;try simp at h9) 
     ·refine awp_skip ?_
      refine hK8 _ ?_; clear hK8
      obtain ⟨y, hy⟩ : ∃ y, l[k]? = some y := ⟨_, List.getElem?_eq_getElem (by omega)⟩
      have hap1 := hap k y hy ha
      refine awp_seq_k fun K10 hK10 => ?_
      refine awp_block ?_
      ((refine awp_dr (.qs [0, 1, 2, 3, 5, 6, 7, 8, 4, 9, 10] (.nil)) (by kernel_rfl) ?_ ?_ ?_ ?_);kernel_rfl;exact (by decide +kernel);kernel_rfl;intro Y Yh;((repeat' (first|(refine ag_x ?_;simp[go_sem, hx, hy])|refine adr_nil ?_|((first|refine adr_qs fun Y Yh=>?_|refine adr_y fun Y Yh=>?_);simp[go_sem, hx, hy])|intro _|apply And.intro|(apply Yh;clear Yh Y)));all_goals first|apply Hold.mk|omega|assumption|skip))
      (refine awp_if fun T F hT hF=>?_;simp[go_sem];refine BR.intro (fun h11=>hT ?_) (fun h11=>hF ?_);all_goals clear hT hF T F;try simp at h11) 
      ·have hF := hbad1 (by rw [hst1]; exact hapb (k + 1) (by rw [hap1]; simp [h11]) (by omega))
       (refine awp_sr fun Y Yh=>?_;simp[go_sem];((repeat' (first|(refine ag_x ?_;simp[go_sem])|intro _|apply And.intro|(apply Yh;clear Yh Y)));all_goals first|apply Hold.mk|omega|assumption|skip))
       (refine awp_ret ?_;simp[go_sem, hF])
      ·refine awp_skip ?_
       refine hK10 _ ?_; clear hK10
       (refine awp_r fun Y Yh=>?_;simp[go_sem];((repeat' (first|(refine ag_x ?_;simp[go_sem])|intro _|apply And.intro|(apply Yh;clear Yh Y)));all_goals first|apply Hold.mk|omega|assumption|skip))
       refine ⟨k + 1, ?_, ⟨by omega, by rw [hap1]; simp [h11]⟩, by omega⟩
       (refine cov_of ?_ ?_ <;> simp[go_sem])
     ·refine awp_exit ?_
      simp only [go_sem]
      have hki : k = i := by omega
      subst hki
      refine hK6 _ ?_; clear hK6
      (refine awp_r fun Y Yh=>?_;simp[go_sem];((repeat' (first|(refine ag_x ?_;simp[go_sem])|intro _|apply And.intro|(apply Yh;clear Yh Y)));all_goals first|apply Hold.mk|omega|assumption|skip))
      refine ⟨k + 1, ?_, ⟨by omega, by rw [hst1]; exact ha⟩, by omega⟩
      (refine cov_of ?_ ?_ <;> simp[go_sem])
  ·refine awp_exit ?_
   simp only [go_sem]
   refine hK3 _ ?_; clear hK3
   have : i = l.length := by omega
   subst this
   (refine awp_sr fun Y Yh=>?_;simp[go_sem];((repeat' (first|(refine ag_x ?_;simp[go_sem])|intro _|apply And.intro|(apply Yh;clear Yh Y)));all_goals first|apply Hold.mk|omega|assumption|skip))
   (refine awp_ret ?_;simp[go_sem, hle, hn])
set_option maxHeartbeats 8000000 in
theorem versions_spec (l : List Vrs) (hl : l.length ≤ 1000000) (hv : ∀ v ∈ l, SzV v) : PCall Tryz.prog 51 [dVrs l] fun r => r = dB (vuV l) := by 
 refine pcall_of Tryz.func51 rfl rfl Tryz.ntmps51 (rs := [.tmp 2]) (tys := [4]) rfl rfl (by simp) ?_
 have hbad := fun n (h : upTo (vuAt l) n = false) (hn : n ≤ l.length) => upTo_bad h l.length hn
 have hst := fun i x => @vu_step l x i
 have hz : upTo (vuAt l) 0 = true := rfl
 unfold vuV
 generalize upTo (vuAt l) = nt at *
 (refine awp_sr fun Y Yh=>?_;simp[go_sem];((repeat' (first|(refine ag_x ?_;simp[go_sem])|intro _|apply And.intro|(apply Yh;clear Yh Y)));all_goals first|apply Hold.mk|omega|assumption|skip))
 refine awp_seq_k fun K1 hK1 => ?_
 (refine awp_sr fun Y Yh=>?_;simp[go_sem];((repeat' (first|(refine ag_x ?_;simp[go_sem])|intro _|apply And.intro|(apply Yh;clear Yh Y)));all_goals first|apply Hold.mk|omega|assumption|skip))
 (refine awp_if fun T F hT hF=>?_;simp[go_sem];refine BR.intro (fun h2=>hT ?_) (fun h2=>hF ?_);all_goals clear hT hF T F;try simp at h2)
 ·have : ¬ l.length ≤ 12 := by omega
  (refine awp_sr fun Y Yh=>?_;simp[go_sem];((repeat' (first|(refine ag_x ?_;simp[go_sem])|intro _|apply And.intro|(apply Yh;clear Yh Y)));all_goals first|apply Hold.mk|omega|assumption|skip))
  (refine awp_ret ?_;simp[go_sem, this])
 ·have hle : l.length ≤ 12 := by omega
  refine awp_skip ?_
  refine hK1 _ ?_; clear hK1
  refine awp_seq_k fun K3 hK3 => ?_
  (refine awp_sr fun Y Yh=>?_;simp[go_sem];((repeat' (first|(refine ag_x ?_;simp[go_sem])|intro _|apply And.intro|(apply Yh;clear Yh Y)));all_goals first|apply Hold.mk|omega|assumption|skip))
  refine awp_block ?_
  refine awp_loop (σ := Nat) (fun i => ⟨[(0, dVrs l), (3, dI i)], []⟩) (fun i => i ≤ l.length ∧ nt i = true) (fun i => l.length - i) 0 ?_ ?_ ?_
  ·(refine cov_of ?_ ?_ <;> simp[go_sem])
  ·exact ⟨by omega, hz⟩
  rintro i ⟨hi, hn⟩
  refine awp_seq_k fun K4 hK4 => ?_
  (refine awp_sr fun Y Yh=>?_;simp[go_sem];((repeat' (first|(refine ag_x ?_;simp[go_sem])|intro _|apply And.intro|(apply Yh;clear Yh Y)));all_goals first|apply Hold.mk|omega|assumption|skip))
  (refine awp_if fun T F hT hF=>?_;simp[go_sem];refine BR.intro (fun h5=>hT ?_) (fun h5=>hF ?_);all_goals clear hT hF T F;try simp at h5)
  ·refine awp_skip ?_
   refine hK4 _ ?_; clear hK4
   obtain ⟨x, hx⟩ : ∃ x, l[i]? = some x := ⟨_, List.getElem?_eq_getElem (by omega)⟩
   obtain ⟨hx1, hx2⟩ := hv x (List.mem_of_getElem? hx)
   have N1 := rValid_spec x.1 (by omega)
   have C1 := nu_spec x.2 6 hx2 (by decide)
   have hst1 := hst i x hx hn
   have hbad1 := fun h => hbad (i + 1) h (by omega)
   have hap := fun k y => @rank_step l x y k
   have hap0 : upTo (rankAt l x) 0 = true := rfl
   have hapb := fun n (h : upTo (rankAt l x) n = false) (hn : n ≤ i) => upTo_bad h i hn
   generalize upTo (rankAt l x) = ap at *
   generalize hnb : (readV x.1).isSome = nb at *
   generalize nuV 6 x.2 = cb at *
   refine awp_seq_k fun K6 hK6 => ?_
   refine awp_block ?_
   refine awp_seq_k fun K7 hK7 => ?_
   (refine awp_sr fun Y Yh=>?_;simp[go_sem, hx];((repeat' (first|(refine ag_x ?_;simp[go_sem, hx])|intro _|apply And.intro|(apply Yh;clear Yh Y)));all_goals first|apply Hold.mk|omega|assumption|skip))
   ((try refine CallT.toA ?_);refine callT_m (.inl ⟨rfl,rfl⟩) (by simp[go_sem]) ?_;intro args ha;simp[go_sem] at ha;subst ha;refine ⟨_, N1, ?_⟩;rintro _ rfl;simp[go_sem, hx];((repeat' (first|(refine ag_x ?_;simp[go_sem, hx])|intro _|apply And.intro|(apply Yh;clear Yh Y)));all_goals first|apply Hold.mk|omega|assumption|skip))
   (refine agc_f (dB cb) (.inl ⟨rfl,rfl⟩) ?_ rfl ?_;(intro hc args ha;simp[go_sem] at ha;subst ha;exact C1);simp[go_sem, hx];((repeat' (first|(refine ag_x ?_;simp[go_sem, hx])|intro _|apply And.intro|(apply Yh;clear Yh Y)));all_goals first|apply Hold.mk|omega|assumption|skip))
   cases nb with
   | false =>
    have hF := hbad1 (by rw [hst1]; simp)
    (refine awp_if fun T F hT hF=>?_;simp[go_sem];refine hT ?_;clear hT hF T F)
    (refine awp_sr fun Y Yh=>?_;simp[go_sem];((repeat' (first|(refine ag_x ?_;simp[go_sem])|intro _|apply And.intro|(apply Yh;clear Yh Y)));all_goals first|apply Hold.mk|omega|assumption|skip))
    (refine awp_ret ?_;simp[go_sem, hF])
   | true =>
    cases cb with
    | false =>
     have hF := hbad1 (by rw [hst1]; simp)
     (refine awp_if fun T F hT hF=>?_;simp[go_sem];refine hT ?_;clear hT hF T F)
     (refine awp_sr fun Y Yh=>?_;simp[go_sem];((repeat' (first|(refine ag_x ?_;simp[go_sem])|intro _|apply And.intro|(apply Yh;clear Yh Y)));all_goals first|apply Hold.mk|omega|assumption|skip))
     (refine awp_ret ?_;simp[go_sem, hF])
    | true =>
     (refine awp_if fun T F hT hF=>?_;simp[go_sem];refine hF ?_;clear hT hF T F)
     refine awp_skip ?_
     refine hK7 _ ?_; clear hK7
     simp only [Bool.true_and] at hst1
     (refine awp_sr fun Y Yh=>?_;simp[go_sem];((repeat' (first|(refine ag_x ?_;simp[go_sem])|intro _|apply And.intro|(apply Yh;clear Yh Y)));all_goals first|apply Hold.mk|omega|assumption|skip))
     refine awp_block ?_
     refine awp_loop (σ := Nat) (fun k => ⟨[(0, dVrs l), (3, dI i), (4, dI k)], []⟩) (fun k => k ≤ i ∧ ap k = true) (fun k => i - k) 0 ?_ ?_ ?_
     ·(refine cov_of ?_ ?_ <;> simp[go_sem])
     ·exact ⟨by omega, hap0⟩
     rintro k ⟨hk, ha⟩
     refine awp_seq_k fun K8 hK8 => ?_
     (refine awp_sr fun Y Yh=>?_;simp[go_sem];((repeat' (first|(refine ag_x ?_;simp[go_sem])|intro _|apply And.intro|(apply Yh;clear Yh Y)));all_goals first|apply Hold.mk|omega|assumption|skip))
     (refine awp_if fun T F hT hF=>?_;simp[go_sem];refine BR.intro (fun h9=>hT ?_) (fun h9=>hF ?_);all_goals clear hT hF T F;try simp at h9)
     ·refine awp_skip ?_
      refine hK8 _ ?_; clear hK8
      obtain ⟨y, hy⟩ : ∃ y, l[k]? = some y := ⟨_, List.getElem?_eq_getElem (by omega)⟩
      have hap1 := hap k y hy ha
      have CM := rCompare_spec y.1 x.1 (hv y (List.mem_of_getElem? hy)).1 hx1
      generalize codeP ((readV y.1).isSome && (readV x.1).isSome) = cc at *
      generalize compareP y.1 x.1 = cp at *
      refine awp_seq_k fun K10 hK10 => ?_
      refine awp_block ?_
      ((refine awp_dr (.qs [0, 1, 2, 3, 5, 6, 7, 8, 4, 9] (.one 10 (.qs [11, 12, 13, 14, 15] (.nil)))) (by kernel_rfl) ?_ ?_ ?_ ?_);kernel_rfl;exact (by decide +kernel);kernel_rfl;intro Y Yh;((repeat' (first|(refine ag_x ?_;simp[go_sem, hx, hy])|refine adr_nil ?_|((first|refine adr_qs fun Y Yh=>?_|refine adr_y fun Y Yh=>?_);simp[go_sem, hx, hy])|intro _|apply And.intro|(apply Yh;clear Yh Y)));all_goals first|apply Hold.mk|omega|assumption|skip))
      ((try refine CallT.toA ?_);refine callT_m (.inl ⟨rfl,rfl⟩) (by simp[go_sem]) ?_;intro args ha;simp[go_sem] at ha;subst ha;refine ⟨_, CM, ?_⟩;rintro _ rfl;simp[go_sem];((repeat' (first|(refine ag_x ?_;simp[go_sem])|refine adr_nil ?_|((first|refine adr_qs fun Y Yh=>?_|refine adr_y fun Y Yh=>?_);simp[go_sem])|intro _|apply And.intro|(apply Yh;clear Yh Y)));all_goals first|apply Hold.mk|omega|assumption|skip))
      (refine awp_sr fun Y Yh=>?_;simp[go_sem];((repeat' (first|(refine ag_x ?_;simp[go_sem])|intro _|apply And.intro|(apply Yh;clear Yh Y)));all_goals first|apply Hold.mk|omega|assumption|skip))
      (refine awp_if fun T F hT hF=>?_;simp[go_sem];refine BR.intro (fun h11=>hT ?_) (fun h11=>hF ?_);all_goals clear hT hF T F;try simp at h11)
      ·have hF := hbad1 (by rw [hst1]; exact hapb (k + 1) (by rw [hap1]; simp [h11]) (by omega))
       (refine awp_sr fun Y Yh=>?_;simp[go_sem];((repeat' (first|(refine ag_x ?_;simp[go_sem])|intro _|apply And.intro|(apply Yh;clear Yh Y)));all_goals first|apply Hold.mk|omega|assumption|skip))
       (refine awp_ret ?_;simp[go_sem, hF])
      ·refine awp_skip ?_
       refine hK10 _ ?_; clear hK10
       (refine awp_r fun Y Yh=>?_;simp[go_sem];((repeat' (first|(refine ag_x ?_;simp[go_sem])|intro _|apply And.intro|(apply Yh;clear Yh Y)));all_goals first|apply Hold.mk|omega|assumption|skip))
       refine ⟨k + 1, ?_, ⟨by omega, by rw [hap1]; simp [h11]⟩, by omega⟩
       (refine cov_of ?_ ?_ <;> simp[go_sem])
     ·refine awp_exit ?_
      simp only [go_sem]
      have hki : k = i := by omega
      subst hki
      refine hK6 _ ?_; clear hK6
      (refine awp_r fun Y Yh=>?_;simp[go_sem];((repeat' (first|(refine ag_x ?_;simp[go_sem])|intro _|apply And.intro|(apply Yh;clear Yh Y)));all_goals first|apply Hold.mk|omega|assumption|skip))
      refine ⟨k + 1, ?_, ⟨by omega, by rw [hst1]; exact ha⟩, by omega⟩
      (refine cov_of ?_ ?_ <;> simp[go_sem])
  ·refine awp_exit ?_
   simp only [go_sem]
   refine hK3 _ ?_; clear hK3
   have : i = l.length := by omega
   subst this
   (refine awp_sr fun Y Yh=>?_;simp[go_sem];((repeat' (first|(refine ag_x ?_;simp[go_sem])|intro _|apply And.intro|(apply Yh;clear Yh Y)));all_goals first|apply Hold.mk|omega|assumption|skip))
   (refine awp_ret ?_;simp[go_sem, hle, hn])
end Go.Proofs.YteekfnhhlcmcgaaGreatDoor
set_option maxRecDepth 20000
namespace Go.Lk
open Go.Lib Go.Wh Go.Ver
/-! what is found in a source, what is needed, what is picked -/
def fndG (p : Prs) (g : Gm) : Option Vrs := if g.1 = p.1 then g.2.find? (fun v => decide (v.1 = p.2)) else none
def fndV (s : Src) (p : Prs) : Option Vrs := s.findSome? (fndG p)
theorem drop_cons {α : Type} {l : List α} {i : Nat} {x : α} (h : l[i]? = some x) : l.drop i = x :: l.drop (i + 1) := by
 obtain ⟨h1, h2⟩ := List.getElem?_eq_some_iff.1 h
 rw [List.drop_eq_getElem_cons h1, h2]
theorem fnd_step {s : Src} {p : Prs} {i : Nat} {g : Gm} (h : s[i]? = some g) : (s.drop i).findSome? (fndG p) = (match fndG p g with | some v => some v | none => (s.drop (i + 1)).findSome? (fndG p)) := by
 rw [drop_cons h, List.findSome?_cons]
 cases fndG p g <;> rfl
theorem fnd_end (s : Src) (p : Prs) : (s.drop s.length).findSome? (fndG p) = none := by rw [List.drop_length]; rfl
theorem find_step {l : List Vrs} {n : Bs} {k : Nat} {v : Vrs} (h : l[k]? = some v) : (l.drop k).find? (fun v => decide (v.1 = n)) = if v.1 = n then some v else (l.drop (k + 1)).find? (fun v => decide (v.1 = n)) := by
 rw [drop_cons h, List.find?_cons]
 by_cases e : v.1 = n
 ·rw [if_pos e]; simp [e]
 ·rw [if_neg e]; simp [e]
def fndP (s : Src) (p : Prs) : Vrs := (fndV s p).getD ([], [])
theorem fndG_mem {p : Prs} {g : Gm} {v : Vrs} (h : fndG p g = some v) : v ∈ g.2 ∧ v.1 = p.2 ∧ g.1 = p.1 := by
 unfold fndG at h
 split at h
 ·rename_i e
  have h1 := List.mem_of_find?_eq_some h
  have h2 := List.find?_some h
  exact ⟨h1, by simpa using h2, e⟩
 ·cases h
theorem fndV_mem {s : Src} {p : Prs} {v : Vrs} (h : fndV s p = some v) : ∃ g ∈ s, g.1 = p.1 ∧ v ∈ g.2 ∧ v.1 = p.2 := by
 unfold fndV at h
 obtain ⟨g, hg, h2⟩ := List.exists_of_findSome?_eq_some h
 obtain ⟨a, b, c⟩ := fndG_mem h2
 exact ⟨g, hg, c, a, b⟩
theorem fndP_sz {s : Src} (hs : SzS s) (p : Prs) : SzV (fndP s p) := by
 unfold fndP
 cases h : fndV s p with
 | none => simp [SzV, SzN]
 | some v =>
  obtain ⟨g, hg, _, hv, _⟩ := fndV_mem h
  exact (hs.2 g hg).2.2 v hv
def pkdV (l : List Prs) (n : Bs) : Bs := ((l.find? (fun x => decide (x.1 = n))).map (·.2)).getD []
def allN (s : Src) (w l : List Prs) : List Prs := w ++ l.flatMap fun p => (fndP s p).2
theorem allN_nil (s : Src) (w : List Prs) : allN s w [] = w := by simp [allN]
theorem allN_step {s : Src} {w l : List Prs} {i : Nat} {p : Prs} (h : l[i]? = some p) : allN s w (l.take (i + 1)) = allN s w (l.take i) ++ (fndP s p).2 := by
 unfold allN; rw [List.take_add_one, h]; simp
theorem allN_snoc (s : Src) (w l : List Prs) (p : Prs) : allN s w (l ++ [p]) = allN s w l ++ (fndP s p).2 := by simp [allN]
theorem allN_mem {s : Src} {w l : List Prs} (hs : SzS s) (hw : ∀ x ∈ w, Sz1 x) : ∀ x ∈ allN s w l, Sz1 x := fun x hx => by
 unfold allN at hx
 rcases List.mem_append.1 hx with h | h
 ·exact hw x h
 ·obtain ⟨p, _, hp⟩ := List.mem_flatMap.1 h
  exact (fndP_sz hs p).2.2 x hp
theorem allN_len {s : Src} {w : List Prs} (hs : SzS s) : ∀ l : List Prs, (allN s w l).length ≤ w.length + l.length * 1000000
 | [] => by simp [allN]
 | p :: l => by
  have ih := allN_len (w := w) hs l
  have hp := (fndP_sz hs p).2.1
  unfold allN at ih ⊢
  simp only [List.length_append, List.flatMap_cons, List.length_cons] at ih ⊢
  have e : (l.length + 1) * 1000000 = l.length * 1000000 + 1000000 := Nat.succ_mul _ _
  rw [e]
  omega
end Go.Lk
namespace Go.Proofs.YteekfnhhlcmcgaaGreatDoor
open Go.Eng Go.Wh Go.Ver Go.RowKit Go.Lk
set_option maxRecDepth 20000
attribute [local irreducible] AG CallA CallT AWp PCall ACall AgC
end Go.Proofs.YteekfnhhlcmcgaaGreatDoor
set_option maxRecDepth 20000
namespace Go.Lk
open Go.Lib Go.Wh Go.Ver
/-! the versions of a gem that may be chosen -/
theorem all_take {α : Type} (f : α → Bool) {l : List α} {i : Nat} {x : α} (h : l[i]? = some x) : (l.take (i + 1)).all f = ((l.take i).all f && f x) := by
 rw [List.take_add_one, h]; simp
def aFit (gem num : Bs) (n : Prs) : Bool := decide (n.1 ≠ gem) || meetsP num n.2
def bFit (l : List Prs) (n : Prs) : Bool := decide (pkdV l n.1 = []) || meetsP (pkdV l n.1) n.2
def fitV (all l : List Prs) (gem : Bs) (v : Vrs) : Bool := all.all (aFit gem v.1) && v.2.all (bFit (l ++ [(gem, v.1)]))
def insV (v : Vrs) : List Vrs → List Vrs
 | [] => [v]
 | y :: r => if compareP y.1 v.1 < 0 then v :: y :: r else y :: insV v r
theorem insV_mem {v x : Vrs} : ∀ {out : List Vrs}, x ∈ insV v out ↔ x = v ∨ x ∈ out
 | [] => by simp [insV]
 | y :: r => by
  unfold insV
  split
  ·simp
  ·simp only [List.mem_cons, insV_mem (out := r)]
   constructor
   ·rintro (h | h | h) <;> simp [h]
   ·rintro (h | h | h) <;> simp [h]
def cstV (all l : List Prs) (gem : Bs) (o : List Vrs) (v : Vrs) : List Vrs := if fitV all l gem v = true then insV v o else o
def cstG (all l : List Prs) (gem : Bs) (o : List Vrs) (g : Gm) : List Vrs := if g.1 = gem then g.2.foldl (cstV all l gem) o else o
def candV (s : Src) (w l : List Prs) (gem : Bs) : List Vrs := s.foldl (cstG (allN s w l) l gem) []
theorem cstV_mem {all l : List Prs} {gem : Bs} {o : List Vrs} {v x : Vrs} (h : x ∈ cstV all l gem o v) : x = v ∨ x ∈ o := by
 unfold cstV at h; split at h
 ·exact insV_mem.1 h
 ·exact .inr h
theorem cstsV_mem {all l : List Prs} {gem : Bs} {x : Vrs} : ∀ {vs o : List Vrs}, x ∈ vs.foldl (cstV all l gem) o → x ∈ vs ∨ x ∈ o
 | [], o, h => .inr h
 | v :: vs, o, h => by
  rw [List.foldl_cons] at h
  rcases cstsV_mem h with h | h
  ·exact .inl (by simp [h])
  ·rcases cstV_mem h with h | h
   ·exact .inl (by simp [h])
   ·exact .inr h
theorem cstsG_mem {all l : List Prs} {gem : Bs} {x : Vrs} : ∀ {s : Src} {o : List Vrs}, x ∈ s.foldl (cstG all l gem) o → (∃ g ∈ s, g.1 = gem ∧ x ∈ g.2) ∨ x ∈ o
 | [], o, h => .inr h
 | g :: s, o, h => by
  rw [List.foldl_cons] at h
  rcases cstsG_mem h with ⟨g', h1, h2, h3⟩ | h
  ·exact .inl ⟨g', by simp [h1], h2, h3⟩
  ·unfold cstG at h
   split at h
   ·rename_i e
    rcases cstsV_mem h with h | h
    ·exact .inl ⟨g, by simp, e, h⟩
    ·exact .inr h
   ·exact .inr h
theorem candV_mem {s : Src} {w l : List Prs} {gem : Bs} {x : Vrs} (h : x ∈ candV s w l gem) : ∃ g ∈ s, g.1 = gem ∧ x ∈ g.2 := by
 rcases cstsG_mem h with h | h
 ·exact h
 ·cases h
end Go.Lk
set_option linter.unusedSectionVars false
namespace Go.Eng
variable {P : Program} [HasGlob P] {n : Nat} {S : St} {Q : Exit → St → Prop}
theorem awp_seq_j {x y : Code} {α : Type} (S1 : α → St) (h : ∀ K : St → Prop, (∀ S', AWp P n y S' Q → K S') → (∀ a S', Cov S' (S1 a) → AWp P n y S' Q) → AWp P n x S (thenQ K Q)) (h2 : ∀ a, AWp P n y (S1 a) Q) :
  AWp P n (.seq x y) S Q := awp_seq_k fun K hK => h K hK fun a _ hc => awp_cov hc (h2 a)
end Go.Eng
namespace Go.Proofs.YteekfnhhlcmcgaaGreatDoor
open Go.Eng Go.Wh Go.Ver Go.RowKit Go.Lk
set_option maxRecDepth 20000
attribute [local irreducible] AG CallA CallT AWp PCall ACall AgC
end Go.Proofs.YteekfnhhlcmcgaaGreatDoor
set_option maxRecDepth 20000
namespace Go.Lk
open Go.Lib Go.Wh Go.Ver
/-! the search: picks, error, how many were tried -/
def tryL (rec : List Prs → Nat → (List Prs × Nat) × Nat) (bud : Nat) (gem : Bs) (l : List Prs) : List Vrs → Nat → (List Prs × Nat) × Nat
 | [], t => (([], 3), t)
 | v :: r, t => if bud < t + 1 then (([], 12), t + 1)
  else if (rec (l ++ [(gem, v.1)]) (t + 1)).1.2 ≠ 3 then rec (l ++ [(gem, v.1)]) (t + 1)
  else tryL rec bud gem l r (rec (l ++ [(gem, v.1)]) (t + 1)).2
def freeN (l : List Prs) (n : Prs) : Bool := decide (pkdV l n.1 = [])
def restV (s : Src) (w : List Prs) (bud : Nat) : Nat → List Prs → Nat → (List Prs × Nat) × Nat
 | 0, l, t => (([], 3), t)
 | f + 1, l, t => match (allN s w l).find? (freeN l) with
  | none => ((l, 0), t)
  | some n => tryL (restV s w bud f) bud n.1 l (candV s w l n.1) t
def Tlk (bud t : Nat) (q : (List Prs × Nat) × Nat) : Prop := t ≤ q.2 ∧ q.2 ≤ bud + 1 ∧ (q.1.2 = 12 ∨ q.2 ≤ bud) ∧ (q.1.2 = 0 ∨ q.1.2 = 3 ∨ q.1.2 = 12)
theorem tryL_tlk {rec : List Prs → Nat → (List Prs × Nat) × Nat} {bud : Nat} (h : ∀ l t, t ≤ bud → Tlk bud t (rec l t)) (gem : Bs) (l : List Prs) : ∀ (c : List Vrs) (t : Nat), t ≤ bud → Tlk bud t (tryL rec bud gem l c t)
 | [], t, ht => ⟨Nat.le_refl _, by simp [tryL]; omega, .inr ht, .inr (.inl rfl)⟩
 | v :: r, t, ht => by
  unfold tryL
  split
  ·exact ⟨by simp, by simp; omega, .inl rfl, .inr (.inr rfl)⟩
  ·have hr := h (l ++ [(gem, v.1)]) (t + 1) (by omega)
   split
   ·exact ⟨by have := hr.1; omega, hr.2.1, hr.2.2.1, hr.2.2.2⟩
   ·rename_i h3
    simp only [Decidable.not_not] at h3
    have hb : (rec (l ++ [(gem, v.1)]) (t + 1)).2 ≤ bud := by
     rcases hr.2.2.1 with q | q
     ·omega
     ·exact q
    have := tryL_tlk h gem l r _ hb
    exact ⟨by have := this.1; have := hr.1; omega, this.2.1, this.2.2.1, this.2.2.2⟩
theorem restV_tlk (s : Src) (w : List Prs) (bud : Nat) : ∀ f l t, t ≤ bud → Tlk bud t (restV s w bud f l t)
 | 0, l, t, ht => ⟨Nat.le_refl _, by simp [restV]; omega, .inr ht, .inr (.inl rfl)⟩
 | f + 1, l, t, ht => by
  unfold restV
  split
  ·exact ⟨Nat.le_refl _, by simp; omega, .inr ht, .inl rfl⟩
  ·exact tryL_tlk (restV_tlk s w bud f) _ _ _ _ ht
def muV (s : Src) (l : List Prs) : Nat := (s.filter fun g => decide (pkdV l g.1 = [])).length
theorem filter_lt {α : Type} {p q : α → Bool} (hpq : ∀ x, q x = true → p x = true) {x : α} (hp : p x = true) (hq : q x = false) : ∀ {l : List α}, x ∈ l → (l.filter q).length < (l.filter p).length
 | [], h => by cases h
 | y :: l, h => by
  have le : ∀ l : List α, (l.filter q).length ≤ (l.filter p).length := fun l => by
   induction l with
   | nil => simp
   | cons z l ih =>
    simp only [List.filter_cons]
    cases hz : q z with
    | true => rw [hpq z hz]; simp; exact ih
    | false => cases p z <;> simp <;> omega
  rcases List.mem_cons.1 h with rfl | h
  ·simp only [List.filter_cons, hp, hq]
   have := le l
   simp; omega
  ·have := filter_lt hpq hp hq h
   simp only [List.filter_cons]
   cases hz : q y with
   | true => rw [hpq y hz]; simp; exact this
   | false => cases p y <;> simp <;> omega
def NumOk (l : List Prs) : Prop := ∀ x ∈ l, x.2 ≠ []
theorem pkd_none {l : List Prs} (h : NumOk l) {n : Bs} : pkdV l n = [] ↔ l.find? (fun x => decide (x.1 = n)) = none := by
 unfold pkdV
 cases hf : l.find? (fun x => decide (x.1 = n)) with
 | none => simp
 | some x => have := h x (List.mem_of_find?_eq_some hf); simp [this]
theorem pkd_app (l : List Prs) (g v n : Bs) : pkdV (l ++ [(g, v)]) n = if l.find? (fun x => decide (x.1 = n)) = none then (if g = n then v else []) else pkdV l n := by
 unfold pkdV
 rw [List.find?_append]
 cases hf : l.find? (fun x => decide (x.1 = n)) with
 | none =>
  by_cases e : g = n
  ·simp [e]
  ·simp [e]
 | some x => simp
theorem mu_lt {s : Src} {l : List Prs} {gem v : Bs} (h : NumOk l) (hv : v ≠ []) (hg : ∃ g ∈ s, g.1 = gem) (hf : pkdV l gem = []) : muV s (l ++ [(gem, v)]) < muV s l := by
 obtain ⟨g, hgs, rfl⟩ := hg
 unfold muV
 refine filter_lt (x := g) (fun y hy => ?_) (by simpa using hf) ?_ hgs
 ·simp only [decide_eq_true_eq] at hy ⊢
  rw [pkd_app] at hy
  split at hy
  ·rename_i e; exact (pkd_none h).2 e
  ·exact hy
 ·have := (pkd_none h).1 hf
  simp [pkd_app, this, hv]
theorem mu_le (s : Src) (l : List Prs) : muV s l ≤ s.length := List.length_filter_le _ _
theorem mu_pos {s : Src} {l : List Prs} {gem : Bs} (hg : ∃ g ∈ s, g.1 = gem) (hf : pkdV l gem = []) : 0 < muV s l := by
 obtain ⟨g, hgs, rfl⟩ := hg
 unfold muV
 exact List.length_pos_iff.2 (List.ne_nil_of_mem (List.mem_filter.2 ⟨hgs, by simpa using hf⟩))
/-! a valid source -/
theorem suV_parts {s : Src} (h : suV s = true) : s.length ≤ 15 ∧ ∀ g ∈ s, nameV g.1 = true ∧ vuV g.2 = true := by
 unfold suV at h
 rw [Bool.and_eq_true, decide_eq_true_eq] at h
 refine ⟨h.1, fun g hg => ?_⟩
 obtain ⟨i, hi⟩ := List.getElem?_of_mem hg
 have := upTo_at h.2 (List.getElem?_eq_some_iff.1 hi).1
 unfold suAt at this
 rw [hi] at this
 simp only [Bool.and_eq_true] at this
 exact ⟨this.1.1, this.2⟩
theorem vuV_parts {l : List Vrs} (h : vuV l = true) : l.length ≤ 12 ∧ ∀ v ∈ l, (readV v.1).isSome = true ∧ nuV 6 v.2 = true := by
 unfold vuV at h
 rw [Bool.and_eq_true, decide_eq_true_eq] at h
 refine ⟨h.1, fun v hv => ?_⟩
 obtain ⟨i, hi⟩ := List.getElem?_of_mem hv
 have := upTo_at h.2 (List.getElem?_eq_some_iff.1 hi).1
 unfold vuAt at this
 rw [hi] at this
 simp only [Bool.and_eq_true] at this
 exact this.1
theorem nuV_parts {m : Nat} {l : List Prs} (h : nuV m l = true) : l.length ≤ m ∧ ∀ n ∈ l, nameV n.1 = true ∧ (condsV n.2).isSome = true := by
 unfold nuV at h
 rw [Bool.and_eq_true, decide_eq_true_eq] at h
 refine ⟨h.1, fun v hv => ?_⟩
 obtain ⟨i, hi⟩ := List.getElem?_of_mem hv
 have := upTo_at h.2 (List.getElem?_eq_some_iff.1 hi).1
 unfold nuAt at this
 rw [hi] at this
 simp only [Bool.and_eq_true] at this
 exact this.1
theorem readV_len {v : Bs} (h : (readV v).isSome = true) : v.length ≤ 60 := by
 obtain ⟨l, hl⟩ := Option.isSome_iff_exists.1 h
 exact (readV_ok hl).2.2
theorem condsV_len {w : Bs} (h : (condsV w).isSome = true) : w.length ≤ 1300 := by
 obtain ⟨l, hl⟩ := Option.isSome_iff_exists.1 h
 obtain ⟨h1, h2, h3⟩ := condsV_ok hl
 rw [← h1]
 have := textR_small (k := 20) h3 h2
 omega
theorem nuV_sz {m : Nat} {l : List Prs} (h : nuV m l = true) (hm : m ≤ 1000) : SzN l := by
 obtain ⟨h1, h2⟩ := nuV_parts h
 refine ⟨by omega, fun x hx => ?_⟩
 obtain ⟨a, b⟩ := h2 x hx
 have := (name_nm a).2.2
 have := condsV_len b
 exact ⟨by omega, by omega⟩
theorem suV_sz {s : Src} (h : suV s = true) : SzS s := by
 obtain ⟨h1, h2⟩ := suV_parts h
 refine ⟨by omega, fun g hg => ?_⟩
 obtain ⟨a, b⟩ := h2 g hg
 obtain ⟨c, d⟩ := vuV_parts b
 have := (name_nm a).2.2
 refine ⟨by omega, by omega, fun v hv => ?_⟩
 obtain ⟨e, f⟩ := d v hv
 have := readV_len e
 exact ⟨by omega, nuV_sz f (by omega)⟩
end Go.Lk
namespace Go.Proofs.YteekfnhhlcmcgaaGreatDoor
open Go.Eng Go.Wh Go.Ver Go.RowKit Go.Lk
set_option maxRecDepth 20000
attribute [local irreducible] AG CallA CallT AWp PCall ACall AgC
end Go.Proofs.YteekfnhhlcmcgaaGreatDoor
set_option maxRecDepth 20000
namespace Go.Lk
open Go.Lib Go.Wh Go.Ver
/-! picks and needs in the order of their gems -/
def posP (x : Prs) (out : List Prs) : Nat → Nat
 | 0 => 0
 | n + 1 => match out[n]? with
  | some y => if Op.bytesLess x.1 y.1 = true then posP x out n else n + 1
  | none => n + 1
theorem posP_le (x : Prs) (out : List Prs) : ∀ n, posP x out n ≤ n
 | 0 => Nat.le_refl _
 | n + 1 => by
  have := posP_le x out n
  unfold posP
  split
  ·split <;> omega
  ·omega
theorem posP_step {x y : Prs} {out : List Prs} {n : Nat} (h : out[n]? = some y) : posP x out (n + 1) = if Op.bytesLess x.1 y.1 = true then posP x out n else n + 1 := by
 rw [posP, h]
def insP (x : Prs) (out : List Prs) : List Prs := out.take (posP x out out.length) ++ x :: out.drop (posP x out out.length)
def srtP (l : List Prs) : List Prs := l.foldl (fun o x => insP x o) []
theorem insP_len (x : Prs) (out : List Prs) : (insP x out).length = out.length + 1 := by
 have := posP_le x out out.length
 unfold insP
 simp; omega
theorem insP_mem {x y : Prs} {out : List Prs} : y ∈ insP x out ↔ y = x ∨ y ∈ out := by
 unfold insP
 generalize posP x out out.length = a
 conv => rhs; rw [← List.take_append_drop a out]
 simp only [List.mem_append, List.mem_cons]
 constructor
 ·rintro (h | h | h) <;> simp [h]
 ·rintro (h | h | h) <;> simp [h]
theorem srtP_len' : ∀ (l o : List Prs), (l.foldl (fun o x => insP x o) o).length = o.length + l.length
 | [], o => by simp
 | x :: l, o => by
  rw [List.foldl_cons, srtP_len' l, insP_len]; simp; omega
theorem srtP_len (l : List Prs) : (srtP l).length = l.length := by
 unfold srtP; rw [srtP_len']; simp
theorem srtP_mem' {y : Prs} : ∀ (l o : List Prs), y ∈ l.foldl (fun o x => insP x o) o ↔ y ∈ l ∨ y ∈ o
 | [], o => by simp
 | x :: l, o => by
  rw [List.foldl_cons, srtP_mem' l, insP_mem]
  simp only [List.mem_cons]
  constructor
  ·rintro (h | h | h) <;> simp [h]
  ·rintro ((h | h) | h) <;> simp [h]
theorem srtP_mem {y : Prs} {l : List Prs} : y ∈ srtP l ↔ y ∈ l := by
 unfold srtP; rw [srtP_mem']; simp
def solV (s : Src) (w : List Prs) (b : Int) : List Prs × Nat × Nat :=
 if chkV s w = true ∧ 1 ≤ b ∧ b ≤ 100000 then
  let q := restV s w b.toNat (s.length + 1) [] 0
  (srtP q.1.1, q.2, q.1.2)
 else ([], 0, 1)
def ownV (s : Src) (p : Prs) : List Prs := srtP (fndP s p).2
def ofV (s : Src) (w : List Prs) (b : Int) : Lck × Nat :=
 if (solV s w b).2.2 = 0 then (((solV s w b).1, (solV s w b).1.map (ownV s), srtP w), 0) else (lk0, (solV s w b).2.2)
/-! what a solution is made of -/
def PickOk (s : Src) (l : List Prs) : Prop := (∀ x ∈ l, ∃ g ∈ s, g.1 = x.1 ∧ ∃ v ∈ g.2, v.1 = x.2) ∧ (l.map (·.1)).Nodup
theorem pkd_notin {l : List Prs} (h : NumOk l) {n : Bs} (hp : pkdV l n = []) : n ∉ l.map (·.1) := fun hm => by
 obtain ⟨x, hx, rfl⟩ := List.mem_map.1 hm
 have := (pkd_none h).1 hp
 have := List.find?_eq_none.1 this x hx
 simp at this
theorem pickOk_num {s : Src} {l : List Prs} (hs : suV s = true) (h : PickOk s l) : NumOk l := fun x hx => by
 obtain ⟨g, hg, _, v, hv, e⟩ := h.1 x hx
 have := (vuV_parts ((suV_parts hs).2 g hg).2).2 v hv
 rw [← e]
 exact readV_ne this.1
theorem pickOk_snoc {s : Src} {l : List Prs} {gem : Bs} {v : Vrs} (hs : suV s = true) (h : PickOk s l) (hp : pkdV l gem = []) (hv : ∃ g ∈ s, g.1 = gem ∧ v ∈ g.2) : PickOk s (l ++ [(gem, v.1)]) := by
 refine ⟨fun x hx => ?_, ?_⟩
 ·rcases List.mem_append.1 hx with h1 | h1
  ·exact h.1 x h1
  ·simp at h1; subst h1
   obtain ⟨g, a, b, c⟩ := hv
   exact ⟨g, a, b, v, c, rfl⟩
 ·have := pkd_notin (pickOk_num hs h) hp
  rw [List.map_append, List.nodup_append]
  refine ⟨h.2, by simp, ?_⟩
  intro a ha b hb
  simp at hb
  subst hb
  exact fun e => this (e ▸ ha)
theorem tryL_pick {s : Src} {bud : Nat} {gem : Bs} {l : List Prs} {rec : List Prs → Nat → (List Prs × Nat) × Nat} (hs : suV s = true) (hrec : ∀ l t, PickOk s l → PickOk s (rec l t).1.1) (h : PickOk s l) (hp : pkdV l gem = []) :
  ∀ (c : List Vrs) (t : Nat), (∀ v ∈ c, ∃ g ∈ s, g.1 = gem ∧ v ∈ g.2) → PickOk s (tryL rec bud gem l c t).1.1
 | [], t, _ => ⟨by simp [tryL], by simp [tryL]⟩
 | v :: r, t, hc => by
  have hv := pickOk_snoc hs h hp (hc v (by simp))
  unfold tryL
  split
  ·exact ⟨by simp, by simp⟩
  ·split
   ·exact hrec _ _ hv
   ·exact tryL_pick hs hrec h hp r _ fun v hv => hc v (by simp [hv])
theorem restV_pick {s : Src} {w : List Prs} {bud : Nat} (hs : suV s = true) : ∀ f l t, PickOk s l → PickOk s (restV s w bud f l t).1.1
 | 0, l, t, _ => ⟨by simp [restV], by simp [restV]⟩
 | f + 1, l, t, h => by
  unfold restV
  split
  ·exact h
  ·rename_i n hn
   have hp := List.find?_some hn
   unfold freeN at hp
   exact tryL_pick hs (restV_pick hs f) h (by simpa using hp) _ _ fun v hv => candV_mem hv
theorem tryL_len {bud : Nat} {gem : Bs} {l : List Prs} {rec : List Prs → Nat → (List Prs × Nat) × Nat} {m : Nat} (h : ∀ v t, (rec (l ++ [(gem, v)]) t).1.1.length ≤ m) : ∀ (c : List Vrs) (t : Nat), (tryL rec bud gem l c t).1.1.length ≤ m
 | [], t => by simp [tryL]
 | v :: r, t => by
  unfold tryL
  split
  ·simp
  ·split
   ·exact h _ _
   ·exact tryL_len h r _
theorem restV_len (s : Src) (w : List Prs) (bud : Nat) : ∀ f l t, (restV s w bud f l t).1.1.length ≤ l.length + f
 | 0, l, t => by simp [restV]
 | f + 1, l, t => by
  unfold restV
  split
  ·simp
  ·rename_i n hn
   refine tryL_len (fun v t => ?_) _ _
   have := restV_len s w bud f (l ++ [(n.1, v)]) t
   refine Nat.le_trans this ?_
   simp; omega
theorem solV_len {s : Src} {w : List Prs} {b : Int} : (solV s w b).1.length ≤ 16 := by
 unfold solV
 split
 ·rename_i h
  have h1 := h.1
  unfold chkV at h1
  rw [Bool.and_eq_true] at h1
  have := (suV_parts h1.1).1
  have := restV_len s w b.toNat (s.length + 1) [] 0
  simp only [srtP_len]
  simp at this
  omega
 ·simp
theorem solV_pick {s : Src} {w : List Prs} {b : Int} (hs : suV s = true) : (∀ x ∈ (solV s w b).1, ∃ g ∈ s, g.1 = x.1 ∧ ∃ v ∈ g.2, v.1 = x.2) := fun x hx => by
 unfold solV at hx
 split at hx
 ·simp only at hx
  rw [srtP_mem] at hx
  exact (restV_pick hs _ [] 0 ⟨by simp, by simp⟩).1 x hx
 ·simp at hx
theorem solV_chk {s : Src} {w : List Prs} {b : Int} (h : (solV s w b).2.2 = 0) : chkV s w = true ∧ 1 ≤ b ∧ b ≤ 100000 := by
 unfold solV at h
 split at h
 ·rename_i q; exact q
 ·simp at h
end Go.Lk
namespace Go.Proofs.YteekfnhhlcmcgaaGreatDoor
open Go.Eng Go.Wh Go.Ver Go.RowKit Go.Lk
set_option maxRecDepth 20000
attribute [local irreducible] AG CallA CallT AWp PCall ACall AgC
def unI (n : Int) : Nat := (n % 18446744073709551616).toNat
theorem unI_wrap (n : Int) : IntKind.u64.wrap n = (unI n : Int) := by
 rw [show IntKind.u64.wrap n = n % 18446744073709551616 by simp [IntKind.wrap, IntKind.bits, IntKind.signed]]
 unfold unI; omega
theorem wrapNI {x : Nat} (h : x < 18446744073709551616) : IntKind.u64.wrap (x : Int) = x := by
 rw [show IntKind.u64.wrap (x : Int) = (x : Int) % 18446744073709551616 by simp [IntKind.wrap, IntKind.bits, IntKind.signed]]
 omega
def pickK (l : List Int) (a n : Nat) : Nat := if a < l.length then unI (l.getD a 0) % n else 0
def pickA (l : List Int) (a : Nat) : Nat := if a < l.length then a + 1 else a
theorem pickK_lt {l : List Int} {a n : Nat} (h : 0 < n) : pickK l a n < n := by
 unfold pickK; split
 ·exact Nat.mod_lt _ h
 ·exact h
theorem pickA_le {l : List Int} {a : Nat} (h : a ≤ l.length) : pickA l a ≤ l.length := by
 unfold pickA; split <;> omega
set_option maxHeartbeats 8000000 in
theorem pick_spec (l : List Int) (a n g : Nat) (hl : l.length ≤ 9223372036854775807) (ha : a ≤ l.length) (hn : 0 < n) (hn2 : n ≤ 100) :
  ACall Tryz.prog 49 [.ptr 900002 g 0, dI n] [(900002, (g, .box [dIs l, dI a]))] [900002]
   fun ps r => ps = [(g, .box [dIs l, dI (pickA l a)])] ∧ r = dI (pickK l a n) := by
 refine acall_of Tryz.func49 rfl rfl Tryz.ntmps49 (rs := [.tmp 4]) (tys := [3]) rfl rfl (by simp) ?_ ?_
 ·intro q hq
  simp only [List.mem_cons, List.not_mem_nil, or_false] at hq
  subst hq
  simp [notFroz]
 (refine awp_sr fun Y Yh=>?_;simp[go_sem];((repeat' (first|intro _|apply And.intro|(apply Yh;clear Yh Y)));all_goals first|apply Hold.mk|omega|assumption|skip))
 refine awp_seq_k fun K1 hK1 => ?_
 by_cases h : a < l.length
 ·obtain ⟨x, hx⟩ : ∃ x, l[a]? = some x := ⟨_, List.getElem?_eq_getElem h⟩
  have hk : pickK l a n = unI x % n := by unfold pickK; rw [if_pos h]; simp [List.getD, hx]
  have hA : pickA l a = a + 1 := by unfold pickA; rw [if_pos h]
  rw [hk, hA]
  have hi : ¬ (l.length : Int) ≤ a := by omega
  have hi1 : ((a : Int) + 1 - 1).toNat = a := by omega
  have hi2 : (a : Int) + 1 - 1 = a := by omega
  have w1 := unI_wrap x
  have w2 := wrapNI (x := n) (by omega)
  have hlt : unI x % n < n := Nat.mod_lt _ hn
  have hne : ¬ (n : Int) = 0 := by omega
  have hux : unI x < 18446744073709551616 := by unfold unI; omega
  have m1 : IntKind.u64.wrap (((unI x : Nat) : Int).tmod (n : Int)) = ((unI x % n : Nat) : Int) := by
   rw [show ((unI x : Nat) : Int).tmod (n : Int) = ((unI x % n : Nat) : Int) by simp [Int.tmod_eq_emod_of_nonneg]]
   exact wrapNI (by omega)
  have m0 : ((unI x : Nat) : Int).tmod (n : Int) = ((unI x % n : Nat) : Int) := by simp [Int.tmod_eq_emod_of_nonneg]
  generalize hkk : unI x % n = k at *
  ((refine awp_dr (.qs [0, 1, 2, 4, 5, 6, 3, 7, 8, 9] (.nil)) (by kernel_rfl) ?_ ?_ ?_ ?_);kernel_rfl;exact (by decide +kernel);kernel_rfl;intro Y Yh;((repeat' (first|refine adr_nil ?_|((first|refine adr_qs fun Y Yh=>?_|refine adr_y fun Y Yh=>?_);simp[go_sem, hi])|intro _|apply And.intro|(apply Yh;clear Yh Y)));all_goals first|apply Hold.mk|omega|assumption|skip))
  (refine awp_if fun T F hT hF=>?_;simp[go_sem, hi, h];refine hF ?_;clear hT hF T F)
  refine awp_skip ?_
  refine hK1 _ ?_; clear hK1
  (refine awp_sr fun Y Yh=>?_;simp[go_sem];((repeat' (first|intro _|apply And.intro|(apply Yh;clear Yh Y)));all_goals first|apply Hold.mk|omega|assumption|skip))
  ((refine awp_dr (.qs [0, 1, 2, 4, 5, 6, 12, 13, 3, 7, 8, 9, 10, 11, 14, 15, 16] (.nil)) (by kernel_rfl) ?_ ?_ ?_ ?_);kernel_rfl;exact (by decide +kernel);kernel_rfl;intro Y Yh;((repeat' (first|refine adr_nil ?_|((first|refine adr_qs fun Y Yh=>?_|refine adr_y fun Y Yh=>?_);simp[go_sem, hx, hi1, hi2, w1, w2, m1, m0, hne])|intro _|apply And.intro|(apply Yh;clear Yh Y)));all_goals first|apply Hold.mk|omega|assumption|skip))
  (refine awp_ret ?_;simp[go_sem])
  exact ⟨by rw [hA]; omega, hk.symm⟩
 ·have hk : pickK l a n = 0 := by unfold pickK; rw [if_neg h]
  have hA : pickA l a = a := by unfold pickA; rw [if_neg h]
  rw [hk, hA]
  have hi : (l.length : Int) ≤ a := by omega
  ((refine awp_dr (.qs [0, 1, 2, 4, 5, 6, 3, 7, 8, 9] (.nil)) (by kernel_rfl) ?_ ?_ ?_ ?_);kernel_rfl;exact (by decide +kernel);kernel_rfl;intro Y Yh;((repeat' (first|refine adr_nil ?_|((first|refine adr_qs fun Y Yh=>?_|refine adr_y fun Y Yh=>?_);simp[go_sem, hi])|intro _|apply And.intro|(apply Yh;clear Yh Y)));all_goals first|apply Hold.mk|omega|assumption|skip))
  (refine awp_if fun T F hT hF=>?_;simp[go_sem, hi, h];refine hT ?_;clear hT hF T F)
  (refine awp_sr fun Y Yh=>?_;simp[go_sem];((repeat' (first|intro _|apply And.intro|(apply Yh;clear Yh Y)));all_goals first|apply Hold.mk|omega|assumption|skip))
  (refine awp_ret ?_;simp[go_sem, hk, hA])
def nmsL : List Bs := [[97], [98], [99, 49], [100, 45, 101], [102], [97], [98], [103, 111, 110, 101]]
def wtsL : List Bs := [[], [], [62, 61, 32, 49, 46, 48], [126, 62, 32, 49, 46, 48], [60, 32, 50, 46, 48], [126, 62, 32, 50, 46, 48], [61, 32, 49, 46, 53], [62, 32, 50, 46, 48, 46, 97], [33, 61, 32, 51]]
theorem lit_at (L : List Bs) {k : Nat} (h : k < L.length) : ∃ y, L[k]? = some y ∧ y ∈ L := ⟨_, List.getElem?_eq_getElem h, List.getElem_mem h⟩
set_option maxHeartbeats 16000000 in
theorem gneeds_spec (l : List Int) (a most g : Nat) (hl : l.length ≤ 9223372036854775807) (ha : a ≤ l.length) (hm : most ≤ 10) :
  ACall Tryz.prog 50 [.ptr 900002 g 0, dI most] [(900002, (g, .box [dIs l, dI a]))] [900002]
   fun ps r => ∃ a' out, a' ≤ l.length ∧ nuV 10 out = true ∧ out.length ≤ most ∧ ps = [(g, .box [dIs l, dI a'])] ∧ r = dPs out := by
 refine acall_of Tryz.func50 rfl rfl Tryz.ntmps50 (rs := [.tmp 4]) (tys := [26]) rfl rfl (by simp) ?_ ?_
 ·intro q hq
  simp only [List.mem_cons, List.not_mem_nil, or_false] at hq
  subst hq
  simp [notFroz]
 have PK := fun a n ha hn hn2 => pick_spec l a n g hl ha hn hn2
 have P1 := PK a (most + 1) ha (by omega) (by omega)
 rw [show ((most + 1 : Nat) : Int) = (most : Int) + 1 by omega] at P1
 have hk1 := pickK_lt (l := l) (a := a) (n := most + 1) (by omega)
 have ha1 := pickA_le ha
 generalize pickK l a (most + 1) = k0 at *
 generalize pickA l a = a0 at *
 (refine awp_sr fun Y Yh=>?_;simp[go_sem];((repeat' (first|intro _|apply And.intro|(apply Yh;clear Yh Y)));all_goals first|apply Hold.mk|omega|assumption|skip))
 (refine awp_sr fun Y Yh=>?_;simp[go_sem];((repeat' (first|intro _|apply And.intro|(apply Yh;clear Yh Y)));all_goals first|apply Hold.mk|omega|assumption|skip))
 refine awp_nilslot 5 5 43 2 rfl fun g5 => ?_
 simp only [go_sem]
 refine awp_seq_k fun K1 hK1 => ?_
 (refine awp_sr fun Y Yh=>?_;simp[go_sem];((repeat' (first|intro _|apply And.intro|(apply Yh;clear Yh Y)));all_goals first|apply Hold.mk|omega|assumption|skip))
 (refine callA_l [900002] (.inl ⟨rfl,rfl⟩) (by simp[go_sem]) ?_;intro args ha;simp[go_sem] at ha;subst ha;refine ⟨_, _, P1, (by simp[go_sem]), ?_⟩;rintro ps r hps ⟨rfl, rfl⟩;simp[go_sem];((repeat' (first|intro _|apply And.intro|(apply Yh;clear Yh Y)));all_goals first|apply Hold.mk|omega|assumption|skip))
 refine awp_block ?_
 refine awp_loop (σ := Nat × Nat × List Prs × Nat) (fun x => ⟨[(0, .ptr 900002 g 0), (5, .own 5 x.2.2.2), (6, dI x.1)], [(900002, (g, .box [dIs l, dI x.2.1])), (5, x.2.2.2, .row 43 2 (x.2.2.1.map cP))]⟩)
  (fun x => x.2.1 ≤ l.length ∧ nuV 10 x.2.2.1 = true ∧ x.2.2.1.length + x.1 ≤ most) (fun x => x.1) (k0, a0, [], g5) ?_ ?_ ?_
 ·(refine cov_of ?_ ?_ <;> simp[go_sem])
 ·exact ⟨ha1, rfl, by simp; omega⟩
 rintro ⟨i, a, out, g5⟩ ⟨ha, hnu, hol⟩
 simp only at ha hnu hol
 refine awp_seq_k fun K2 hK2 => ?_
 (refine awp_sr fun Y Yh=>?_;simp[go_sem];((repeat' (first|intro _|apply And.intro|(apply Yh;clear Yh Y)));all_goals first|apply Hold.mk|omega|assumption|skip))
 (refine awp_if fun T F hT hF=>?_;simp[go_sem];refine BR.intro (fun h3=>hT ?_) (fun h3=>hF ?_);all_goals clear hT hF T F;try simp at h3)
 ·refine awp_skip ?_
  refine hK2 _ ?_; clear hK2
  refine awp_seq_j (α := {x : Nat × List Prs × Nat // x.1 ≤ l.length ∧ nuV 10 x.2.1 = true ∧ x.2.1.length + (i - 1) ≤ most}) (fun x => ⟨[(0, .ptr 900002 g 0), (5, .own 5 x.1.2.2), (6, dI i)], [(900002, (g, .box [dIs l, dI x.1.1])), (5, x.1.2.2, .row 43 2 (x.1.2.1.map cP))]⟩) (fun K4 hK4 hM4 => ?_) (fun x => ?_)
  rotate_left
  ·obtain ⟨⟨a', out', g'⟩, h1, h2, h3'⟩ := x
   simp only at h1 h2 h3'
   obtain ⟨j, rfl⟩ : ∃ j, i = j + 1 := ⟨i - 1, by omega⟩
   (refine awp_r fun Y Yh=>?_;simp[go_sem];((repeat' (first|intro _|apply And.intro|(apply Yh;clear Yh Y)));all_goals first|apply Hold.mk|omega|assumption|skip))
   refine ⟨(j, a', out', g'), ?_, ⟨h1, h2, by simpa using h3'⟩, by simp⟩
   (refine cov_of ?_ ?_ <;> simp[go_sem])
  have P2 := PK a 8 ha (by decide) (by decide)
  have hk2 := pickK_lt (l := l) (a := a) (n := 8) (by decide)
  have ha2 := pickA_le ha
  generalize pickK l a 8 = k2 at *
  generalize pickA l a = a2 at *
  have P3 := PK a2 9 ha2 (by decide) (by decide)
  have hk3 := pickK_lt (l := l) (a := a2) (n := 9) (by decide)
  have ha3 := pickA_le ha2
  generalize pickK l a2 9 = k3 at *
  generalize pickA l a2 = a3 at *
  obtain ⟨nm, hnm, hnmm⟩ := lit_at nmsL (k := k2) hk2
  obtain ⟨wt, hwt, hwtm⟩ := lit_at wtsL (k := k3) hk3
  have hnl : nm.length ≤ 20 := (by decide : ∀ y ∈ nmsL, y.length ≤ 20) nm hnmm
  have hwl : wt.length ≤ 20 := (by decide : ∀ y ∈ wtsL, y.length ≤ 20) wt hwtm
  have r1 : ([[dS [97]], [dS [98]], [dS [99, 49]], [dS [100, 45, 101]], [dS [102]], [dS [97]], [dS [98]], [dS [103, 111, 110, 101]]] : List (List D))[k2]? = some [dS nm] := by
   have : (nmsL.map cS)[k2]? = some (cS nm) := by rw [List.getElem?_map, hnm]; rfl
   exact this
  have r2 : ([[dS []], [dS []], [dS [62, 61, 32, 49, 46, 48]], [dS [126, 62, 32, 49, 46, 48]], [dS [60, 32, 50, 46, 48]], [dS [126, 62, 32, 50, 46, 48]], [dS [61, 32, 49, 46, 53]], [dS [62, 32, 50, 46, 48, 46, 97]], [dS [33, 61, 32, 51]]] : List (List D))[k3]? = some [dS wt] := by
   have : (wtsL.map cS)[k3]? = some (cS wt) := by rw [List.getElem?_map, hwt]; rfl
   exact this
  have hsz := nuV_sz hnu (by decide)
  have NU := nu_spec (out ++ [(nm, wt)]) 10 ⟨by simp; omega, fun x hx => by
   rcases List.mem_append.1 hx with h | h
   ·exact hsz.2 x h
   ·simp at h; subst h; exact ⟨by show nm.length ≤ _; omega, by show wt.length ≤ _; omega⟩⟩ (by decide)
  generalize hnb : nuV 10 (out ++ [(nm, wt)]) = nb at *
  refine awp_block ?_
  refine awp_seq_j (α := Nat) (fun g' => ⟨[(0, .ptr 900002 g 0), (5, .own 5 g'), (6, dI i)], [(900002, (g, .box [dIs l, dI a3])), (5, g', .row 43 2 ((out ++ [(nm, wt)]).map cP))]⟩) (fun K15 hK15 hM15 => ?_) (fun g' => ?_)
  ·((refine awp_d (.qs [0, 2, 7] (.three 1 (.two 3 (.qs [4] (.three 5 (.two 6 (.one 8 (.qs [9, 10, 11] (.one 12 (.one 13 (.qs [14] (.nil)))))) 8 (.kp 6 (.qs [9] (.nb (.qs [10, 11] (.one 12 (.one 13 (.qs [14] (.nil))))))))) 6 (.kq 5 (.one 8 (.qs [9, 10, 11] (.one 12 (.one 13 (.qs [14] (.nil)))))) 8 (.qs [9, 5, 10, 11] (.one 12 (.one 13 (.qs [14] (.nil)))))) 8 (.qs [5] (.kp 6 (.qs [9] (.nb (.qs [10, 11] (.one 12 (.one 13 (.qs [14] (.nil))))))))))) 6 (.one 3 (.qs [4] (.kq 5 (.one 8 (.qs [9, 10, 11] (.one 12 (.one 13 (.qs [14] (.nil)))))) 8 (.qs [9, 5, 10, 11] (.one 12 (.one 13 (.qs [14] (.nil))))))))) 3 (.three 1 (.qs [4] (.three 5 (.two 6 (.one 8 (.qs [9, 10, 11] (.one 12 (.one 13 (.qs [14] (.nil)))))) 8 (.kp 6 (.qs [9] (.nb (.qs [10, 11] (.one 12 (.one 13 (.qs [14] (.nil))))))))) 6 (.kq 5 (.one 8 (.qs [9, 10, 11] (.one 12 (.one 13 (.qs [14] (.nil)))))) 8 (.qs [9, 5, 10, 11] (.one 12 (.one 13 (.qs [14] (.nil)))))) 8 (.qs [5] (.kp 6 (.qs [9] (.nb (.qs [10, 11] (.one 12 (.one 13 (.qs [14] (.nil))))))))))) 6 (.two 1 (.qs [4] (.kq 5 (.one 8 (.qs [9, 10, 11] (.one 12 (.one 13 (.qs [14] (.nil)))))) 8 (.qs [9, 5, 10, 11] (.one 12 (.one 13 (.qs [14] (.nil))))))) 8 (.qs [9, 10] (.kp 1 (.qs [4] (.nb (.qs [5, 11] (.one 12 (.one 13 (.qs [14] (.nil)))))))))) 8 (.kp2 1 (.qs [4] (.nb (.qs [5] (.kp 6 (.qs [9] (.nb (.qs [10, 11] (.one 12 (.one 13 (.qs [14] (.nil))))))))))) 6 (.qs [9] (.nb (.qs [10] (.kp 1 (.qs [4] (.nb (.qs [5, 11] (.one 12 (.one 13 (.qs [14] (.nil))))))))))))) 6 (.two 1 (.one 3 (.qs [4] (.kq 5 (.one 8 (.qs [9, 10, 11] (.one 12 (.one 13 (.qs [14] (.nil)))))) 8 (.qs [9, 5, 10, 11] (.one 12 (.one 13 (.qs [14] (.nil)))))))) 3 (.two 1 (.qs [4] (.kq 5 (.one 8 (.qs [9, 10, 11] (.one 12 (.one 13 (.qs [14] (.nil)))))) 8 (.qs [9, 5, 10, 11] (.one 12 (.one 13 (.qs [14] (.nil))))))) 8 (.qs [9, 10] (.kp 1 (.qs [4] (.nb (.qs [5, 11] (.one 12 (.one 13 (.qs [14] (.nil))))))))))))) (by kernel_rfl) ?_ ?_ ?_ ?_);kernel_rfl;exact (by decide +kernel);kernel_rfl;intro Y Yh;((repeat' (first|refine adr_nil ?_|refine adr_two ?_ ?_|refine adr_kq ?_ ?_|refine adr_three ?_ ?_ ?_|refine adr_kp2 ?_ ?_|((first|refine adr_qs fun Y Yh=>?_|refine adr_y fun Y Yh=>?_);simp[go_sem, r1, r2])|intro _|apply And.intro|(apply Yh;clear Yh Y)));all_goals first|apply Hold.mk|omega|assumption|skip))
   all_goals (refine callA_l [900002] (.inl ⟨rfl,rfl⟩) (by simp[go_sem]) ?_;intro args ha;simp[go_sem] at ha;subst ha;refine ⟨_, _, P2, (by simp[go_sem, r1, r2]), ?_⟩;rintro ps r hps ⟨rfl, rfl⟩;simp[go_sem, r1, r2];((repeat' (first|refine adr_nil ?_|refine adr_two ?_ ?_|refine adr_kq ?_ ?_|refine adr_three ?_ ?_ ?_|refine adr_kp2 ?_ ?_|((first|refine adr_qs fun Y Yh=>?_|refine adr_y fun Y Yh=>?_);simp[go_sem, r1, r2])|intro _|apply And.intro|(apply Yh;clear Yh Y)));all_goals first|apply Hold.mk|omega|assumption|skip))
   all_goals (refine callA_l [900002] (.inl ⟨rfl,rfl⟩) (by simp[go_sem]) ?_;intro args ha;simp[go_sem] at ha;subst ha;refine ⟨_, _, P3, (by simp[go_sem, r1, r2]), ?_⟩;rintro ps r hps ⟨rfl, rfl⟩;simp[go_sem, r1, r2];((repeat' (first|refine adr_nil ?_|refine adr_two ?_ ?_|refine adr_kq ?_ ?_|refine adr_three ?_ ?_ ?_|refine adr_kp2 ?_ ?_|((first|refine adr_qs fun Y Yh=>?_|refine adr_y fun Y Yh=>?_);simp[go_sem, r1, r2])|intro _|apply And.intro|(apply Yh;clear Yh Y)));all_goals first|apply Hold.mk|omega|assumption|skip))
   all_goals
    refine hK15 _ ?_
    refine awp_renrow 5 5 rfl rfl (by decide) fun g' => ?_
    simp only [go_sem]
    refine hM15 g' _ ?_
    (refine cov_of ?_ ?_ <;> simp[go_sem])
  ·rw [show dPs (out ++ [(nm, wt)]) = D.sl 2 (out.map cP ++ [[dS nm, dS wt]]) by simp [go_sem]] at NU
   (refine awp_sr fun Y Yh=>?_;simp[go_sem];((repeat' (first|intro _|apply And.intro|(apply Yh;clear Yh Y)));all_goals first|apply Hold.mk|omega|assumption|skip))
   ((try refine CallT.toA ?_);refine callT_f (.inl ⟨rfl,rfl⟩) ?_;intro args ha;simp[go_sem] at ha;subst ha;refine ⟨_, NU, ?_⟩;rintro _ rfl;refine ⟨rfl, ?_⟩;simp[go_sem];((repeat' (first|intro _|apply And.intro|(apply Yh;clear Yh Y)));all_goals first|apply Hold.mk|omega|assumption|skip))
   cases nb with
   | true =>
    (refine awp_if fun T F hT hF=>?_;simp[go_sem];refine hF ?_;clear hT hF T F)
    refine awp_skip ?_
    refine hK4 _ ?_
    refine hM4 ⟨(a3, out ++ [(nm, wt)], g'), ha3, hnb, by simp; omega⟩ _ ?_
    (refine cov_of ?_ ?_ <;> simp[go_sem])
   | false =>
    have hl1 : ((out.length : Int) + 1 - 1).toNat = out.length := by omega
    have hl2 : (out.length : Int) + 1 - 1 = out.length := by omega
    (refine awp_if fun T F hT hF=>?_;simp[go_sem];refine hT ?_;clear hT hF T F)
    (refine awp_r fun Y Yh=>?_;simp[go_sem, hl1, hl2];((repeat' (first|intro _|apply And.intro|(apply Yh;clear Yh Y)));all_goals first|apply Hold.mk|omega|assumption|skip))
    refine hK4 _ ?_
    refine awp_renrow 5 5 rfl rfl (by decide) fun g'' => ?_
    simp only [go_sem]
    refine hM4 ⟨(a3, out, g''), ha3, hnu, by simp only; omega⟩ _ ?_
    (refine cov_of ?_ ?_ <;> simp[go_sem])
 ·refine awp_exit ?_
  simp only [go_sem]
  refine hK1 _ ?_; clear hK1
  (refine awp_sr fun Y Yh=>?_;simp[go_sem];((repeat' (first|intro _|apply And.intro|(apply Yh;clear Yh Y)));all_goals first|apply Hold.mk|omega|assumption|skip))
  refine awp_frzrow 4 rfl rfl ?_
  simp only [go_sem]
  (refine awp_ret ?_;simp[go_sem])
  exact ⟨a, ha, out, hnu, by omega, by simp⟩
def gnmL : List Bs := [[97], [98], [99, 49], [100, 45, 101], [102]]
def numL : List Bs := [[49, 46, 48], [49, 46, 53], [50, 46, 48], [50, 46, 49, 46, 97], [51]]
structure GrOk (s : Src) (w : List Prs) : Prop where
 nm : s.map (·.1) = gnmL
 vs : ∀ g ∈ s, vuV g.2 = true ∧ g.2.length ≤ 4
 wi : nuV 10 w = true
 wl : w.length ≤ 3
theorem grOk_su {s : Src} {w : List Prs} (h : GrOk s w) : suV s = true := by
 have hl : s.length = 5 := by have := congrArg List.length h.nm; simpa [gnmL] using this
 unfold suV
 rw [Bool.and_eq_true]
 refine ⟨by simp [hl], upTo_of fun i hi => ?_⟩
 obtain ⟨g, hg⟩ : ∃ g, s[i]? = some g := ⟨_, List.getElem?_eq_getElem hi⟩
 have hgn : gnmL[i]? = some g.1 := by rw [← h.nm, List.getElem?_map, hg]; rfl
 have hv := (h.vs g (List.mem_of_getElem? hg)).1
 unfold suAt
 rw [hg]
 simp only [hv, Bool.and_true]
 have hn : nameV g.1 = true := (by decide : ∀ y ∈ gnmL, nameV y = true) g.1 (List.mem_of_getElem? hgn)
 rw [hn, Bool.true_and]
 by_cases h0 : i = 0
 ·simp [h0]
 ·obtain ⟨y, hy⟩ : ∃ y, s[i - 1]? = some y := ⟨_, List.getElem?_eq_getElem (by omega)⟩
  have hyn : gnmL[i - 1]? = some y.1 := by rw [← h.nm, List.getElem?_map, hy]; rfl
  rw [hy]
  simp only [h0, decide_false, Bool.false_or]
  have hi5 : i < 5 := by omega
  have key : ∀ i, i < 5 → i ≠ 0 → ∀ a b, gnmL[i - 1]? = some a → gnmL[i]? = some b → Op.bytesLess a b = true := by
   intro i hi h0 a b ha hb
   match i, hi, h0 with
   | 1, _, _ => simp [gnmL] at ha hb; subst ha hb; decide
   | 2, _, _ => simp [gnmL] at ha hb; subst ha hb; decide
   | 3, _, _ => simp [gnmL] at ha hb; subst ha hb; decide
   | 4, _, _ => simp [gnmL] at ha hb; subst ha hb; decide
   | 0, _, h0 => exact absurd rfl h0
   | n + 5, h, _ => omega
  exact key i hi5 h0 _ _ hyn hgn
set_option maxHeartbeats 32000000 in
theorem rGrown_spec (l : List Int) (hl : l.length ≤ 9223372036854775807) : PCall Tryz.prog 13 [dIs l] fun r => ∃ s w, GrOk s w ∧ r = .tup [dSrc s, dPs w] := by 
 refine pcall_of Tryz.func13 rfl rfl Tryz.ntmps13 (rs := [.cell 2 25, .tmp 3]) (tys := [25, 26]) rfl rfl (by simp) ?_
 have PK := fun a n g ha hn hn2 => pick_spec l a n g hl ha hn hn2
 have GN := fun a m g ha hm => gneeds_spec l a m g hl ha hm
 (refine awp_sr fun Y Yh=>?_;simp[go_sem];((repeat' (first|(refine ag_x ?_;simp[go_sem])|intro _|apply And.intro|(apply Yh;clear Yh Y)));all_goals first|apply Hold.mk|omega|assumption|skip))
 rename_i g2
 (refine awp_sr fun Y Yh=>?_;simp[go_sem];((repeat' (first|(refine ag_x ?_;simp[go_sem])|intro _|apply And.intro|(apply Yh;clear Yh Y)));all_goals first|apply Hold.mk|omega|assumption|skip))
 refine awp_renbox 4 900002 rfl rfl (by decide) fun g4 => ?_
 simp only [go_sem]
 (refine awp_sr fun Y Yh=>?_;simp[go_sem];((repeat' (first|(refine ag_x ?_;simp[go_sem])|intro _|apply And.intro|(apply Yh;clear Yh Y)));all_goals first|apply Hold.mk|omega|assumption|skip))
 rename_i g5
 refine awp_nilbox 900011 46 2 0 (sb := 5) rfl rfl (by decide) fun gs => ?_
 simp only [List.set, go_sem]
 (refine awp_sr fun Y Yh=>?_;simp[go_sem];((repeat' (first|(refine ag_x ?_;simp[go_sem])|intro _|apply And.intro|(apply Yh;clear Yh Y)));all_goals first|apply Hold.mk|omega|assumption|skip))
 refine awp_frzrow 6 rfl rfl ?_
 simp only [go_sem]
 refine awp_seq_k fun K1 hK1 => ?_
 (refine awp_sr fun Y Yh=>?_;simp[go_sem];((repeat' (first|(refine ag_x ?_;simp[go_sem])|intro _|apply And.intro|(apply Yh;clear Yh Y)));all_goals first|apply Hold.mk|omega|assumption|skip))
 refine awp_block ?_
 refine awp_loop (σ := Nat × Nat × Src × Nat) (fun x => ⟨[(0, dIs l), (2, .ptr 2 g2 0), (4, .ptr 900002 g4 0), (5, .ptr 5 g5 0), (6, dSs gnmL), (7, dI x.1)], [(2, (g2, .box [.v (.slice none 0 0)])), (900002, (g4, .box [dIs l, dI x.2.1])), (5, (g5, .box [.own 900011 x.2.2.2])), (900011, (x.2.2.2, .row 46 2 (x.2.2.1.map cGm)))]⟩)
  (fun x => x.1 ≤ 5 ∧ x.2.1 ≤ l.length ∧ x.2.2.1.map (·.1) = gnmL.take x.1 ∧ ∀ g ∈ x.2.2.1, vuV g.2 = true ∧ g.2.length ≤ 4) (fun x => 5 - x.1) (0, 0, [], gs) ?_ ?_ ?_
 ·(refine cov_of ?_ ?_ <;> simp[go_sem, gnmL])
 ·simp
 rintro ⟨i, a, s, gs⟩ ⟨hi, ha, hsn, hsv⟩
 simp only at hi ha hsn hsv
 have hsl : s.length = i := by have := congrArg List.length hsn; simp [gnmL] at this; omega
 refine awp_seq_k fun K2 hK2 => ?_
 (refine awp_sr fun Y Yh=>?_;simp[go_sem];((repeat' (first|(refine ag_x ?_;simp[go_sem])|intro _|apply And.intro|(apply Yh;clear Yh Y)));all_goals first|apply Hold.mk|omega|assumption|skip))
 (refine awp_if fun T F hT hF=>?_;simp[go_sem];refine BR.intro (fun h3=>hT ?_) (fun h3=>hF ?_);all_goals clear hT hF T F;try simp at h3)
 ·refine awp_skip ?_
  refine hK2 _ ?_; clear hK2
  obtain ⟨nm, hnm, hnmm⟩ := lit_at gnmL (k := i) (by simp [gnmL]; omega)
  have r0 : (gnmL.map cS)[i]? = some (cS nm) := by rw [List.getElem?_map, hnm]; rfl
  refine awp_seq_k fun K4 hK4 => ?_
  refine awp_block ?_
  (refine awp_sr fun Y Yh=>?_;simp[go_sem, hnm];((repeat' (first|(refine ag_x ?_;simp[go_sem, hnm])|intro _|apply And.intro|(apply Yh;clear Yh Y)));all_goals first|apply Hold.mk|omega|assumption|skip))
  rename_i g8
  refine awp_nilbox 900010 48 2 1 (sb := 8) rfl rfl (by decide) fun gv => ?_
  simp only [List.set, go_sem]
  have P1 := PK a 4 g4 ha (by decide) (by decide)
  have hk1 := pickK_lt (l := l) (a := a) (n := 4) (by decide)
  have ha1 := pickA_le ha
  generalize pickK l a 4 = k1 at *
  generalize pickA l a = a1 at *
  refine awp_seq_k fun K5 hK5 => ?_
  (refine awp_sr fun Y Yh=>?_;simp[go_sem];((repeat' (first|(refine ag_x ?_;simp[go_sem])|intro _|apply And.intro|(apply Yh;clear Yh Y)));all_goals first|apply Hold.mk|omega|assumption|skip))
  (refine callA_l [900002] (.inl ⟨rfl,rfl⟩) (by simp[go_sem]) ?_;intro args ha;simp[go_sem] at ha;subst ha;refine ⟨_, _, P1, (by simp[go_sem]), ?_⟩;rintro ps r hps ⟨rfl, rfl⟩;simp[go_sem];((repeat' (first|(refine ag_x ?_;simp[go_sem])|intro _|apply And.intro|(apply Yh;clear Yh Y)));all_goals first|apply Hold.mk|omega|assumption|skip))
  refine awp_block ?_
  refine awp_loop (σ := Nat × Nat × List Vrs × Nat) (fun x => ⟨[(0, dIs l), (2, .ptr 2 g2 0), (4, .ptr 900002 g4 0), (5, .ptr 5 g5 0), (6, dSs gnmL), (7, dI i), (8, .ptr 8 g8 0), (9, dI ((x.1 : Int) - 1))], [(2, (g2, .box [.v (.slice none 0 0)])), (900002, (g4, .box [dIs l, dI x.2.1])), (5, (g5, .box [.own 900011 gs])), (900011, (gs, .row 46 2 (s.map cGm))), (8, (g8, .box [dS nm, .own 900010 x.2.2.2])), (900010, (x.2.2.2, .row 48 2 (x.2.2.1.map cVr)))]⟩)
   (fun x => x.2.1 ≤ l.length ∧ vuV x.2.2.1 = true ∧ x.2.2.1.length + x.1 ≤ 4) (fun x => x.1) (k1 + 1, a1, [], gv) ?_ ?_ ?_
  ·(refine cov_of ?_ ?_ <;> simp[go_sem])
   try omega
  ·exact ⟨ha1, rfl, by simp; omega⟩
  rintro ⟨q, a, vs, gv⟩ ⟨ha, hvu, hvl⟩
  simp only at ha hvu hvl
  have tl5 : ∀ S', Cov S' ⟨[(0, dIs l), (2, .ptr 2 g2 0), (4, .ptr 900002 g4 0), (5, .ptr 5 g5 0), (6, dSs gnmL), (7, dI i), (8, .ptr 8 g8 0)], [(2, (g2, .box [.v (.slice none 0 0)])), (900002, (g4, .box [dIs l, dI a])), (5, (g5, .box [.own 900011 gs])), (900011, (gs, .row 46 2 (s.map cGm))), (8, (g8, .box [dS nm, .own 900010 gv])), (900010, (gv, .row 48 2 (vs.map cVr)))]⟩ → K5 S' := fun S' hS => by
   refine hK5 _ ?_; clear hK5
   refine awp_cov hS ?_; clear hS
   (refine awp_r fun Y Yh=>?_;simp[go_sem];((repeat' (first|(refine ag_x ?_;simp[go_sem])|intro _|apply And.intro|(apply Yh;clear Yh Y)));all_goals first|apply Hold.mk|omega|assumption|skip))
   refine hK4 _ ?_; clear hK4
   (refine awp_r fun Y Yh=>?_;simp[go_sem];((repeat' (first|(refine ag_x ?_;simp[go_sem])|intro _|apply And.intro|(apply Yh;clear Yh Y)));all_goals first|apply Hold.mk|omega|assumption|skip))
   rename_i g' g''
   refine ⟨(i + 1, a, s ++ [(nm, vs)], g''), ?_, ⟨by simp only; omega, ha, ?_, ?_⟩, by simp only; omega⟩
   ·(refine cov_of ?_ ?_ <;> simp[go_sem])
   ·rw [List.map_append, hsn, List.take_add_one, hnm]; rfl
   ·intro g hg
    rcases List.mem_append.1 hg with h | h
    ·exact hsv g h
    ·simp at h; subst h; exact ⟨hvu, by show vs.length ≤ 4; omega⟩
  clear hK5 hK4
  refine awp_seq_k fun K6 hK6 => ?_
  cases q with
  | zero =>
   (refine awp_sr fun Y Yh=>?_;simp[go_sem];((repeat' (first|(refine ag_false ?_ ?_ ?_;(focus (simp[go_sem, undef];done));(focus (simp[go_sem];done));simp[go_sem])|(refine ag_true ?_ ?_;(focus (simp[go_sem, undef];done));simp[go_sem])|(refine ag_x ?_;simp[go_sem, undef])|intro _|apply And.intro|(apply Yh;clear Yh Y)));all_goals first|apply Hold.mk|omega|assumption|skip))
   (refine awp_if fun T F hT hF=>?_;simp[go_sem];refine hF ?_;clear hT hF T F)
   refine awp_exit ?_
   simp only [go_sem]
   refine tl5 _ ?_
   (refine cov_of ?_ ?_ <;> simp[go_sem])
  | succ q =>
   have hq0 : (0 : Int) ≤ (q : Int) + 1 - 1 := by omega
   have hqe : (q : Int) + 1 - 1 = q := by omega
   by_cases hal : a < l.length
   ·have hali : (a : Int) < l.length := by omega
    (refine awp_sr fun Y Yh=>?_;simp[go_sem, hq0, hqe, hal, hali];((repeat' (first|(refine ag_x ?_;simp[go_sem, hq0, hqe, hal, hali])|intro _|apply And.intro|(apply Yh;clear Yh Y)));all_goals first|apply Hold.mk|omega|assumption|skip))
    (refine awp_if fun T F hT hF=>?_;simp[go_sem, hq0, hqe, hal, hali];refine hT ?_;clear hT hF T F)
    refine awp_skip ?_
    refine hK6 _ ?_; clear hK6
    refine awp_seq_j (α := {x : Nat × List Vrs × Nat // x.1 ≤ l.length ∧ vuV x.2.1 = true ∧ x.2.1.length + q ≤ 4}) (fun x => ⟨[(0, dIs l), (2, .ptr 2 g2 0), (4, .ptr 900002 g4 0), (5, .ptr 5 g5 0), (6, dSs gnmL), (7, dI i), (8, .ptr 8 g8 0), (9, dI q)], [(2, (g2, .box [.v (.slice none 0 0)])), (900002, (g4, .box [dIs l, dI x.1.1])), (5, (g5, .box [.own 900011 gs])), (900011, (gs, .row 46 2 (s.map cGm))), (8, (g8, .box [dS nm, .own 900010 x.1.2.2])), (900010, (x.1.2.2, .row 48 2 (x.1.2.1.map cVr)))]⟩) (fun K8 hK8 hM8 => ?_) (fun x => ?_)
    rotate_left
    ·obtain ⟨⟨a', vs', g'⟩, h1, h2, h3'⟩ := x
     simp only at h1 h2 h3'
     (refine awp_r fun Y Yh=>?_;simp[go_sem];((repeat' (first|(refine ag_x ?_;simp[go_sem])|intro _|apply And.intro|(apply Yh;clear Yh Y)));all_goals first|apply Hold.mk|omega|assumption|skip))
     refine ⟨(q, a', vs', g'), ?_, ⟨h1, h2, by simp only; omega⟩, by simp⟩
     (refine cov_of ?_ ?_ <;> simp[go_sem])
    have P2 := PK a 5 g4 ha (by decide) (by decide)
    have hk2 := pickK_lt (l := l) (a := a) (n := 5) (by decide)
    have ha2 := pickA_le ha
    generalize pickK l a 5 = k2 at *
    generalize pickA l a = a2 at *
    have N2 := GN a2 2 g4 ha2 (by decide)
    obtain ⟨num, hnum, hnumm⟩ := lit_at numL (k := k2) hk2
    have hnl : num.length ≤ 20 := (by decide : ∀ y ∈ numL, y.length ≤ 20) num hnumm
    have r1 : ([[dS [49, 46, 48]], [dS [49, 46, 53]], [dS [50, 46, 48]], [dS [50, 46, 49, 46, 97]], [dS [51]]] : List (List D))[k2]? = some [dS num] := by
     have : (numL.map cS)[k2]? = some (cS num) := by rw [List.getElem?_map, hnum]; rfl
     exact this
    refine awp_block ?_
    refine awp_seq_j (α := {x : Nat × List Prs // x.1 ≤ l.length ∧ nuV 10 x.2 = true ∧ x.2.length ≤ 2}) (fun x => ⟨[(0, dIs l), (2, .ptr 2 g2 0), (4, .ptr 900002 g4 0), (5, .ptr 5 g5 0), (6, dSs gnmL), (7, dI i), (8, .ptr 8 g8 0), (9, dI q), (10, .rd [dS num, dPs x.1.2])], [(2, (g2, .box [.v (.slice none 0 0)])), (900002, (g4, .box [dIs l, dI x.1.1])), (5, (g5, .box [.own 900011 gs])), (900011, (gs, .row 46 2 (s.map cGm))), (8, (g8, .box [dS nm, .own 900010 gv])), (900010, (gv, .row 48 2 (vs.map cVr)))]⟩) (fun K9 hK9 hM9 => ?_) (fun x => ?_)
    ·((refine awp_d (.qs [1, 5] (.three 0 (.two 2 (.qs [3] (.three 4 (.two 6 (.qs [7] (.kp 8 (.one 9 (.nil)))) 8 (.one 6 (.qs [7] (.one 9 (.nil))))) 6 (.qs [4, 7] (.kp 8 (.one 9 (.nil)))) 8 (.kq 4 (.one 6 (.qs [7] (.one 9 (.nil)))) 6 (.qs [4, 7] (.one 9 (.nil)))))) 8 (.one 2 (.qs [3] (.kq 4 (.one 6 (.qs [7] (.one 9 (.nil)))) 6 (.qs [4, 7] (.one 9 (.nil))))))) 2 (.three 0 (.qs [3] (.three 4 (.two 6 (.qs [7] (.kp 8 (.one 9 (.nil)))) 8 (.one 6 (.qs [7] (.one 9 (.nil))))) 6 (.qs [4, 7] (.kp 8 (.one 9 (.nil)))) 8 (.kq 4 (.one 6 (.qs [7] (.one 9 (.nil)))) 6 (.qs [4, 7] (.one 9 (.nil)))))) 6 (.kp2 0 (.qs [3] (.nb (.qs [4, 7] (.kp 8 (.one 9 (.nil)))))) 8 (.kp 0 (.qs [3] (.nb (.qs [4, 7] (.one 9 (.nil))))))) 8 (.two 0 (.qs [3] (.kq 4 (.one 6 (.qs [7] (.one 9 (.nil)))) 6 (.qs [4, 7] (.one 9 (.nil))))) 6 (.one 0 (.qs [3, 4, 7] (.one 9 (.nil)))))) 8 (.two 0 (.one 2 (.qs [3] (.kq 4 (.one 6 (.qs [7] (.one 9 (.nil)))) 6 (.qs [4, 7] (.one 9 (.nil)))))) 2 (.two 0 (.qs [3] (.kq 4 (.one 6 (.qs [7] (.one 9 (.nil)))) 6 (.qs [4, 7] (.one 9 (.nil))))) 6 (.one 0 (.qs [3, 4, 7] (.one 9 (.nil)))))))) (by kernel_rfl) ?_ ?_ ?_ ?_);kernel_rfl;exact (by decide +kernel);kernel_rfl;intro Y Yh;((repeat' (first|(refine ag_x ?_;simp[go_sem, r1, hqe])|refine adr_nil ?_|refine adr_two ?_ ?_|refine adr_kq ?_ ?_|refine adr_three ?_ ?_ ?_|refine adr_kp2 ?_ ?_|((first|refine adr_qs fun Y Yh=>?_|refine adr_y fun Y Yh=>?_);simp[go_sem, r1, hqe])|intro _|apply And.intro|(apply Yh;clear Yh Y)));all_goals first|apply Hold.mk|omega|assumption|skip))
     all_goals (refine callA_l [900002] (.inl ⟨rfl,rfl⟩) (by simp[go_sem]) ?_;intro args ha;simp[go_sem] at ha;subst ha;refine ⟨_, _, P2, (by simp[go_sem, r1, hqe]), ?_⟩;rintro ps r hps ⟨rfl, rfl⟩;simp[go_sem, r1, hqe];((repeat' (first|(refine ag_x ?_;simp[go_sem, r1, hqe])|refine adr_nil ?_|refine adr_two ?_ ?_|refine adr_kq ?_ ?_|refine adr_three ?_ ?_ ?_|refine adr_kp2 ?_ ?_|((first|refine adr_qs fun Y Yh=>?_|refine adr_y fun Y Yh=>?_);simp[go_sem, r1, hqe])|intro _|apply And.intro|(apply Yh;clear Yh Y)));all_goals first|apply Hold.mk|omega|assumption|skip))
     all_goals (refine callA_l [900002] (.inl ⟨rfl,rfl⟩) (by simp[go_sem]) ?_;intro args ha;simp[go_sem] at ha;subst ha;refine ⟨_, _, N2, (by simp[go_sem, r1, hqe]), ?_⟩;rintro ps r hps ⟨a', out, h1, h2, h3', rfl, rfl⟩;simp[go_sem, r1, hqe];((repeat' (first|(refine ag_x ?_;simp[go_sem, r1, hqe])|refine adr_nil ?_|refine adr_two ?_ ?_|refine adr_kq ?_ ?_|refine adr_three ?_ ?_ ?_|refine adr_kp2 ?_ ?_|((first|refine adr_qs fun Y Yh=>?_|refine adr_y fun Y Yh=>?_);simp[go_sem, r1, hqe])|intro _|apply And.intro|(apply Yh;clear Yh Y)));all_goals first|apply Hold.mk|omega|assumption|skip))
     all_goals
      refine hK9 _ ?_
      refine awp_frzbox 10 rfl rfl ?_
      simp only [go_sem]
      refine hM9 ⟨(a', out), h1, h2, h3'⟩ _ ?_
      (refine cov_of ?_ ?_ <;> simp[go_sem])
    ·obtain ⟨⟨a', out⟩, h1, h2, h3'⟩ := x
     simp only at h1 h2 h3'
     have hvz : ∀ v ∈ vs ++ [(num, out)], SzV v := fun v hv => by
      rcases List.mem_append.1 hv with h | h
      ·have := (vuV_parts hvu).2 v h
       exact ⟨by have := readV_len this.1; omega, nuV_sz this.2 (by decide)⟩
      ·simp at h; subst h; exact ⟨by show num.length ≤ _; omega, nuV_sz h2 (by decide)⟩
     have VS := versions_spec (vs ++ [(num, out)]) (by simp; omega) hvz
     rw [show dVrs (vs ++ [(num, out)]) = D.sl 2 (vs.map cVr ++ [[dS num, dPs out]]) by simp [go_sem]] at VS
     generalize hnb : vuV (vs ++ [(num, out)]) = nb at *
     (refine awp_sr fun Y Yh=>?_;simp[go_sem];((repeat' (first|(refine ag_x ?_;simp[go_sem])|intro _|apply And.intro|(apply Yh;clear Yh Y)));all_goals first|apply Hold.mk|omega|assumption|skip))
     (refine awp_sr fun Y Yh=>?_;simp[go_sem];((repeat' (first|(refine ag_x ?_;simp[go_sem])|intro _|apply And.intro|(apply Yh;clear Yh Y)));all_goals first|apply Hold.mk|omega|assumption|skip))
     ((try refine CallT.toA ?_);refine callT_f (.inl ⟨rfl,rfl⟩) ?_;intro args ha;simp[go_sem] at ha;subst ha;refine ⟨_, VS, ?_⟩;rintro _ rfl;refine ⟨rfl, ?_⟩;simp[go_sem];((repeat' (first|(refine ag_x ?_;simp[go_sem])|intro _|apply And.intro|(apply Yh;clear Yh Y)));all_goals first|apply Hold.mk|omega|assumption|skip))
     rename_i gq1 gq2
     cases nb with
     | true =>
      (refine awp_if fun T F hT hF=>?_;simp[go_sem];refine hF ?_;clear hT hF T F)
      refine awp_skip ?_
      refine hK8 _ ?_
      refine hM8 ⟨(a', vs ++ [(num, out)], gq2), h1, hnb, by simp; omega⟩ _ ?_
      (refine cov_of ?_ ?_ <;> simp[go_sem])
     | false =>
      have hl1 : ((vs.length : Int) + 1 - 1).toNat = vs.length := by omega
      have hl2 : (vs.length : Int) + 1 - 1 = vs.length := by omega
      (refine awp_if fun T F hT hF=>?_;simp[go_sem];refine hT ?_;clear hT hF T F)
      (refine awp_r fun Y Yh=>?_;simp[go_sem, hl1, hl2];((repeat' (first|(refine ag_x ?_;simp[go_sem, hl1, hl2])|intro _|apply And.intro|(apply Yh;clear Yh Y)));all_goals first|apply Hold.mk|omega|assumption|skip))
      rename_i gq3
      refine hK8 _ ?_
      refine hM8 ⟨(a', vs, gq3), h1, hvu, by simp only; omega⟩ _ ?_
      (refine cov_of ?_ ?_ <;> simp[go_sem])
   ·have hali : ¬ (a : Int) < l.length := by omega
    (refine awp_sr fun Y Yh=>?_;simp[go_sem, hq0, hqe, hal, hali];((repeat' (first|(refine ag_x ?_;simp[go_sem, hq0, hqe, hal, hali])|intro _|apply And.intro|(apply Yh;clear Yh Y)));all_goals first|apply Hold.mk|omega|assumption|skip))
    (refine awp_if fun T F hT hF=>?_;simp[go_sem, hq0, hqe, hal, hali];refine hF ?_;clear hT hF T F)
    refine awp_exit ?_
    simp only [go_sem]
    refine tl5 _ ?_
    (refine cov_of ?_ ?_ <;> simp[go_sem])
 ·refine awp_exit ?_
  simp only [go_sem]
  refine hK1 _ ?_; clear hK1
  have hi5 : i = 5 := by omega
  subst hi5
  refine awp_frzin 900011 5 0 rfl rfl (by decide) rfl ?_
  simp only [go_sem, List.set]
  ((refine awp_dr (.qs [1] (.kq 0 (.one 2 (.one 3 (.qs [4] (.nil)))) 2 (.qs [0] (.one 3 (.qs [4] (.nil)))))) (by kernel_rfl) ?_ ?_ ?_ ?_);kernel_rfl;exact (by decide +kernel);kernel_rfl;intro Y Yh;((repeat' (first|(refine ag_x ?_;simp[go_sem])|refine adr_nil ?_|refine adr_kq ?_ ?_|((first|refine adr_qs fun Y Yh=>?_|refine adr_y fun Y Yh=>?_);simp[go_sem])|intro _|apply And.intro|(apply Yh;clear Yh Y)));all_goals first|apply Hold.mk|omega|assumption|skip))
  all_goals
   (refine callA_l [900002] (.inl ⟨rfl,rfl⟩) (by simp[go_sem]) ?_;intro args ha;simp[go_sem] at ha;subst ha;refine ⟨_, _, (GN a 3 g4 ha (by decide)), (by simp[go_sem]), ?_⟩;rintro ps r hps ⟨a', w, h1, h2, h3', rfl, rfl⟩;simp[go_sem];((repeat' (first|(refine ag_x ?_;simp[go_sem])|refine adr_nil ?_|refine adr_kq ?_ ?_|((first|refine adr_qs fun Y Yh=>?_|refine adr_y fun Y Yh=>?_);simp[go_sem])|intro _|apply And.intro|(apply Yh;clear Yh Y)));all_goals first|apply Hold.mk|omega|assumption|skip))
   (refine awp_ret ?_;simp[go_sem])
   exact ⟨s, w, ⟨hsn, hsv, h2, h3'⟩, by simp⟩
end Go.Proofs.YteekfnhhlcmcgaaGreatDoor
set_option maxRecDepth 20000
namespace Go.Lk
open Go.Lib Go.Wh Go.Ver
/-! the order of names; a lock of a solution is valid -/
theorem bl_irr : ∀ a : Bs, Op.bytesLess a a = false
 | [] => rfl
 | x :: a => by
  unfold Op.bytesLess
  rw [bl_irr a]
  simp
theorem bl_trans : ∀ {a b c : Bs}, Op.bytesLess a b = true → Op.bytesLess b c = true → Op.bytesLess a c = true
 | a, [], c, h, _ => by cases a <;> simp [Op.bytesLess] at h
 | a, y :: b, [], _, h => by simp [Op.bytesLess] at h
 | [], y :: b, z :: c, _, _ => rfl
 | x :: a, y :: b, z :: c, h1, h2 => by
  simp only [Op.bytesLess, Bool.or_eq_true, Bool.and_eq_true, decide_eq_true_eq, beq_iff_eq] at h1 h2 ⊢
  rcases h1 with h1 | ⟨rfl, h1⟩
  ·rcases h2 with h2 | ⟨rfl, h2⟩
   ·exact .inl (UInt8.lt_trans h1 h2)
   ·exact .inl h1
  ·rcases h2 with h2 | ⟨rfl, h2⟩
   ·exact .inl h2
   ·exact .inr ⟨rfl, bl_trans h1 h2⟩
theorem bl_tri : ∀ a b : Bs, a = b ∨ Op.bytesLess a b = true ∨ Op.bytesLess b a = true
 | [], [] => .inl rfl
 | [], y :: b => .inr (.inl rfl)
 | x :: a, [] => .inr (.inr rfl)
 | x :: a, y :: b => by
  simp only [Op.bytesLess, Bool.or_eq_true, Bool.and_eq_true, decide_eq_true_eq, beq_iff_eq, List.cons.injEq]
  rcases Nat.lt_trichotomy x.toNat y.toNat with h | h | h
  ·exact .inr (.inl (.inl (UInt8.lt_iff_toNat_lt.2 h)))
  ·have e : x = y := UInt8.toNat_inj.1 h
   rcases bl_tri a b with q | q | q
   ·exact .inl ⟨e, q⟩
   ·exact .inr (.inl (.inr ⟨e, q⟩))
   ·exact .inr (.inr (.inr ⟨e.symm, q⟩))
  ·exact .inr (.inr (.inl (UInt8.lt_iff_toNat_lt.2 h)))
abbrev Asc (l : List Prs) : Prop := l.Pairwise fun x y => Op.bytesLess x.1 y.1 = true
theorem posP_spec (x : Prs) (out : List Prs) : ∀ n, n ≤ out.length → (∀ j y, posP x out n ≤ j → j < n → out[j]? = some y → Op.bytesLess x.1 y.1 = true) ∧ (∀ y, 0 < posP x out n → out[posP x out n - 1]? = some y → Op.bytesLess x.1 y.1 = false)
 | 0, _ => ⟨fun j y _ h => by omega, fun y h => by simp [posP] at h⟩
 | n + 1, hn => by
  obtain ⟨z, hz⟩ : ∃ z, out[n]? = some z := ⟨_, List.getElem?_eq_getElem (by omega)⟩
  obtain ⟨h1, h2⟩ := posP_spec x out n (by omega)
  rw [posP_step hz]
  split
  ·rename_i hb
   refine ⟨fun j y hj hjn hy => ?_, h2⟩
   by_cases e : j = n
   ·subst e; rw [hz] at hy; rw [← Option.some.inj hy]; exact hb
   ·exact h1 j y hj (by omega) hy
  ·rename_i hb
   refine ⟨fun j y hj hjn => by omega, fun y _ hy => ?_⟩
   rw [Nat.add_sub_cancel, hz] at hy
   rw [← Option.some.inj hy]
   simpa using hb
theorem insP_asc {x : Prs} {out : List Prs} (h : Asc out) (hx : x.1 ∉ out.map (·.1)) : Asc (insP x out) := by
 obtain ⟨h1, h2⟩ := posP_spec x out out.length (Nat.le_refl _)
 have hle := posP_le x out out.length
 unfold insP
 generalize posP x out out.length = a at *
 have hap : Asc (out.take a ++ out.drop a) := by rw [List.take_append_drop]; exact h
 obtain ⟨p1, p2, p3⟩ := List.pairwise_append.1 hap
 refine List.pairwise_append.2 ⟨p1, List.pairwise_cons.2 ⟨fun y hy => ?_, p2⟩, fun y hy z hz => ?_⟩
 ·obtain ⟨j, hj⟩ := List.getElem?_of_mem hy
  rw [List.getElem?_drop] at hj
  exact h1 (a + j) y (by omega) (List.getElem?_eq_some_iff.1 hj).1 hj
 ·rcases List.mem_cons.1 hz with rfl | hz
  ·
   have ha : 0 < a := by
    rcases Nat.eq_zero_or_pos a with q | q
    ·subst q; simp at hy
    ·exact q
   obtain ⟨w, hw⟩ : ∃ w, out[a - 1]? = some w := ⟨_, List.getElem?_eq_getElem (by omega)⟩
   have hwx : Op.bytesLess w.1 z.1 = true := by
    rcases bl_tri z.1 w.1 with q | q | q
    ·exact absurd (List.mem_map.2 ⟨w, List.mem_of_getElem? hw, q.symm⟩) hx
    ·have := h2 w ha hw; rw [q] at this; cases this
    ·exact q
   obtain ⟨j, hj⟩ := List.getElem?_of_mem hy
   rw [List.getElem?_take] at hj
   split at hj
   ·rename_i hja
    by_cases e : j = a - 1
    ·subst e; rw [hw] at hj; rw [← Option.some.inj hj]; exact hwx
    ·have hlt := (List.getElem?_eq_some_iff.1 hj).1
     have := List.pairwise_iff_getElem.1 h j (a - 1) hlt (by omega) (by omega)
     rw [(List.getElem?_eq_some_iff.1 hj).2, (List.getElem?_eq_some_iff.1 hw).2] at this
     exact bl_trans this hwx
   ·cases hj
  ·exact p3 y hy z hz
theorem srt_asc' : ∀ (l o : List Prs), Asc o → (l.map (·.1)).Nodup → (∀ x ∈ l, x.1 ∉ o.map (·.1)) → Asc (l.foldl (fun o x => insP x o) o)
 | [], o, h, _, _ => h
 | x :: l, o, h, hn, hd => by
  rw [List.foldl_cons]
  rw [List.map_cons, List.nodup_cons] at hn
  refine srt_asc' l _ (insP_asc h (hd x (by simp))) hn.2 fun y hy hm => ?_
  obtain ⟨z, hz, e⟩ := List.mem_map.1 hm
  rcases insP_mem.1 hz with rfl | hz
  ·exact hn.1 (List.mem_map.2 ⟨y, hy, e.symm⟩)
  ·exact hd y (by simp [hy]) (List.mem_map.2 ⟨z, hz, e⟩)
theorem srt_asc {l : List Prs} (h : (l.map (·.1)).Nodup) : Asc (srtP l) := srt_asc' l [] List.Pairwise.nil h (by simp)
theorem asc_at {l : List Prs} (h : Asc l) {i : Nat} {x y : Prs} (hi : i ≠ 0) (hx : l[i]? = some x) (hy : l[i - 1]? = some y) : Op.bytesLess y.1 x.1 = true := by
 have h1 := (List.getElem?_eq_some_iff.1 hx)
 have h2 := (List.getElem?_eq_some_iff.1 hy)
 have := List.pairwise_iff_getElem.1 h (i - 1) i h2.1 h1.1 (by omega)
 rw [h1.2, h2.2] at this
 exact this
theorem needsV_of {m : Nat} {l : List Prs} (h : Asc l) (hl : l.length ≤ m) (hn : ∀ n ∈ l, nameV n.1 = true ∧ (condsV n.2).isSome = true) : needsV m l = true := by
 unfold needsV
 rw [Bool.and_eq_true]
 refine ⟨?_, by simpa using hl⟩
 have key : ∀ k, needTo l k = true := by
  intro k
  induction k with
  | zero => rfl
  | succ k ih =>
   rw [needTo, ih, Bool.true_and]
   unfold needAt
   cases hx : l[k]? with
   | none => rfl
   | some x =>
    simp only
    obtain ⟨a, b⟩ := hn x (List.mem_of_getElem? hx)
    rw [a, b]
    simp only [Bool.and_self, Bool.true_and, Bool.or_eq_true, decide_eq_true_eq]
    by_cases h0 : k = 0
    ·exact .inl h0
    ·right
     cases hy : l[k - 1]? with
     | none => rfl
     | some y => exact asc_at h h0 hx hy
 exact key _
theorem lockV_of {P : List Prs} {N : List (List Prs)} {W : List Prs} (h60 : P.length ≤ 60) (hl : N.length = P.length) (hw : needsV 8 W = true) (hP : Asc P) (hp : ∀ x ∈ P, nameV x.1 = true ∧ (readV x.2).isSome = true) (hN : ∀ r ∈ N, needsV 6 r = true) : lockV (P, N, W) = true := by
 unfold lockV
 simp only [Bool.and_eq_true, decide_eq_true_eq]
 refine ⟨⟨⟨h60, hl⟩, hw⟩, ?_⟩
 have key : ∀ k, k ≤ P.length → pickTo (P, N, W) k = true := by
  intro k
  induction k with
  | zero => intro _; rfl
  | succ k ih =>
   intro hk
   rw [pickTo, ih (by omega), Bool.true_and]
   unfold pickAt
   obtain ⟨x, hx⟩ : ∃ x, P[k]? = some x := ⟨_, List.getElem?_eq_getElem (by omega)⟩
   obtain ⟨r, hr⟩ : ∃ r, N[k]? = some r := ⟨_, List.getElem?_eq_getElem (by omega)⟩
   have e : N.getD k [] = r := by simp [List.getD, hr]
   simp only [hx, e]
   obtain ⟨a, b⟩ := hp x (List.mem_of_getElem? hx)
   rw [a, b, hN r (List.mem_of_getElem? hr)]
   simp only [Bool.and_self, Bool.true_and, Bool.and_true, Bool.or_eq_true, decide_eq_true_eq]
   by_cases h0 : k = 0
   ·exact .inl h0
   ·right
    cases hy : P[k - 1]? with
    | none => rfl
    | some y => exact asc_at hP h0 hx hy
 exact key _ (Nat.le_refl _)
theorem nuV_nodup {m : Nat} {l : List Prs} (h : nuV m l = true) : (l.map (·.1)).Nodup := by
 unfold nuV at h
 rw [Bool.and_eq_true] at h
 refine List.pairwise_iff_getElem.2 fun i j hi hj hij => ?_
 simp only [List.length_map] at hi hj
 have hj' := upTo_at h.2 hj
 have hx := List.getElem?_eq_getElem hj
 unfold nuAt at hj'
 rw [hx] at hj'
 simp only [Bool.and_eq_true] at hj'
 have := upTo_at hj'.2 hij
 unfold apartAt at this
 rw [List.getElem?_eq_getElem hi] at this
 simpa using this
theorem nu_srt {m : Nat} {l : List Prs} (h : nuV m l = true) : needsV m (srtP l) = true := by
 obtain ⟨h1, h2⟩ := nuV_parts h
 exact needsV_of (srt_asc (nuV_nodup h)) (by rw [srtP_len]; exact h1) fun n hn => h2 n (srtP_mem.1 hn)
theorem own_ok {s : Src} (hs : suV s = true) (p : Prs) : needsV 6 (ownV s p) = true := by
 unfold ownV fndP
 cases h : fndV s p with
 | none => rfl
 | some v =>
  obtain ⟨g, hg, _, hv, _⟩ := fndV_mem h
  exact nu_srt ((vuV_parts ((suV_parts hs).2 g hg).2).2 v hv).2
theorem solV_asc {s : Src} {w : List Prs} {b : Int} (hs : suV s = true) : Asc (solV s w b).1 := by
 unfold solV
 split
 ·exact srt_asc (restV_pick hs _ [] 0 ⟨by simp, by simp⟩).2
 ·exact List.Pairwise.nil
theorem solV_ok {s : Src} {w : List Prs} {b : Int} (hs : suV s = true) : ∀ x ∈ (solV s w b).1, nameV x.1 = true ∧ (readV x.2).isSome = true := fun x hx => by
 obtain ⟨g, hg, e, v, hv, e2⟩ := solV_pick hs x hx
 obtain ⟨a, c⟩ := (suV_parts hs).2 g hg
 have := ((vuV_parts c).2 v hv).1
 exact ⟨by rw [← e]; exact a, by rw [← e2]; exact this⟩
theorem ofV_ok {s : Src} {w : List Prs} {b : Int} (h : (ofV s w b).2 = 0) : lockV (ofV s w b).1 = true := by
 unfold ofV at h ⊢
 split at h
 ·rename_i h0
  rw [if_pos h0]
  obtain ⟨hc, _⟩ := solV_chk h0
  unfold chkV at hc
  rw [Bool.and_eq_true] at hc
  have hln := solV_len (s := s) (w := w) (b := b)
  refine lockV_of (by omega) (by simp) (nu_srt hc.2) (solV_asc hc.1) (solV_ok hc.1) fun r hr => ?_
  obtain ⟨p, _, rfl⟩ := List.mem_map.1 hr
  exact own_ok hc.1 p
 ·rename_i h0
  exact absurd h h0
/-! sizes -/
def SzL (L : Lck) : Prop := SzN L.1 ∧ (L.2.1.length ≤ 1000000 ∧ ∀ r ∈ L.2.1, SzN r) ∧ SzN L.2.2
theorem needsV_sz {m : Nat} {l : List Prs} (h : needsV m l = true) (hm : m ≤ 1000) : SzN l := by
 refine ⟨by have := needsV_len h; omega, fun x hx => ?_⟩
 obtain ⟨a, b⟩ := needsV_each h x hx
 have := (name_nm a).2.2
 have := condsV_len b
 exact ⟨by omega, by omega⟩
theorem lockV_sz {L : Lck} (h : lockV L = true) : SzL L := by
 obtain ⟨v1, v2, v3, v4⟩ := lockV_parts h
 refine ⟨⟨by omega, fun x hx => ?_⟩, ⟨by omega, fun r hr => ?_⟩, needsV_sz v3 (by decide)⟩
 ·obtain ⟨i, hi⟩ := List.getElem?_of_mem hx
  have hlt := (List.getElem?_eq_some_iff.1 hi).1
  obtain ⟨r, hr⟩ : ∃ r, L.2.1[i]? = some r := ⟨_, List.getElem?_eq_getElem (by omega)⟩
  obtain ⟨a, b, _⟩ := lockV_pick h hi hr
  have := (name_nm a).2.2
  have := readV_len b
  exact ⟨by omega, by omega⟩
 ·obtain ⟨i, hi⟩ := List.getElem?_of_mem hr
  have hlt := (List.getElem?_eq_some_iff.1 hi).1
  obtain ⟨x, hx⟩ : ∃ x, L.1[i]? = some x := ⟨_, List.getElem?_eq_getElem (by omega)⟩
  exact needsV_sz (lockV_pick h hx hi).2.2 (by decide)
/-! the first version of each gem -/
/-! how long a valid lock's text is, and of how many lines -/
end Go.Lk
namespace Go.Lk
/-! a map of strings -/
def slook : List (Bs × Bs) → Bs → Option Bs
 | [], _ => none
 | (k, v) :: m, r => if r = k then some v else slook m r
def sput (d v : Bs) : List (Bs × Bs) → List (Bs × Bs)
 | [] => [(d, v)]
 | (k, w) :: m => if d = k then (d, v) :: m else (k, w) :: sput d v m
end Go.Lk
namespace Go.Lk
open Go.Ver
def nmsL (a b : List Prs) : List Bs := Go.Lib.compact ((a.map (·.1) ++ b.map (·.1)).mergeSort fun x y => decide (x ≤ y))
theorem pick_asc' (L : Lck) : ∀ n, n ≤ L.1.length → pickTo L n = true → Asc (L.1.take n)
 | 0, _, _ => by simp
 | n + 1, hn, h => by
  simp only [pickTo, Bool.and_eq_true] at h
  obtain ⟨x, hx⟩ : ∃ x, L.1[n]? = some x := ⟨_, List.getElem?_eq_getElem (by omega)⟩
  have ih := pick_asc' L n (by omega) h.1
  rw [List.take_add_one, hx]
  show Asc (L.1.take n ++ [x])
  refine List.pairwise_append.2 ⟨ih, List.pairwise_singleton _ _, fun p hp q hq => ?_⟩
  simp only [List.mem_singleton] at hq
  subst hq
  have h2 := h.2
  unfold pickAt at h2
  rw [hx] at h2
  simp only [Bool.and_eq_true, Bool.or_eq_true, decide_eq_true_eq] at h2
  rcases h2.1.2 with e | e
  ·subst e; simp at hp
  ·obtain ⟨y, hy⟩ : ∃ y, L.1[n - 1]? = some y := ⟨_, List.getElem?_eq_getElem (by omega)⟩
   rw [hy] at e
   simp only at e
   obtain ⟨i, hi, rfl⟩ := List.getElem_of_mem hp
   simp only [List.length_take] at hi
   rw [List.getElem_take]
   obtain ⟨y1, y2⟩ := List.getElem?_eq_some_iff.1 hy
   by_cases hi' : i = n - 1
   ·subst hi'
    rw [y2]; exact e
   ·have := List.pairwise_iff_getElem.1 ih i (n - 1) (by simp; omega) (by simp; omega) (by omega)
    rw [List.getElem_take, List.getElem_take, y2] at this
    exact bl_trans this e
theorem lock_asc {L : Lck} (h : lockV L = true) : Asc L.1 := by
 simp only [lockV, Bool.and_eq_true] at h
 have := pick_asc' L L.1.length (Nat.le_refl _) h.2
 rwa [List.take_length] at this
end Go.Lk
set_option maxRecDepth 20000
namespace Go.Lk
open Go.Lib Go.Wh Go.Ver
/-! the program's search against the specification's -/
theorem slook_find : ∀ (l : List Prs) (g : Bs), slook l g = (l.find? fun x => decide (x.1 = g)).map (·.2)
 | [], _ => rfl
 | (k, v) :: l, g => by
  have ih := slook_find l g
  simp only [slook, List.find?_cons]
  by_cases h : k = g
  ·subst h; simp
  ·have h' : ¬ g = k := fun e => h e.symm
   simp [h, h', ih]
theorem slook_pkd {l : List Prs} (h : NumOk l) (g : Bs) : slook l g = if pkdV l g = [] then none else some (pkdV l g) := by
 rw [slook_find]
 unfold pkdV
 cases hf : l.find? (fun x => decide (x.1 = g)) with
 | none => simp
 | some x => have := h x (List.mem_of_find?_eq_some hf); simp [this]
theorem slook_none {l : List Prs} (h : NumOk l) {g : Bs} : slook l g = none ↔ pkdV l g = [] := by
 rw [slook_pkd h]; split <;> simp_all
theorem sput_new : ∀ {l : List Prs} {d v : Bs}, slook l d = none → sput d v l = l ++ [(d, v)]
 | [], d, v, _ => rfl
 | (k, w) :: l, d, v, h => by
  simp only [slook] at h
  split at h
  ·cases h
  ·rename_i e
   simp only [sput, if_neg e, sput_new h, List.cons_append]
def sdel (d : Bs) : List (Bs × Bs) → List (Bs × Bs)
 | [] => []
 | (k, w) :: m => if d = k then m else (k, w) :: sdel d m
theorem sdel_new : ∀ {l : List Prs} {d v : Bs}, slook l d = none → sdel d (l ++ [(d, v)]) = l
 | [], d, v, _ => by simp [sdel]
 | (k, w) :: l, d, v, h => by
  simp only [slook] at h
  split at h
  ·cases h
  ·rename_i e
   simp only [List.cons_append, sdel, if_neg e, sdel_new h]
def gemV (s : Src) (n : Bs) : Option Gm := s.find? fun g => decide (g.1 = n)
theorem gemV_mem {s : Src} {n : Bs} {g : Gm} (h : gemV s n = some g) : g ∈ s ∧ g.1 = n := ⟨List.mem_of_find?_eq_some h, by simpa using List.find?_some h⟩
theorem suV_asc {s : Src} (h : suV s = true) : s.Pairwise fun g k => Op.bytesLess g.1 k.1 = true := by
 unfold suV at h
 rw [Bool.and_eq_true] at h
 have step : ∀ i, ∀ g k, s[i]? = some g → s[i + 1]? = some k → Op.bytesLess g.1 k.1 = true := fun i g k hg hk => by
  have := upTo_at h.2 (List.getElem?_eq_some_iff.1 hk).1
  unfold suAt at this
  rw [hk] at this
  simp only [Bool.and_eq_true, Bool.or_eq_true, decide_eq_true_eq, Nat.add_sub_cancel, hg] at this
  rcases this.1.2 with q | q
  ·omega
  ·exact q
 rw [List.pairwise_iff_getElem]
 intro i j hi hj hij
 have key : ∀ d i (hi : i < s.length) (hj : i + d + 1 < s.length), Op.bytesLess s[i].1 s[i + d + 1].1 = true := by
  intro d
  induction d with
  | zero => intro i hi hj; exact step i _ _ (List.getElem?_eq_getElem hi) (List.getElem?_eq_getElem hj)
  | succ d ih =>
   intro i hi hj
   exact bl_trans (ih i hi (by omega)) (step (i + d + 1) _ _ (List.getElem?_eq_getElem (by omega)) (List.getElem?_eq_getElem hj))
 have := key (j - i - 1) i hi (by omega)
 have e : i + (j - i - 1) + 1 = j := by omega
 simp only [e] at this
 exact this
theorem asc_ne {s : Src} (h : s.Pairwise fun g k => Op.bytesLess g.1 k.1 = true) : s.Pairwise fun g k => g.1 ≠ k.1 :=
 h.imp fun {a b} q e => by rw [e, bl_irr] at q; cases q
theorem gemV_of {s : Src} (h : suV s = true) {g : Gm} (hg : g ∈ s) : gemV s g.1 = some g := by
 have ha := asc_ne (suV_asc h)
 clear h
 induction s with
 | nil => cases hg
 | cons x s ih =>
  obtain ⟨h1, h2⟩ := List.pairwise_cons.1 ha
  unfold gemV
  rw [List.find?_cons]
  rcases List.mem_cons.1 hg with rfl | hg'
  ·simp
  ·have := h1 g hg'
   simp only [decide_eq_true_eq, this, decide_false]
   exact ih hg' h2
theorem cstG_none {all l : List Prs} {gem : Bs} : ∀ {s : Src} {o : List Vrs}, (∀ g ∈ s, g.1 ≠ gem) → s.foldl (cstG all l gem) o = o
 | [], o, _ => rfl
 | g :: s, o, h => by
  rw [List.foldl_cons]
  have : cstG all l gem o g = o := by unfold cstG; rw [if_neg (h g (by simp))]
  rw [this]
  exact cstG_none fun g hg => h g (by simp [hg])
theorem cand_gem {all l : List Prs} {gem : Bs} : ∀ {s : Src} {o : List Vrs}, (s.Pairwise fun g k => g.1 ≠ k.1) → s.foldl (cstG all l gem) o = (match gemV s gem with | some g => g.2.foldl (cstV all l gem) o | none => o)
 | [], o, _ => rfl
 | g :: s, o, h => by
  obtain ⟨h1, h2⟩ := List.pairwise_cons.1 h
  rw [List.foldl_cons]
  unfold gemV
  rw [List.find?_cons]
  by_cases e : g.1 = gem
  ·simp only [e, decide_true]
   rw [cstG_none fun k hk => by rw [← e]; exact fun q => h1 k hk q.symm]
   unfold cstG; rw [if_pos e]
  ·simp only [e, decide_false]
   have : cstG all l gem o g = o := by unfold cstG; rw [if_neg e]
   rw [this]
   exact cand_gem h2
def cD (x y : Vrs) : Int := cV y.1 x.1
def ltD (x y : Vrs) : Bool := decide (cD x y < 0)
theorem wk_ltD : Weakly ltD where
 anti := fun x y h => by
  unfold ltD cD cV at *
  have := cmpV_neg (readP x.1) (readP y.1)
  simp at h ⊢
  omega
 neg := fun x y z h1 h2 => by
  unfold ltD cD cV at *
  simp at h1 h2 ⊢
  have a1 := cmpV_neg (readP x.1) (readP y.1)
  have a2 := cmpV_neg (readP y.1) (readP z.1)
  have a3 := cmpV_neg (readP x.1) (readP z.1)
  have := cmpV_trans (a := readP z.1) (b := readP y.1) (c := readP x.1) (by omega) (by omega)
  omega
def srtD (l : List Vrs) : List Vrs := sortL ltD l
theorem srtD_mem {l : List Vrs} {v : Vrs} : v ∈ srtD l ↔ v ∈ l := sort_mem
theorem srtD_len (l : List Vrs) : (srtD l).length = l.length := sort_len l
theorem merge_perm {α : Type} {lt : α → α → Bool} : ∀ (L R : List α), (mergeL lt L R).Perm (L ++ R)
 | [], R => by rw [merge_nil_l]; exact .refl _
 | l :: L, [] => by rw [merge_nil_r]; simp
 | l :: L, r :: R => by
  rw [merge_cons]
  split
  ·exact ((merge_perm (l :: L) R).cons r).trans (List.perm_middle (l₁ := l :: L)).symm
  ·exact (merge_perm L (r :: R)).cons l
termination_by L R => L.length + R.length
theorem sortL_perm {α : Type} {lt : α → α → Bool} : ∀ l : List α, (sortL lt l).Perm l
 | [] => .refl _
 | x :: l => by
  have ih := sortL_perm (lt := lt) l
  show (mergeL lt [x] (sortL lt l)).Perm _
  exact (merge_perm _ _).trans (ih.cons x)
def RankOk (l : List Vrs) : Prop := (∀ v ∈ l, (readV v.1).isSome = true) ∧ l.Pairwise fun x y => cV x.1 y.1 ≠ 0
theorem vuV_rank {l : List Vrs} (h : vuV l = true) : RankOk l := by
 have hp := (vuV_parts h).2
 refine ⟨fun v hv => (hp v hv).1, ?_⟩
 unfold vuV at h
 rw [Bool.and_eq_true] at h
 rw [List.pairwise_iff_getElem]
 intro i j hi hj hij
 have := upTo_at h.2 hj
 unfold vuAt at this
 rw [List.getElem?_eq_getElem hj] at this
 simp only [Bool.and_eq_true] at this
 have := upTo_at this.2 hij
 unfold rankAt at this
 rw [List.getElem?_eq_getElem hi] at this
 simp only [decide_eq_true_eq] at this
 unfold compareP at this
 rw [if_pos (by rw [(hp _ (List.getElem_mem hi)).1, (hp _ (List.getElem_mem hj)).1]; rfl)] at this
 exact this
theorem cV_sym (x y : Bs) : cV x y = -cV y x := cmpV_neg _ _
theorem cmpP_cV {x y : Bs} (hx : (readV x).isSome = true) (hy : (readV y).isSome = true) : compareP x y = cV x y := by
 unfold compareP; rw [if_pos (by rw [hx, hy]; rfl)]; rfl
abbrev Dsc (l : List Vrs) : Prop := l.Pairwise fun x y => cV y.1 x.1 < 0
theorem rank_perm {l m : List Vrs} (h : l.Perm m) (hr : RankOk l) : RankOk m :=
 ⟨fun v hv => hr.1 v (h.symm.subset hv), h.pairwise hr.2 fun {x y} q e => q (by rw [cV_sym, e]; rfl)⟩
theorem srtD_dsc {l : List Vrs} (h : RankOk l) : Dsc (srtD l) := by
 have h1 : Srt ltD (srtD l) := sort_srt wk_ltD l
 have h2 := (rank_perm (sortL_perm (lt := ltD) l).symm h).2
 refine (List.Pairwise.and h1 h2).imp fun {x y} q => ?_
 have := q.1
 unfold ltD cD at this
 simp only [decide_eq_false_iff_not] at this
 have := q.2
 have := cV_sym x.1 y.1
 omega
theorem cV_lt {x y z : Bs} (h1 : cV x y < 0) (h2 : cV y z < 0) : cV x z < 0 := cmpV_strict h1 (by unfold cV at h2; omega)
theorem insV_dsc {v : Vrs} : ∀ {out : List Vrs}, Dsc out → (∀ y ∈ out, cV y.1 v.1 ≠ 0 ∧ compareP y.1 v.1 = cV y.1 v.1) → Dsc (insV v out)
 | [], _, _ => by simp [insV]
 | y :: r, h, hr => by
  obtain ⟨h1, h2⟩ := List.pairwise_cons.1 h
  obtain ⟨q1, q2⟩ := hr y (by simp)
  unfold insV
  rw [q2]
  split
  ·rename_i hlt
   refine List.pairwise_cons.2 ⟨fun z hz => ?_, h⟩
   rcases List.mem_cons.1 hz with rfl | hz
   ·exact hlt
   ·exact cV_lt (h1 z hz) hlt
  ·rename_i hlt
   refine List.pairwise_cons.2 ⟨fun z hz => ?_, insV_dsc h2 fun z hz => hr z (by simp [hz])⟩
   rcases insV_mem.1 hz with rfl | hz
   ·have := cV_sym y.1 z.1; omega
   ·exact h1 z hz
theorem insV_perm (v : Vrs) : ∀ out : List Vrs, (insV v out).Perm (v :: out)
 | [] => .refl _
 | y :: r => by
  unfold insV
  split
  ·exact .refl _
  ·exact ((insV_perm v r).cons y).trans (.swap _ _ _)
theorem cstV_all {all l : List Prs} {gem : Bs} : ∀ {vs o : List Vrs}, RankOk vs → Dsc o → (∀ y ∈ o, ∀ v ∈ vs, cV y.1 v.1 ≠ 0 ∧ (readV y.1).isSome = true) →
  Dsc (vs.foldl (cstV all l gem) o) ∧ (vs.foldl (cstV all l gem) o).Perm (o ++ vs.filter (fitV all l gem))
 | [], o, _, h, _ => ⟨h, by simp⟩
 | v :: vs, o, hr, h, ho => by
  rw [List.foldl_cons]
  have hr2 : RankOk vs := ⟨fun x hx => hr.1 x (by simp [hx]), (List.pairwise_cons.1 hr.2).2⟩
  have hv := hr.1 v (by simp)
  unfold cstV
  by_cases hf : fitV all l gem v = true
  ·rw [if_pos hf]
   have hd : Dsc (insV v o) := insV_dsc h fun y hy => ⟨(ho y hy v (by simp)).1, cmpP_cV (ho y hy v (by simp)).2 hv⟩
   obtain ⟨h1, h2⟩ := cstV_all (all := all) (l := l) (gem := gem) hr2 hd fun y hy x hx => by
    rcases insV_mem.1 hy with rfl | hy
    ·exact ⟨(List.pairwise_cons.1 hr.2).1 x hx, hv⟩
    ·exact ho y hy x (by simp [hx])
   refine ⟨h1, h2.trans ?_⟩
   rw [List.filter_cons, if_pos hf]
   exact ((insV_perm v o).append_right _).trans List.perm_middle.symm
  ·rw [if_neg hf, List.filter_cons, if_neg hf]
   exact cstV_all hr2 h fun y hy x hx => ho y hy x (by simp [hx])
theorem cand_eq {s : Src} {w l : List Prs} {gem : Bs} (hs : suV s = true) : candV s w l gem = (match gemV s gem with | some g => (srtD g.2).filter (fitV (allN s w l) l gem) | none => []) := by
 unfold candV
 rw [cand_gem (asc_ne (suV_asc hs))]
 cases hg : gemV s gem with
 | none => rfl
 | some g =>
  simp only
  have hr := vuV_rank ((suV_parts hs).2 g (gemV_mem hg).1).2
  obtain ⟨h1, h2⟩ := cstV_all (all := allN s w l) (l := l) (gem := gem) (o := []) hr List.Pairwise.nil (fun y hy => by cases hy)
  rw [List.nil_append] at h2
  refine List.Perm.eq_of_pairwise (le := fun x y : Vrs => cV y.1 x.1 < 0) (fun a b _ _ q1 q2 => ?_) h1 ((srtD_dsc hr).filter _) (h2.trans (((sortL_perm (lt := ltD) g.2).symm).filter (fitV (allN s w l) l gem)))
  have := cV_sym a.1 b.1
  omega
theorem tryL_skip {rec : List Prs → Nat → (List Prs × Nat) × Nat} {bud : Nat} {gem : Bs} {l : List Prs} {c : List Vrs} {f : Vrs → Bool} {i t : Nat} {v : Vrs} (h : c[i]? = some v) (hf : f v = false) :
  tryL rec bud gem l ((c.drop i).filter f) t = tryL rec bud gem l ((c.drop (i + 1)).filter f) t := by
 rw [drop_cons h, List.filter_cons, if_neg (by simp [hf])]
theorem tryL_take {rec : List Prs → Nat → (List Prs × Nat) × Nat} {bud : Nat} {gem : Bs} {l : List Prs} {c : List Vrs} {f : Vrs → Bool} {i t : Nat} {v : Vrs} (h : c[i]? = some v) (hf : f v = true) :
  tryL rec bud gem l ((c.drop i).filter f) t = if bud < t + 1 then (([], 12), t + 1)
  else if (rec (l ++ [(gem, v.1)]) (t + 1)).1.2 ≠ 3 then rec (l ++ [(gem, v.1)]) (t + 1)
  else tryL rec bud gem l ((c.drop (i + 1)).filter f) (rec (l ++ [(gem, v.1)]) (t + 1)).2 := by
 rw [drop_cons h, List.filter_cons, if_pos (by simp [hf])]; rfl
def oneN (l : List Prs) (gem v : Bs) (n : Prs) : Option Bs := if n.1 = gem then some v else slook l n.1
theorem bFit_eq {l : List Prs} (h : NumOk l) {gem v : Bs} (hg : pkdV l gem = []) (hv : v ≠ []) (n : Prs) : bFit (l ++ [(gem, v)]) n = (match oneN l gem v n with | none => true | some o => meetsP o n.2) := by
 unfold bFit oneN
 have hf := (pkd_none h).1 hg
 rw [pkd_app]
 by_cases e : n.1 = gem
 ·subst e
  simp [hf, hv]
 ·have e' : ¬ gem = n.1 := fun q => e q.symm
  rw [if_neg e, slook_find]
  simp only [if_neg e']
  unfold pkdV
  cases hq : l.find? (fun x => decide (x.1 = n.1)) with
  | none => simp
  | some x => have := h x (List.mem_of_find?_eq_some hq); simp [this]
def pksV (s : Src) (l : List Prs) : List Prs := s.filterMap fun g => (slook l g.1).map fun n => (g.1, n)
theorem pks_step {s : Src} {l : List Prs} {i : Nat} {g : Gm} (h : s[i]? = some g) : pksV (s.take (i + 1)) l = pksV (s.take i) l ++ (match slook l g.1 with | some n => [(g.1, n)] | none => []) := by
 unfold pksV
 rw [List.take_add_one, h, List.filterMap_append]
 cases hq : slook l g.1 <;> simp [hq]
theorem pks_len (s : Src) (l : List Prs) : (pksV s l).length ≤ s.length := by unfold pksV; exact List.length_filterMap_le _ _
theorem slook_some_mem {l : List Prs} {g v : Bs} (h : slook l g = some v) : (g, v) ∈ l := by
 rw [slook_find] at h
 obtain ⟨x, hx, rfl⟩ := Option.map_eq_some_iff.1 h
 have h1 := List.mem_of_find?_eq_some hx
 have h2 := List.find?_some hx
 simp only [decide_eq_true_eq] at h2
 rw [← h2]; exact h1
theorem slook_of_mem : ∀ {l : List Prs} {x : Prs}, (l.map (·.1)).Nodup → x ∈ l → slook l x.1 = some x.2
 | (k, v) :: l, x, hn, hx => by
  rw [List.map_cons, List.nodup_cons] at hn
  simp only [slook]
  rcases List.mem_cons.1 hx with rfl | hx
  ·simp
  ·rw [if_neg fun e : x.1 = k => hn.1 (List.mem_map.2 ⟨x, hx, e⟩)]
   exact slook_of_mem hn.2 hx
theorem pks_asc : ∀ {s : Src} {l : List Prs}, (s.Pairwise fun g k => Op.bytesLess g.1 k.1 = true) → Asc (pksV s l)
 | [], _, _ => List.Pairwise.nil
 | g :: s, l, h => by
  obtain ⟨h1, h2⟩ := List.pairwise_cons.1 h
  have ih := pks_asc (l := l) h2
  unfold pksV at ih ⊢
  rw [List.filterMap_cons]
  cases hq : slook l g.1 with
  | none => exact ih
  | some n =>
   simp only [Option.map_some]
   refine List.pairwise_cons.2 ⟨fun y hy => ?_, ih⟩
   obtain ⟨k, hk, e⟩ := List.mem_filterMap.1 hy
   obtain ⟨m, _, rfl⟩ := Option.map_eq_some_iff.1 e
   exact h1 k hk
theorem asc_ext {a b : List Prs} (ha : Asc a) (hb : Asc b) (h : ∀ x, x ∈ a ↔ x ∈ b) : a = b := by
 have nd : ∀ {l : List Prs}, Asc l → l.Nodup := fun h => h.imp fun {x y} q e => by rw [e, bl_irr] at q; cases q
 refine List.Perm.eq_of_pairwise (le := fun x y : Prs => Op.bytesLess x.1 y.1 = true) (fun x y _ _ q1 q2 => ?_) ha hb ((List.perm_ext_iff_of_nodup (nd ha) (nd hb)).2 h)
 have := bl_trans q1 q2
 rw [bl_irr] at this; cases this
theorem pks_srt {s : Src} {l : List Prs} (hs : suV s = true) (h : PickOk s l) : pksV s l = srtP l := by
 refine asc_ext (pks_asc (suV_asc hs)) (srt_asc h.2) fun x => ?_
 rw [srtP_mem]
 constructor
 ·intro hx
  obtain ⟨g, hg, e⟩ := List.mem_filterMap.1 hx
  obtain ⟨n, hn, rfl⟩ := Option.map_eq_some_iff.1 e
  exact slook_some_mem hn
 ·intro hx
  obtain ⟨g, hg, e, _⟩ := h.1 x hx
  refine List.mem_filterMap.2 ⟨g, hg, ?_⟩
  rw [e, slook_of_mem h.2 hx]; rfl
/-! picks of a source; solutions -/
theorem fnd_gem {s : Src} (hs : suV s = true) (p : Prs) : fndV s p = (match gemV s p.1 with | some g => g.2.find? (fun v => decide (v.1 = p.2)) | none => none) := by
 have ha := asc_ne (suV_asc hs)
 clear hs
 unfold fndV
 induction s with
 | nil => rfl
 | cons g s ih =>
  obtain ⟨h1, h2⟩ := List.pairwise_cons.1 ha
  rw [List.findSome?_cons]
  unfold gemV
  rw [List.find?_cons]
  by_cases e : g.1 = p.1
  ·have hn : s.findSome? (fndG p) = none := by
    rw [List.findSome?_eq_none_iff]
    intro k hk
    unfold fndG
    rw [if_neg fun q => h1 k hk (e.trans q.symm)]
   simp only [e, decide_true, fndG, if_true]
   cases hf : g.2.find? (fun v => decide (v.1 = p.2)) with
   | some v => rfl
   | none => simpa [fndG] using hn
  ·simp only [e, decide_false, fndG, if_false]
   exact ih h2
def pickS (s : Src) (l : List Prs) (i : Nat) : Bool := match l[i]? with
 | some p => (fndV s p).isSome && (decide (i = 0) || (match l[i - 1]? with | some y => Op.bytesLess y.1 p.1 | none => true))
 | none => true
def picksQ (s : Src) (l : List Prs) : Bool := upTo (pickS s l) l.length
theorem picks_step {s : Src} {l : List Prs} {i : Nat} {p : Prs} (h : l[i]? = some p) (ht : upTo (pickS s l) i = true) : upTo (pickS s l) (i + 1) = ((fndV s p).isSome && (decide (i = 0) || (match l[i - 1]? with | some y => Op.bytesLess y.1 p.1 | none => true))) := by
 rw [upTo_step ht]; unfold pickS; rw [h]
theorem asc_of_step {l : List Prs} (step : ∀ i g k, l[i]? = some g → l[i + 1]? = some k → Op.bytesLess g.1 k.1 = true) : Asc l := by
 unfold Asc
 rw [List.pairwise_iff_getElem]
 intro i j hi hj hij
 have key : ∀ d i (hi : i < l.length) (hj : i + d + 1 < l.length), Op.bytesLess l[i].1 l[i + d + 1].1 = true := by
  intro d
  induction d with
  | zero => intro i hi hj; exact step i _ _ (List.getElem?_eq_getElem hi) (List.getElem?_eq_getElem hj)
  | succ d ih =>
   intro i hi hj
   exact bl_trans (ih i hi (by omega)) (step (i + d + 1) _ _ (List.getElem?_eq_getElem (by omega)) (List.getElem?_eq_getElem hj))
 have := key (j - i - 1) i hi (by omega)
 have e : i + (j - i - 1) + 1 = j := by omega
 simp only [e] at this
 exact this
theorem picksQ_parts {s : Src} {l : List Prs} (h : picksQ s l = true) : Asc l ∧ ∀ p ∈ l, ∃ v, fndV s p = some v := by
 unfold picksQ at h
 refine ⟨asc_of_step fun i g k hg hk => ?_, fun p hp => ?_⟩
 ·have := upTo_at h (List.getElem?_eq_some_iff.1 hk).1
  unfold pickS at this
  rw [hk] at this
  simp only [Bool.and_eq_true, Bool.or_eq_true, decide_eq_true_eq, Nat.add_sub_cancel, hg] at this
  rcases this.2 with q | q
  ·omega
  ·exact q
 ·obtain ⟨i, hi⟩ := List.getElem?_of_mem hp
  have := upTo_at h (List.getElem?_eq_some_iff.1 hi).1
  unfold pickS at this
  rw [hi] at this
  simp only [Bool.and_eq_true] at this
  exact Option.isSome_iff_exists.1 this.1
theorem picksQ_of {s : Src} {l : List Prs} (ha : Asc l) (h : ∀ p ∈ l, ∃ v, fndV s p = some v) : picksQ s l = true := by
 refine upTo_of fun i hi => ?_
 unfold pickS
 have hx := List.getElem?_eq_getElem hi
 rw [hx]
 obtain ⟨v, hv⟩ := h _ (List.getElem_mem hi)
 simp only [hv, Option.isSome_some, Bool.true_and, Bool.or_eq_true, decide_eq_true_eq]
 by_cases h0 : i = 0
 ·exact .inl h0
 ·right
  have hy := List.getElem?_eq_getElem (l := l) (i := i - 1) (by omega)
  rw [hy]
  exact asc_at ha h0 hx hy
theorem asc_nodup {l : List Prs} (h : Asc l) : (l.map (·.1)).Nodup := by
 rw [List.Nodup, List.pairwise_map]
 exact h.imp fun {x y} q e => by rw [e, bl_irr] at q; cases q
theorem picksQ_ok {s : Src} {l : List Prs} (h : picksQ s l = true) : PickOk s l := by
 obtain ⟨h1, h2⟩ := picksQ_parts h
 refine ⟨fun x hx => ?_, asc_nodup h1⟩
 obtain ⟨v, hv⟩ := h2 x hx
 obtain ⟨g, a, b, c, d⟩ := fndV_mem hv
 exact ⟨g, a, b, v, c, d⟩
def lackN (l : List Prs) (n : Prs) : Bool := decide (pkdV l n.1 = []) || !meetsP (pkdV l n.1) n.2
def lackV (all l : List Prs) : List Prs := all.filter (lackN l)
theorem lack_step {all l : List Prs} {i : Nat} {n : Prs} (h : all[i]? = some n) : lackV (all.take (i + 1)) l = lackV (all.take i) l ++ (if lackN l n = true then [n] else []) := by
 unfold lackV
 rw [List.take_add_one, h, List.filter_append]
 cases hq : lackN l n <;> simp [hq]
theorem lack_len (all l : List Prs) : (lackV all l).length ≤ all.length := by unfold lackV; exact List.length_filter_le _ _
def ndedN (all : List Prs) (x : Prs) : Bool := all.any fun n => decide (n.1 = x.1)
def solQ (all l : List Prs) : Bool := l.all (ndedN all) && (lackV all l).isEmpty
def nset (l : List Prs) : Nat → List Bs
 | 0 => []
 | n + 1 => match l[n]? with
  | some p => if p.1 ∈ nset l n then nset l n else nset l n ++ [p.1]
  | none => nset l n
theorem nset_snoc {l : List Prs} {n : Nat} {p : Prs} (h : l[n]? = some p) : nset l (n + 1) = if p.1 ∈ nset l n then nset l n else nset l n ++ [p.1] := by simp only [nset, h]
theorem nset_nodup (l : List Prs) : ∀ n, (nset l n).Nodup
 | 0 => by simp [nset]
 | n + 1 => by
  have ih := nset_nodup l n
  unfold nset
  split
  ·split
   ·exact ih
   ·rename_i h
    rw [List.nodup_append]
    refine ⟨ih, by simp, fun a ha b hb => ?_⟩
    simp at hb; subst hb
    exact fun e => h (e ▸ ha)
  ·exact ih
theorem nset_mem {l : List Prs} {x : Bs} : ∀ {n : Nat}, x ∈ nset l n ↔ x ∈ (l.take n).map (·.1)
 | 0 => by simp [nset]
 | n + 1 => by
  have ih := nset_mem (l := l) (x := x) (n := n)
  unfold nset
  rw [List.take_add_one]
  cases hp : l[n]? with
  | none => simpa [hp] using ih
  | some p =>
   simp only [Option.toList_some, List.map_append, List.map_cons, List.map_nil, List.mem_append, List.mem_singleton]
   rw [← ih]
   split
   ·rename_i h
    constructor
    ·exact .inl
    ·rintro (q | rfl)
     ·exact q
     ·exact h
   ·simp
theorem nodup_len {a b : List Bs} (ha : a.Nodup) (h : a ⊆ b) : a.length ≤ b.length := ha.length_le_of_subset h
theorem nodup_ext {a b : List Bs} (ha : a.Nodup) (h : a ⊆ b) (hl : b.length ≤ a.length) : b ⊆ a := fun x hx => by
 by_cases hm : x ∈ a
 ·exact hm
 ·have := nodup_len (a := x :: a) (b := b) (List.nodup_cons.2 ⟨hm, ha⟩) (fun y hy => by
   rcases List.mem_cons.1 hy with rfl | hy
   ·exact hx
   ·exact h hy)
  simp only [List.length_cons] at this
  omega
theorem sol_count {all l : List Prs} (hn : (l.map (·.1)).Nodup) (hk : NumOk l) : ((lackV all l).isEmpty && decide ((nset all all.length).length = l.length)) = solQ all l := by
 unfold solQ
 cases he : (lackV all l).isEmpty with
 | false => simp
 | true =>
  simp only [Bool.true_and, Bool.and_true]
  have hsub : nset all all.length ⊆ l.map (·.1) := fun x hx => by
   rw [nset_mem, List.take_length] at hx
   obtain ⟨n, hn1, rfl⟩ := List.mem_map.1 hx
   have hl : lackN l n = false := by
    have := List.filter_eq_nil_iff.1 (List.isEmpty_iff.1 he) n hn1
    simpa using this
   unfold lackN at hl
   simp only [Bool.or_eq_false_iff, decide_eq_false_iff_not] at hl
   cases hf : l.find? (fun x => decide (x.1 = n.1)) with
   | none => exact absurd ((pkd_none hk).2 hf) hl.1
   | some x =>
    have h1 := List.mem_of_find?_eq_some hf
    have h2 := List.find?_some hf
    simp only [decide_eq_true_eq] at h2
    exact List.mem_map.2 ⟨x, h1, h2⟩
  have hnd := nset_nodup all all.length
  have hle := nodup_len hnd hsub
  simp only [List.length_map] at hle
  rw [Bool.eq_iff_iff, decide_eq_true_eq, List.all_eq_true]
  constructor
  ·intro e x hx
   have := nodup_ext hnd hsub (by simp; omega) (List.mem_map.2 ⟨x, hx, rfl⟩)
   rw [nset_mem, List.take_length] at this
   obtain ⟨n, hn1, hn2⟩ := List.mem_map.1 this
   unfold ndedN
   rw [List.any_eq_true]
   exact ⟨n, hn1, by simpa using hn2⟩
  ·intro h
   have : l.map (·.1) ⊆ nset all all.length := fun y hy => by
    obtain ⟨x, hx, rfl⟩ := List.mem_map.1 hy
    have := h x hx
    unfold ndedN at this
    rw [List.any_eq_true] at this
    obtain ⟨n, hn1, hn2⟩ := this
    rw [nset_mem, List.take_length]
    exact List.mem_map.2 ⟨n, hn1, by simpa using hn2⟩
   have := nodup_len hn this
   simp only [List.length_map] at this
   omega
end Go.Lk
