/- Part of a proof: see the last text. -/
import Derived.Test.YteekfnhhlcmcgaaGreatDoorG09
import Derived.Test.YteekfnhhlcmcgaaGreatDoorG07
import Derived.Test.YteekfnhhlcmcgaaGreatDoorG08
import Derived.Test.YteekfnhhlcmcgaaGreatDoorG04
set_option linter.unusedVariables false
set_option linter.unusedSimpArgs false
namespace Go.Proofs.YteekfnhhlcmcgaaGreatDoor
open Go.Eng Go.Wh Go.Ver Go.Lk
set_option maxRecDepth 20000
attribute [local irreducible] AG CallA CallT AWp PCall ACall AgC
@[go_sem] abbrev dGm (g : Gm) : D := .agg [dS g.1, dVrs g.2]
set_option maxHeartbeats 8000000 in
theorem gvalid_spec (g : Gm) (hg : SzG g) : PCall Tryz.prog 128 [dGm g] fun r => r = dB (nameV g.1 && vuV g.2) := by 
 refine pcall_of Tryz.func128 rfl rfl Tryz.ntmps128 (rs := [.tmp 2]) (tys := [4]) rfl rfl (by simp) ?_
 obtain ⟨nm, l⟩ := g
 obtain ⟨hn0, hl, hv⟩ := hg
 simp only at hn0 hl hv
 have hbad := fun n (h : upTo (vuAt l) n = false) (hn : n ≤ l.length) => upTo_bad h l.length hn
 have hst := fun i x => @vu_step l x i
 have hz : upTo (vuAt l) 0 = true := rfl
 have N0 := isName_spec nm (by omega)
 unfold vuV
 simp only
 generalize upTo (vuAt l) = nt at *
 generalize nameV nm = nb at *
 (refine awp_sr fun Y Yh=>?_;simp[go_sem];((repeat' (first|(refine ag_x ?_;simp[go_sem])|intro _|apply And.intro|(apply Yh;clear Yh Y)));all_goals first|apply Hold.mk|omega|assumption|skip))
 rename_i gb
 refine awp_frzbox 1 rfl rfl ?_
 simp only [go_sem]
 refine awp_seq_k fun K1 hK1 => ?_
 cases nb with
 | false =>
  (refine awp_sr fun Y Yh=>?_;simp[go_sem];((repeat' (first|(refine ag_x ?_;simp[go_sem])|intro _|apply And.intro|(apply Yh;clear Yh Y)));all_goals first|apply Hold.mk|omega|assumption|skip))
  ((try refine CallT.toA ?_);refine callT_m (.inl ⟨rfl,rfl⟩) (by simp[go_sem]) ?_;intro args ha;simp[go_sem] at ha;subst ha;refine ⟨_, N0, ?_⟩;rintro _ rfl;simp[go_sem];((repeat' (first|(refine ag_false (by simp[go_sem, undef]) (by simp[go_sem]) ?_;simp[go_sem])|intro _|apply And.intro|(apply Yh;clear Yh Y)));all_goals first|apply Hold.mk|omega|assumption|skip))
  (refine awp_if fun T F hT hF=>?_;simp[go_sem];refine hT ?_;clear hT hF T F)
  (refine awp_sr fun Y Yh=>?_;simp[go_sem];((repeat' (first|(refine ag_x ?_;simp[go_sem])|intro _|apply And.intro|(apply Yh;clear Yh Y)));all_goals first|apply Hold.mk|omega|assumption|skip))
  (refine awp_ret ?_;simp[go_sem])
 | true =>
  by_cases h12 : l.length ≤ 12
  ·(refine awp_sr fun Y Yh=>?_;simp[go_sem];((repeat' (first|(refine ag_x ?_;simp[go_sem])|intro _|apply And.intro|(apply Yh;clear Yh Y)));all_goals first|apply Hold.mk|omega|assumption|skip))
   ((try refine CallT.toA ?_);refine callT_m (.inl ⟨rfl,rfl⟩) (by simp[go_sem]) ?_;intro args ha;simp[go_sem] at ha;subst ha;refine ⟨_, N0, ?_⟩;rintro _ rfl;simp[go_sem];((repeat' (first|(refine ag_false ?_ ?_ ?_;(focus (simp[go_sem, undef];done));(focus (simp[go_sem];done));simp[go_sem])|(refine ag_true ?_ ?_;(focus (simp[go_sem, undef];done));simp[go_sem])|(refine ag_x ?_;simp[go_sem, undef])|intro _|apply And.intro|(apply Yh;clear Yh Y)));all_goals first|apply Hold.mk|omega|assumption|skip))
   (refine awp_if fun T F hT hF=>?_;simp[go_sem];refine BR.intro (fun h1=>hT ?_) (fun h1=>hF ?_);all_goals clear hT hF T F;try simp at h1)
   ·exact absurd h1 (by omega)
   refine awp_skip ?_
   refine hK1 _ ?_; clear hK1
   refine awp_seq_k fun K3 hK3 => ?_
   (refine awp_sr fun Y Yh=>?_;simp[go_sem];((repeat' (first|(refine ag_x ?_;simp[go_sem])|intro _|apply And.intro|(apply Yh;clear Yh Y)));all_goals first|apply Hold.mk|omega|assumption|skip))
   refine awp_block ?_
   refine awp_loop (σ := Nat) (fun i => ⟨[(1, .rd [dS nm, dVrs l]), (20, dVrs l), (21, dI l.length), (22, dI i)], []⟩) (fun i => i ≤ l.length ∧ nt i = true) (fun i => l.length - i) 0 ?_ ?_ ?_
   ·(refine cov_of ?_ ?_ <;> simp[go_sem])
   ·exact ⟨by omega, hz⟩
   rintro i ⟨hi, hn⟩
   (refine awp_sr fun Y Yh=>?_;simp[go_sem];((repeat' (first|(refine ag_x ?_;simp[go_sem])|intro _|apply And.intro|(apply Yh;clear Yh Y)));all_goals first|apply Hold.mk|omega|assumption|skip))
   refine awp_seq_k fun K4 hK4 => ?_
   (refine awp_if fun T F hT hF=>?_;simp[go_sem];refine BR.intro (fun h5=>hT ?_) (fun h5=>hF ?_);all_goals clear hT hF T F;try simp at h5)
   ·refine awp_skip ?_
    refine hK4 _ ?_; clear hK4
    obtain ⟨x, hx⟩ : ∃ x, l[i]? = some x := ⟨_, List.getElem?_eq_getElem (by omega)⟩
    obtain ⟨hx1, hx2⟩ := hv x (List.mem_of_getElem? hx)
    have N1 := Valid_spec x.1 (by omega)
    have C1 := sneeds_spec x.2 6 hx2 (by decide)
    have hst1 := hst i x hx hn
    have hbad1 := fun h => hbad (i + 1) h (by omega)
    have hap := fun k y => @rank_step' l x y k
    have hap0 : upTo (rankAt l x) 0 = true := rfl
    have hapb := fun n (h : upTo (rankAt l x) n = false) (hn : n ≤ i) => upTo_bad h i hn
    generalize upTo (rankAt l x) = ap at *
    generalize hnb : (readV x.1).isSome = nb at *
    generalize nuV 6 x.2 = cb at *
    refine awp_seq_k fun K6 hK6 => ?_
    refine awp_block ?_
    (refine awp_sr fun Y Yh=>?_;simp[go_sem, hx];((repeat' (first|(refine ag_x ?_;simp[go_sem, hx])|intro _|apply And.intro|(apply Yh;clear Yh Y)));all_goals first|apply Hold.mk|omega|assumption|skip))
    rename_i gv
    refine awp_seq_k fun K7 hK7 => ?_
    (refine awp_sr fun Y Yh=>?_;simp[go_sem];((repeat' (first|(refine ag_x ?_;simp[go_sem])|intro _|apply And.intro|(apply Yh;clear Yh Y)));all_goals first|apply Hold.mk|omega|assumption|skip))
    ((try refine CallT.toA ?_);refine callT_m (.inl ⟨rfl,rfl⟩) (by simp[go_sem]) ?_;intro args ha;simp[go_sem] at ha;subst ha;refine ⟨_, N1, ?_⟩;rintro _ rfl;simp[go_sem];((repeat' (first|(refine ag_x ?_;simp[go_sem])|intro _|apply And.intro|(apply Yh;clear Yh Y)));all_goals first|apply Hold.mk|omega|assumption|skip))
    (refine agc_f (dB cb) (.inl ⟨rfl,rfl⟩) ?_ rfl ?_;(intro hc args ha;simp[go_sem] at ha;subst ha;exact C1);simp[go_sem];((repeat' (first|(refine ag_x ?_;simp[go_sem])|intro _|apply And.intro|(apply Yh;clear Yh Y)));all_goals first|apply Hold.mk|omega|assumption|skip))
    cases nb with
    | false =>
     have hF := hbad1 (by rw [hst1]; simp)
     (refine awp_if fun T F hT hF=>?_;simp[go_sem];refine hT ?_;clear hT hF T F)
     (refine awp_sr fun Y Yh=>?_;simp[go_sem];((repeat' (first|(refine ag_x ?_;simp[go_sem])|intro _|apply And.intro|(apply Yh;clear Yh Y)));all_goals first|apply Hold.mk|omega|assumption|skip))
     (refine awp_ret ?_;simp[go_sem, hF])
    | true =>
     cases cb with
     | false =>
      have hF := hbad1 (by rw [hst1]; simp)
      (refine awp_if fun T F hT hF=>?_;simp[go_sem];refine hT ?_;clear hT hF T F)
      (refine awp_sr fun Y Yh=>?_;simp[go_sem];((repeat' (first|(refine ag_x ?_;simp[go_sem])|intro _|apply And.intro|(apply Yh;clear Yh Y)));all_goals first|apply Hold.mk|omega|assumption|skip))
      (refine awp_ret ?_;simp[go_sem, hF])
     | true =>
      (refine awp_if fun T F hT hF=>?_;simp[go_sem];refine hF ?_;clear hT hF T F)
      refine awp_skip ?_
      refine hK7 _ ?_; clear hK7
      simp only [Bool.true_and] at hst1
      (refine awp_sr fun Y Yh=>?_;simp[go_sem];((repeat' (first|(refine ag_x ?_;simp[go_sem])|intro _|apply And.intro|(apply Yh;clear Yh Y)));all_goals first|apply Hold.mk|omega|assumption|skip))
      refine awp_block ?_
      refine awp_loop (σ := Nat) (fun k => ⟨[(1, .rd [dS nm, dVrs l]), (20, dVrs l), (21, dI l.length), (22, dI i), (3, dI i), (4, .ptr 4 gv 0), (40, .sl 2 ((l.map cVr).take i)), (41, dI i), (42, dI k)], [(4, (gv, .box [dS x.1, dPs x.2]))]⟩) (fun k => k ≤ i ∧ ap k = true) (fun k => i - k) 0 ?_ ?_ ?_
      ·(refine cov_of ?_ ?_ <;> simp[go_sem])
       omega
      ·exact ⟨by omega, hap0⟩
      rintro k ⟨hk, ha⟩
      (refine awp_sr fun Y Yh=>?_;simp[go_sem];((repeat' (first|(refine ag_x ?_;simp[go_sem])|intro _|apply And.intro|(apply Yh;clear Yh Y)));all_goals first|apply Hold.mk|omega|assumption|skip))
      refine awp_seq_k fun K8 hK8 => ?_
      (refine awp_if fun T F hT hF=>?_;simp[go_sem];refine BR.intro (fun h9=>hT ?_) (fun h9=>hF ?_);all_goals clear hT hF T F;try simp at h9)
      ·refine awp_skip ?_
       refine hK8 _ ?_; clear hK8
       obtain ⟨y, hy⟩ : ∃ y, l[k]? = some y := ⟨_, List.getElem?_eq_getElem (by omega)⟩
       obtain ⟨hy1, _⟩ := hv y (List.mem_of_getElem? hy)
       have hap1 := hap k y hy ha
       have CM := Compare_spec x.1 y.1 hx1 hy1
       have hyt : ((l.map cVr).take i)[k]? = some (cVr y) := by rw [List.getElem?_take, if_pos (by omega), List.getElem?_map, hy]; rfl
       generalize compareP x.1 y.1 = cv at *
       generalize codeP ((readV x.1).isSome && (readV y.1).isSome) = ce at *
       refine awp_seq_k fun K10 hK10 => ?_
       refine awp_block ?_
       (refine awp_sr fun Y Yh=>?_;simp[go_sem, hyt];((repeat' (first|(refine ag_x ?_;simp[go_sem, hyt])|intro _|apply And.intro|(apply Yh;clear Yh Y)));all_goals first|apply Hold.mk|omega|assumption|skip))
       (refine awp_sr fun Y Yh=>?_;simp[go_sem];((repeat' (first|(refine ag_x ?_;simp[go_sem])|intro _|apply And.intro|(apply Yh;clear Yh Y)));all_goals first|apply Hold.mk|omega|assumption|skip))
       ((try refine CallT.toA ?_);refine callT_m (.inl ⟨rfl,rfl⟩) (by simp[go_sem]) ?_;intro args ha;simp[go_sem] at ha;subst ha;refine ⟨_, CM, ?_⟩;rintro _ rfl;simp[go_sem];((repeat' (first|(refine ag_x ?_;simp[go_sem])|intro _|apply And.intro|(apply Yh;clear Yh Y)));all_goals first|apply Hold.mk|omega|assumption|skip))
       (refine awp_sr fun Y Yh=>?_;simp[go_sem];((repeat' (first|(refine ag_x ?_;simp[go_sem])|intro _|apply And.intro|(apply Yh;clear Yh Y)));all_goals first|apply Hold.mk|omega|assumption|skip))
       (refine awp_if fun T F hT hF=>?_;simp[go_sem];refine BR.intro (fun h11=>hT ?_) (fun h11=>hF ?_);all_goals clear hT hF T F;try simp at h11)
       ·have hF := hbad1 (by rw [hst1]; exact hapb (k + 1) (by rw [hap1]; simp [h11]) (by omega))
        (refine awp_sr fun Y Yh=>?_;simp[go_sem];((repeat' (first|(refine ag_x ?_;simp[go_sem])|intro _|apply And.intro|(apply Yh;clear Yh Y)));all_goals first|apply Hold.mk|omega|assumption|skip))
        (refine awp_ret ?_;simp[go_sem, hF])
       ·refine awp_skip ?_
        refine hK10 _ ?_; clear hK10
        (refine awp_r fun Y Yh=>?_;simp[go_sem];((repeat' (first|(refine ag_x ?_;simp[go_sem])|intro _|apply And.intro|(apply Yh;clear Yh Y)));all_goals first|apply Hold.mk|omega|assumption|skip))
        refine ⟨k + 1, ?_, ⟨by omega, by rw [hap1]; simp [h11]⟩, by omega⟩
        (refine cov_of ?_ ?_ <;> simp[go_sem])
      ·refine awp_exit ?_
       simp only [go_sem]
       have hki : k = i := by omega
       subst hki
       refine hK6 _ ?_; clear hK6
       (refine awp_r fun Y Yh=>?_;simp[go_sem];((repeat' (first|(refine ag_x ?_;simp[go_sem])|intro _|apply And.intro|(apply Yh;clear Yh Y)));all_goals first|apply Hold.mk|omega|assumption|skip))
       refine ⟨k + 1, ?_, ⟨by omega, by rw [hst1]; exact ha⟩, by omega⟩
       (refine cov_of ?_ ?_ <;> simp[go_sem])
   ·refine awp_exit ?_
    simp only [go_sem]
    refine hK3 _ ?_; clear hK3
    have : i = l.length := by omega
    subst this
    (refine awp_sr fun Y Yh=>?_;simp[go_sem];((repeat' (first|(refine ag_x ?_;simp[go_sem])|intro _|apply And.intro|(apply Yh;clear Yh Y)));all_goals first|apply Hold.mk|omega|assumption|skip))
    (refine awp_ret ?_;simp[go_sem, h12, hn])
  ·(refine awp_sr fun Y Yh=>?_;simp[go_sem];((repeat' (first|(refine ag_x ?_;simp[go_sem])|intro _|apply And.intro|(apply Yh;clear Yh Y)));all_goals first|apply Hold.mk|omega|assumption|skip))
   ((try refine CallT.toA ?_);refine callT_m (.inl ⟨rfl,rfl⟩) (by simp[go_sem]) ?_;intro args ha;simp[go_sem] at ha;subst ha;refine ⟨_, N0, ?_⟩;rintro _ rfl;simp[go_sem];((repeat' (first|(refine ag_false ?_ ?_ ?_;(focus (simp[go_sem, undef];done));(focus (simp[go_sem];done));simp[go_sem])|(refine ag_true ?_ ?_;(focus (simp[go_sem, undef];done));simp[go_sem])|(refine ag_x ?_;simp[go_sem, undef])|intro _|apply And.intro|(apply Yh;clear Yh Y)));all_goals first|apply Hold.mk|omega|assumption|skip))
   (refine awp_if fun T F hT hF=>?_;simp[go_sem];refine BR.intro (fun h1=>hT ?_) (fun h1=>hF ?_);all_goals clear hT hF T F;try simp at h1)
   ·(refine awp_sr fun Y Yh=>?_;simp[go_sem];((repeat' (first|(refine ag_x ?_;simp[go_sem])|intro _|apply And.intro|(apply Yh;clear Yh Y)));all_goals first|apply Hold.mk|omega|assumption|skip))
    (refine awp_ret ?_;simp[go_sem, h12])
   ·exact absurd h1 (by omega)
set_option maxHeartbeats 8000000 in
theorem sCheck_spec (s : Src) (w : List Prs) (hs : SzS s) (hw : SzN w) : PCall Tryz.prog 76 [dSrc s, dPs w] fun r => r = dI (if chkV s w then 0 else 1) := by 
 refine pcall_of Tryz.func76 rfl rfl Tryz.ntmps76 (rs := [.tmp 4]) (tys := [35]) rfl rfl (by simp) ?_
 obtain ⟨hs0, hs1⟩ := hs
 have hbad := fun n (h : upTo (suAt s) n = false) (hn : n ≤ s.length) => upTo_bad h s.length hn
 have hst := fun i x => @su_step s x i
 have hz : upTo (suAt s) 0 = true := rfl
 have N0 := sneeds_spec w 8 hw (by decide)
 unfold chkV suV
 generalize upTo (suAt s) = nt at *
 generalize nuV 8 w = nb at *
 (refine awp_sr fun Y Yh=>?_;simp[go_sem];((repeat' (first|(refine ag_x ?_;simp[go_sem])|intro _|apply And.intro|(apply Yh;clear Yh Y)));all_goals first|apply Hold.mk|omega|assumption|skip))
 refine awp_frzbox 2 rfl rfl ?_
 simp only [go_sem]
 refine awp_seq_k fun K1 hK1 => ?_
 (refine awp_sr fun Y Yh=>?_;simp[go_sem];((repeat' (first|(refine ag_x ?_;simp[go_sem])|intro _|apply And.intro|(apply Yh;clear Yh Y)));all_goals first|apply Hold.mk|omega|assumption|skip))
 (refine agc_f (dB nb) (.inl ⟨rfl,rfl⟩) ?_ rfl ?_;(intro hc args ha;simp[go_sem] at ha;subst ha;exact N0);simp[go_sem];((repeat' (first|(refine ag_x ?_;simp[go_sem])|intro _|apply And.intro|(apply Yh;clear Yh Y)));all_goals first|apply Hold.mk|omega|assumption|skip))
 (refine awp_if fun T F hT hF=>?_;simp[go_sem];refine BR.intro (fun h2=>hT ?_) (fun h2=>hF ?_);all_goals clear hT hF T F;try simp at h2)
 ·have hb : (decide (s.length ≤ 15) && nt s.length && nb) = false := by
   rcases h2 with h | h
   ·have : ¬ s.length ≤ 15 := by omega
    simp [this]
   ·simp [h]
  (refine awp_sr fun Y Yh=>?_;simp[go_sem];((repeat' (first|(refine ag_x ?_;simp[go_sem])|intro _|apply And.intro|(apply Yh;clear Yh Y)));all_goals first|apply Hold.mk|omega|assumption|skip))
  (refine awp_ret ?_;simp[go_sem, hb])
 ·obtain ⟨h15, h16⟩ : s.length ≤ 15 ∧ nb = true := by
   constructor
   ·have := h2.1; omega
   ·exact h2.2
  subst h16
  refine awp_skip ?_
  refine hK1 _ ?_; clear hK1
  refine awp_seq_k fun K3 hK3 => ?_
  (refine awp_sr fun Y Yh=>?_;simp[go_sem];((repeat' (first|(refine ag_x ?_;simp[go_sem])|intro _|apply And.intro|(apply Yh;clear Yh Y)));all_goals first|apply Hold.mk|omega|assumption|skip))
  refine awp_block ?_
  refine awp_loop (σ := Nat) (fun i => ⟨[(2, .rd [dGms s]), (17, dGms s), (18, dI s.length), (19, dI i)], []⟩) (fun i => i ≤ s.length ∧ nt i = true) (fun i => s.length - i) 0 ?_ ?_ ?_
  ·(refine cov_of ?_ ?_ <;> simp[go_sem])
  ·exact ⟨by omega, hz⟩
  rintro i ⟨hi, hn⟩
  (refine awp_sr fun Y Yh=>?_;simp[go_sem];((repeat' (first|(refine ag_x ?_;simp[go_sem])|intro _|apply And.intro|(apply Yh;clear Yh Y)));all_goals first|apply Hold.mk|omega|assumption|skip))
  refine awp_seq_k fun K4 hK4 => ?_
  (refine awp_if fun T F hT hF=>?_;simp[go_sem];refine BR.intro (fun h5=>hT ?_) (fun h5=>hF ?_);all_goals clear hT hF T F;try simp at h5)
  ·refine awp_skip ?_
   refine hK4 _ ?_; clear hK4
   obtain ⟨x, hx⟩ : ∃ x, s[i]? = some x := ⟨_, List.getElem?_eq_getElem (by omega)⟩
   have V := gvalid_spec x (hs1 x (List.mem_of_getElem? hx))
   have hst1 := hst i x hx hn
   have hbad1 := fun h => hbad (i + 1) h (by omega)
   have e : ∀ a b c : Bool, (a && b && c) = ((a && c) && b) := by decide
   rw [e] at hst1
   clear e
   generalize (nameV x.1 && vuV x.2) = vb at *
   refine awp_seq_k fun K6 hK6 => ?_
   refine awp_block ?_
   (refine awp_sr fun Y Yh=>?_;simp[go_sem, hx];((repeat' (first|(refine ag_x ?_;simp[go_sem, hx])|intro _|apply And.intro|(apply Yh;clear Yh Y)));all_goals first|apply Hold.mk|omega|assumption|skip))
   cases vb with
   | false =>
    have hF := hbad1 (by rw [hst1]; simp)
    ((refine awp_dr (.qs [0] (.one 1 (.qs [2, 3] (.sk 4 (.sk 5 (.sk 6 (.sk 7 (.sk 9 (.sk 10 (.sk 14 (.sk 8 (.sk 11 (.sk 12 (.sk 13 (.sk 15 (.sk 16 (.sk 17 (.qs [18] (.nil))))))))))))))))))) (by kernel_rfl) ?_ ?_ ?_ ?_);kernel_rfl;exact (by decide +kernel);kernel_rfl;intro Y Yh;((repeat' (first|(refine ag_x ?_;simp[go_sem])|refine adr_nil ?_|((first|refine adr_qs fun Y Yh=>?_|refine adr_y fun Y Yh=>?_);simp[go_sem])|intro _|apply And.intro|(apply Yh;clear Yh Y)));all_goals first|apply Hold.mk|omega|assumption|skip))
    ((try refine CallT.toA ?_);refine callT_m (.inl ⟨rfl,rfl⟩) (by simp[go_sem]) ?_;intro args ha;simp[go_sem] at ha;subst ha;refine ⟨_, V, ?_⟩;rintro _ rfl;simp[go_sem, undef];((repeat' (first|(refine ag_x ?_;simp[go_sem, undef])|refine adr_nil ?_|((first|refine adr_qs fun Y Yh=>?_|refine adr_y fun Y Yh=>?_);simp[go_sem, undef])|intro _|apply And.intro|(apply Yh;clear Yh Y)));all_goals first|apply Hold.mk|omega|assumption|skip))
    (refine awp_if fun T F hT hF=>?_;simp[go_sem];refine hT ?_;clear hT hF T F)
    (refine awp_sr fun Y Yh=>?_;simp[go_sem];((repeat' (first|(refine ag_x ?_;simp[go_sem])|intro _|apply And.intro|(apply Yh;clear Yh Y)));all_goals first|apply Hold.mk|omega|assumption|skip))
    (refine awp_ret ?_;simp[go_sem, hF])
   | true =>
    by_cases h0 : i = 0
    ·subst h0
     have hT : nt 1 = true := by rw [hst1]; simp
     ((refine awp_dr (.qs [0] (.one 1 (.qs [2, 3, 4, 5, 6] (.sk 7 (.sk 9 (.sk 10 (.sk 14 (.sk 8 (.sk 11 (.sk 12 (.sk 13 (.sk 15 (.sk 16 (.qs [17, 18] (.nil))))))))))))))) (by kernel_rfl) ?_ ?_ ?_ ?_);kernel_rfl;exact (by decide +kernel);kernel_rfl;intro Y Yh;((repeat' (first|(refine ag_x ?_;simp[go_sem])|refine adr_nil ?_|((first|refine adr_qs fun Y Yh=>?_|refine adr_y fun Y Yh=>?_);simp[go_sem])|intro _|apply And.intro|(apply Yh;clear Yh Y)));all_goals first|apply Hold.mk|omega|assumption|skip))
     ((try refine CallT.toA ?_);refine callT_m (.inl ⟨rfl,rfl⟩) (by simp[go_sem]) ?_;intro args ha;simp[go_sem] at ha;subst ha;refine ⟨_, V, ?_⟩;rintro _ rfl;simp[go_sem, undef];((repeat' (first|(refine ag_x ?_;simp[go_sem, undef])|refine adr_nil ?_|((first|refine adr_qs fun Y Yh=>?_|refine adr_y fun Y Yh=>?_);simp[go_sem, undef])|intro _|apply And.intro|(apply Yh;clear Yh Y)));all_goals first|apply Hold.mk|omega|assumption|skip))
     (refine awp_if fun T F hT hF=>?_;simp[go_sem];refine hF ?_;clear hT hF T F)
     refine awp_skip ?_
     refine hK6 _ ?_; clear hK6
     (refine awp_r fun Y Yh=>?_;simp[go_sem];((repeat' (first|(refine ag_x ?_;simp[go_sem])|intro _|apply And.intro|(apply Yh;clear Yh Y)));all_goals first|apply Hold.mk|omega|assumption|skip))
     refine ⟨1, ?_, ⟨by omega, hT⟩, by omega⟩
     (refine cov_of ?_ ?_ <;> simp[go_sem])
    ·obtain ⟨j, rfl⟩ : ∃ j, i = j + 1 := ⟨i - 1, by omega⟩
     obtain ⟨y, hy⟩ : ∃ y, s[j]? = some y := ⟨_, List.getElem?_eq_getElem (by omega)⟩
     have hi1 : ((j : Int) + 1 - 1).toNat = j := by omega
     have hi2 : (j : Int) + 1 - 1 = j := by omega
     have hi3 : ((j : Int) + 1).toNat = j + 1 := by omega
     have hpos : (0 : Int) < (j : Int) + 1 := by omega
     simp only [Nat.add_sub_cancel, hy] at hst1
     generalize hlb : Op.bytesLess y.1 x.1 = lb at *
     ((refine awp_dr (.qs [0] (.one 1 (.qs [2, 3, 4, 5, 6, 7, 9, 10, 14, 8, 11, 12, 13, 15, 16, 17, 18] (.nil)))) (by kernel_rfl) ?_ ?_ ?_ ?_);kernel_rfl;exact (by decide +kernel);kernel_rfl;intro Y Yh;((repeat' (first|(refine ag_x ?_;simp[go_sem, hy, hi1, hi2, hi3, hpos])|refine adr_nil ?_|((first|refine adr_qs fun Y Yh=>?_|refine adr_y fun Y Yh=>?_);simp[go_sem, hy, hi1, hi2, hi3, hpos])|intro _|apply And.intro|(apply Yh;clear Yh Y)));all_goals first|apply Hold.mk|omega|assumption|skip))
     ((try refine CallT.toA ?_);refine callT_m (.inl ⟨rfl,rfl⟩) (by simp[go_sem]) ?_;intro args ha;simp[go_sem] at ha;subst ha;refine ⟨_, V, ?_⟩;rintro _ rfl;simp[go_sem, hy, hi1, hi2, hi3, hpos, hlb];((repeat' (first|(refine ag_x ?_;simp[go_sem, hy, hi1, hi2, hi3, hpos, hlb])|refine adr_nil ?_|((first|refine adr_qs fun Y Yh=>?_|refine adr_y fun Y Yh=>?_);simp[go_sem, hy, hi1, hi2, hi3, hpos, hlb])|intro _|apply And.intro|(apply Yh;clear Yh Y)));all_goals first|apply Hold.mk|omega|assumption|skip))
     cases lb with
     | false =>
      have hF := hbad1 (by rw [hst1]; simp)
      (refine awp_if fun T F hT hF=>?_;simp[go_sem];refine hT ?_;clear hT hF T F)
      (refine awp_sr fun Y Yh=>?_;simp[go_sem];((repeat' (first|(refine ag_x ?_;simp[go_sem])|intro _|apply And.intro|(apply Yh;clear Yh Y)));all_goals first|apply Hold.mk|omega|assumption|skip))
      (refine awp_ret ?_;simp[go_sem, hF])
     | true =>
      have hT : nt (j + 1 + 1) = true := by rw [hst1]; simp
      (refine awp_if fun T F hT hF=>?_;simp[go_sem];refine hF ?_;clear hT hF T F)
      refine awp_skip ?_
      refine hK6 _ ?_; clear hK6
      (refine awp_r fun Y Yh=>?_;simp[go_sem];((repeat' (first|(refine ag_x ?_;simp[go_sem])|intro _|apply And.intro|(apply Yh;clear Yh Y)));all_goals first|apply Hold.mk|omega|assumption|skip))
      refine ⟨j + 1 + 1, ?_, ⟨by omega, hT⟩, by omega⟩
      (refine cov_of ?_ ?_ <;> simp[go_sem])
  ·refine awp_exit ?_
   simp only [go_sem]
   refine hK3 _ ?_; clear hK3
   have : i = s.length := by omega
   subst this
   (refine awp_sr fun Y Yh=>?_;simp[go_sem];((repeat' (first|(refine ag_x ?_;simp[go_sem])|intro _|apply And.intro|(apply Yh;clear Yh Y)));all_goals first|apply Hold.mk|omega|assumption|skip))
   (refine awp_ret ?_;simp[go_sem, h15, hn])
@[go_sem] abbrev dFn (f : Nat) : D := .v (.func (.func f) #[] #[])
def scmpV (a b : Bs) : Int := if Op.bytesLess a b = true then -1 else if Op.bytesLess b a = true then 1 else 0
theorem scmp_neg {a b : Bs} : scmpV a b < 0 ↔ Op.bytesLess a b = true := by
 unfold scmpV
 split
 ·rename_i h; simp [h]
 ·rename_i h; split <;> simp [h]
theorem scmp_zero {a b : Bs} : scmpV a b = 0 ↔ a = b := by
 unfold scmpV
 constructor
 ·intro h
  rcases bl_tri a b with q | q | q
  ·exact q
  ·simp [q] at h
  ·cases hab : Op.bytesLess a b <;> simp [hab, q] at h
 ·rintro rfl
  rw [bl_irr]; rfl
theorem isNaN_spec (a : Bs) : PCall Tryz.prog 214 [dS a] fun r => r = dB false := by 
 refine pcall_of Tryz.func214 rfl rfl Tryz.ntmps214 (rs := [.tmp 2]) (tys := [4]) rfl rfl (by simp) ?_
 (refine awp_sr fun Y Yh=>?_;simp[go_sem];((repeat' (first|(refine ag_x ?_;simp[go_sem])|intro _|apply And.intro|(apply Yh;clear Yh Y)));all_goals first|apply Hold.mk|omega|assumption|skip))
 (refine awp_sr fun Y Yh=>?_;simp[go_sem];((repeat' (first|(refine ag_x ?_;simp[go_sem])|intro _|apply And.intro|(apply Yh;clear Yh Y)));all_goals first|apply Hold.mk|omega|assumption|skip))
 (refine awp_ret ?_;simp[go_sem])
theorem scompare_spec (a b : Bs) : PCall Tryz.prog 180 [dS a, dS b] fun r => r = dI (scmpV a b) := by 
 refine pcall_of Tryz.func180 rfl rfl Tryz.ntmps180 (rs := [.tmp 4]) (tys := [3]) rfl rfl (by simp) ?_
 have A := isNaN_spec a
 have B := isNaN_spec b
 unfold scmpV
 (refine awp_sr fun Y Yh=>?_;simp[go_sem];((repeat' (first|(refine ag_x ?_;simp[go_sem])|intro _|apply And.intro|(apply Yh;clear Yh Y)));all_goals first|apply Hold.mk|omega|assumption|skip))
 (refine awp_sr fun Y Yh=>?_;simp[go_sem];((repeat' (first|(refine ag_x ?_;simp[go_sem])|intro _|apply And.intro|(apply Yh;clear Yh Y)));all_goals first|apply Hold.mk|omega|assumption|skip))
 ((try refine CallT.toA ?_);refine callT_m (.inl ⟨rfl,rfl⟩) (by simp[go_sem]) ?_;intro args ha;simp[go_sem] at ha;subst ha;refine ⟨_, A, ?_⟩;rintro _ rfl;simp[go_sem];((repeat' (first|(refine ag_x ?_;simp[go_sem])|intro _|apply And.intro|(apply Yh;clear Yh Y)));all_goals first|apply Hold.mk|omega|assumption|skip))
 (refine awp_sr fun Y Yh=>?_;simp[go_sem];((repeat' (first|(refine ag_x ?_;simp[go_sem])|intro _|apply And.intro|(apply Yh;clear Yh Y)));all_goals first|apply Hold.mk|omega|assumption|skip))
 ((try refine CallT.toA ?_);refine callT_m (.inl ⟨rfl,rfl⟩) (by simp[go_sem]) ?_;intro args ha;simp[go_sem] at ha;subst ha;refine ⟨_, B, ?_⟩;rintro _ rfl;simp[go_sem];((repeat' (first|(refine ag_x ?_;simp[go_sem])|intro _|apply And.intro|(apply Yh;clear Yh Y)));all_goals first|apply Hold.mk|omega|assumption|skip))
 refine awp_seq_k fun K1 hK1 => ?_
 (refine awp_sr fun Y Yh=>?_;simp[go_sem];((repeat' (first|(refine ag_x ?_;simp[go_sem])|intro _|apply And.intro|(apply Yh;clear Yh Y)));all_goals first|apply Hold.mk|omega|assumption|skip))
 (refine awp_if fun T F hT hF=>?_;simp[go_sem];refine hF ?_;clear hT hF T F)
 refine awp_skip ?_
 refine hK1 _ ?_; clear hK1
 refine awp_seq_k fun K2 hK2 => ?_
 (refine awp_sr fun Y Yh=>?_;simp[go_sem];((repeat' (first|(refine ag_x ?_;simp[go_sem])|intro _|apply And.intro|(apply Yh;clear Yh Y)));all_goals first|apply Hold.mk|omega|assumption|skip))
 (refine awp_if fun T F hT hF=>?_;simp[go_sem];refine hF ?_;clear hT hF T F)
 refine awp_skip ?_
 refine hK2 _ ?_; clear hK2
 refine awp_seq_k fun K3 hK3 => ?_
 (refine awp_sr fun Y Yh=>?_;simp[go_sem];((repeat' (first|(refine ag_x ?_;simp[go_sem])|intro _|apply And.intro|(apply Yh;clear Yh Y)));all_goals first|apply Hold.mk|omega|assumption|skip))
 (refine awp_if fun T F hT hF=>?_;simp[go_sem];refine BR.intro (fun h3=>hT ?_) (fun h3=>hF ?_);all_goals clear hT hF T F;try simp at h3)
 ·(refine awp_sr fun Y Yh=>?_;simp[go_sem];((repeat' (first|(refine ag_x ?_;simp[go_sem])|intro _|apply And.intro|(apply Yh;clear Yh Y)));all_goals first|apply Hold.mk|omega|assumption|skip))
  (refine awp_ret ?_;simp[go_sem, h3])
 ·refine awp_skip ?_
  refine hK3 _ ?_; clear hK3
  refine awp_seq_k fun K4 hK4 => ?_
  (refine awp_sr fun Y Yh=>?_;simp[go_sem];((repeat' (first|(refine ag_x ?_;simp[go_sem])|intro _|apply And.intro|(apply Yh;clear Yh Y)));all_goals first|apply Hold.mk|omega|assumption|skip))
  (refine awp_if fun T F hT hF=>?_;simp[go_sem];refine BR.intro (fun h4=>hT ?_) (fun h4=>hF ?_);all_goals clear hT hF T F;try simp at h4)
  ·(refine awp_sr fun Y Yh=>?_;simp[go_sem];((repeat' (first|(refine ag_x ?_;simp[go_sem])|intro _|apply And.intro|(apply Yh;clear Yh Y)));all_goals first|apply Hold.mk|omega|assumption|skip))
   (refine awp_ret ?_;simp[go_sem, h3, h4])
  ·refine awp_skip ?_
   refine hK4 _ ?_; clear hK4
   (refine awp_sr fun Y Yh=>?_;simp[go_sem];((repeat' (first|(refine ag_x ?_;simp[go_sem])|intro _|apply And.intro|(apply Yh;clear Yh Y)));all_goals first|apply Hold.mk|omega|assumption|skip))
   (refine awp_ret ?_;simp[go_sem, h3, h4])
theorem gem1_spec (g : Gm) (n : Bs) : PCall Tryz.prog 179 [dGm g, dS n] fun r => r = dI (scmpV g.1 n) := by 
 refine pcall_of Tryz.func179 rfl rfl Tryz.ntmps179 (rs := [.tmp 4]) (tys := [3]) rfl rfl (by simp) ?_
 have A := scompare_spec g.1 n
 (refine awp_sr fun Y Yh=>?_;simp[go_sem];((repeat' (first|(refine ag_x ?_;simp[go_sem])|intro _|apply And.intro|(apply Yh;clear Yh Y)));all_goals first|apply Hold.mk|omega|assumption|skip))
 (refine awp_sr fun Y Yh=>?_;simp[go_sem];((repeat' (first|(refine ag_x ?_;simp[go_sem])|intro _|apply And.intro|(apply Yh;clear Yh Y)));all_goals first|apply Hold.mk|omega|assumption|skip))
 ((try refine CallT.toA ?_);refine callT_m (.inl ⟨rfl,rfl⟩) (by simp[go_sem]) ?_;intro args ha;simp[go_sem] at ha;subst ha;refine ⟨_, A, ?_⟩;rintro _ rfl;simp[go_sem];((repeat' (first|(refine ag_x ?_;simp[go_sem])|intro _|apply And.intro|(apply Yh;clear Yh Y)));all_goals first|apply Hold.mk|omega|assumption|skip))
 (refine awp_ret ?_;simp[go_sem])
theorem half (i j : Nat) (h : i + j < 9223372036854775808) : shrI .u64 (IntKind.u64.wrap ((i : Int) + (j : Int))) 1 = (((i + j) / 2 : Nat) : Int) := by
 have e : IntKind.u64.wrap ((i : Int) + (j : Int)) = ((i + j : Nat) : Int) := by
  rw [IntKind.wrap_u64]
  have : ((i : Int) + (j : Int)) = ((i + j : Nat) : Int) := by omega
  rw [this, Int.emod_eq_of_lt (by omega) (by omega)]
 rw [e]
 unfold shrI
 have : (2 : Int) ^ min (1 : Int).toNat (IntKind.u64.bits) = 2 := by decide
 rw [this, Int.fdiv_eq_ediv_of_nonneg _ (by omega)]
 omega
set_option maxHeartbeats 8000000 in
theorem search_spec (s : Src) (n : Bs) (hs : s.Pairwise fun g k => Op.bytesLess g.1 k.1 = true) (hl : s.length ≤ 1000000) :
  PCall Tryz.prog 178 [dGms s, dS n, dFn 179] fun r => r = .tup [dI (cntG s n), dB (gemV s n).isSome] := by 
 refine pcall_of Tryz.func178 rfl rfl Tryz.ntmps178 (rs := [.tmp 6, .tmp 7]) (tys := [3, 4]) rfl rfl (by simp) ?_
 have hsp := @cnt_split s n hs
 have hcl := cnt_le s n
 have hfd := @cnt_find s n hs
 generalize cntG s n = c at *
 generalize gemV s n = gq at *
 (refine awp_sr fun Y Yh=>?_;simp[go_sem];((repeat' (first|(refine ag_x ?_;simp[go_sem])|intro _|apply And.intro|(apply Yh;clear Yh Y)));all_goals first|apply Hold.mk|omega|assumption|skip))
 (refine awp_sr fun Y Yh=>?_;simp[go_sem];((repeat' (first|(refine ag_x ?_;simp[go_sem])|intro _|apply And.intro|(apply Yh;clear Yh Y)));all_goals first|apply Hold.mk|omega|assumption|skip))
 (refine awp_sr fun Y Yh=>?_;simp[go_sem];((repeat' (first|(refine ag_x ?_;simp[go_sem])|intro _|apply And.intro|(apply Yh;clear Yh Y)));all_goals first|apply Hold.mk|omega|assumption|skip))
 refine awp_seq_k fun K1 hK1 => ?_
 refine awp_block ?_
 refine awp_loop (σ := Nat × Nat) (fun x => ⟨[(0, dGms s), (1, dS n), (2, dFn 179), (8, dI s.length), (9, dI x.1), (10, dI x.2)], []⟩) (fun x => x.1 ≤ c ∧ c ≤ x.2 ∧ x.2 ≤ s.length) (fun x => x.2 - x.1) (0, s.length) ?_ ?_ ?_
 ·(refine cov_of ?_ ?_ <;> simp[go_sem])
 ·exact ⟨by omega, by omega, by simp⟩
 rintro ⟨i, j⟩ ⟨h1, h2, h3⟩
 simp only at h1 h2 h3
 refine awp_seq_k fun K2 hK2 => ?_
 (refine awp_sr fun Y Yh=>?_;simp[go_sem];((repeat' (first|(refine ag_x ?_;simp[go_sem])|intro _|apply And.intro|(apply Yh;clear Yh Y)));all_goals first|apply Hold.mk|omega|assumption|skip))
 (refine awp_if fun T F hT hF=>?_;simp[go_sem];refine BR.intro (fun h4=>hT ?_) (fun h4=>hF ?_);all_goals clear hT hF T F;try simp at h4)
 ·refine awp_skip ?_
  refine hK2 _ ?_; clear hK2
  have hh := half i j (by omega)
  obtain ⟨g, hg⟩ : ∃ g, s[(i + j) / 2]? = some g := ⟨_, List.getElem?_eq_getElem (by omega)⟩
  have C1 := gem1_spec g n
  have hc1 := hsp _ g hg
  rw [← scmp_neg] at hc1
  generalize scmpV g.1 n = sv at *
  have hm1 : i ≤ (i + j) / 2 := by omega
  have hm2 : (i + j) / 2 < j := by omega
  generalize (i + j) / 2 = m at *
  refine awp_block ?_
  (refine awp_sr fun Y Yh=>?_;simp[go_sem, hh];((repeat' (first|(refine ag_x ?_;simp[go_sem, hh])|intro _|apply And.intro|(apply Yh;clear Yh Y)));all_goals first|apply Hold.mk|omega|assumption|skip))
  (refine awp_sr fun Y Yh=>?_;simp[go_sem, hg];((repeat' (first|(refine ag_x ?_;simp[go_sem, hg])|intro _|apply And.intro|(apply Yh;clear Yh Y)));all_goals first|apply Hold.mk|omega|assumption|skip))
  ((try refine CallT.toA ?_);refine callT_m (.inl ⟨rfl,rfl⟩) (by simp[go_sem]) ?_;intro args ha;simp[go_sem] at ha;subst ha;refine ⟨_, C1, ?_⟩;rintro _ rfl;simp[go_sem];((repeat' (first|(refine ag_x ?_;simp[go_sem])|intro _|apply And.intro|(apply Yh;clear Yh Y)));all_goals first|apply Hold.mk|omega|assumption|skip))
  (refine awp_if fun T F hT hF=>?_;simp[go_sem];refine BR.intro (fun h5=>hT ?_) (fun h5=>hF ?_);all_goals clear hT hF T F;try simp at h5)
  ·(refine awp_r fun Y Yh=>?_;simp[go_sem];((repeat' (first|(refine ag_x ?_;simp[go_sem])|intro _|apply And.intro|(apply Yh;clear Yh Y)));all_goals first|apply Hold.mk|omega|assumption|skip))
   refine ⟨(m + 1, j), ?_, ⟨by simp only; omega, by simp only; omega, by simp only; omega⟩, by simp only; omega⟩
   (refine cov_of ?_ ?_ <;> simp[go_sem])
  ·(refine awp_r fun Y Yh=>?_;simp[go_sem];((repeat' (first|(refine ag_x ?_;simp[go_sem])|intro _|apply And.intro|(apply Yh;clear Yh Y)));all_goals first|apply Hold.mk|omega|assumption|skip))
   refine ⟨(i, m), ?_, ⟨by simp only; omega, by simp only; omega, by simp only; omega⟩, by simp only; omega⟩
   (refine cov_of ?_ ?_ <;> simp[go_sem])
 ·refine awp_exit ?_
  simp only [go_sem]
  refine hK1 _ ?_; clear hK1
  have e1 : i = c := by omega
  have e2 : j = c := by omega
  subst e1
  subst e2
  by_cases hlt : j < s.length
  ·obtain ⟨g, hg⟩ : ∃ g, s[j]? = some g := ⟨_, List.getElem?_eq_getElem (by omega)⟩
   have C1 := gem1_spec g n
   rw [hg] at hfd
   simp only at hfd
   have hz := @scmp_zero g.1 n
   generalize scmpV g.1 n = sv at *
   have hgi : gq.isSome = decide (sv = 0) := by
    rw [hfd]
    by_cases q : g.1 = n
    ·rw [if_pos q]; simp [hz.2 q]
    ·rw [if_neg q]; have : ¬ sv = 0 := fun e => q (hz.1 e)
     simp [this]
   have hlt' : (j : Int) < (s.length : Int) := by omega
   (refine awp_sr fun Y Yh=>?_;simp[go_sem, hg, hlt'];((repeat' (first|(refine ag_x ?_;simp[go_sem, hg, hlt'])|intro _|apply And.intro|(apply Yh;clear Yh Y)));all_goals first|apply Hold.mk|omega|assumption|skip))
   (refine agc_f (dI sv) (.inl ⟨rfl,rfl⟩) ?_ rfl ?_;(intro hc args ha;simp[go_sem] at ha;subst ha;exact C1);simp[go_sem];((repeat' (first|(refine ag_x ?_;simp[go_sem])|intro _|apply And.intro|(apply Yh;clear Yh Y)));all_goals first|apply Hold.mk|omega|assumption|skip))
   (refine awp_ret ?_;simp[go_sem, hgi])
  ·have : s[j]? = none := List.getElem?_eq_none (by omega)
   rw [this] at hfd
   simp only at hfd
   have hlt' : ¬ (j : Int) < (s.length : Int) := by omega
   (refine awp_sr fun Y Yh=>?_;simp[go_sem, hlt'];((repeat' (first|(refine ag_false ?_ ?_ ?_;(focus (simp[go_sem, undef, hlt'];done));(focus (simp[go_sem];done));simp[go_sem, hlt'])|(refine ag_true ?_ ?_;(focus (simp[go_sem, undef, hlt'];done));simp[go_sem, hlt'])|(refine ag_x ?_;simp[go_sem, undef, hlt'])|intro _|apply And.intro|(apply Yh;clear Yh Y)));all_goals first|apply Hold.mk|omega|assumption|skip))
   (refine awp_ret ?_;simp[go_sem, hfd])
theorem gem_spec (s : Src) (n : Bs) (hs : suV s = true) : PCall Tryz.prog 129 [dSrc s, dS n] fun r => r = .tup [dGm ((gemV s n).getD ([], [])), dB (gemV s n).isSome] := by 
 refine pcall_of Tryz.func129 rfl rfl Tryz.ntmps129 (rs := [.cell 4 119, .tmp 5]) (tys := [119, 4]) rfl rfl (by simp) ?_
 have ha := suV_asc hs
 have h15 := (suV_parts hs).1
 have B := search_spec s n ha (by omega)
 have hfd := @cnt_find s n ha
 have hcl := cnt_le s n
 generalize cntG s n = c at *
 generalize gemV s n = gq at *
 (refine awp_sr fun Y Yh=>?_;simp[go_sem];((repeat' (first|(refine ag_x ?_;simp[go_sem])|intro _|apply And.intro|(apply Yh;clear Yh Y)));all_goals first|apply Hold.mk|omega|assumption|skip))
 refine awp_frzbox 2 rfl rfl ?_
 simp only [go_sem]
 (refine awp_sr fun Y Yh=>?_;simp[go_sem];((repeat' (first|(refine ag_x ?_;simp[go_sem])|intro _|apply And.intro|(apply Yh;clear Yh Y)));all_goals first|apply Hold.mk|omega|assumption|skip))
 ((try refine CallT.toA ?_);refine callT_m (.inl ⟨rfl,rfl⟩) (by simp[go_sem]) ?_;intro args ha;simp[go_sem] at ha;subst ha;refine ⟨_, B, ?_⟩;rintro _ rfl;simp[go_sem];((repeat' (first|(refine ag_x ?_;simp[go_sem])|intro _|apply And.intro|(apply Yh;clear Yh Y)));all_goals first|apply Hold.mk|omega|assumption|skip))
 refine awp_seq_k fun K1 hK1 => ?_
 (refine awp_sr fun Y Yh=>?_;simp[go_sem];((repeat' (first|(refine ag_x ?_;simp[go_sem])|intro _|apply And.intro|(apply Yh;clear Yh Y)));all_goals first|apply Hold.mk|omega|assumption|skip))
 cases gq with
 | none =>
  (refine awp_if fun T F hT hF=>?_;simp[go_sem];refine hT ?_;clear hT hF T F)
  (refine awp_sr fun Y Yh=>?_;simp[go_sem];((repeat' (first|(refine ag_x ?_;simp[go_sem])|intro _|apply And.intro|(apply Yh;clear Yh Y)));all_goals first|apply Hold.mk|omega|assumption|skip))
  (refine awp_ret ?_;simp[go_sem])
 | some g =>
  (refine awp_if fun T F hT hF=>?_;simp[go_sem];refine hF ?_;clear hT hF T F)
  refine awp_skip ?_
  refine hK1 _ ?_; clear hK1
  obtain ⟨k, hk⟩ : ∃ k, s[c]? = some k := by
   cases h : s[c]? with
   | none => rw [h] at hfd; cases hfd
   | some k => exact ⟨k, rfl⟩
  have : k = g := by
   rw [hk] at hfd
   simp only at hfd
   split at hfd
   ·exact (Option.some.inj hfd).symm
   ·cases hfd
  subst this
  (refine awp_sr fun Y Yh=>?_;simp[go_sem, hk];((repeat' (first|(refine ag_x ?_;simp[go_sem, hk])|intro _|apply And.intro|(apply Yh;clear Yh Y)));all_goals first|apply Hold.mk|omega|assumption|skip))
  (refine awp_ret ?_;simp[go_sem])
/-! the solver: its box (900002), what is chosen (900003) -/
def mSn (m : List (Bs × Bs)) : List (Value × D) := m.map fun p => (.string ⟨p.1.toArray⟩, dS p.2)
@[go_sem] theorem mfind_mSn (r : Bs) : ∀ m : List (Bs × Bs), mfind 1 (.string ⟨r.toArray⟩) (mSn m) = some ((slook m r).map dS)
 | [] => rfl
 | (k, v) :: m => by
  have ih := mfind_mSn r m
  unfold mSn at ih ⊢
  simp only [List.map_cons, mfind, keyEq, beq_bs2, slook]
  by_cases h : r = k
  ·simp [h]
  ·have hb : (r == k) = false := by simp [h]
   simp [h, ih, hb]
@[go_sem] theorem mput_mSn (d v : Bs) : ∀ m : List (Bs × Bs), mput 1 (.string ⟨d.toArray⟩) (.v (.string ⟨v.toArray⟩)) (mSn m) = mSn (sput d v m)
 | [] => rfl
 | (k, w) :: m => by
  have ih := mput_mSn d v m
  unfold mSn at ih ⊢
  simp only [List.map_cons, mput, keyEq, beq_bs2, sput]
  by_cases h : d = k
  ·simp [h]
  ·have hb : (d == k) = false := by simp [h]
   simp [h, ih, hb]
@[go_sem] theorem mdel_mS (d : Bs) : ∀ m : List (Bs × Bs), mdel 1 (.string ⟨d.toArray⟩) (mSn m) = mSn (sdel d m)
 | [] => rfl
 | (k, w) :: m => by
  have ih := mdel_mS d m
  unfold mSn at ih ⊢
  simp only [List.map_cons, mdel, keyEq, beq_bs2, sdel]
  by_cases h : d = k
  ·simp [h]
  ·have hb : (d == k) = false := by simp [h]
   simp [h, ih, hb]
abbrev bXn (s : Src) (bud t : Int) (full : Bool) (N : List Prs) (gm : Nat) : Blk := .box [dGms s, dI bud, dI t, dB full, dPs N, .own 900003 gm]
abbrev hX (gb gm : Nat) (s : Src) (bud t : Int) (full : Bool) (N l : List Prs) : List (Nat × (Nat × Blk)) := [(900002, (gb, bXn s bud t full N gm)), (900003, (gm, .map (mSn l)))]
theorem hX_ok (gb gm : Nat) (s : Src) (bud t : Int) (full : Bool) (N l : List Prs) : ∀ p ∈ hX gb gm s bud t full N l, 900000 ≤ p.1 ∧ notFroz p.2.2 = true ∧ p.1 ∈ [900002, 900003] := by
 intro p hp
 simp only [hX, List.mem_cons, List.not_mem_nil, or_false] at hp
 rcases hp with rfl | rfl <;> simp [notFroz]
theorem clip_spec (l : List Prs) : PCall Tryz.prog 151 [dPs l] fun r => r = .slc 2 (l.map cP) := by 
 refine pcall_of Tryz.func151 rfl rfl Tryz.ntmps151 (rs := [.tmp 2]) (tys := [38]) rfl rfl (by simp) ?_
 (refine awp_sr fun Y Yh=>?_;simp[go_sem];((repeat' (first|(refine ag_x ?_;simp[go_sem])|intro _|apply And.intro|(apply Yh;clear Yh Y)));all_goals first|apply Hold.mk|omega|assumption|skip))
 (refine awp_sr fun Y Yh=>?_;simp[go_sem];((repeat' (first|(refine ag_x ?_;simp[go_sem])|intro _|apply And.intro|(apply Yh;clear Yh Y)));all_goals first|apply Hold.mk|omega|assumption|skip))
 (refine awp_ret ?_;simp[go_sem])
set_option maxHeartbeats 8000000 in
theorem next_spec (gb gm : Nat) (s : Src) (bud t : Int) (full : Bool) (N l : List Prs) (hN : N.length ≤ 1000000000) :
  ACall Tryz.prog 147 [.ptr 900002 gb 0] (hX gb gm s bud t full N l) [900002, 900003] fun ps r => ps = [(gb, bXn s bud t full N gm), (gm, .map (mSn l))] ∧ r = dS (nextV N l) := by 
 refine acall_of Tryz.func147 rfl rfl Tryz.ntmps147 (rs := [.tmp 2]) (tys := [9]) rfl rfl (by simp) ?_ ?_
 ·exact hX_ok gb gm s bud t full N l
 have hst := fun i n => @next_step N l i n
 have hz : N.find? (fun n => (slook l n.1).isNone) = (N.drop 0).find? (fun n => (slook l n.1).isNone) := rfl
 have he : (N.drop N.length).find? (fun n => (slook l n.1).isNone) = none := by rw [List.drop_length]; rfl
 unfold nextV
 rw [hz]
 obtain ⟨F, hF⟩ : ∃ F : Nat → Option Prs, ∀ i, (N.drop i).find? (fun n => (slook l n.1).isNone) = F i := ⟨_, fun _ => rfl⟩
 simp only [hF] at hst he ⊢
 clear hF hz
 (refine awp_sr fun Y Yh=>?_;simp[go_sem];((repeat' (first|(refine ag_x ?_;simp[go_sem])|intro _|apply And.intro|(apply Yh;clear Yh Y)));all_goals first|apply Hold.mk|omega|assumption|skip))
 refine awp_seq_k fun K1 hK1 => ?_
 (refine awp_sr fun Y Yh=>?_;simp[go_sem];((repeat' (first|(refine ag_x ?_;simp[go_sem])|intro _|apply And.intro|(apply Yh;clear Yh Y)));all_goals first|apply Hold.mk|omega|assumption|skip))
 refine awp_block ?_
 refine awp_loop (σ := Nat) (fun i => ⟨[(0, .ptr 900002 gb 0), (10, dPs N), (11, dI N.length), (12, dI i)], hX gb gm s bud t full N l⟩) (fun i => i ≤ N.length ∧ F 0 = F i) (fun i => N.length - i) 0 ?_ ?_ ?_
 ·(refine cov_of ?_ ?_ <;> simp[go_sem])
 ·exact ⟨by omega, rfl⟩
 rintro i ⟨hi, hf⟩
 (refine awp_sr fun Y Yh=>?_;simp[go_sem];((repeat' (first|(refine ag_x ?_;simp[go_sem])|intro _|apply And.intro|(apply Yh;clear Yh Y)));all_goals first|apply Hold.mk|omega|assumption|skip))
 refine awp_seq_k fun K2 hK2 => ?_
 (refine awp_if fun T F hT hF=>?_;simp[go_sem];refine BR.intro (fun h3=>hT ?_) (fun h3=>hF ?_);all_goals clear hT hF T F;try simp at h3)
 ·refine awp_skip ?_
  refine hK2 _ ?_; clear hK2
  obtain ⟨n, hn⟩ : ∃ n, N[i]? = some n := ⟨_, List.getElem?_eq_getElem (by omega)⟩
  have hst1 := hst i n hn
  refine awp_seq_k fun K4 hK4 => ?_
  refine awp_block ?_
  (refine awp_sr fun Y Yh=>?_;simp[go_sem, hn];((repeat' (first|(refine ag_x ?_;simp[go_sem, hn])|intro _|apply And.intro|(apply Yh;clear Yh Y)));all_goals first|apply Hold.mk|omega|assumption|skip))
  cases hq : slook l n.1 with
  | none =>
   rw [if_pos hq] at hst1
   ((refine awp_dr (.qs [0, 1, 2, 4, 3, 5, 6, 7, 8, 9, 10, 11] (.nil)) (by kernel_rfl) ?_ ?_ ?_ ?_);kernel_rfl;exact (by decide +kernel);kernel_rfl;intro Y Yh;((repeat' (first|(refine ag_x ?_;simp[go_sem, hq])|refine adr_nil ?_|((first|refine adr_qs fun Y Yh=>?_|refine adr_y fun Y Yh=>?_);simp[go_sem, hq])|intro _|apply And.intro|(apply Yh;clear Yh Y)));all_goals first|apply Hold.mk|omega|assumption|skip))
   (refine awp_sr fun Y Yh=>?_;simp[go_sem];((repeat' (first|(refine ag_x ?_;simp[go_sem])|intro _|apply And.intro|(apply Yh;clear Yh Y)));all_goals first|apply Hold.mk|omega|assumption|skip))
   (refine awp_if fun T F hT hF=>?_;simp[go_sem];refine hT ?_;clear hT hF T F)
   (refine awp_sr fun Y Yh=>?_;simp[go_sem];((repeat' (first|(refine ag_x ?_;simp[go_sem])|intro _|apply And.intro|(apply Yh;clear Yh Y)));all_goals first|apply Hold.mk|omega|assumption|skip))
   (refine awp_ret ?_;simp[go_sem, hf, hst1])
  | some v =>
   rw [if_neg (by rw [hq]; simp)] at hst1
   ((refine awp_dr (.qs [0, 1, 2, 4, 3, 5, 6, 7, 8, 9, 10, 11] (.nil)) (by kernel_rfl) ?_ ?_ ?_ ?_);kernel_rfl;exact (by decide +kernel);kernel_rfl;intro Y Yh;((repeat' (first|(refine ag_x ?_;simp[go_sem, hq])|refine adr_nil ?_|((first|refine adr_qs fun Y Yh=>?_|refine adr_y fun Y Yh=>?_);simp[go_sem, hq])|intro _|apply And.intro|(apply Yh;clear Yh Y)));all_goals first|apply Hold.mk|omega|assumption|skip))
   (refine awp_sr fun Y Yh=>?_;simp[go_sem];((repeat' (first|(refine ag_x ?_;simp[go_sem])|intro _|apply And.intro|(apply Yh;clear Yh Y)));all_goals first|apply Hold.mk|omega|assumption|skip))
   (refine awp_if fun T F hT hF=>?_;simp[go_sem];refine hF ?_;clear hT hF T F)
   refine awp_skip ?_
   refine hK4 _ ?_; clear hK4
   (refine awp_r fun Y Yh=>?_;simp[go_sem];((repeat' (first|(refine ag_x ?_;simp[go_sem])|intro _|apply And.intro|(apply Yh;clear Yh Y)));all_goals first|apply Hold.mk|omega|assumption|skip))
   refine ⟨i + 1, ?_, ⟨by omega, hf.trans hst1⟩, by omega⟩
   (refine cov_of ?_ ?_ <;> simp[go_sem])
 ·refine awp_exit ?_
  simp only [go_sem]
  refine hK1 _ ?_; clear hK1
  have : i = N.length := by omega
  subst this
  (refine awp_sr fun Y Yh=>?_;simp[go_sem];((repeat' (first|(refine ag_x ?_;simp[go_sem])|intro _|apply And.intro|(apply Yh;clear Yh Y)));all_goals first|apply Hold.mk|omega|assumption|skip))
  (refine awp_ret ?_;simp[go_sem, hf, he])
set_option maxHeartbeats 8000000 in
theorem fits_spec (gb gm : Nat) (s : Src) (bud t : Int) (full : Bool) (N l : List Prs) (gem : Bs) (v : Vrs) (hN : SzN N ∨ (N.length ≤ 1001000000 ∧ ∀ x ∈ N, Sz1 x)) (hl : ∀ x ∈ l, Sz1 x) (hno : NumOk l) (hg : pkdV l gem = []) (hv : SzV v) (hv0 : v.1 ≠ []) :
  ACall Tryz.prog 150 [.ptr 900002 gb 0, dS gem, dVr v] (hX gb gm s bud t full N l) [900002, 900003] fun ps r => ps = [(gb, bXn s bud t full N gm), (gm, .map (mSn l))] ∧ r = dB (fitV N l gem v) := by 
 refine acall_of Tryz.func150 rfl rfl Tryz.ntmps150 (rs := [.tmp 6]) (tys := [4]) rfl rfl (by simp) ?_ ?_
 ·exact hX_ok gb gm s bud t full N l
 obtain ⟨hNl, hN1⟩ : N.length ≤ 1001000000 ∧ ∀ x ∈ N, Sz1 x := by
  rcases hN with h | h
  ·exact ⟨by have := h.1; omega, h.2⟩
  ·exact h
 obtain ⟨num, W⟩ := v
 obtain ⟨hv1, hW, hW1⟩ := hv
 simp only at hv1 hW hW1 hv0
 have hbf := fun n => @bFit_eq l hno gem num hg hv0 n
 have hA := fun i x h => @all_take Prs (aFit gem num) N i x h
 have hB := fun i x h => @all_take Prs (bFit (l ++ [(gem, num)])) W i x h
 have hAe : (N.take N.length).all (aFit gem num) = N.all (aFit gem num) := by rw [List.take_length]
 have hBe : (W.take W.length).all (bFit (l ++ [(gem, num)])) = W.all (bFit (l ++ [(gem, num)])) := by rw [List.take_length]
 have hAb : ∀ i x, N[i]? = some x → aFit gem num x = false → N.all (aFit gem num) = false := fun i x h h2 => by
  rw [List.all_eq_false]; exact ⟨x, List.mem_of_getElem? h, by simp [h2]⟩
 have hBb : ∀ i x, W[i]? = some x → bFit (l ++ [(gem, num)]) x = false → W.all (bFit (l ++ [(gem, num)])) = false := fun i x h h2 => by
  rw [List.all_eq_false]; exact ⟨x, List.mem_of_getElem? h, by simp [h2]⟩
 have hA0 : (N.take 0).all (aFit gem num) = true := rfl
 have hB0 : (W.take 0).all (bFit (l ++ [(gem, num)])) = true := rfl
 unfold fitV
 simp only
 generalize hAB : N.all (aFit gem num) = aN at *
 generalize hBB : W.all (bFit (l ++ [(gem, num)])) = bW at *
 obtain ⟨FA, hFA⟩ : ∃ F : Nat → Bool, ∀ i, (N.take i).all (aFit gem num) = F i := ⟨_, fun _ => rfl⟩
 obtain ⟨FB, hFB⟩ : ∃ F : Nat → Bool, ∀ i, (W.take i).all (bFit (l ++ [(gem, num)])) = F i := ⟨_, fun _ => rfl⟩
 simp only [hFA] at hA hAe hA0
 simp only [hFB] at hB hBe hB0
 clear hFA hFB hAB hBB
 (refine awp_sr fun Y Yh=>?_;simp[go_sem];((repeat' (first|(refine ag_x ?_;simp[go_sem])|intro _|apply And.intro|(apply Yh;clear Yh Y)));all_goals first|apply Hold.mk|omega|assumption|skip))
 refine awp_frzbox 5 rfl rfl ?_
 simp only [go_sem]
 refine awp_seq_k fun K1 hK1 => ?_
 (refine awp_sr fun Y Yh=>?_;simp[go_sem];((repeat' (first|(refine ag_x ?_;simp[go_sem])|intro _|apply And.intro|(apply Yh;clear Yh Y)));all_goals first|apply Hold.mk|omega|assumption|skip))
 refine awp_block ?_
 refine awp_loop (σ := Nat) (fun i => ⟨[(0, .ptr 900002 gb 0), (1, dS gem), (5, .rd [dS num, dPs W]), (16, dPs N), (17, dI N.length), (18, dI i)], hX gb gm s bud t full N l⟩) (fun i => i ≤ N.length ∧ FA i = true) (fun i => N.length - i) 0 ?_ ?_ ?_
 ·(refine cov_of ?_ ?_ <;> simp[go_sem])
 ·exact ⟨by omega, hA0⟩
 rintro i ⟨hi, hf⟩
 (refine awp_sr fun Y Yh=>?_;simp[go_sem];((repeat' (first|(refine ag_x ?_;simp[go_sem])|intro _|apply And.intro|(apply Yh;clear Yh Y)));all_goals first|apply Hold.mk|omega|assumption|skip))
 refine awp_seq_k fun K2 hK2 => ?_
 (refine awp_if fun T F hT hF=>?_;simp[go_sem];refine BR.intro (fun h3=>hT ?_) (fun h3=>hF ?_);all_goals clear hT hF T F;try simp at h3)
 ·refine awp_skip ?_
  refine hK2 _ ?_; clear hK2
  obtain ⟨n, hn⟩ : ∃ n, N[i]? = some n := ⟨_, List.getElem?_eq_getElem (by omega)⟩
  obtain ⟨_, hn2⟩ := hN1 n (List.mem_of_getElem? hn)
  have hA1 := hA i n hn
  have hAb1 := hAb i n hn
  have M := smeets_spec num n.2 hv1 hn2
  have ha : aFit gem num n = (decide (n.1 ≠ gem) || meetsP num n.2) := rfl
  rw [ha] at hA1 hAb1
  generalize meetsP num n.2 = mb at *
  refine awp_seq_k fun K4 hK4 => ?_
  refine awp_block ?_
  (refine awp_sr fun Y Yh=>?_;simp[go_sem, hn];((repeat' (first|(refine ag_x ?_;simp[go_sem, hn])|intro _|apply And.intro|(apply Yh;clear Yh Y)));all_goals first|apply Hold.mk|omega|assumption|skip))
  by_cases hg2 : n.1 = gem
  ·(refine awp_sr fun Y Yh=>?_;simp[go_sem, hg2];((repeat' (first|(refine ag_x ?_;simp[go_sem, hg2])|intro _|apply And.intro|(apply Yh;clear Yh Y)));all_goals first|apply Hold.mk|omega|assumption|skip))
   (refine agc_f (dB mb) (.inl ⟨rfl,rfl⟩) ?_ rfl ?_;(intro hc args ha;simp[go_sem] at ha;subst ha;exact M);simp[go_sem];((repeat' (first|(refine ag_x ?_;simp[go_sem])|intro _|apply And.intro|(apply Yh;clear Yh Y)));all_goals first|apply Hold.mk|omega|assumption|skip))
   cases mb with
   | false =>
    have hF := hAb1 (by simp [hg2])
    (refine awp_if fun T F hT hF=>?_;simp[go_sem];refine hT ?_;clear hT hF T F)
    (refine awp_sr fun Y Yh=>?_;simp[go_sem];((repeat' (first|(refine ag_x ?_;simp[go_sem])|intro _|apply And.intro|(apply Yh;clear Yh Y)));all_goals first|apply Hold.mk|omega|assumption|skip))
    (refine awp_ret ?_;simp[go_sem, hF])
   | true =>
    (refine awp_if fun T F hT hF=>?_;simp[go_sem];refine hF ?_;clear hT hF T F)
    refine awp_skip ?_
    refine hK4 _ ?_; clear hK4
    (refine awp_r fun Y Yh=>?_;simp[go_sem];((repeat' (first|(refine ag_x ?_;simp[go_sem])|intro _|apply And.intro|(apply Yh;clear Yh Y)));all_goals first|apply Hold.mk|omega|assumption|skip))
    refine ⟨i + 1, ?_, ⟨by omega, by rw [hA1, hf]; simp⟩, by omega⟩
    (refine cov_of ?_ ?_ <;> simp[go_sem])
  ·(refine awp_sr fun Y Yh=>?_;simp[go_sem, hg2];((repeat' (first|(refine ag_false ?_ ?_ ?_;(focus (simp[go_sem, undef, hg2];done));(focus (simp[go_sem];done));simp[go_sem, hg2])|(refine ag_true ?_ ?_;(focus (simp[go_sem, undef, hg2];done));simp[go_sem, hg2])|(refine ag_x ?_;simp[go_sem, undef, hg2])|intro _|apply And.intro|(apply Yh;clear Yh Y)));all_goals first|apply Hold.mk|omega|assumption|skip))
   (refine awp_if fun T F hT hF=>?_;simp[go_sem];refine hF ?_;clear hT hF T F)
   refine awp_skip ?_
   refine hK4 _ ?_; clear hK4
   (refine awp_r fun Y Yh=>?_;simp[go_sem];((repeat' (first|(refine ag_x ?_;simp[go_sem])|intro _|apply And.intro|(apply Yh;clear Yh Y)));all_goals first|apply Hold.mk|omega|assumption|skip))
   refine ⟨i + 1, ?_, ⟨by omega, by rw [hA1, hf]; simp [hg2]⟩, by omega⟩
   (refine cov_of ?_ ?_ <;> simp[go_sem])
 ·refine awp_exit ?_
  simp only [go_sem]
  refine hK1 _ ?_; clear hK1
  have : i = N.length := by omega
  subst this
  rw [hAe] at hf
  subst hf
  refine awp_seq_k fun K5 hK5 => ?_
  (refine awp_sr fun Y Yh=>?_;simp[go_sem];((repeat' (first|(refine ag_x ?_;simp[go_sem])|intro _|apply And.intro|(apply Yh;clear Yh Y)));all_goals first|apply Hold.mk|omega|assumption|skip))
  refine awp_block ?_
  refine awp_loop (σ := Nat) (fun i => ⟨[(0, .ptr 900002 gb 0), (1, dS gem), (5, .rd [dS num, dPs W]), (36, dPs W), (37, dI W.length), (38, dI i)], hX gb gm s bud t full N l⟩) (fun i => i ≤ W.length ∧ FB i = true) (fun i => W.length - i) 0 ?_ ?_ ?_
  ·(refine cov_of ?_ ?_ <;> simp[go_sem])
  ·exact ⟨by omega, hB0⟩
  rintro i ⟨hi, hf⟩
  (refine awp_sr fun Y Yh=>?_;simp[go_sem];((repeat' (first|(refine ag_x ?_;simp[go_sem])|intro _|apply And.intro|(apply Yh;clear Yh Y)));all_goals first|apply Hold.mk|omega|assumption|skip))
  refine awp_seq_k fun K6 hK6 => ?_
  (refine awp_if fun T F hT hF=>?_;simp[go_sem];refine BR.intro (fun h7=>hT ?_) (fun h7=>hF ?_);all_goals clear hT hF T F;try simp at h7)
  ·refine awp_skip ?_
   refine hK6 _ ?_; clear hK6
   obtain ⟨n, hn⟩ : ∃ n, W[i]? = some n := ⟨_, List.getElem?_eq_getElem (by omega)⟩
   obtain ⟨_, hn2⟩ := hW1 n (List.mem_of_getElem? hn)
   have hB1 := hB i n hn
   have hBb1 := hBb i n hn
   rw [hbf n] at hB1 hBb1
   refine awp_seq_k fun K8 hK8 => ?_
   refine awp_block ?_
   (refine awp_sr fun Y Yh=>?_;simp[go_sem, hn];((repeat' (first|(refine ag_x ?_;simp[go_sem, hn])|intro _|apply And.intro|(apply Yh;clear Yh Y)));all_goals first|apply Hold.mk|omega|assumption|skip))
   by_cases hg2 : n.1 = gem
   ·have hq : slook l n.1 = none := by rw [hg2]; exact (slook_none hno).2 hg
    have M := smeets_spec num n.2 hv1 hn2
    have ho : oneN l gem num n = some num := by unfold oneN; rw [if_pos hg2]
    rw [ho] at hB1 hBb1
    simp only at hB1 hBb1
    generalize meetsP num n.2 = mb at *
    ((refine awp_dr (.qs [0, 1, 2, 4, 3, 5, 6, 7, 8, 9, 10, 11] (.nil)) (by kernel_rfl) ?_ ?_ ?_ ?_);kernel_rfl;exact (by decide +kernel);kernel_rfl;intro Y Yh;((repeat' (first|(refine ag_x ?_;simp[go_sem, hq])|refine adr_nil ?_|((first|refine adr_qs fun Y Yh=>?_|refine adr_y fun Y Yh=>?_);simp[go_sem, hq])|intro _|apply And.intro|(apply Yh;clear Yh Y)));all_goals first|apply Hold.mk|omega|assumption|skip))
    refine awp_seq_k fun K9 hK9 => ?_
    (refine awp_sr fun Y Yh=>?_;simp[go_sem];((repeat' (first|(refine ag_x ?_;simp[go_sem])|intro _|apply And.intro|(apply Yh;clear Yh Y)));all_goals first|apply Hold.mk|omega|assumption|skip))
    (refine awp_if fun T F hT hF=>?_;simp[go_sem, hg2];refine hT ?_;clear hT hF T F)
    (refine awp_r fun Y Yh=>?_;simp[go_sem];((repeat' (first|(refine ag_x ?_;simp[go_sem])|intro _|apply And.intro|(apply Yh;clear Yh Y)));all_goals first|apply Hold.mk|omega|assumption|skip))
    refine hK9 _ ?_; clear hK9
    (refine awp_sr fun Y Yh=>?_;simp[go_sem];((repeat' (first|(refine ag_x ?_;simp[go_sem])|intro _|apply And.intro|(apply Yh;clear Yh Y)));all_goals first|apply Hold.mk|omega|assumption|skip))
    (refine agc_f (dB mb) (.inl ⟨rfl,rfl⟩) ?_ rfl ?_;(intro hc args ha;simp[go_sem] at ha;subst ha;exact M);simp[go_sem];((repeat' (first|(refine ag_x ?_;simp[go_sem])|intro _|apply And.intro|(apply Yh;clear Yh Y)));all_goals first|apply Hold.mk|omega|assumption|skip))
    cases mb with
    | false =>
     have hF := hBb1 rfl
     (refine awp_if fun T F hT hF=>?_;simp[go_sem];refine hT ?_;clear hT hF T F)
     (refine awp_sr fun Y Yh=>?_;simp[go_sem];((repeat' (first|(refine ag_x ?_;simp[go_sem])|intro _|apply And.intro|(apply Yh;clear Yh Y)));all_goals first|apply Hold.mk|omega|assumption|skip))
     (refine awp_ret ?_;simp[go_sem, hF])
    | true =>
     (refine awp_if fun T F hT hF=>?_;simp[go_sem];refine hF ?_;clear hT hF T F)
     refine awp_skip ?_
     refine hK8 _ ?_; clear hK8
     (refine awp_r fun Y Yh=>?_;simp[go_sem];((repeat' (first|(refine ag_x ?_;simp[go_sem])|intro _|apply And.intro|(apply Yh;clear Yh Y)));all_goals first|apply Hold.mk|omega|assumption|skip))
     refine ⟨i + 1, ?_, ⟨by omega, by rw [hB1, hf]; simp⟩, by omega⟩
     (refine cov_of ?_ ?_ <;> simp[go_sem])
   ·have hgb : (n.1 == gem) = false := by simp [hg2]
    cases hq : slook l n.1 with
    | none =>
     have ho : oneN l gem num n = none := by unfold oneN; rw [if_neg hg2]; exact hq
     rw [ho] at hB1 hBb1
     simp only at hB1 hBb1
     ((refine awp_dr (.qs [0, 1, 2, 4, 3, 5, 6, 7, 8, 9, 10, 11] (.nil)) (by kernel_rfl) ?_ ?_ ?_ ?_);kernel_rfl;exact (by decide +kernel);kernel_rfl;intro Y Yh;((repeat' (first|(refine ag_x ?_;simp[go_sem, hq])|refine adr_nil ?_|((first|refine adr_qs fun Y Yh=>?_|refine adr_y fun Y Yh=>?_);simp[go_sem, hq])|intro _|apply And.intro|(apply Yh;clear Yh Y)));all_goals first|apply Hold.mk|omega|assumption|skip))
     refine awp_seq_k fun K9 hK9 => ?_
     (refine awp_sr fun Y Yh=>?_;simp[go_sem];((repeat' (first|(refine ag_x ?_;simp[go_sem])|intro _|apply And.intro|(apply Yh;clear Yh Y)));all_goals first|apply Hold.mk|omega|assumption|skip))
     (refine awp_if fun T F hT hF=>?_;simp[go_sem, hgb];refine hF ?_;clear hT hF T F)
     refine awp_skip ?_
     refine hK9 _ ?_; clear hK9
     (refine awp_sr fun Y Yh=>?_;simp[go_sem];((repeat' (first|(refine ag_false ?_ ?_ ?_;(focus (simp[go_sem, undef];done));(focus (simp[go_sem];done));simp[go_sem])|(refine ag_true ?_ ?_;(focus (simp[go_sem, undef];done));simp[go_sem])|(refine ag_x ?_;simp[go_sem, undef])|intro _|apply And.intro|(apply Yh;clear Yh Y)));all_goals first|apply Hold.mk|omega|assumption|skip))
     (refine awp_if fun T F hT hF=>?_;simp[go_sem];refine hF ?_;clear hT hF T F)
     refine awp_skip ?_
     refine hK8 _ ?_; clear hK8
     (refine awp_r fun Y Yh=>?_;simp[go_sem];((repeat' (first|(refine ag_x ?_;simp[go_sem])|intro _|apply And.intro|(apply Yh;clear Yh Y)));all_goals first|apply Hold.mk|omega|assumption|skip))
     refine ⟨i + 1, ?_, ⟨by omega, by rw [hB1, hf]; simp⟩, by omega⟩
     (refine cov_of ?_ ?_ <;> simp[go_sem])
    | some o =>
     have M := smeets_spec o n.2 (hl _ (slook_some_mem hq)).2 hn2
     have ho : oneN l gem num n = some o := by unfold oneN; rw [if_neg hg2]; exact hq
     rw [ho] at hB1 hBb1
     simp only at hB1 hBb1
     generalize meetsP o n.2 = mb at *
     ((refine awp_dr (.qs [0, 1, 2, 4, 3, 5, 6, 7, 8, 9, 10, 11] (.nil)) (by kernel_rfl) ?_ ?_ ?_ ?_);kernel_rfl;exact (by decide +kernel);kernel_rfl;intro Y Yh;((repeat' (first|(refine ag_x ?_;simp[go_sem, hq])|refine adr_nil ?_|((first|refine adr_qs fun Y Yh=>?_|refine adr_y fun Y Yh=>?_);simp[go_sem, hq])|intro _|apply And.intro|(apply Yh;clear Yh Y)));all_goals first|apply Hold.mk|omega|assumption|skip))
     refine awp_seq_k fun K9 hK9 => ?_
     (refine awp_sr fun Y Yh=>?_;simp[go_sem];((repeat' (first|(refine ag_x ?_;simp[go_sem])|intro _|apply And.intro|(apply Yh;clear Yh Y)));all_goals first|apply Hold.mk|omega|assumption|skip))
     (refine awp_if fun T F hT hF=>?_;simp[go_sem, hgb];refine hF ?_;clear hT hF T F)
     refine awp_skip ?_
     refine hK9 _ ?_; clear hK9
     (refine awp_sr fun Y Yh=>?_;simp[go_sem];((repeat' (first|(refine ag_x ?_;simp[go_sem])|intro _|apply And.intro|(apply Yh;clear Yh Y)));all_goals first|apply Hold.mk|omega|assumption|skip))
     (refine agc_f (dB mb) (.inl ⟨rfl,rfl⟩) ?_ rfl ?_;(intro hc args ha;simp[go_sem] at ha;subst ha;exact M);simp[go_sem];((repeat' (first|(refine ag_x ?_;simp[go_sem])|intro _|apply And.intro|(apply Yh;clear Yh Y)));all_goals first|apply Hold.mk|omega|assumption|skip))
     cases mb with
     | false =>
      have hF := hBb1 rfl
      (refine awp_if fun T F hT hF=>?_;simp[go_sem];refine hT ?_;clear hT hF T F)
      (refine awp_sr fun Y Yh=>?_;simp[go_sem];((repeat' (first|(refine ag_x ?_;simp[go_sem])|intro _|apply And.intro|(apply Yh;clear Yh Y)));all_goals first|apply Hold.mk|omega|assumption|skip))
      (refine awp_ret ?_;simp[go_sem, hF])
     | true =>
      (refine awp_if fun T F hT hF=>?_;simp[go_sem];refine hF ?_;clear hT hF T F)
      refine awp_skip ?_
      refine hK8 _ ?_; clear hK8
      (refine awp_r fun Y Yh=>?_;simp[go_sem];((repeat' (first|(refine ag_x ?_;simp[go_sem])|intro _|apply And.intro|(apply Yh;clear Yh Y)));all_goals first|apply Hold.mk|omega|assumption|skip))
      refine ⟨i + 1, ?_, ⟨by omega, by rw [hB1, hf]; simp⟩, by omega⟩
      (refine cov_of ?_ ?_ <;> simp[go_sem])
  ·refine awp_exit ?_
   simp only [go_sem]
   refine hK5 _ ?_; clear hK5
   have : i = W.length := by omega
   subst this
   rw [hBe] at hf
   subst hf
   (refine awp_sr fun Y Yh=>?_;simp[go_sem];((repeat' (first|(refine ag_x ?_;simp[go_sem])|intro _|apply And.intro|(apply Yh;clear Yh Y)));all_goals first|apply Hold.mk|omega|assumption|skip))
   (refine awp_ret ?_;simp[go_sem])
def ltF {α : Type} (c : α → α → Int) (x y : α) : Bool := decide (c x y < 0)
set_option maxHeartbeats 8000000 in
theorem vs_ins {A X B m : List Vrs} {pa pb : Int} (f g : Nat) (c : Vrs → Vrs → Int) (w : Weakly (ltF c)) (hc : ∀ x ∈ X, ∀ y ∈ X, PCall Tryz.prog f [dVr x, dVr y] fun r => r = dI (c x y))
  (hm : m = A ++ (X ++ B)) (ha : pa = A.length) (hb : pb = A.length + X.length) (hl : m.length ≤ 4611686018427387904) :
  ACall Tryz.prog 222 [.own 900010 g, dI pa, dI pb, dFn f] [(900010, (g, .row 116 2 (m.map cVr)))] [900010] fun ps r => ps = [(g, .row 116 2 ((A ++ (sortL (ltF c) X ++ B)).map cVr))] ∧ r = .tup [] := by  
 refine acall_of Tryz.func222 rfl rfl Tryz.ntmps222 (rs := []) (tys := []) rfl rfl (by simp) ?_ ?_
 ·intro p hp
  simp only [List.mem_cons, List.mem_nil_iff, or_false] at hp
  subst hp; simp [notFroz]
 subst ha hb
 have hml : m.length = A.length + (X.length + B.length) := by rw [hm]; simp
 (refine awp_sr fun Y Yh=>?_;simp[go_sem];((repeat' (first|(refine ag_x ?_;simp[go_sem])|intro _|apply And.intro|(apply Yh;clear Yh Y)));all_goals first|apply Hold.mk|omega|assumption|skip))
 refine awp_block ?_
 refine awp_loop (σ := Nat × List Vrs) (fun x => ⟨[(0, .own 900010 g), (1, dI A.length), (2, dI (A.length + X.length)), (3, dFn f), (8, dI (A.length + x.1))], [(900010, (g, .row 116 2 (x.2.map cVr)))]⟩)
  (fun x => 1 ≤ x.1 ∧ (x.1 ≤ X.length ∨ x.1 = 1) ∧ x.2 = A ++ (sortL (ltF c) (X.take x.1) ++ (X.drop x.1 ++ B))) (fun x => X.length + 1 - x.1) (1, m) ?_ ?_ ?_
 ·(refine cov_of ?_ ?_ <;> simp[go_sem])
 ·refine ⟨by omega, by omega, ?_⟩
  rw [hm]
  cases X with
  | nil => simp [sortL]
  | cons x r => simp [sortL, merge_nil_r]
 rintro ⟨p, k⟩ ⟨hp, hp2, hk⟩
 simp only at hp hp2 hk
 refine awp_seq_k fun K1 hK1 => ?_
 (refine awp_sr fun Y Yh=>?_;simp[go_sem];((repeat' (first|(refine ag_x ?_;simp[go_sem])|intro _|apply And.intro|(apply Yh;clear Yh Y)));all_goals first|apply Hold.mk|omega|assumption|skip))
 (refine awp_if fun T F hT hF=>?_;simp[go_sem];refine BR.intro (fun h2=>hT ?_) (fun h2=>hF ?_);all_goals clear hT hF T F;try simp at h2) 
 ·refine awp_skip ?_
  refine hK1 _ ?_; clear hK1
  have hpl : p < X.length := by omega
  obtain ⟨x, hx⟩ : ∃ x, X[p]? = some x := ⟨_, List.getElem?_eq_getElem hpl⟩
  have hxm := List.mem_of_getElem? hx
  have htk : X.take (p + 1) = X.take p ++ [x] := by rw [List.take_add_one, hx]; rfl
  have hdr : X.drop p = x :: X.drop (p + 1) := by
   rw [List.drop_eq_getElem_cons hpl]
   congr 1
   rw [List.getElem?_eq_getElem hpl] at hx
   exact Option.some.inj hx
  have hSl : (sortL (ltF c) (X.take p)).length = p := by rw [sort_len]; simp; omega
  have hSm : ∀ y ∈ sortL (ltF c) (X.take p), y ∈ X := fun y hy => List.mem_of_mem_take (sort_mem.1 hy)
  have hSs := sort_srt w (X.take p)
  have hsn := sort_snoc w (X.take p) x
  rw [← htk] at hsn
  rw [hdr] at hk
  generalize sortL (ltF c) (X.take p) = S at *
  have hnext : ∀ R : List Vrs, A ++ (sortL (ltF c) (X.take (p + 1)) ++ R) = A ++ (mergeL (ltF c) S [x] ++ R) := fun R => by rw [hsn]
  generalize hR : X.drop (p + 1) ++ B = R at *
  have hkl : A.length + (p + (R.length + 1)) = m.length := by
   have : R.length = X.length - (p + 1) + B.length := by rw [← hR]; simp
   omega
  refine awp_seq_k fun K3 hK3 => ?_
  have fin : ∀ (S' : St) (S1 S2 k' : List Vrs), S1 ++ S2 = S → (∀ y ∈ S1, ltF c x y = false) → (∀ y ∈ S2, ltF c x y = true) → k' = A ++ (S1 ++ x :: (S2 ++ R)) →
    Cov S' ⟨[(0, .own 900010 g), (1, dI A.length), (2, dI (A.length + X.length)), (3, dFn f), (8, dI (A.length + p))], [(900010, (g, .row 116 2 (k'.map cVr)))]⟩ → K3 S' := fun S' S1 S2 k' e1 e2 e3 e4 hS => by
   refine hK3 _ ?_
   refine awp_cov hS ?_; clear hS
   (refine awp_r fun Y Yh=>?_;simp[go_sem];((repeat' (first|(refine ag_x ?_;simp[go_sem])|intro _|apply And.intro|(apply Yh;clear Yh Y)));all_goals first|apply Hold.mk|omega|assumption|skip))
   refine ⟨(p + 1, k'), ?_, ⟨by simp only; omega, by simp only; omega, ?_⟩, by simp only; omega⟩
   ·(refine cov_of ?_ ?_ <;> simp[go_sem])
    omega
   ·simp only
    rw [hR, hnext, ← e1, merge_one_split w e2 e3, e4]; simp
  clear hK3
  refine awp_block ?_
  (refine awp_sr fun Y Yh=>?_;simp[go_sem];((repeat' (first|(refine ag_x ?_;simp[go_sem])|intro _|apply And.intro|(apply Yh;clear Yh Y)));all_goals first|apply Hold.mk|omega|assumption|skip))
  refine awp_block ?_
  refine awp_loop (σ := List Vrs × List Vrs × List Vrs) (fun y => ⟨[(0, .own 900010 g), (1, dI A.length), (2, dI (A.length + X.length)), (3, dFn f), (8, dI (A.length + p)), (9, dI (A.length + y.1.length))], [(900010, (g, .row 116 2 (y.2.2.map cVr)))]⟩)
   (fun y => y.1 ++ y.2.1 = S ∧ (∀ z ∈ y.2.1, ltF c x z = true) ∧ y.2.2 = A ++ (y.1 ++ x :: (y.2.1 ++ R))) (fun y => y.1.length) (S, [], k) ?_ ?_ ?_
  ·(refine cov_of ?_ ?_ <;> simp[go_sem])
   omega
  ·exact ⟨by simp, by simp, by rw [hk]; simp [← hR]⟩
  rintro ⟨S1, S2, k'⟩ ⟨e1, e3, e4⟩
  simp only at e1 e3 e4
  have hsl : S1.length + S2.length = p := by rw [← hSl, ← e1]; simp
  have hkl' : k'.length = m.length := by rw [e4]; simp; omega
  refine awp_seq_k fun K4 hK4 => ?_
  rcases List.eq_nil_or_concat S1 with h0 | ⟨S1', y, h0⟩
  ·subst h0
   have hz : ¬ ((A.length : Int) + (([] : List Vrs).length : Int) > A.length) := by simp
   ((refine awp_dr (.qs [0, 1, 2, 3] (.sk 4 (.sk 5 (.sk 6 (.sk 7 (.sk 9 (.sk 10 (.sk 11 (.sk 12 (.sk 8 (.sk 13 (.sk 14 (.sk 15 (.qs [16] (.nil))))))))))))))) (by kernel_rfl) ?_ ?_ ?_ ?_);kernel_rfl;exact (by decide +kernel);kernel_rfl;intro Y Yh;((repeat' (first|(refine ag_x ?_;simp[go_sem])|refine adr_nil ?_|((first|refine adr_qs fun Y Yh=>?_|refine adr_y fun Y Yh=>?_);simp[go_sem])|intro _|apply And.intro|(apply Yh;clear Yh Y)));all_goals first|apply Hold.mk|omega|assumption|skip))
   (refine awp_if fun T F hT hF=>?_;simp[go_sem];refine hF ?_;clear hT hF T F)
   refine awp_exit ?_
   simp only [go_sem]
   refine fin _ [] S2 k' e1 (by simp) e3 e4 ?_
   (refine cov_of ?_ ?_ <;> simp[go_sem])
  ·rw [List.concat_eq_append] at h0
   subst h0
   have hym : y ∈ X := hSm y (by rw [← e1]; simp)
   have C := hc x hxm y hym
   have el : (S1' ++ [y]).length = S1'.length + 1 := by simp
   have hsl' : S1'.length + 1 + S2.length = p := by rw [← hsl]; simp
   have ek : k' = (A ++ S1') ++ y :: ([] ++ x :: (S2 ++ R)) := by rw [e4]; simp
   have t1 := two_at (P := A ++ S1') (Q := []) (R := S2 ++ R) (x := y) (y := x) (p := A.length + S1'.length) (q := A.length + (S1'.length + 1)) (by simp) (by simp; omega)
   have t2 := two_setR (P := A ++ S1') (Q := []) (R := S2 ++ R) (x := y) (y := x) (p := A.length + S1'.length) (q := A.length + (S1'.length + 1)) (by simp) (by simp; omega)
   rw [← ek] at t1 t2
   obtain ⟨ty, tx⟩ := t1
   have i1 : ((A.length : Int) + ((S1'.length : Int) + 1)).toNat = A.length + (S1'.length + 1) := by omega
   have i2 : ((A.length : Int) + ((S1'.length : Int) + 1) - 1).toNat = A.length + S1'.length := by omega
   have tx2 : ((k'.map cVr).set (A.length + (S1'.length + 1)) (cVr y))[A.length + S1'.length]? = some (cVr y) := by rw [List.getElem?_set_ne (by omega)]; simp [ty]
   have hpos : (A.length : Int) < (A.length : Int) + ((S1'.length : Int) + 1) := by omega
   ((refine awp_dr (.qs [0, 1, 2, 3, 4, 5, 6, 7, 9, 10, 11, 12, 8, 13] (.one 14 (.qs [15, 16] (.nil)))) (by kernel_rfl) ?_ ?_ ?_ ?_);kernel_rfl;exact (by decide +kernel);kernel_rfl;intro Y Yh;((repeat' (first|(refine ag_x ?_;simp[go_sem, i1, i2, tx, ty, hpos])|refine adr_nil ?_|((first|refine adr_qs fun Y Yh=>?_|refine adr_y fun Y Yh=>?_);simp[go_sem, i1, i2, tx, ty, hpos])|intro _|apply And.intro|(apply Yh;clear Yh Y)));all_goals first|apply Hold.mk|omega|assumption|skip))
   (refine agc_f (dI (c x y)) (.inl ⟨rfl,rfl⟩) ?_ rfl ?_;(intro hc args ha;simp[go_sem] at ha;subst ha;exact C);simp[go_sem];((repeat' (first|(refine ag_x ?_;simp[go_sem])|refine adr_nil ?_|((first|refine adr_qs fun Y Yh=>?_|refine adr_y fun Y Yh=>?_);simp[go_sem])|intro _|apply And.intro|(apply Yh;clear Yh Y)));all_goals first|apply Hold.mk|omega|assumption|skip))
   (refine awp_if fun T F hT hF=>?_;simp[go_sem];refine BR.intro (fun h5=>hT ?_) (fun h5=>hF ?_);all_goals clear hT hF T F;try simp at h5)
   ·refine awp_skip ?_
    refine hK4 _ ?_; clear hK4
    have hlt : ltF c x y = true := by unfold ltF; simpa using h5
    refine awp_seq_k fun K6 hK6 => ?_
    refine awp_block ?_
    ((refine awp_d (.qs [0, 1, 2, 3, 4, 5, 6, 7, 8, 10, 11, 12, 9, 13, 14] (.one 15 (.qs [16] (.one 17 (.nil))))) (by kernel_rfl) ?_ ?_ ?_ ?_);kernel_rfl;exact (by decide +kernel);kernel_rfl;intro Y Yh;((repeat' (first|(refine ag_x ?_;simp[go_sem, i1, i2, tx, ty, tx2])|refine adr_nil ?_|((first|refine adr_qs fun Y Yh=>?_|refine adr_y fun Y Yh=>?_);simp[go_sem, i1, i2, tx, ty, tx2])|intro _|apply And.intro|(apply Yh;clear Yh Y)));all_goals first|apply Hold.mk|omega|assumption|skip))
    refine hK6 _ ?_; clear hK6
    (refine awp_r fun Y Yh=>?_;simp[go_sem];((repeat' (first|(refine ag_x ?_;simp[go_sem])|intro _|apply And.intro|(apply Yh;clear Yh Y)));all_goals first|apply Hold.mk|omega|assumption|skip))
    refine ⟨(S1', y :: S2, (k'.set (A.length + (S1'.length + 1)) y).set (A.length + S1'.length) x), ?_, ⟨by rw [← e1]; simp, ?_, ?_⟩, by simp only; simp⟩
    ·(refine cov_of ?_ ?_ <;> simp[go_sem, List.map_set])
     omega
    ·intro z hz
     rcases List.mem_cons.1 hz with rfl | hz
     ·exact hlt
     ·exact e3 z hz
    ·rw [t2]; simp
   ·have hge : ltF c x y = false := by unfold ltF; simpa using h5
    refine awp_exit ?_
    simp only [go_sem]
    have hs1 : Srt (ltF c) ((S1' ++ [y]) ++ S2) := by rw [e1]; exact hSs
    refine fin _ (S1' ++ [y]) S2 k' e1 (srt_before w (srt_app hs1).1 hge) e3 e4 ?_
    (refine cov_of ?_ ?_ <;> simp[go_sem])
 ·refine awp_exit ?_
  simp only [go_sem]
  have e1 : sortL (ltF c) (X.take p) = sortL (ltF c) X := by rw [List.take_of_length_le (by omega)]
  have e2 : X.drop p = [] := List.drop_of_length_le (by omega)
  rw [hk, e1, e2]
  simp [go_sem]
theorem vs_pdq {X : List Vrs} {k : Int} (f g : Nat) (c : Vrs → Vrs → Int) (w : Weakly (ltF c)) (hc : ∀ x ∈ X, ∀ y ∈ X, PCall Tryz.prog f [dVr x, dVr y] fun r => r = dI (c x y)) (hl : X.length ≤ 12) :
  ACall Tryz.prog 189 [.own 900010 g, dI 0, dI X.length, dI k, dFn f] [(900010, (g, .row 116 2 (X.map cVr)))] [900010] fun ps r => ps = [(g, .row 116 2 ((sortL (ltF c) X).map cVr))] ∧ r = .tup [] := by
 refine acall_of Tryz.func189 rfl rfl Tryz.ntmps189 (rs := []) (tys := []) rfl rfl (by simp) ?_ ?_
 ·intro p hp
  simp only [List.mem_cons, List.mem_nil_iff, or_false] at hp
  subst hp; simp [notFroz]
 have I := @vs_ins [] X [] X 0 X.length f g c w hc (by simp) (by simp) (by simp) (by omega)
 simp only [List.nil_append, List.append_nil] at I
 (refine awp_sr fun Y Yh=>?_;simp[go_sem];((repeat' (first|(refine ag_x ?_;simp[go_sem])|intro _|apply And.intro|(apply Yh;clear Yh Y)));all_goals first|apply Hold.mk|omega|assumption|skip))
 (refine awp_sr fun Y Yh=>?_;simp[go_sem];((repeat' (first|(refine ag_x ?_;simp[go_sem])|intro _|apply And.intro|(apply Yh;clear Yh Y)));all_goals first|apply Hold.mk|omega|assumption|skip))
 refine awp_block ?_
 refine awp_loop (σ := Unit) (fun _ => ⟨[(0, .own 900010 g), (1, dI 0), (2, dI X.length), (3, dI k), (4, dFn f), (10, dB true), (11, dB true)], [(900010, (g, .row 116 2 (X.map cVr)))]⟩) (fun _ => True) (fun _ => 0) () ?_ ?_ ?_
 ·(refine cov_of ?_ ?_ <;> simp[go_sem])
 ·trivial
 rintro _ -
 refine awp_block ?_
 (refine awp_sr fun Y Yh=>?_;simp[go_sem];((repeat' (first|(refine ag_x ?_;simp[go_sem])|intro _|apply And.intro|(apply Yh;clear Yh Y)));all_goals first|apply Hold.mk|omega|assumption|skip))
 refine awp_seq_k fun K2 hK2 => ?_
 (refine awp_sr fun Y Yh=>?_;simp[go_sem];((repeat' (first|(refine ag_x ?_;simp[go_sem])|intro _|apply And.intro|(apply Yh;clear Yh Y)));all_goals first|apply Hold.mk|omega|assumption|skip))
 (refine awp_if fun T F hT hF=>?_;simp[go_sem];refine BR.intro (fun h3=>hT ?_) (fun h3=>hF ?_);all_goals clear hT hF T F;try simp at h3)
 ·(refine awp_sr fun Y Yh=>?_;simp[go_sem];((repeat' (first|(refine ag_x ?_;simp[go_sem])|intro _|apply And.intro|(apply Yh;clear Yh Y)));all_goals first|apply Hold.mk|omega|assumption|skip))
  (refine callA_l [900010] (.inl ⟨rfl,rfl⟩) (by simp[go_sem]) ?_;intro args ha;simp[go_sem] at ha;subst ha;refine ⟨_, _, I, (by simp[go_sem]), ?_⟩;rintro ps r hps ⟨rfl, rfl⟩;simp[go_sem];((repeat' (first|(refine ag_x ?_;simp[go_sem])|intro _|apply And.intro|(apply Yh;clear Yh Y)));all_goals first|apply Hold.mk|omega|assumption|skip))
  (refine awp_ret ?_;simp[go_sem])
 ·exact absurd h3 (by omega)
theorem vs_sort {X : List Vrs} (f g : Nat) (c : Vrs → Vrs → Int) (w : Weakly (ltF c)) (hc : ∀ x ∈ X, ∀ y ∈ X, PCall Tryz.prog f [dVr x, dVr y] fun r => r = dI (c x y)) (hl : X.length ≤ 12) :
  ACall Tryz.prog 148 [.own 900010 g, dFn f] [(900010, (g, .row 116 2 (X.map cVr)))] [900010] fun ps r => ps = [(g, .row 116 2 ((sortL (ltF c) X).map cVr))] ∧ r = .tup [] := by
 refine acall_of Tryz.func148 rfl rfl Tryz.ntmps148 (rs := []) (tys := []) rfl rfl (by simp) ?_ ?_
 ·intro p hp
  simp only [List.mem_cons, List.mem_nil_iff, or_false] at hp
  subst hp; simp [notFroz]
 have L := bitsLen_spec X.length (by omega)
 have hw : IntKind.u64.wrap (X.length : Int) = X.length := by rw [IntKind.wrap_u64]; omega
 (refine awp_sr fun Y Yh=>?_;simp[go_sem];((repeat' (first|(refine ag_x ?_;simp[go_sem])|intro _|apply And.intro|(apply Yh;clear Yh Y)));all_goals first|apply Hold.mk|omega|assumption|skip))
 (refine awp_r fun Y Yh=>?_;simp[go_sem, hw];((repeat' (first|(refine ag_x ?_;simp[go_sem, hw])|intro _|apply And.intro|(apply Yh;clear Yh Y)));all_goals first|apply Hold.mk|omega|assumption|skip))
 ((try refine CallT.toA ?_);refine callT_m (.inl ⟨rfl,rfl⟩) (by simp[go_sem]) ?_;intro args ha;simp[go_sem] at ha;subst ha;refine ⟨_, L, ?_⟩;rintro _ ⟨k, rfl⟩;simp[go_sem];((repeat' (first|(refine ag_x ?_;simp[go_sem])|intro _|apply And.intro|(apply Yh;clear Yh Y)));all_goals first|apply Hold.mk|omega|assumption|skip))
 (refine callA_l [900010] (.inl ⟨rfl,rfl⟩) (by simp[go_sem]) ?_;intro args ha;simp[go_sem] at ha;subst ha;refine ⟨_, _, (vs_pdq (k := k) f g c w hc hl), (by simp[go_sem]), ?_⟩;rintro ps r hps ⟨rfl, rfl⟩;simp[go_sem];((repeat' (first|(refine ag_x ?_;simp[go_sem])|intro _|apply And.intro|(apply Yh;clear Yh Y)));all_goals first|apply Hold.mk|omega|assumption|skip))
 simp [go_sem]
theorem solve1_spec (x y : Vrs) (hx : (readV x.1).isSome = true) (hy : (readV y.1).isSome = true) : PCall Tryz.prog 149 [dVr x, dVr y] fun r => r = dI (cD x y) := by 
 refine pcall_of Tryz.func149 rfl rfl Tryz.ntmps149 (rs := [.tmp 4]) (tys := [3]) rfl rfl (by simp) ?_
 have C := Compare_spec y.1 x.1 (by have := readV_len hy; omega) (by have := readV_len hx; omega)
 rw [cmpP_cV hy hx] at C
 unfold cD
 generalize cV y.1 x.1 = c at *
 generalize codeP ((readV y.1).isSome && (readV x.1).isSome) = e at *
 (refine awp_sr fun Y Yh=>?_;simp[go_sem];((repeat' (first|intro _|apply And.intro|(apply Yh;clear Yh Y)));all_goals first|apply Hold.mk|omega|assumption|skip))
 (refine awp_sr fun Y Yh=>?_;simp[go_sem];((repeat' (first|intro _|apply And.intro|(apply Yh;clear Yh Y)));all_goals first|apply Hold.mk|omega|assumption|skip))
 ((try refine CallT.toA ?_);refine callT_m (.inl ⟨rfl,rfl⟩) (by simp[go_sem]) ?_;intro args ha;simp[go_sem] at ha;subst ha;refine ⟨_, C, ?_⟩;rintro _ rfl;simp[go_sem];((repeat' (first|intro _|apply And.intro|(apply Yh;clear Yh Y)));all_goals first|apply Hold.mk|omega|assumption|skip))
 (refine awp_sr fun Y Yh=>?_;simp[go_sem];((repeat' (first|intro _|apply And.intro|(apply Yh;clear Yh Y)));all_goals first|apply Hold.mk|omega|assumption|skip))
 (refine awp_ret ?_;simp[go_sem])
theorem vclone_spec (l : List Vrs) (hl : l.length ≤ 1000000) : ACall Tryz.prog 144 [dVrs l] [] [900010] fun ps r => ∃ g, ps = [(g, .row 116 2 (l.map cVr))] ∧ r = .own 900010 g := by 
 refine acall_of Tryz.func144 rfl rfl Tryz.ntmps144 (rs := [.tmp 2]) (tys := [117]) rfl rfl (by simp) (by simp) ?_
 cases l with
 | nil =>
  (refine awp_sr fun Y Yh=>?_;simp[go_sem];((repeat' (first|intro _|apply And.intro|(apply Yh;clear Yh Y)));all_goals first|apply Hold.mk|omega|assumption|skip))
  refine awp_seq_k fun K1 hK1 => ?_
  (refine awp_sr fun Y Yh=>?_;simp[go_sem];((repeat' (first|intro _|apply And.intro|(apply Yh;clear Yh Y)));all_goals first|apply Hold.mk|omega|assumption|skip))
  ·(refine awp_if fun T F hT hF=>?_;simp[go_sem];refine hF ?_;clear hT hF T F)
   refine awp_skip ?_
   refine hK1 _ ?_; clear hK1
   (refine awp_sr fun Y Yh=>?_;simp[go_sem];((repeat' (first|intro _|apply And.intro|(apply Yh;clear Yh Y)));all_goals first|apply Hold.mk|omega|assumption|skip))
   refine awp_renrow 2 900010 rfl rfl (by decide) fun g => ?_
   simp only [go_sem]
   refine awp_ret ?_
   simp [go_sem]
  ·(refine awp_if fun T F hT hF=>?_;simp[go_sem];refine hT ?_;clear hT hF T F)
   (refine awp_sr fun Y Yh=>?_;simp[go_sem];((repeat' (first|intro _|apply And.intro|(apply Yh;clear Yh Y)));all_goals first|apply Hold.mk|omega|assumption|skip))
   refine awp_nilslot 2 900010 116 2 rfl fun g => ?_
   simp only [go_sem]
   refine awp_ret ?_
   simp [go_sem]
 | cons x r =>
  simp only [List.length_cons] at hl
  (refine awp_sr fun Y Yh=>?_;simp[go_sem];((repeat' (first|intro _|apply And.intro|(apply Yh;clear Yh Y)));all_goals first|apply Hold.mk|omega|assumption|skip))
  refine awp_seq_k fun K1 hK1 => ?_
  (refine awp_sr fun Y Yh=>?_;simp[go_sem];((repeat' (first|intro _|apply And.intro|(apply Yh;clear Yh Y)));all_goals first|apply Hold.mk|omega|assumption|skip))
  refine awp_if fun T F hT hF => ?_
  simp [go_sem]
  refine hF ?_
  refine awp_skip ?_
  refine hK1 _ ?_; clear hK1
  (refine awp_sr fun Y Yh=>?_;simp[go_sem];((repeat' (first|intro _|apply And.intro|(apply Yh;clear Yh Y)));all_goals first|apply Hold.mk|omega|assumption|skip))
  refine awp_renrow 2 900010 rfl rfl (by decide) fun g => ?_
  simp only [go_sem]
  refine awp_ret ?_
  simp [go_sem]
set_option maxHeartbeats 32000000 in
theorem solve_spec (s : Src) (w : List Prs) (bud : Nat) (hsu : suV s = true) (hw : SzN w) (hwn : ∀ n ∈ w, n.1 ≠ []) (hb : bud ≤ 100000) : ∀ (f : Nat) (l : List Prs) (t gb gm : Nat), muV s l < f → l.length + f ≤ 1000 → PickOk s l → t ≤ bud →
  ACall Tryz.prog 109 [.ptr 900002 gb 0] (hX gb gm s bud t false (allN s w l) l) [900002, 900003]
   fun ps r => ∃ N' l', (ps = [(gb, bXn s bud (restV s w bud f l t).2 (decide ((restV s w bud f l t).1.2 = 12)) N' gm), (gm, .map (mSn l'))] ∧ r = dB (decide ((restV s w bud f l t).1.2 = 0))) ∧
    ((restV s w bud f l t).1.2 = 3 → N' = allN s w l ∧ l' = l) ∧ ((restV s w bud f l t).1.2 = 0 → l' = (restV s w bud f l t).1.1)
 | 0, l, t, gb, gm, h, _, _, _ => absurd h (by omega)
 | f + 1, l, t, gb, gm, hmu, hlf, hpo, ht => by
  have hs := suV_sz hsu
  obtain ⟨h15, hsg⟩ := suV_parts hsu
  have hno := pickOk_num hsu hpo
  have hlz : ∀ x ∈ l, Sz1 x := fun x hx => by
   obtain ⟨g, hg, e1, v, hv, e2⟩ := hpo.1 x hx
   have := hs.2 g hg
   exact ⟨by rw [← e1]; exact this.1, by rw [← e2]; exact (this.2.2 v hv).1⟩
  have IH := fun l t gb gm => solve_spec s w bud hsu hw hwn hb f l t gb gm
  have TL := fun l t => restV_tlk s w bud f l t
  have ham := allN_mem (l := l) hs hw.2
  have hal := allN_len (w := w) hs l
  have hw0 := hw.1
  have hal2 : (allN s w l).length ≤ 1001000000 := by
   have e : l.length * 1000000 ≤ 1000 * 1000000 := Nat.mul_le_mul_right _ (by omega)
   omega
  have hRE : restV s w bud (f + 1) l t = (match (allN s w l).find? (freeN l) with
   | none => ((l, 0), t)
   | some n => tryL (restV s w bud f) bud n.1 l (candV s w l n.1) t) := rfl
  have hnn : ∀ n ∈ allN s w l, n.1 ≠ [] := fun n hn => by
   rcases allN_mem'.1 hn with q | ⟨p, hp, q⟩
   ·exact hwn n q
   ·obtain ⟨g, hg, e1, v, hv, e2⟩ := hpo.1 p hp
    rw [show p = (g.1, v.1) by rw [e1, e2], fndP_of hsu hg hv] at q
    exact (name_nm ((nuV_parts ((vuV_parts (hsg g hg).2).2 v hv).2).2 n q).1).1
  have hce := fun gem => @cand_eq s w l gem hsu
  have hsnoc := fun gem v => allN_snoc s w l (gem, v)
  generalize restV s w bud (f + 1) l t = R0 at *
  generalize hrec : restV s w bud f = rec at *
  generalize candV s w l = cand at *
  have NX := next_spec gb gm s bud t false (allN s w l) l (by omega)
  have hnf : nextV (allN s w l) l = (((allN s w l).find? (freeN l)).map (·.1)).getD [] := by unfold nextV; rw [next_free hno]
  rw [hnf] at NX
  refine acall_of Tryz.func109 rfl rfl Tryz.ntmps109 (rs := [.tmp 2]) (tys := [4]) rfl rfl (by simp) ?_ ?_
  ·exact hX_ok gb gm s bud t false (allN s w l) l
  (refine awp_sr fun Y Yh=>?_;simp[go_sem];((repeat' (first|intro _|apply And.intro|(apply Yh;clear Yh Y)));all_goals first|apply Hold.mk|omega|assumption|skip))
  (refine awp_sr fun Y Yh=>?_;simp[go_sem];((repeat' (first|intro _|apply And.intro|(apply Yh;clear Yh Y)));all_goals first|apply Hold.mk|omega|assumption|skip))
  (refine callA_l [900002, 900003] (.inl ⟨rfl,rfl⟩) (by simp[go_sem]) ?_;intro args ha;simp[go_sem] at ha;subst ha;refine ⟨_, _, NX, (by simp[go_sem]), ?_⟩;rintro ps r hps ⟨rfl, rfl⟩;simp[go_sem];((repeat' (first|intro _|apply And.intro|(apply Yh;clear Yh Y)));all_goals first|apply Hold.mk|omega|assumption|skip))
  refine awp_seq_k fun K1 hK1 => ?_
  (refine awp_sr fun Y Yh=>?_;simp[go_sem];((repeat' (first|intro _|apply And.intro|(apply Yh;clear Yh Y)));all_goals first|apply Hold.mk|omega|assumption|skip))
  cases hfr : (allN s w l).find? (freeN l) with
  | none =>
   rw [hfr] at hRE
   simp only at hRE
   (refine awp_if fun T F hT hF=>?_;simp[go_sem, hfr];refine hT ?_;clear hT hF T F)
   (refine awp_sr fun Y Yh=>?_;simp[go_sem];((repeat' (first|intro _|apply And.intro|(apply Yh;clear Yh Y)));all_goals first|apply Hold.mk|omega|assumption|skip))
   (refine awp_ret ?_;simp[go_sem, hRE])
   exact ⟨_, rfl⟩
  | some n =>
   rw [hfr] at hRE
   simp only at hRE
   have hnm := List.mem_of_find?_eq_some hfr
   have hnz := hnn n hnm
   have hp := List.find?_some hfr
   unfold freeN at hp
   simp only [decide_eq_true_eq] at hp
   have hln : slook l n.1 = none := (slook_none hno).2 hp
   have hmp := fun hg => @mu_pos s l n.1 hg hp
   have hml := fun v hv hg => @mu_lt s l n.1 v hno hv hg hp
   have hne : n.1.isEmpty = false := by cases hq : n.1 with
    | nil => exact absurd hq hnz
    | cons => rfl
   (refine awp_if fun T F hT hF=>?_;simp[go_sem, hfr, hnz, hne];refine hF ?_;clear hT hF T F)
   refine awp_skip ?_
   refine hK1 _ ?_; clear hK1
   have GS := gem_spec s n.1 hsu
   have hGv : ∀ v ∈ ((gemV s n.1).getD ([], [])).2, ∃ g ∈ s, g.1 = n.1 ∧ v ∈ g.2 := fun v hv => by
    cases hg : gemV s n.1 with
    | none => rw [hg] at hv; cases hv
    | some g => rw [hg] at hv; obtain ⟨a, b⟩ := gemV_mem hg; exact ⟨g, a, b, hv⟩
   have hGl : ((gemV s n.1).getD ([], [])).2.length ≤ 12 := by
    cases hg : gemV s n.1 with
    | none => simp
    | some g => exact (vuV_parts (hsg g (gemV_mem hg).1).2).1
   have hcd : cand n.1 = (srtD ((gemV s n.1).getD ([], [])).2).filter (fitV (allN s w l) l n.1) := by
    rw [hce]
    cases hg : gemV s n.1 with
    | none => rfl
    | some g => rfl
   rw [hcd] at hRE
   clear hcd hce
   generalize (gemV s n.1).isSome = gis at *
   generalize (gemV s n.1).getD ([], []) = G at *
   have hGr : ∀ v ∈ G.2, (readV v.1).isSome = true ∧ SzV v := fun v hv => by
    obtain ⟨g, a, b, c⟩ := hGv v hv
    exact ⟨((vuV_parts (hsg g a).2).2 v c).1, (hs.2 g a).2.2 v c⟩
   (refine awp_sr fun Y Yh=>?_;simp[go_sem];((repeat' (first|intro _|apply And.intro|(apply Yh;clear Yh Y)));all_goals first|apply Hold.mk|omega|assumption|skip))
   ((try refine CallT.toA ?_);refine callT_m (.inl ⟨rfl,rfl⟩) (by simp[go_sem]) ?_;intro args ha;simp[go_sem] at ha;subst ha;refine ⟨_, GS, ?_⟩;rintro _ rfl;simp[go_sem];((repeat' (first|intro _|apply And.intro|(apply Yh;clear Yh Y)));all_goals first|apply Hold.mk|omega|assumption|skip))
   rename_i gg
   (refine awp_sr fun Y Yh=>?_;simp[go_sem];((repeat' (first|intro _|apply And.intro|(apply Yh;clear Yh Y)));all_goals first|apply Hold.mk|omega|assumption|skip))
   (refine callA_l [900010] (.inl ⟨rfl,rfl⟩) (by simp[go_sem]) ?_;intro args ha;simp[go_sem] at ha;subst ha;refine ⟨_, _, (vclone_spec G.2 (by omega)), (by simp[go_sem]), ?_⟩;rintro ps r hps ⟨gr, rfl, rfl⟩;simp[go_sem];((repeat' (first|intro _|apply And.intro|(apply Yh;clear Yh Y)));all_goals first|apply Hold.mk|omega|assumption|skip))
   (refine awp_sr fun Y Yh=>?_;simp[go_sem];((repeat' (first|intro _|apply And.intro|(apply Yh;clear Yh Y)));all_goals first|apply Hold.mk|omega|assumption|skip))
   (refine callA_l [900010] (.inl ⟨rfl,rfl⟩) (by simp[go_sem]) ?_;intro args ha;simp[go_sem] at ha;subst ha;refine ⟨_, _, (vs_sort 149 gr cD wk_ltD (fun x hx y hy => solve1_spec x y (hGr x hx).1 (hGr y hy).1) hGl), (by simp[go_sem]), ?_⟩;rintro ps r hps ⟨rfl, rfl⟩;simp[go_sem];((repeat' (first|intro _|apply And.intro|(apply Yh;clear Yh Y)));all_goals first|apply Hold.mk|omega|assumption|skip))
   rw [show sortL (ltF cD) G.2 = srtD G.2 from rfl]
   have hcm : ∀ v ∈ srtD G.2, v ∈ G.2 := fun v hv => srtD_mem.1 hv
   have hcl := srtD_len G.2
   generalize srtD G.2 = c at *
   refine awp_frzrow 6 rfl rfl ?_
   simp only [go_sem]
   refine awp_seq_k fun K3 hK3 => ?_
   (refine awp_sr fun Y Yh=>?_;simp[go_sem];((repeat' (first|intro _|apply And.intro|(apply Yh;clear Yh Y)));all_goals first|apply Hold.mk|omega|assumption|skip))
   refine awp_block ?_
   refine awp_loop (σ := Nat × Nat) (fun x => ⟨[(0, .ptr 900002 gb 0), (3, dS n.1), (28, dVrs c), (29, dI c.length), (30, dI x.1)], hX gb gm s bud x.2 false (allN s w l) l⟩)
    (fun x => x.1 ≤ c.length ∧ x.2 ≤ bud ∧ R0 = tryL rec bud n.1 l ((c.drop x.1).filter (fitV (allN s w l) l n.1)) x.2) (fun x => c.length - x.1) (0, t) ?_ ?_ ?_
   ·(refine cov_of ?_ ?_ <;> simp[go_sem])
   ·exact ⟨by simp, ht, hRE⟩
   rintro ⟨i, t⟩ ⟨hi, ht, hR⟩
   simp only at hi ht hR
   (refine awp_sr fun Y Yh=>?_;simp[go_sem];((repeat' (first|intro _|apply And.intro|(apply Yh;clear Yh Y)));all_goals first|apply Hold.mk|omega|assumption|skip))
   refine awp_seq_k fun K4 hK4 => ?_
   (refine awp_if fun T F hT hF=>?_;simp[go_sem];refine BR.intro (fun h5=>hT ?_) (fun h5=>hF ?_);all_goals clear hT hF T F;try simp at h5)
   ·refine awp_skip ?_
    refine hK4 _ ?_; clear hK4
    obtain ⟨v, hv⟩ : ∃ v, c[i]? = some v := ⟨_, List.getElem?_eq_getElem (by omega)⟩
    have hvG := hcm v (List.mem_of_getElem? hv)
    obtain ⟨g, hgs, hgn, hvg⟩ := hGv v hvG
    obtain ⟨hvr, hvz⟩ := hGr v hvG
    have hv0 : v.1 ≠ [] := readV_ne hvr
    have hmu1 := hml v.1 hv0 ⟨g, hgs, hgn⟩
    have FT := fits_spec gb gm s bud t false (allN s w l) l n.1 v (.inr ⟨hal2, ham⟩) hlz hno hp hvz hv0
    refine awp_seq_k fun K6 hK6 => ?_
    have tl6 : ∀ S' (t' : Nat), t' ≤ bud → R0 = tryL rec bud n.1 l ((c.drop (i + 1)).filter (fitV (allN s w l) l n.1)) t' → Cov S' ⟨[(0, .ptr 900002 gb 0), (3, dS n.1), (28, dVrs c), (29, dI c.length), (30, dI i)], hX gb gm s bud t' false (allN s w l) l⟩ → K6 S' := fun S' t' h1 h2 hS => by
     refine hK6 _ ?_
     refine awp_cov hS ?_; clear hS
     (refine awp_r fun Y Yh=>?_;simp[go_sem];((repeat' (first|intro _|apply And.intro|(apply Yh;clear Yh Y)));all_goals first|apply Hold.mk|omega|assumption|skip))
     refine ⟨(i + 1, t'), ?_, ⟨by simp only; omega, h1, h2⟩, by simp only; omega⟩
     (refine cov_of ?_ ?_ <;> simp[go_sem])
    clear hK6
    refine awp_block ?_
    (refine awp_sr fun Y Yh=>?_;simp[go_sem, hv];((repeat' (first|intro _|apply And.intro|(apply Yh;clear Yh Y)));all_goals first|apply Hold.mk|omega|assumption|skip))
    refine awp_seq_k fun K7 hK7 => ?_
    cases hft : fitV (allN s w l) l n.1 v with
    | false =>
     rw [hft] at FT
     (refine awp_sr fun Y Yh=>?_;simp[go_sem];((repeat' (first|intro _|apply And.intro|(apply Yh;clear Yh Y)));all_goals first|apply Hold.mk|omega|assumption|skip))
     (refine callA_l [900002, 900003] (.inl ⟨rfl,rfl⟩) (by simp[go_sem]) ?_;intro args ha;simp[go_sem] at ha;subst ha;refine ⟨_, _, FT, (by simp[go_sem]), ?_⟩;rintro ps r hps ⟨rfl, rfl⟩;simp[go_sem];((repeat' (first|intro _|apply And.intro|(apply Yh;clear Yh Y)));all_goals first|apply Hold.mk|omega|assumption|skip))
     (refine awp_if fun T F hT hF=>?_;simp[go_sem];refine hT ?_;clear hT hF T F)
     refine awp_exit ?_
     simp only [go_sem]
     refine tl6 _ t ht ?_ ?_
     ·rw [← tryL_skip hv hft]; exact hR
     ·(refine cov_of ?_ ?_ <;> simp[go_sem])
    | true =>
     rw [hft] at FT
     rw [tryL_take hv hft] at hR
     (refine awp_sr fun Y Yh=>?_;simp[go_sem];((repeat' (first|intro _|apply And.intro|(apply Yh;clear Yh Y)));all_goals first|apply Hold.mk|omega|assumption|skip))
     (refine callA_l [900002, 900003] (.inl ⟨rfl,rfl⟩) (by simp[go_sem]) ?_;intro args ha;simp[go_sem] at ha;subst ha;refine ⟨_, _, FT, (by simp[go_sem]), ?_⟩;rintro ps r hps ⟨rfl, rfl⟩;simp[go_sem];((repeat' (first|intro _|apply And.intro|(apply Yh;clear Yh Y)));all_goals first|apply Hold.mk|omega|assumption|skip))
     (refine awp_if fun T F hT hF=>?_;simp[go_sem];refine hF ?_;clear hT hF T F)
     refine awp_skip ?_
     refine hK7 _ ?_; clear hK7
     refine awp_seq_k fun K9 hK9 => ?_
     (refine awp_sr fun Y Yh=>?_;simp[go_sem];((repeat' (first|intro _|apply And.intro|(apply Yh;clear Yh Y)));all_goals first|apply Hold.mk|omega|assumption|skip))
     ((refine awp_dr (.qs [0, 1, 2, 4, 5, 6, 3, 7, 8] (.nil)) (by kernel_rfl) ?_ ?_ ?_ ?_);kernel_rfl;exact (by decide +kernel);kernel_rfl;intro Y Yh;((repeat' (first|refine adr_nil ?_|((first|refine adr_qs fun Y Yh=>?_|refine adr_y fun Y Yh=>?_);simp[go_sem])|intro _|apply And.intro|(apply Yh;clear Yh Y)));all_goals first|apply Hold.mk|omega|assumption|skip))
     (refine awp_if fun T F hT hF=>?_;simp[go_sem];refine BR.intro (fun h10=>hT ?_) (fun h10=>hF ?_);all_goals clear hT hF T F;try simp at h10)
     ·rw [if_pos (by omega)] at hR
      (refine awp_sr fun Y Yh=>?_;simp[go_sem];((repeat' (first|intro _|apply And.intro|(apply Yh;clear Yh Y)));all_goals first|apply Hold.mk|omega|assumption|skip))
      (refine awp_sr fun Y Yh=>?_;simp[go_sem];((repeat' (first|intro _|apply And.intro|(apply Yh;clear Yh Y)));all_goals first|apply Hold.mk|omega|assumption|skip))
      (refine awp_ret ?_;simp[go_sem, hR])
      exact ⟨⟨_, rfl⟩, ⟨_, rfl⟩⟩
     ·rw [if_neg (by omega)] at hR
      refine awp_skip ?_
      refine hK9 _ ?_; clear hK9
      have e1 : allN s w (l ++ [(n.1, v.1)]) = allN s w l ++ v.2 := by rw [hsnoc, ← hgn, fndP_of hsu hgs hvg]
      have IH1 := IH (l ++ [(n.1, v.1)]) (t + 1) gb gm (by omega) (by simp; omega) (pickOk_snoc hsu hpo hp ⟨g, hgs, hgn, hvg⟩) (by omega)
      have T1 := TL (l ++ [(n.1, v.1)]) (t + 1) (by omega)
      have hput : sput n.1 v.1 l = l ++ [(n.1, v.1)] := sput_new hln
      have hdel : sdel n.1 (l ++ [(n.1, v.1)]) = l := sdel_new hln
      have hvl := hvz.2.1
      rw [show ((t + 1 : Nat) : Int) = (t : Int) + 1 by omega, e1] at IH1
      generalize rec (l ++ [(n.1, v.1)]) (t + 1) = q at *
      obtain ⟨⟨out, e⟩, t'⟩ := q
      simp only [Tlk] at T1 hR IH1
      simp only [hX, bXn, dPs, List.map_append] at IH1
      (refine awp_sr fun Y Yh=>?_;simp[go_sem];((repeat' (first|intro _|apply And.intro|(apply Yh;clear Yh Y)));all_goals first|apply Hold.mk|omega|assumption|skip))
      ((refine awp_dr (.qs [0, 1, 2, 4, 5, 3, 6] (.one 7 (.nil))) (by kernel_rfl) ?_ ?_ ?_ ?_);kernel_rfl;exact (by decide +kernel);kernel_rfl;intro Y Yh;((repeat' (first|refine adr_nil ?_|((first|refine adr_qs fun Y Yh=>?_|refine adr_y fun Y Yh=>?_);simp[go_sem, hput])|intro _|apply And.intro|(apply Yh;clear Yh Y)));all_goals first|apply Hold.mk|omega|assumption|skip))
      ((refine awp_dr (.qs [0, 1, 3, 4] (.kp 2 (.one 5 (.qs [6, 7] (.one 8 (.nil)))))) (by kernel_rfl) ?_ ?_ ?_ ?_);kernel_rfl;exact (by decide +kernel);kernel_rfl;intro Y Yh;((repeat' (first|refine adr_nil ?_|((first|refine adr_qs fun Y Yh=>?_|refine adr_y fun Y Yh=>?_);simp[go_sem, hput])|intro _|apply And.intro|(apply Yh;clear Yh Y)));all_goals first|apply Hold.mk|omega|assumption|skip))
      ((try refine CallT.toA ?_);refine callT_m (.inl ⟨rfl,rfl⟩) (by simp[go_sem]) ?_;intro args ha;simp[go_sem] at ha;subst ha;refine ⟨_, (clip_spec (allN s w l)), ?_⟩;rintro _ rfl;simp[go_sem];((repeat' (first|refine adr_nil ?_|((first|refine adr_qs fun Y Yh=>?_|refine adr_y fun Y Yh=>?_);simp[go_sem])|intro _|apply And.intro|(apply Yh;clear Yh Y)));all_goals first|apply Hold.mk|omega|assumption|skip))
      refine awp_seq_k fun K11 hK11 => ?_
      (refine awp_sr fun Y Yh=>?_;simp[go_sem];((repeat' (first|intro _|apply And.intro|(apply Yh;clear Yh Y)));all_goals first|apply Hold.mk|omega|assumption|skip))
      (refine callA_l [900002, 900003] (.inl ⟨rfl,rfl⟩) (by simp[go_sem]) ?_;intro args ha;simp[go_sem] at ha;subst ha;refine ⟨_, _, IH1, (by simp[go_sem]), ?_⟩;rintro ps r hps ⟨N', l', ⟨rfl, rfl⟩, h3, h0⟩;simp[go_sem];((repeat' (first|intro _|apply And.intro|(apply Yh;clear Yh Y)));all_goals first|apply Hold.mk|omega|assumption|skip))
      by_cases he0 : e = 0
      ·rw [if_pos (by simp [he0])] at hR
       have hl' := h0 he0
       subst hl'
       (refine awp_if fun T F hT hF=>?_;simp[go_sem, he0];refine hT ?_;clear hT hF T F)
       (refine awp_sr fun Y Yh=>?_;simp[go_sem];((repeat' (first|intro _|apply And.intro|(apply Yh;clear Yh Y)));all_goals first|apply Hold.mk|omega|assumption|skip))
       (refine awp_ret ?_;simp[go_sem, hR, he0])
       exact ⟨_, rfl⟩
      ·(refine awp_if fun T F hT hF=>?_;simp[go_sem, he0];refine hF ?_;clear hT hF T F)
       refine awp_skip ?_
       refine hK11 _ ?_; clear hK11
       refine awp_seq_k fun K13 hK13 => ?_
       (refine awp_sr fun Y Yh=>?_;simp[go_sem];((repeat' (first|intro _|apply And.intro|(apply Yh;clear Yh Y)));all_goals first|apply Hold.mk|omega|assumption|skip))
       by_cases he12 : e = 12
       ·rw [if_pos (by simp [he12])] at hR
        (refine awp_if fun T F hT hF=>?_;simp[go_sem, he12];refine hT ?_;clear hT hF T F)
        (refine awp_sr fun Y Yh=>?_;simp[go_sem];((repeat' (first|intro _|apply And.intro|(apply Yh;clear Yh Y)));all_goals first|apply Hold.mk|omega|assumption|skip))
        (refine awp_ret ?_;simp[go_sem, hR, he12])
        exact ⟨⟨_, rfl⟩, ⟨_, rfl⟩⟩
       ·have he3 : e = 3 := by omega
        rw [if_neg (by simp [he3])] at hR
        obtain ⟨hN', hl'⟩ := h3 he3
        subst hN' hl'
        (refine awp_if fun T F hT hF=>?_;simp[go_sem, he12];refine hF ?_;clear hT hF T F)
        refine awp_skip ?_
        refine hK13 _ ?_; clear hK13
        (refine awp_sr fun Y Yh=>?_;simp[go_sem];((repeat' (first|intro _|apply And.intro|(apply Yh;clear Yh Y)));all_goals first|apply Hold.mk|omega|assumption|skip))
        (refine awp_r fun Y Yh=>?_;simp[go_sem, hdel];((repeat' (first|intro _|apply And.intro|(apply Yh;clear Yh Y)));all_goals first|apply Hold.mk|omega|assumption|skip))
        refine tl6 _ t' (by omega) hR ?_
        (refine cov_of ?_ ?_ <;> simp[go_sem, he12])
   ·refine awp_exit ?_
    simp only [go_sem]
    refine hK3 _ ?_; clear hK3
    have : i = c.length := by omega
    subst this
    rw [List.drop_length] at hR
    have hR' : R0 = (([], 3), t) := hR
    (refine awp_sr fun Y Yh=>?_;simp[go_sem];((repeat' (first|intro _|apply And.intro|(apply Yh;clear Yh Y)));all_goals first|apply Hold.mk|omega|assumption|skip))
    (refine awp_ret ?_;simp[go_sem, hR'])
end Go.Proofs.YteekfnhhlcmcgaaGreatDoor
set_option linter.unusedSectionVars false
namespace Go.Eng
variable {P : Program} [HasGlob P] {n : Nat} {S : St} {Q : Exit → St → Prop}
theorem awp_renbm {c : Code} (s s' sb j : Nat) {g gb : Nat} {es : List (Value × D)} {cs : List D} (hx : look S.heap s = some (g, .map es)) (hb : look S.heap sb = some (gb, .box cs)) (hne : sb ≠ s) (hne' : s' ≠ sb) (hj : cs[j]? = some (.own s g)) (h9 : 900000 ≤ s → 900000 ≤ s')
  (h : ∀ g', AWp P n c (((S.drop s).hput s' g' (.map es)).hput sb gb (.box (cs.set j (.own s' g')))) Q) : AWp P n c S Q := by
 intro w0 B C0 C a w E I
 obtain ⟨g', C', u, I', hu, hv, ext⟩ := I.rename hx rfl s' h9
 refine h g' E (I'.boxSet (cs := cs) ?_ (by simp) fun i cc cc' v q1 q2 hr hone => ?_)
 ·rw [look_hput, if_neg hne']
  exact (look_erase_ne hne).trans hb
 ·rw [List.getElem?_set] at q2
  split at q2
  ·rename_i e1
   subst e1
   split at q2
   ·simp only [Option.some.injEq] at q2
    subst q2
    rw [hj] at q1
    simp only [Option.some.injEq] at q1
    subst q1
    cases hr with
    | own _ _ _ p1 p2 =>
     have := ext.val _ _ _ hu
     rw [p1] at this
     simp only [Option.some.injEq] at this
     subst this
     exact .own _ _ _ hv p2
   ·cases q2
  ·rw [q1] at q2
   simp only [Option.some.injEq] at q2
   subst q2
   exact hr
end Go.Eng
namespace Go.Proofs.YteekfnhhlcmcgaaGreatDoor
open Go.Eng Go.Wh Go.Ver Go.Lk
set_option maxRecDepth 20000
attribute [local irreducible] AG CallA CallT AWp PCall ACall AgC
set_option maxHeartbeats 8000000 in
theorem picks_spec (gb gm : Nat) (s : Src) (bud t : Int) (full : Bool) (N l : List Prs) (hs : s.length ≤ 1000000) :
  ACall Tryz.prog 54 [.ptr 900002 gb 0] (hX gb gm s bud t full N l) [900002, 900003] fun ps r => ps = [(gb, bXn s bud t full N gm), (gm, .map (mSn l))] ∧ r = dPs (pksV s l) := by 
 refine acall_of Tryz.func54 rfl rfl Tryz.ntmps54 (rs := [.tmp 2]) (tys := [34]) rfl rfl (by simp) ?_ ?_
 ·exact hX_ok gb gm s bud t full N l
 (refine awp_sr fun Y Yh=>?_;simp[go_sem];((repeat' (first|(refine ag_x ?_;simp[go_sem])|intro _|apply And.intro|(apply Yh;clear Yh Y)));all_goals first|apply Hold.mk|omega|assumption|skip))
 (refine awp_sr fun Y Yh=>?_;simp[go_sem];((repeat' (first|(refine ag_x ?_;simp[go_sem])|intro _|apply And.intro|(apply Yh;clear Yh Y)));all_goals first|apply Hold.mk|omega|assumption|skip))
 refine awp_nilslot 3 900011 41 2 rfl fun g3 => ?_
 simp only [go_sem]
 refine awp_seq_k fun K1 hK1 => ?_
 (refine awp_sr fun Y Yh=>?_;simp[go_sem];((repeat' (first|(refine ag_x ?_;simp[go_sem])|intro _|apply And.intro|(apply Yh;clear Yh Y)));all_goals first|apply Hold.mk|omega|assumption|skip))
 refine awp_block ?_
 refine awp_loop (σ := Nat × Nat) (fun x => ⟨[(0, .ptr 900002 gb 0), (3, .own 900011 x.2), (12, dGms s), (13, dI s.length), (14, dI x.1)], (900011, (x.2, .row 41 2 ((pksV (s.take x.1) l).map cP))) :: hX gb gm s bud t full N l⟩) (fun x => x.1 ≤ s.length) (fun x => s.length - x.1) (0, g3) ?_ ?_ ?_
 ·(refine cov_of ?_ ?_ <;> simp[go_sem, pksV])
 ·simp
 rintro ⟨i, g⟩ hi
 simp only at hi
 (refine awp_sr fun Y Yh=>?_;simp[go_sem];((repeat' (first|(refine ag_x ?_;simp[go_sem])|intro _|apply And.intro|(apply Yh;clear Yh Y)));all_goals first|apply Hold.mk|omega|assumption|skip))
 refine awp_seq_k fun K2 hK2 => ?_
 (refine awp_if fun T F hT hF=>?_;simp[go_sem];refine BR.intro (fun h3=>hT ?_) (fun h3=>hF ?_);all_goals clear hT hF T F;try simp at h3)
 ·refine awp_skip ?_
  refine hK2 _ ?_; clear hK2
  obtain ⟨x, hx⟩ : ∃ x, s[i]? = some x := ⟨_, List.getElem?_eq_getElem (by omega)⟩
  have hst := pks_step (l := l) hx
  have hpl := pks_len (s.take i) l
  have hpl2 : (s.take i).length ≤ s.length := by simp; omega
  refine awp_seq_k fun K4 hK4 => ?_
  refine awp_block ?_
  (refine awp_sr fun Y Yh=>?_;simp[go_sem, hx];((repeat' (first|(refine ag_x ?_;simp[go_sem, hx])|intro _|apply And.intro|(apply Yh;clear Yh Y)));all_goals first|apply Hold.mk|omega|assumption|skip))
  cases hq : slook l x.1 with
  | none =>
   rw [hq] at hst
   ((refine awp_dr (.qs [0, 1, 2, 4, 3, 5, 6, 7, 8, 9, 10, 11] (.nil)) (by kernel_rfl) ?_ ?_ ?_ ?_);kernel_rfl;exact (by decide +kernel);kernel_rfl;intro Y Yh;((repeat' (first|(refine ag_x ?_;simp[go_sem, hq])|refine adr_nil ?_|((first|refine adr_qs fun Y Yh=>?_|refine adr_y fun Y Yh=>?_);simp[go_sem, hq])|intro _|apply And.intro|(apply Yh;clear Yh Y)));all_goals first|apply Hold.mk|omega|assumption|skip))
   (refine awp_sr fun Y Yh=>?_;simp[go_sem];((repeat' (first|(refine ag_x ?_;simp[go_sem])|intro _|apply And.intro|(apply Yh;clear Yh Y)));all_goals first|apply Hold.mk|omega|assumption|skip))
   (refine awp_if fun T F hT hF=>?_;simp[go_sem];refine hF ?_;clear hT hF T F)
   refine awp_skip ?_
   refine hK4 _ ?_; clear hK4
   (refine awp_r fun Y Yh=>?_;simp[go_sem];((repeat' (first|(refine ag_x ?_;simp[go_sem])|intro _|apply And.intro|(apply Yh;clear Yh Y)));all_goals first|apply Hold.mk|omega|assumption|skip))
   refine ⟨(i + 1, g), ?_, by simp only; omega, by simp only; omega⟩
   simp only [hst]
   (refine cov_of ?_ ?_ <;> simp[go_sem])
  | some v =>
   rw [hq] at hst
   ((refine awp_dr (.qs [0, 1, 2, 4, 3, 5, 6, 7, 8, 9, 10, 11] (.nil)) (by kernel_rfl) ?_ ?_ ?_ ?_);kernel_rfl;exact (by decide +kernel);kernel_rfl;intro Y Yh;((repeat' (first|(refine ag_x ?_;simp[go_sem, hq])|refine adr_nil ?_|((first|refine adr_qs fun Y Yh=>?_|refine adr_y fun Y Yh=>?_);simp[go_sem, hq])|intro _|apply And.intro|(apply Yh;clear Yh Y)));all_goals first|apply Hold.mk|omega|assumption|skip))
   (refine awp_sr fun Y Yh=>?_;simp[go_sem];((repeat' (first|(refine ag_x ?_;simp[go_sem])|intro _|apply And.intro|(apply Yh;clear Yh Y)));all_goals first|apply Hold.mk|omega|assumption|skip))
   (refine awp_if fun T F hT hF=>?_;simp[go_sem];refine hT ?_;clear hT hF T F)
   (refine awp_r fun Y Yh=>?_;simp[go_sem];((repeat' (first|(refine ag_x ?_;simp[go_sem])|intro _|apply And.intro|(apply Yh;clear Yh Y)));all_goals first|apply Hold.mk|omega|assumption|skip))
   rename_i g' g''
   refine hK4 _ ?_; clear hK4
   (refine awp_r fun Y Yh=>?_;simp[go_sem];((repeat' (first|(refine ag_x ?_;simp[go_sem])|intro _|apply And.intro|(apply Yh;clear Yh Y)));all_goals first|apply Hold.mk|omega|assumption|skip))
   refine ⟨(i + 1, g''), ?_, by simp only; omega, by simp only; omega⟩
   simp only [hst]
   (refine cov_of ?_ ?_ <;> simp[go_sem])
 ·refine awp_exit ?_
  simp only [go_sem]
  refine hK1 _ ?_; clear hK1
  have : i = s.length := by omega
  subst this
  (refine awp_sr fun Y Yh=>?_;simp[go_sem];((repeat' (first|(refine ag_x ?_;simp[go_sem])|intro _|apply And.intro|(apply Yh;clear Yh Y)));all_goals first|apply Hold.mk|omega|assumption|skip))
  refine awp_frzrow 2 rfl rfl ?_
  simp only [go_sem]
  (refine awp_ret ?_;simp[go_sem])
theorem asked_spec (s : Src) (w : List Prs) (b : Int) (hs : SzS s) (hw : SzN w) (hbr : InR b) : PCall Tryz.prog 52 [dSrc s, dPs w, dI b] fun r => r = dI (if chkV s w = true ∧ 1 ≤ b ∧ b ≤ 100000 then 0 else 1) := by 
 refine pcall_of Tryz.func52 rfl rfl Tryz.ntmps52 (rs := [.tmp 6]) (tys := [35]) rfl rfl (by simp) ?_
 have C := sCheck_spec s w hs hw
 generalize chkV s w = c at *
 (refine awp_sr fun Y Yh=>?_;simp[go_sem];((repeat' (first|(refine ag_x ?_;simp[go_sem])|intro _|apply And.intro|(apply Yh;clear Yh Y)));all_goals first|apply Hold.mk|omega|assumption|skip))
 refine awp_frzbox 3 rfl rfl ?_
 simp only [go_sem]
 refine awp_seq_k fun K1 hK1 => ?_
 (refine awp_sr fun Y Yh=>?_;simp[go_sem];((repeat' (first|(refine ag_x ?_;simp[go_sem])|intro _|apply And.intro|(apply Yh;clear Yh Y)));all_goals first|apply Hold.mk|omega|assumption|skip))
 (refine awp_if fun T F hT hF=>?_;simp[go_sem];refine BR.intro (fun h2=>hT ?_) (fun h2=>hF ?_);all_goals clear hT hF T F;try simp at h2)
 ·have : ¬ (c = true ∧ 1 ≤ b ∧ b ≤ 100000) := by omega
  (refine awp_sr fun Y Yh=>?_;simp[go_sem];((repeat' (first|(refine ag_x ?_;simp[go_sem])|intro _|apply And.intro|(apply Yh;clear Yh Y)));all_goals first|apply Hold.mk|omega|assumption|skip))
  (refine awp_ret ?_;simp[go_sem, this])
 ·have hb : 1 ≤ b ∧ b ≤ 100000 := by omega
  refine awp_skip ?_
  refine hK1 _ ?_; clear hK1
  (refine awp_sr fun Y Yh=>?_;simp[go_sem];((repeat' (first|(refine ag_x ?_;simp[go_sem])|intro _|apply And.intro|(apply Yh;clear Yh Y)));all_goals first|apply Hold.mk|omega|assumption|skip))
  ((try refine CallT.toA ?_);refine callT_m (.inl ⟨rfl,rfl⟩) (by simp[go_sem]) ?_;intro args ha;simp[go_sem] at ha;subst ha;refine ⟨_, C, ?_⟩;rintro _ rfl;simp[go_sem];((repeat' (first|(refine ag_x ?_;simp[go_sem])|intro _|apply And.intro|(apply Yh;clear Yh Y)));all_goals first|apply Hold.mk|omega|assumption|skip))
  (refine awp_ret ?_;simp[go_sem, hb])
theorem nclone_spec (l : List Prs) (hl : l.length ≤ 1000000) : PCall Tryz.prog 69 [dPs l] fun r => r = dPs l := by 
 refine pcall_of Tryz.func69 rfl rfl Tryz.ntmps69 (rs := [.tmp 2]) (tys := [38]) rfl rfl (by simp) ?_
 cases l with
 | nil =>
  (refine awp_sr fun Y Yh=>?_;simp[go_sem];((repeat' (first|(refine ag_x ?_;simp[go_sem])|intro _|apply And.intro|(apply Yh;clear Yh Y)));all_goals first|apply Hold.mk|omega|assumption|skip))
  refine awp_seq_k fun K1 hK1 => ?_
  (refine awp_sr fun Y Yh=>?_;simp[go_sem];((repeat' (first|(refine ag_x ?_;simp[go_sem])|intro _|apply And.intro|(apply Yh;clear Yh Y)));all_goals first|apply Hold.mk|omega|assumption|skip))
  ·(refine awp_if fun T F hT hF=>?_;simp[go_sem];refine hF ?_;clear hT hF T F)
   refine awp_skip ?_
   refine hK1 _ ?_; clear hK1
   (refine awp_sr fun Y Yh=>?_;simp[go_sem];((repeat' (first|(refine ag_x ?_;simp[go_sem])|intro _|apply And.intro|(apply Yh;clear Yh Y)));all_goals first|apply Hold.mk|omega|assumption|skip))
   (refine awp_ret ?_;simp[go_sem])
  ·(refine awp_if fun T F hT hF=>?_;simp[go_sem];refine hT ?_;clear hT hF T F)
   (refine awp_sr fun Y Yh=>?_;simp[go_sem];((repeat' (first|(refine ag_x ?_;simp[go_sem])|intro _|apply And.intro|(apply Yh;clear Yh Y)));all_goals first|apply Hold.mk|omega|assumption|skip))
   (refine awp_ret ?_;simp[go_sem])
 | cons x r =>
  simp only [List.length_cons] at hl
  (refine awp_sr fun Y Yh=>?_;simp[go_sem];((repeat' (first|(refine ag_x ?_;simp[go_sem])|intro _|apply And.intro|(apply Yh;clear Yh Y)));all_goals first|apply Hold.mk|omega|assumption|skip))
  refine awp_seq_k fun K1 hK1 => ?_
  (refine awp_sr fun Y Yh=>?_;simp[go_sem];((repeat' (first|(refine ag_x ?_;simp[go_sem])|intro _|apply And.intro|(apply Yh;clear Yh Y)));all_goals first|apply Hold.mk|omega|assumption|skip))
  refine awp_if fun T F hT hF => ?_
  simp [go_sem]
  refine hF ?_
  refine awp_skip ?_
  refine hK1 _ ?_; clear hK1
  (refine awp_sr fun Y Yh=>?_;simp[go_sem];((repeat' (first|(refine ag_x ?_;simp[go_sem])|intro _|apply And.intro|(apply Yh;clear Yh Y)));all_goals first|apply Hold.mk|omega|assumption|skip))
  (refine awp_ret ?_;simp[go_sem])
end Go.Proofs.YteekfnhhlcmcgaaGreatDoor
