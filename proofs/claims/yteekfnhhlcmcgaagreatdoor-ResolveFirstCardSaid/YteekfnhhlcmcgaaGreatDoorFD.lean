/- Part of a proof: see the last text. -/
import Derived.Test.YteekfnhhlcmcgaaGreatDoorFX
import Derived.Test.YteekfnhhlcmcgaaGreatDoorFC
import Derived.Test.YteekfnhhlcmcgaaGreatDoorG04
set_option linter.unusedVariables false
set_option linter.unusedSimpArgs false
namespace Go.Proofs.YteekfnhhlcmcgaaGreatDoor
open Go.Eng Go.Wh Go.Ver Go.Lk
set_option maxRecDepth 20000
attribute [local irreducible] AG CallA CallT AWp PCall ACall AgC
theorem map_take_snoc2 {α : Type} (f : α → List D) {l : List α} {i : Nat} {x : α} (h : l[i]? = some x) : (l.take (i + 1)).map f = (l.take i).map f ++ [f x] := by rw [List.take_add_one, h]; simp
theorem take_map_len2 {α : Type} (f : α → List D) (l : List α) : (l.map f).take l.length = l.map f := by
 conv => lhs; rw [← List.length_map (f := f)]
 exact List.take_length
set_option maxHeartbeats 4000000 in
theorem back12_spec (l : List Prs) (hl : l.length ≤ 1000000) : PCall Tryz.prog 17 [dPs l] fun r => r = dPs l := by 
 refine pcall_of Tryz.func17 rfl rfl Tryz.ntmps17 (rs := [.tmp 2]) (tys := [38]) rfl rfl (by simp) ?_
 (refine awp_sr fun Y Yh => ?_; simp [go_sem]; ((repeat' (first|(refine ag_x ?_;simp [go_sem])|intro _|apply And.intro|(apply Yh;clear Yh Y)));all_goals first|apply Hold.mk|omega|assumption|skip))
 (refine awp_sr fun Y Yh => ?_; simp [go_sem]; ((repeat' (first|(refine ag_x ?_;simp [go_sem])|intro _|apply And.intro|(apply Yh;clear Yh Y)));all_goals first|apply Hold.mk|omega|assumption|skip))
 refine awp_nilslot 3 3 114 2 rfl fun g3 => ?_
 simp only [go_sem]
 refine awp_seq_k fun K1 hK1 => ?_
 (refine awp_sr fun Y Yh => ?_; simp [go_sem]; ((repeat' (first|(refine ag_x ?_;simp [go_sem])|intro _|apply And.intro|(apply Yh;clear Yh Y)));all_goals first|apply Hold.mk|omega|assumption|skip))
 refine awp_block ?_
 refine awp_loop (σ := Nat × Nat) (fun x => ⟨[(0, dPs l), (3, .own 3 x.2), (4, dI x.1)], [(3, x.2, .row 114 2 ((l.take x.1).map cP))]⟩) (fun x => x.1 ≤ l.length) (fun x => l.length - x.1) (0, g3) ?_ ?_ ?_
 ·(refine cov_of ?_ ?_ <;> simp [go_sem])
 ·simp
 rintro ⟨i, g⟩ hi
 simp only at hi
 refine awp_seq_k fun K2 hK2 => ?_
 (refine awp_sr fun Y Yh => ?_; simp [go_sem]; ((repeat' (first|(refine ag_x ?_;simp [go_sem])|intro _|apply And.intro|(apply Yh;clear Yh Y)));all_goals first|apply Hold.mk|omega|assumption|skip))
 (refine awp_if fun T F hT hF => ?_; simp [go_sem]; refine BR.intro (fun h3 => hT ?_) (fun h3 => hF ?_); all_goals clear hT hF T F; try simp at h3) 
 ·refine awp_skip ?_
  refine hK2 _ ?_; clear hK2
  obtain ⟨x, hx⟩ : ∃ x, l[i]? = some x := ⟨_, List.getElem?_eq_getElem (by omega)⟩
  have htk : l.take (i + 1) = l.take i ++ [x] := by rw [List.take_add_one, hx]; rfl
  refine awp_seq_k fun K4 hK4 => ?_
  refine awp_block ?_
  ((refine awp_d (.qs [0, 1, 2, 3, 4, 6, 7, 8, 9, 5, 10, 11] (.one 12 (.one 13 (.qs [14] (.nil))))) (by kernel_rfl) ?_ ?_ ?_ ?_); (kernel_rfl); (exact (by decide +kernel)); (kernel_rfl); intro Y Yh; ((repeat' (first|(refine ag_x ?_;simp [go_sem, hx])|refine adr_nil ?_|((first|refine adr_qs fun Y Yh=>?_|refine adr_y fun Y Yh=>?_);simp [go_sem, hx])|intro _|apply And.intro|(apply Yh;clear Yh Y)));all_goals first|apply Hold.mk|omega|assumption|skip))
  refine hK4 _ ?_; clear hK4
  rename_i g' _
  refine awp_renrow 3 3 rfl rfl (by decide) fun g'' => ?_
  simp only [go_sem]
  (refine awp_r fun Y Yh => ?_; simp [go_sem]; ((repeat' (first|(refine ag_x ?_;simp [go_sem])|intro _|apply And.intro|(apply Yh;clear Yh Y)));all_goals first|apply Hold.mk|omega|assumption|skip))
  refine ⟨(i + 1, g''), ?_, by simp only; omega, by simp only; omega⟩
  simp only [htk]
  (refine cov_of ?_ ?_ <;> simp [go_sem])
 ·refine awp_exit ?_
  simp only [go_sem]
  refine hK1 _ ?_; clear hK1
  have : i = l.length := by omega
  subst this
  (refine awp_sr fun Y Yh => ?_; simp [go_sem]; ((repeat' (first|(refine ag_x ?_;simp [go_sem])|intro _|apply And.intro|(apply Yh;clear Yh Y)));all_goals first|apply Hold.mk|omega|assumption|skip))
  refine awp_frzrow 2 rfl rfl ?_
  simp only [go_sem]
  have htl : List.take l.length (l.map cP) = l.map cP := by
   conv => lhs; rw [← List.length_map (f := cP)]
   exact List.take_length
  (refine awp_ret ?_; simp [go_sem, htl])
set_option maxHeartbeats 16000000 in
theorem Back_spec (s : Src) (hs : SzS s) : PCall Tryz.prog 15 [dSrc s] fun r => r = dSrc s := by 
 refine pcall_of Tryz.func15 rfl rfl Tryz.ntmps15 (rs := [.cell 2 32]) (tys := [32]) rfl rfl (by simp) ?_
 obtain ⟨hs0, hs1⟩ := hs
 (refine awp_sr fun Y Yh => ?_; simp [go_sem]; ((repeat' (first|(refine ag_x ?_;simp [go_sem])|intro _|apply And.intro|(apply Yh;clear Yh Y)));all_goals first|apply Hold.mk|omega|assumption|skip))
 refine awp_frzbox 1 rfl rfl ?_
 simp only [go_sem]
 rename_i g2
 (refine awp_sr fun Y Yh => ?_; simp [go_sem]; ((repeat' (first|(refine ag_x ?_;simp [go_sem])|intro _|apply And.intro|(apply Yh;clear Yh Y)));all_goals first|apply Hold.mk|omega|assumption|skip))
 rename_i g3
 refine awp_nilbox 900021 119 2 0 (sb := 3) rfl rfl (by decide) fun gr0 => ?_
 simp only [List.set, go_sem]
 refine awp_seq_k fun K1 hK1 => ?_
 (refine awp_sr fun Y Yh => ?_; simp [go_sem]; ((repeat' (first|(refine ag_x ?_;simp [go_sem])|intro _|apply And.intro|(apply Yh;clear Yh Y)));all_goals first|apply Hold.mk|omega|assumption|skip))
 refine awp_block ?_
 refine awp_loop (σ := Nat × Nat) (fun x => ⟨[(1, .rd [dGms s]), (2, .ptr 2 g2 0), (3, .ptr 3 g3 0), (4, dI x.1)], [(2, (g2, .box [.v (.slice none 0 0)])), (3, (g3, .box [.own 900021 x.2])), (900021, (x.2, .row 119 2 ((s.take x.1).map cGm)))]⟩) (fun x => x.1 ≤ s.length) (fun x => s.length - x.1) (0, gr0) ?_ ?_ ?_
 ·(refine cov_of ?_ ?_ <;> simp [go_sem])
 ·simp
 rintro ⟨i, gr⟩ hi
 simp only at hi
 refine awp_seq_k fun K2 hK2 => ?_
 (refine awp_sr fun Y Yh => ?_; simp [go_sem]; ((repeat' (first|(refine ag_x ?_;simp [go_sem])|intro _|apply And.intro|(apply Yh;clear Yh Y)));all_goals first|apply Hold.mk|omega|assumption|skip))
 (refine awp_if fun T F hT hF => ?_; simp [go_sem]; refine BR.intro (fun h3 => hT ?_) (fun h3 => hF ?_); all_goals clear hT hF T F; try simp at h3)
 ·refine awp_skip ?_
  refine hK2 _ ?_; clear hK2
  obtain ⟨x, hx⟩ : ∃ x, s[i]? = some x := ⟨_, List.getElem?_eq_getElem (by omega)⟩
  obtain ⟨hx0, hx1, hx2⟩ := hs1 x (List.mem_of_getElem? hx)
  have htk := map_take_snoc2 cGm hx
  refine awp_seq_k fun K4 hK4 => ?_
  refine awp_block ?_
  (refine awp_sr fun Y Yh => ?_; simp [go_sem, hx]; ((repeat' (first|(refine ag_x ?_;simp [go_sem, hx])|intro _|apply And.intro|(apply Yh;clear Yh Y)));all_goals first|apply Hold.mk|omega|assumption|skip))
  rename_i g5
  refine awp_nilbox 900022 116 2 1 (sb := 5) rfl rfl (by decide) fun gv0 => ?_
  simp only [List.set, go_sem]
  refine awp_seq_k fun K5 hK5 => ?_
  (refine awp_sr fun Y Yh => ?_; simp [go_sem]; ((repeat' (first|(refine ag_x ?_;simp [go_sem])|intro _|apply And.intro|(apply Yh;clear Yh Y)));all_goals first|apply Hold.mk|omega|assumption|skip))
  refine awp_block ?_
  refine awp_loop (σ := Nat × Nat) (fun y => ⟨[(1, .rd [dGms s]), (2, .ptr 2 g2 0), (3, .ptr 3 g3 0), (4, dI i), (5, .ptr 5 g5 0), (6, dI y.1)], [(2, (g2, .box [.v (.slice none 0 0)])), (3, (g3, .box [.own 900021 gr])), (900021, (gr, .row 119 2 ((s.take i).map cGm))), (5, (g5, .box [dS x.1, .own 900022 y.2])), (900022, (y.2, .row 116 2 ((x.2.take y.1).map cVr)))]⟩) (fun y => y.1 ≤ x.2.length) (fun y => x.2.length - y.1) (0, gv0) ?_ ?_ ?_
  ·(refine cov_of ?_ ?_ <;> simp [go_sem])
  ·simp
  rintro ⟨k, gv⟩ hk
  simp only at hk
  refine awp_seq_k fun K6 hK6 => ?_
  (refine awp_sr fun Y Yh => ?_; simp [go_sem, hx]; ((repeat' (first|(refine ag_x ?_;simp [go_sem, hx])|intro _|apply And.intro|(apply Yh;clear Yh Y)));all_goals first|apply Hold.mk|omega|assumption|skip))
  (refine awp_if fun T F hT hF => ?_; simp [go_sem]; refine BR.intro (fun h7 => hT ?_) (fun h7 => hF ?_); all_goals clear hT hF T F; try simp at h7)
  ·refine awp_skip ?_
   refine hK6 _ ?_; clear hK6
   obtain ⟨v, hv⟩ : ∃ v, x.2[k]? = some v := ⟨_, List.getElem?_eq_getElem (by omega)⟩
   obtain ⟨hv0, hv1⟩ := hx2 v (List.mem_of_getElem? hv)
   have htv := map_take_snoc2 cVr hv
   have B := back12_spec v.2 hv1.1
   refine awp_seq_k fun K8 hK8 => ?_
   refine awp_block ?_
   (refine awp_sr fun Y Yh => ?_; simp [go_sem, hx, hv]; ((repeat' (first|(refine ag_x ?_;simp [go_sem, hx, hv])|intro _|apply And.intro|(apply Yh;clear Yh Y)));all_goals first|apply Hold.mk|omega|assumption|skip))
   ((refine awp_d (.qs [0, 2, 4, 1, 3, 5] (.kp 6 (.qs [7] (.kp 8 (.one 9 (.qs [10] (.one 11 (.nil)))))))) (by kernel_rfl) ?_ ?_ ?_ ?_); (kernel_rfl); (exact (by decide +kernel)); (kernel_rfl); intro Y Yh; ((repeat' (first|(refine ag_x ?_;simp [go_sem])|refine adr_nil ?_|((first|refine adr_qs fun Y Yh=>?_|refine adr_y fun Y Yh=>?_);simp [go_sem])|intro _|apply And.intro|(apply Yh;clear Yh Y)));all_goals first|apply Hold.mk|omega|assumption|skip))
   ((try refine CallT.toA ?_); refine callT_m (.inl ⟨rfl,rfl⟩) (by simp [go_sem]) ?_; intro args ha; simp [go_sem] at ha; subst ha; refine ⟨_, B, ?_⟩; rintro _ rfl; simp [go_sem]; ((repeat' (first|(refine ag_x ?_;simp [go_sem])|refine adr_nil ?_|((first|refine adr_qs fun Y Yh=>?_|refine adr_y fun Y Yh=>?_);simp [go_sem])|intro _|apply And.intro|(apply Yh;clear Yh Y)));all_goals first|apply Hold.mk|omega|assumption|skip))
   refine hK8 _ ?_; clear hK8
   rename_i gq gv'
   (refine awp_r fun Y Yh => ?_; simp [go_sem]; ((repeat' (first|(refine ag_x ?_;simp [go_sem])|intro _|apply And.intro|(apply Yh;clear Yh Y)));all_goals first|apply Hold.mk|omega|assumption|skip))
   refine ⟨(k + 1, gv'), ?_, by simp only; omega, by simp only; omega⟩
   simp only [htv]
   (refine cov_of ?_ ?_ <;> simp [go_sem])
  ·refine awp_exit ?_
   simp only [go_sem]
   refine hK5 _ ?_; clear hK5
   have : k = x.2.length := by omega
   subst this
   refine awp_frzin 900022 5 1 rfl rfl (by decide) rfl ?_
   simp only [go_sem, List.set]
   (refine awp_r fun Y Yh => ?_; simp [go_sem]; ((repeat' (first|(refine ag_x ?_;simp [go_sem])|intro _|apply And.intro|(apply Yh;clear Yh Y)));all_goals first|apply Hold.mk|omega|assumption|skip))
   rename_i gq gr'
   refine hK4 _ ?_; clear hK4
   (refine awp_r fun Y Yh => ?_; simp [go_sem]; ((repeat' (first|(refine ag_x ?_;simp [go_sem])|intro _|apply And.intro|(apply Yh;clear Yh Y)));all_goals first|apply Hold.mk|omega|assumption|skip))
   refine ⟨(i + 1, gr'), ?_, by simp only; omega, by simp only; omega⟩
   simp only [htk]
   (refine cov_of ?_ ?_ <;> simp [go_sem, take_map_len2])
 ·refine awp_exit ?_
  simp only [go_sem]
  refine hK1 _ ?_; clear hK1
  have : i = s.length := by omega
  subst this
  refine awp_frzin 900021 3 0 rfl rfl (by decide) rfl ?_
  simp only [go_sem, List.set]
  (refine awp_sr fun Y Yh => ?_; simp [go_sem]; ((repeat' (first|(refine ag_x ?_;simp [go_sem])|intro _|apply And.intro|(apply Yh;clear Yh Y)));all_goals first|apply Hold.mk|omega|assumption|skip))
  (refine awp_ret ?_; simp [go_sem, take_map_len2])
end Go.Proofs.YteekfnhhlcmcgaaGreatDoor
namespace Go.Lk
open Go.Lib Go.Wh Go.Ver
/-! picks that numbers choose, gem by gem -/
structure Cho (s : Src) (i : Nat) (l : List Prs) : Prop where
 asc : Asc l
 fnd : ∀ p ∈ l, ∃ v, fndV s p = some v
 nm : ∀ p ∈ l, ∃ g ∈ s.take i, g.1 = p.1
 len : l.length ≤ i
/-! what the laws ask -/
def abvG (gem num : Bs) (g : Gm) : Gm := if g.1 = gem then (g.1, g.2.filter fun v => decide (0 < compareP v.1 num)) else g
def abvS (s : Src) (gem num : Bs) : Src := s.map (abvG gem num)
theorem abvG_nm (gem num : Bs) (g : Gm) : (abvG gem num g).1 = g.1 := by unfold abvG; split <;> rfl
theorem abvG_sub (gem num : Bs) (g : Gm) : (abvG gem num g).2.Sublist g.2 := by
 unfold abvG; split
 ·exact List.filter_sublist
 ·exact List.Sublist.refl _
theorem abv_su {s : Src} (h : suV s = true) (gem num : Bs) : suV (abvS s gem num) = true := suV_map _ (abvG_nm gem num) (abvG_sub gem num) h
theorem first_law {s : Src} {n : Prs} {w : List Prs} {b : Int} (h0 : (solV s (n :: w) b).2.2 = 0) :
  ∃ num, num ≠ [] ∧ (n.1, num) ∈ (solV s (n :: w) b).1 ∧ (solV (abvS s n.1 num) (n :: w) b).2.2 ≠ 0 := by
 obtain ⟨hc, h1, h2⟩ := solV_chk h0
 have hs : suV s = true := by unfold chkV at hc; rw [Bool.and_eq_true] at hc; exact hc.1
 have hmu := mu_le s []
 
 have e0 : solV s (n :: w) b = (srtP (restV s (n :: w) b.toNat (s.length + 1) [] 0).1.1, (restV s (n :: w) b.toNat (s.length + 1) [] 0).2, (restV s (n :: w) b.toNat (s.length + 1) [] 0).1.2) := by unfold solV; rw [if_pos ⟨hc, h1, h2⟩]
 have er : restV s (n :: w) b.toNat (s.length + 1) [] 0 = tryL (restV s (n :: w) b.toNat s.length) b.toNat n.1 [] (candV s (n :: w) [] n.1) 0 := by
  have hfz : (allN s (n :: w) []).find? (freeN []) = some n := by
   rw [allN_nil, List.find?_cons]
   have : freeN [] n = true := by unfold freeN; simp [pkdV]
   rw [this]
  rw [restV, hfz]
 rw [e0] at h0 ⊢
 simp only at h0 ⊢
 rw [er] at h0 ⊢
 obtain ⟨c1, V, c2, t', ec, hc1, hq⟩ := tryL_first _ _ h0
 have hVc : V ∈ candV s (n :: w) [] n.1 := by rw [ec]; simp
 obtain ⟨g, hg, eg, hVg⟩ := candV_mem hVc
 have hV0 : V.1 ≠ [] := readV_ne ((vuV_parts ((suV_parts hs).2 g hg).2).2 V hVg).1
 have hpk : pkdV [] n.1 = [] := rfl
 have hnall : n ∈ allN s (n :: w) [] := by rw [allN_nil]; simp
 have hfine := fine_snoc hs (fine_nil s (n :: w)) hnall hpk hVc
 rw [hq] at h0 ⊢
 obtain ⟨hsol, x, hx⟩ := rest_sol hs s.length _ t' hfine h0
 refine ⟨V.1, hV0, by rw [srtP_mem, hx]; simp, fun hb0 => ?_⟩
 have hsb := solV_sol hb0
 obtain ⟨hS, _⟩ := hsb.map _ (abvG_nm n.1 V.1) (abvG_sub n.1 V.1) hs
 obtain ⟨hsat, hlk⟩ := hS.sat hs
 
 obtain ⟨v, hv, hmv⟩ := hsat.wish n (by simp)
 have hin := slook_some_mem hv
 obtain ⟨k, hk, ek, V', hV', ev⟩ := hsb.ok.1 _ hin
 obtain ⟨k0, hk0, rfl⟩ := List.mem_map.1 hk
 rw [abvG_nm] at ek
 simp only at ek ev
 unfold abvG at hV'
 rw [if_pos ek] at hV'
 obtain ⟨hV'1, hgt⟩ := List.mem_filter.1 hV'
 simp only [decide_eq_true_eq] at hgt
 obtain ⟨V2, e2, hc2⟩ := hsat.cand hs (l := []) ⟨by simp, by simp⟩ (by simp) hv hpk
 
 have hdsc : Dsc (candV s (n :: w) [] n.1) := by
  rw [cand_eq hs, ← eg, gemV_of hs hg]
  exact (srtD_dsc (vuV_rank ((suV_parts hs).2 g hg).2)).filter _
 have hr1 := ((vuV_parts ((suV_parts hs).2 k0 hk0).2).2 V' hV'1).1
 have hr2 := ((vuV_parts ((suV_parts hs).2 g hg).2).2 V hVg).1
 rw [cmpP_cV hr1 hr2, ev, ← e2] at hgt
 rw [ec] at hc2 hdsc
 have hV2 : V2 ∈ c1 := by
  rcases List.mem_append.1 hc2 with q | q
  ·exact q
  ·exfalso
   rcases List.mem_cons.1 q with rfl | q
   ·have := cV_sym V2.1 V2.1; omega
   ·have := (List.pairwise_cons.1 (List.pairwise_append.1 hdsc).2.1).1 V2 q
    omega
 obtain ⟨t, ht⟩ := hc1 V2 hV2
 obtain ⟨g2, hg2, eg2, hVg2⟩ := candV_mem (s := s) (w := n :: w) (l := []) (gem := n.1) (by rw [ec]; exact hc2)
 have hV20 : V2.1 ≠ [] := readV_ne ((vuV_parts ((suV_parts hs).2 g2 hg2).2).2 V2 hVg2).1
 have hmul := mu_lt (s := s) (l := []) (gem := n.1) (v := V2.1) (by intro x hx; cases hx) hV20 ⟨g2, hg2, eg2⟩ hpk
 refine absurd ht (rest_no3 hs hsat s.length _ t (pickOk_snoc hs ⟨by simp, by simp⟩ hpk ⟨g2, hg2, eg2, hVg2⟩) (fun p hp => ?_) (by omega))
 simp at hp; subst hp
 simp only
 rw [hv, e2]
end Go.Lk
namespace Go.Proofs.YteekfnhhlcmcgaaGreatDoor
open Go.Eng Go.Wh Go.Ver Go.Lk
set_option maxRecDepth 20000
attribute [local irreducible] AG CallA CallT AWp PCall ACall AgC
theorem above_spec (v w : Bs) (hv : v.length ≤ 1000000) (hw : w.length ≤ 1000000) : PCall Tryz.prog 18 [dS v, dS w] fun r => r = dB (decide (0 < compareP v w)) := by 
 refine pcall_of Tryz.func18 rfl rfl Tryz.ntmps18 (rs := [.tmp 4]) (tys := [4]) rfl rfl (by simp) ?_
 have C := rCompare_spec v w hv hw
 generalize compareP v w = c at *
 generalize codeP ((readV v).isSome && (readV w).isSome) = e at *
 (refine awp_sr fun Y Yh => ?_; simp [go_sem]; ((repeat' (first|(refine ag_x ?_;simp [go_sem])|intro _|apply And.intro|(apply Yh;clear Yh Y)));all_goals first|apply Hold.mk|omega|assumption|skip))
 (refine awp_sr fun Y Yh => ?_; simp [go_sem]; ((repeat' (first|(refine ag_x ?_;simp [go_sem])|intro _|apply And.intro|(apply Yh;clear Yh Y)));all_goals first|apply Hold.mk|omega|assumption|skip))
 ((try refine CallT.toA ?_); refine callT_m (.inl ⟨rfl,rfl⟩) (by simp [go_sem]) ?_; intro args ha; simp [go_sem] at ha; subst ha; refine ⟨_, C, ?_⟩; rintro _ rfl; simp [go_sem]; ((repeat' (first|(refine ag_x ?_;simp [go_sem])|intro _|apply And.intro|(apply Yh;clear Yh Y)));all_goals first|apply Hold.mk|omega|assumption|skip))
 (refine awp_sr fun Y Yh => ?_; simp [go_sem]; ((repeat' (first|(refine ag_x ?_;simp [go_sem])|intro _|apply And.intro|(apply Yh;clear Yh Y)));all_goals first|apply Hold.mk|omega|assumption|skip))
 (refine awp_ret ?_; simp [go_sem])
end Go.Proofs.YteekfnhhlcmcgaaGreatDoor
set_option linter.unusedSectionVars false
namespace Go.Eng
variable {P : Program} [HasGlob P]
theorem args_weak {f : FuncId} {args args' : List D} {R : D → Prop} (h : PCall P f args' R) (hw : WeakL args args') : PCall P f args R := by
 obtain ⟨h1, h2⟩ := hw.at
 refine ⟨h.1, fun C w us hc hg hr => h.2 C w us hc hg ⟨by rw [hr.1, h1], fun j d u hd hu => ?_⟩⟩
 obtain ⟨d0, hd0, hw⟩ := h2 j d hd
 exact hw _ _ _ (hr.2 j d0 u hd0 hu)
end Go.Eng
namespace Go.Lk
open Go.Ver
/-! the example of chapter 12 -/
def exS : Src := [([97], [([49], [([98], [126, 62, 32, 49, 46, 48])]), ([50], [([98], [126, 62, 32, 50, 46, 48])])]), ([98], [([49, 46, 53], [])])]
def exW : List Prs := [([97], [])]
set_option maxRecDepth 100000
theorem ex_val : (solV exS exW 100).1 = [([97], [49]), ([98], [49, 46, 53])] ∧ (solV exS exW 100).2.2 = 0 := by decide +kernel
end Go.Lk
namespace Go.Proofs.YteekfnhhlcmcgaaGreatDoor
open Go.Eng Go.Wh Go.Ver Go.Lk
set_option maxRecDepth 20000
attribute [local irreducible] AG CallA CallT AWp PCall ACall AgC
set_option maxHeartbeats 16000000 in
theorem sane12_spec : PCall Tryz.prog 14 [] fun r => r = dB true := by 
 refine pcall_of Tryz.func14 rfl rfl Tryz.ntmps14 (rs := [.tmp 0]) (tys := [4]) rfl rfl (by simp) ?_
 have hx := chk_parts (solV_chk ex_val.2).1
 have S1 := Solve_spec exS exW 100 (suV_sz hx.1) hx.2.1 (by constructor <;> decide)
 obtain ⟨v1, v2⟩ := ex_val
 rw [v1, v2] at S1
 (refine awp_sr fun Y Yh => ?_; simp [go_sem]; ((repeat' (first|(refine ag_x ?_;simp [go_sem])|intro _|apply And.intro|(apply Yh;clear Yh Y)));all_goals first|apply Hold.mk|omega|assumption|skip))
 (refine awp_sr fun Y Yh => ?_; simp [go_sem]; ((repeat' (first|(refine ag_x ?_;simp [go_sem])|intro _|apply And.intro|(apply Yh;clear Yh Y)));all_goals first|apply Hold.mk|omega|assumption|skip))
 refine awp_frzin 15 1 0 rfl rfl (by decide) rfl ?_
 simp only [go_sem, List.set]
 refine awp_frzbox 1 rfl rfl ?_
 simp only [go_sem]
 (refine awp_sr fun Y Yh => ?_; simp [go_sem]; ((repeat' (first|(refine ag_x ?_;simp [go_sem])|intro _|apply And.intro|(apply Yh;clear Yh Y)));all_goals first|apply Hold.mk|omega|assumption|skip))
 ((try refine CallT.toA ?_); refine callT_z (.inl ⟨rfl,rfl⟩) rfl (by simp [go_sem]) (by simp [go_sem]) ?_; intro args ha; simp [go_sem] at ha; subst ha; refine ⟨_, (args_weak S1 (by repeat' first | exact Weak.refl _ | exact Weak.nil _ | exact True.intro | refine Weak.agg ?_ | refine Weak.sl ?_ | refine And.intro ?_ ?_)), ?_⟩; rintro _ rfl; simp [go_sem]; ((repeat' (first|(refine ag_x ?_;simp [go_sem])|intro _|apply And.intro|(apply Yh;clear Yh Y)));all_goals first|apply Hold.mk|omega|assumption|skip))
 (refine awp_sr fun Y Yh => ?_; simp [go_sem]; ((repeat' (first|(refine ag_x ?_;simp [go_sem])|intro _|apply And.intro|(apply Yh;clear Yh Y)));all_goals first|apply Hold.mk|omega|assumption|skip))
 (refine awp_ret ?_; simp [go_sem])
theorem grOk_chk {s : Src} {w : List Prs} (h : GrOk s w) : chkV s w = true := by
 unfold chkV
 rw [grOk_su h, Bool.true_and, nuV_iff]
 obtain ⟨_, b, c⟩ := nuV_iff.1 h.wi
 exact ⟨by have := h.wl; omega, b, c⟩
theorem grOk_wz {s : Src} {w : List Prs} (h : GrOk s w) : SzN w := (chk_parts (grOk_chk h)).2.1
end Go.Proofs.YteekfnhhlcmcgaaGreatDoor
