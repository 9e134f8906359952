/- Part of a proof: see the last text. -/
import Derived.Test.YteekfnhhlcmcgaaGreatDoorG10
import Derived.Test.YteekfnhhlcmcgaaGreatDoorG06
import Derived.Test.YteekfnhhlcmcgaaGreatDoorG09
import Derived.Test.YteekfnhhlcmcgaaGreatDoorG04
set_option linter.unusedVariables false
set_option linter.unusedSimpArgs false
namespace Go.Proofs.YteekfnhhlcmcgaaGreatDoor
open Go.Eng Go.Wh Go.Ver Go.Lk
set_option maxRecDepth 20000
attribute [local irreducible] AG CallA CallT AWp PCall ACall AgC
theorem chk_parts {s : Src} {w : List Prs} (h : chkV s w = true) : suV s = true ∧ SzN w ∧ ∀ n ∈ w, n.1 ≠ [] := by
 unfold chkV at h
 rw [Bool.and_eq_true] at h
 exact ⟨h.1, nuV_sz h.2 (by decide), fun n hn => (name_nm ((nuV_parts h.2).2 n hn).1).1⟩
theorem mSn_nil : mSn [] = [] := rfl
abbrev qV (s : Src) (w : List Prs) (bud : Nat) : (List Prs × Nat) × Nat := restV s w bud (s.length + 1) [] 0
set_option maxHeartbeats 16000000 in
theorem begin_spec (s : Src) (w : List Prs) (bud : Nat) (hc : chkV s w = true) (hb : bud ≤ 100000) :
  ACall Tryz.prog 53 [dSrc s, dPs w, dI bud] [] [900002, 900003] fun ps r => ∃ gb gm N' l', (ps = [(gb, bXn s bud (qV s w bud).2 (decide ((qV s w bud).1.2 = 12)) N' gm), (gm, .map (mSn l'))] ∧ r = .tup [.ptr 900002 gb 0, dI (qV s w bud).1.2]) ∧
   ((qV s w bud).1.2 = 0 → l' = (qV s w bud).1.1) := by 
 refine acall_of Tryz.func53 rfl rfl Tryz.ntmps53 (rs := [.tmp 6, .tmp 7]) (tys := [121, 35]) rfl rfl (by simp) (by simp) ?_
 obtain ⟨hsu, hw, hwn⟩ := chk_parts hc
 have h15 := (suV_parts hsu).1
 have hmu := mu_le s []
 have T := restV_tlk s w bud (s.length + 1) [] 0 (by omega)
 have SV := fun gb gm => solve_spec s w bud hsu hw hwn hb (s.length + 1) [] 0 gb gm (by omega) (by simp; omega) ⟨by simp, by simp⟩ (by omega)
 simp only [allN_nil, hX, bXn, mSn_nil] at SV
 have NC := nclone_spec w hw.1
 unfold qV
 generalize restV s w bud (s.length + 1) [] 0 = q at *
 obtain ⟨⟨out, e⟩, t'⟩ := q
 simp only [Tlk] at T SV ⊢
 (refine awp_sr fun Y Yh=>?_;simp[go_sem];((repeat' (first|intro _|apply And.intro|(apply Yh;clear Yh Y)));all_goals first|apply Hold.mk|omega|assumption|skip))
 refine awp_frzbox 3 rfl rfl ?_
 simp only [go_sem]
 refine awp_seq_j (α := Nat × Nat) (fun g => ⟨[(8, .ptr 16 g.1 0)], [(16, (g.1, .box [dGms s, dI bud, dI 0, dB false, dPs w, .own 14 g.2])), (14, (g.2, .map []))]⟩) (fun K1 hK1 hM1 => ?_) (fun g => ?_)
 ·((refine awp_d (.qs [1, 2] (.three 0 (.two 3 (.one 4 (.qs [5] (.one 6 (.qs [7] (.nil))))) 4 (.kp 3 (.qs [5] (.kp 6 (.qs [7] (.nil)))))) 3 (.kq 0 (.one 4 (.qs [5] (.one 6 (.qs [7] (.nil))))) 4 (.qs [0, 5] (.one 6 (.qs [7] (.nil))))) 4 (.qs [0] (.kp 3 (.qs [5] (.kp 6 (.qs [7] (.nil)))))))) (by kernel_rfl) ?_ ?_ ?_ ?_);kernel_rfl;exact (by decide +kernel);kernel_rfl;intro Y Yh;((repeat' (first|refine adr_nil ?_|refine adr_two ?_ ?_|refine adr_kq ?_ ?_|refine adr_three ?_ ?_ ?_|((first|refine adr_qs fun Y Yh=>?_|refine adr_y fun Y Yh=>?_);simp[go_sem])|intro _|apply And.intro|(apply Yh;clear Yh Y)));all_goals first|apply Hold.mk|omega|assumption|skip))
  all_goals ((try refine CallT.toA ?_);refine callT_m (.inl ⟨rfl,rfl⟩) (by simp[go_sem]) ?_;intro args ha;simp[go_sem] at ha;subst ha;refine ⟨_, NC, ?_⟩;rintro _ rfl;simp[go_sem];((repeat' (first|refine adr_nil ?_|refine adr_two ?_ ?_|refine adr_kq ?_ ?_|refine adr_three ?_ ?_ ?_|((first|refine adr_qs fun Y Yh=>?_|refine adr_y fun Y Yh=>?_);simp[go_sem])|intro _|apply And.intro|(apply Yh;clear Yh Y)));all_goals first|apply Hold.mk|omega|assumption|skip))
  all_goals
   rename_i gm gb
   refine hK1 _ ?_
   refine hM1 (gb, gm) _ ?_
   (refine cov_of ?_ ?_ <;> simp[go_sem])
 ·obtain ⟨gb0, gm0⟩ := g
  refine awp_renbox 8 900002 rfl rfl (by decide) fun gb => ?_
  simp only [go_sem]
  refine awp_renbm 14 900003 900002 5 rfl rfl (by decide) (by decide) rfl (by decide) fun gm => ?_
  simp only [go_sem, List.set]
  refine awp_seq_k fun K2 hK2 => ?_
  (refine awp_sr fun Y Yh=>?_;simp[go_sem];((repeat' (first|intro _|apply And.intro|(apply Yh;clear Yh Y)));all_goals first|apply Hold.mk|omega|assumption|skip))
  (refine callA_l [900002, 900003] (.inl ⟨rfl,rfl⟩) (by simp[go_sem]) ?_;intro args ha;simp[go_sem] at ha;subst ha;refine ⟨_, _, (SV gb gm), (by simp[go_sem]), ?_⟩;rintro ps r hps ⟨N', l', ⟨rfl, rfl⟩, h3, h0⟩;simp[go_sem];((repeat' (first|intro _|apply And.intro|(apply Yh;clear Yh Y)));all_goals first|apply Hold.mk|omega|assumption|skip))
  refine awp_block ?_
  (refine awp_sr fun Y Yh=>?_;simp[go_sem];((repeat' (first|intro _|apply And.intro|(apply Yh;clear Yh Y)));all_goals first|apply Hold.mk|omega|assumption|skip))
  by_cases he12 : e = 12
  ·(refine awp_if fun T F hT hF=>?_;simp[go_sem, he12];refine hT ?_;clear hT hF T F)
   (refine awp_sr fun Y Yh=>?_;simp[go_sem];((repeat' (first|intro _|apply And.intro|(apply Yh;clear Yh Y)));all_goals first|apply Hold.mk|omega|assumption|skip))
   (refine awp_ret ?_;simp[go_sem, he12])
   exact ⟨gm, ⟨⟨_, rfl⟩, rfl⟩, rfl, ⟨_, rfl⟩⟩
  ·(refine awp_if fun T F hT hF=>?_;simp[go_sem, he12];refine hF ?_;clear hT hF T F)
   (refine awp_sr fun Y Yh=>?_;simp[go_sem];((repeat' (first|intro _|apply And.intro|(apply Yh;clear Yh Y)));all_goals first|apply Hold.mk|omega|assumption|skip))
   by_cases he0 : e = 0
   ·(refine awp_if fun T F hT hF=>?_;simp[go_sem, he0];refine hF ?_;clear hT hF T F)
    refine awp_skip ?_
    refine hK2 _ ?_; clear hK2
    (refine awp_sr fun Y Yh=>?_;simp[go_sem];((repeat' (first|intro _|apply And.intro|(apply Yh;clear Yh Y)));all_goals first|apply Hold.mk|omega|assumption|skip))
    (refine awp_ret ?_;simp[go_sem, he0])
    exact ⟨gm, ⟨⟨_, rfl⟩, rfl⟩, rfl, by rw [h0 he0]⟩
   ·have he3 : e = 3 := by omega
    (refine awp_if fun T F hT hF=>?_;simp[go_sem, he0];refine hT ?_;clear hT hF T F)
    (refine awp_sr fun Y Yh=>?_;simp[go_sem];((repeat' (first|intro _|apply And.intro|(apply Yh;clear Yh Y)));all_goals first|apply Hold.mk|omega|assumption|skip))
    (refine awp_ret ?_;simp[go_sem, he3])
    exact ⟨gm, ⟨⟨_, rfl⟩, rfl⟩, rfl, ⟨_, rfl⟩⟩
set_option maxHeartbeats 8000000 in
theorem Solve_spec (s : Src) (w : List Prs) (b : Int) (hs : SzS s) (hw : SzN w) (hbr : InR b) : PCall Tryz.prog 16 [dSrc s, dPs w, dI b] fun r => r = .tup [dPs (solV s w b).1, dI (solV s w b).2.2] := by 
 refine pcall_of Tryz.func16 rfl rfl Tryz.ntmps16 (rs := [.tmp 6, .tmp 7]) (tys := [34, 35]) rfl rfl (by simp) ?_
 have A := asked_spec s w b hs hw hbr
 by_cases hok : chkV s w = true ∧ 1 ≤ b ∧ b ≤ 100000
 ·have hsu := (chk_parts hok.1).1
  have h15 := (suV_parts hsu).1
  obtain ⟨bud, rfl⟩ : ∃ n : Nat, b = n := ⟨b.toNat, by omega⟩
  have BG := begin_spec s w bud hok.1 (by omega)
  have hpo : (qV s w bud).1.2 = 0 → pksV s (qV s w bud).1.1 = srtP (qV s w bud).1.1 := fun _ => pks_srt hsu (restV_pick hsu _ [] 0 ⟨by simp, by simp⟩)
  have hsv : solV s w bud = (srtP (qV s w bud).1.1, (qV s w bud).2, (qV s w bud).1.2) := by unfold solV; rw [if_pos hok, Int.toNat_natCast]
  have her : (qV s w bud).1.2 ≠ 0 → (qV s w bud).1.1 = [] := rest_err _ _ _
  have T := restV_tlk s w bud (s.length + 1) [] 0 (by omega)
  rw [if_pos hok] at A
  rw [hsv]
  simp only
  unfold qV at *
  generalize restV s w bud (s.length + 1) [] 0 = q at *
  obtain ⟨⟨out, e⟩, t'⟩ := q
  simp only [Tlk] at T BG hpo her ⊢
  (refine awp_sr fun Y Yh=>?_;simp[go_sem];((repeat' (first|intro _|apply And.intro|(apply Yh;clear Yh Y)));all_goals first|apply Hold.mk|omega|assumption|skip))
  refine awp_frzbox 3 rfl rfl ?_
  simp only [go_sem]
  refine awp_seq_k fun K1 hK1 => ?_
  (refine awp_sr fun Y Yh=>?_;simp[go_sem];((repeat' (first|intro _|apply And.intro|(apply Yh;clear Yh Y)));all_goals first|apply Hold.mk|omega|assumption|skip))
  ((try refine CallT.toA ?_);refine callT_m (.inl ⟨rfl,rfl⟩) (by simp[go_sem]) ?_;intro args ha;simp[go_sem] at ha;subst ha;refine ⟨_, A, ?_⟩;rintro _ rfl;simp[go_sem];((repeat' (first|intro _|apply And.intro|(apply Yh;clear Yh Y)));all_goals first|apply Hold.mk|omega|assumption|skip))
  (refine awp_sr fun Y Yh=>?_;simp[go_sem];((repeat' (first|intro _|apply And.intro|(apply Yh;clear Yh Y)));all_goals first|apply Hold.mk|omega|assumption|skip))
  (refine awp_if fun T F hT hF=>?_;simp[go_sem];refine hF ?_;clear hT hF T F)
  refine awp_skip ?_
  refine hK1 _ ?_; clear hK1
  (refine awp_sr fun Y Yh=>?_;simp[go_sem];((repeat' (first|intro _|apply And.intro|(apply Yh;clear Yh Y)));all_goals first|apply Hold.mk|omega|assumption|skip))
  (refine callA_l [900002, 900003] (.inl ⟨rfl,rfl⟩) (by simp[go_sem]) ?_;intro args ha;simp[go_sem] at ha;subst ha;refine ⟨_, _, BG, (by simp[go_sem]), ?_⟩;rintro ps r hps ⟨gb, gm, N', l', ⟨rfl, rfl⟩, h0⟩;simp[go_sem];((repeat' (first|intro _|apply And.intro|(apply Yh;clear Yh Y)));all_goals first|apply Hold.mk|omega|assumption|skip))
  refine awp_seq_k fun K3 hK3 => ?_
  (refine awp_sr fun Y Yh=>?_;simp[go_sem];((repeat' (first|intro _|apply And.intro|(apply Yh;clear Yh Y)));all_goals first|apply Hold.mk|omega|assumption|skip))
  by_cases he0 : e = 0
  ·(refine awp_if fun T F hT hF=>?_;simp[go_sem, he0];refine hF ?_;clear hT hF T F)
   refine awp_skip ?_
   refine hK3 _ ?_; clear hK3
   have hl := h0 he0
   subst hl
   (refine awp_sr fun Y Yh=>?_;simp[go_sem];((repeat' (first|intro _|apply And.intro|(apply Yh;clear Yh Y)));all_goals first|apply Hold.mk|omega|assumption|skip))
   (refine callA_l [900002, 900003] (.inl ⟨rfl,rfl⟩) (by simp[go_sem]) ?_;intro args ha;simp[go_sem] at ha;subst ha;refine ⟨_, _, (picks_spec gb gm s bud t' (decide (e = 12)) N' l' (by omega)), (by simp[go_sem]), ?_⟩;rintro ps r hps ⟨rfl, rfl⟩;simp[go_sem];((repeat' (first|intro _|apply And.intro|(apply Yh;clear Yh Y)));all_goals first|apply Hold.mk|omega|assumption|skip))
   (refine awp_ret ?_;simp[go_sem, he0, hpo he0])
  ·have hoe := her he0
   subst hoe
   (refine awp_if fun T F hT hF=>?_;simp[go_sem, he0];refine hT ?_;clear hT hF T F)
   (refine awp_sr fun Y Yh=>?_;simp[go_sem];((repeat' (first|intro _|apply And.intro|(apply Yh;clear Yh Y)));all_goals first|apply Hold.mk|omega|assumption|skip))
   (refine awp_ret ?_;simp[go_sem, srtP])
 ·rw [if_neg hok] at A
  have hsv : solV s w b = ([], 0, 1) := by unfold solV; rw [if_neg hok]
  rw [hsv]
  (refine awp_sr fun Y Yh=>?_;simp[go_sem];((repeat' (first|intro _|apply And.intro|(apply Yh;clear Yh Y)));all_goals first|apply Hold.mk|omega|assumption|skip))
  refine awp_frzbox 3 rfl rfl ?_
  simp only [go_sem]
  refine awp_seq_k fun K1 hK1 => ?_
  (refine awp_sr fun Y Yh=>?_;simp[go_sem];((repeat' (first|intro _|apply And.intro|(apply Yh;clear Yh Y)));all_goals first|apply Hold.mk|omega|assumption|skip))
  ((try refine CallT.toA ?_);refine callT_m (.inl ⟨rfl,rfl⟩) (by simp[go_sem]) ?_;intro args ha;simp[go_sem] at ha;subst ha;refine ⟨_, A, ?_⟩;rintro _ rfl;simp[go_sem];((repeat' (first|intro _|apply And.intro|(apply Yh;clear Yh Y)));all_goals first|apply Hold.mk|omega|assumption|skip))
  (refine awp_sr fun Y Yh=>?_;simp[go_sem];((repeat' (first|intro _|apply And.intro|(apply Yh;clear Yh Y)));all_goals first|apply Hold.mk|omega|assumption|skip))
  (refine awp_if fun T F hT hF=>?_;simp[go_sem];refine hT ?_;clear hT hF T F)
  (refine awp_sr fun Y Yh=>?_;simp[go_sem];((repeat' (first|intro _|apply And.intro|(apply Yh;clear Yh Y)));all_goals first|apply Hold.mk|omega|assumption|skip))
  (refine awp_ret ?_;simp[go_sem])
theorem indexP_spec (l : List Prs) (f : Nat) (caps : List D) (p : Prs → Bool) (hp : ∀ x ∈ l, PCall Tryz.prog f (dP x :: caps) fun r => r = dB (p x)) (hl : l.length ≤ 1000000) : PCall Tryz.prog 80 [dPs l, .fn f caps] fun r => r = dI (fIx p l) := by
 refine pcall_of Tryz.func80 rfl rfl Tryz.ntmps80 (rs := [.tmp 4]) (tys := [3]) rfl rfl (by simp) ?_
 (refine awp_sr fun Y Yh=>?_;simp[go_sem];((repeat' (first|intro _|apply And.intro|(apply Yh;clear Yh Y)));all_goals first|apply Hold.mk|omega|assumption|skip))
 refine awp_seq_k fun K1 hK1 => ?_
 (refine awp_sr fun Y Yh=>?_;simp[go_sem];((repeat' (first|intro _|apply And.intro|(apply Yh;clear Yh Y)));all_goals first|apply Hold.mk|omega|assumption|skip))
 refine awp_block ?_
 refine awp_loop (σ := Nat) (fun i => ⟨[(0, dPs l), (1, .fn f caps), (7, dI l.length), (8, dI i)], []⟩) (fun i => i ≤ l.length ∧ (l.take i).any p = false) (fun i => l.length - i) 0 (by (refine cov_of ?_ ?_ <;> simp[go_sem])) (by simp) ?_
 rintro i ⟨hi, hany⟩
 (refine awp_sr fun Y Yh=>?_;simp[go_sem];((repeat' (first|intro _|apply And.intro|(apply Yh;clear Yh Y)));all_goals first|apply Hold.mk|omega|assumption|skip))
 refine awp_seq_k fun K2 hK2 => ?_
 (refine awp_if fun T F hT hF=>?_;simp[go_sem];refine BR.intro (fun h3=>hT ?_) (fun h3=>hF ?_);all_goals clear hT hF T F;try simp at h3)
 ·refine awp_skip ?_
  refine hK2 _ ?_; clear hK2
  obtain ⟨x, hx⟩ : ∃ x, l[i]? = some x := ⟨_, List.getElem?_eq_getElem (by omega)⟩
  refine awp_seq_k fun K4 hK4 => ?_
  refine awp_block ?_
  (refine awp_sr fun Y Yh=>?_;simp[go_sem];((repeat' (first|intro _|apply And.intro|(apply Yh;clear Yh Y)));all_goals first|apply Hold.mk|omega|assumption|skip))
  (refine awp_sr fun Y Yh=>?_;simp[go_sem, hx];((repeat' (first|intro _|apply And.intro|(apply Yh;clear Yh Y)));all_goals first|apply Hold.mk|omega|assumption|skip))
  ((try refine CallT.toA ?_);refine callT_m (by first|exact .inl ⟨rfl,rfl⟩|exact .inr rfl) (by simp[go_sem]) ?_;intro args ha;simp[go_sem] at ha;subst ha;refine ⟨_, (hp x (List.mem_of_getElem? hx)), ?_⟩;rintro _ rfl;simp[go_sem];((repeat' (first|intro _|apply And.intro|(apply Yh;clear Yh Y)));all_goals first|apply Hold.mk|omega|assumption|skip))
  (refine awp_if fun T F hT hF=>?_;simp[go_sem];refine BR.intro (fun h5=>hT ?_) (fun h5=>hF ?_);all_goals clear hT hF T F;try simp at h5)
  ·(refine awp_sr fun Y Yh=>?_;simp[go_sem];((repeat' (first|intro _|apply And.intro|(apply Yh;clear Yh Y)));all_goals first|apply Hold.mk|omega|assumption|skip))
   (refine awp_ret ?_;simp[go_sem])
   rw [fIx_at hany hx h5]
  ·refine awp_skip ?_
   refine hK4 _ ?_; clear hK4
   (refine awp_r fun Y Yh=>?_;simp[go_sem];((repeat' (first|intro _|apply And.intro|(apply Yh;clear Yh Y)));all_goals first|apply Hold.mk|omega|assumption|skip))
   refine ⟨i + 1, ?_, ⟨by omega, take_anyG hany hx (by simp [h5])⟩, by omega⟩
   (refine cov_of ?_ ?_ <;> simp[go_sem])
 ·refine awp_exit ?_
  simp only [go_sem]
  refine hK1 _ ?_; clear hK1
  (refine awp_sr fun Y Yh=>?_;simp[go_sem];((repeat' (first|intro _|apply And.intro|(apply Yh;clear Yh Y)));all_goals first|apply Hold.mk|omega|assumption|skip))
  (refine awp_ret ?_;simp[go_sem])
  have : i = l.length := by omega
  subst this
  rw [List.take_length] at hany
  rw [fIx_none hany]
set_option maxHeartbeats 8000000 in
theorem sof_spec (s : Src) (p : Prs) (hsu : suV s = true) : PCall Tryz.prog 82 [dSrc s, dP p] fun r => r = .tup [dVr (fndP s p), dB (fndV s p).isSome] := by 
 refine pcall_of Tryz.func82 rfl rfl Tryz.ntmps82 (rs := [.cell 4 116, .tmp 5]) (tys := [116, 4]) rfl rfl (by simp) ?_
 have hs := suV_sz hsu
 obtain ⟨h15, hsg⟩ := suV_parts hsu
 have GS := gem_spec s p.1 hsu
 have hfd : fndV s p = ((gemV s p.1).getD ([], [])).2.find? (fun v => decide (v.1 = p.2)) := by
  rw [fnd_gem hsu]
  cases hg : gemV s p.1 with
  | none => rfl
  | some g => rfl
 have hGl : ((gemV s p.1).getD ([], [])).2.length ≤ 12 := by
  cases hg : gemV s p.1 with
  | none => simp
  | some g => exact (vuV_parts (hsg g (gemV_mem hg).1).2).1
 unfold fndP
 rw [hfd]
 generalize (gemV s p.1).isSome = gis at *
 generalize (gemV s p.1).getD ([], []) = G at *
 obtain ⟨gn, l⟩ := G
 simp only at hGl ⊢
 have hst := fun k v => @find_step l p.2 k v
 have he : (l.drop l.length).find? (fun v => decide (v.1 = p.2)) = none := by rw [List.drop_length]; rfl
 have hz : l.find? (fun v => decide (v.1 = p.2)) = (l.drop 0).find? (fun v => decide (v.1 = p.2)) := rfl
 rw [hz]
 obtain ⟨F, hF⟩ : ∃ F : Nat → Option Vrs, ∀ i, (l.drop i).find? (fun v => decide (v.1 = p.2)) = F i := ⟨_, fun _ => rfl⟩
 simp only [hF] at hst he ⊢
 clear hF hz hfd
 (refine awp_sr fun Y Yh=>?_;simp[go_sem];((repeat' (first|intro _|apply And.intro|(apply Yh;clear Yh Y)));all_goals first|apply Hold.mk|omega|assumption|skip))
 refine awp_frzbox 2 rfl rfl ?_
 refine awp_frzbox 3 rfl rfl ?_
 simp only [go_sem]
 rename_i gr
 (refine awp_sr fun Y Yh=>?_;simp[go_sem];((repeat' (first|intro _|apply And.intro|(apply Yh;clear Yh Y)));all_goals first|apply Hold.mk|omega|assumption|skip))
 ((try refine CallT.toA ?_);refine callT_m (.inl ⟨rfl,rfl⟩) (by simp[go_sem]) ?_;intro args ha;simp[go_sem] at ha;subst ha;refine ⟨_, GS, ?_⟩;rintro _ rfl;simp[go_sem];((repeat' (first|intro _|apply And.intro|(apply Yh;clear Yh Y)));all_goals first|apply Hold.mk|omega|assumption|skip))
 refine awp_frzbox 6 rfl rfl ?_
 simp only [go_sem]
 refine awp_seq_k fun K1 hK1 => ?_
 (refine awp_sr fun Y Yh=>?_;simp[go_sem];((repeat' (first|intro _|apply And.intro|(apply Yh;clear Yh Y)));all_goals first|apply Hold.mk|omega|assumption|skip))
 refine awp_block ?_
 refine awp_loop (σ := Nat) (fun i => ⟨[(3, .rd [dS p.1, dS p.2]), (4, .ptr 4 gr 0), (18, dVrs l), (19, dI l.length), (20, dI i)], [(4, (gr, .box [dS [], .v (.slice none 0 0)]))]⟩) (fun i => i ≤ l.length ∧ F 0 = F i) (fun i => l.length - i) 0 ?_ ?_ ?_
 ·(refine cov_of ?_ ?_ <;> simp[go_sem])
 ·exact ⟨by omega, rfl⟩
 rintro i ⟨hi, hf⟩
 (refine awp_sr fun Y Yh=>?_;simp[go_sem];((repeat' (first|intro _|apply And.intro|(apply Yh;clear Yh Y)));all_goals first|apply Hold.mk|omega|assumption|skip))
 refine awp_seq_k fun K2 hK2 => ?_
 (refine awp_if fun T F hT hF=>?_;simp[go_sem];refine BR.intro (fun h3=>hT ?_) (fun h3=>hF ?_);all_goals clear hT hF T F;try simp at h3)
 ·refine awp_skip ?_
  refine hK2 _ ?_; clear hK2
  obtain ⟨v, hv⟩ : ∃ v, l[i]? = some v := ⟨_, List.getElem?_eq_getElem (by omega)⟩
  have hst1 := hst i v hv
  refine awp_seq_k fun K4 hK4 => ?_
  refine awp_block ?_
  (refine awp_sr fun Y Yh=>?_;simp[go_sem, hv];((repeat' (first|intro _|apply And.intro|(apply Yh;clear Yh Y)));all_goals first|apply Hold.mk|omega|assumption|skip))
  (refine awp_sr fun Y Yh=>?_;simp[go_sem];((repeat' (first|intro _|apply And.intro|(apply Yh;clear Yh Y)));all_goals first|apply Hold.mk|omega|assumption|skip))
  (refine awp_if fun T F hT hF=>?_;simp[go_sem];refine BR.intro (fun h5=>hT ?_) (fun h5=>hF ?_);all_goals clear hT hF T F;try simp at h5)
  ·rw [if_pos h5] at hst1
   (refine awp_sr fun Y Yh=>?_;simp[go_sem];((repeat' (first|intro _|apply And.intro|(apply Yh;clear Yh Y)));all_goals first|apply Hold.mk|omega|assumption|skip))
   (refine awp_ret ?_;simp[go_sem, hf, hst1])
  ·rw [if_neg h5] at hst1
   refine awp_skip ?_
   refine hK4 _ ?_; clear hK4
   (refine awp_r fun Y Yh=>?_;simp[go_sem];((repeat' (first|intro _|apply And.intro|(apply Yh;clear Yh Y)));all_goals first|apply Hold.mk|omega|assumption|skip))
   refine ⟨i + 1, ?_, ⟨by omega, hf.trans hst1⟩, by omega⟩
   (refine cov_of ?_ ?_ <;> simp[go_sem])
 ·refine awp_exit ?_
  simp only [go_sem]
  refine hK1 _ ?_; clear hK1
  have : i = l.length := by omega
  subst this
  (refine awp_sr fun Y Yh=>?_;simp[go_sem];((repeat' (first|intro _|apply And.intro|(apply Yh;clear Yh Y)));all_goals first|apply Hold.mk|omega|assumption|skip))
  (refine awp_ret ?_;simp[go_sem, hf, he])
set_option maxHeartbeats 8000000 in
theorem spicked_spec (s : Src) (l : List Prs) (hsu : suV s = true) (hl : l.length ≤ 1000000) : PCall Tryz.prog 78 [dSrc s, dPs l] fun r => r = dB (picksQ s l) := by 
 refine pcall_of Tryz.func78 rfl rfl Tryz.ntmps78 (rs := [.tmp 4]) (tys := [4]) rfl rfl (by simp) ?_
 have hbad := fun n (h : upTo (pickS s l) n = false) (hn : n ≤ l.length) => upTo_bad h l.length hn
 have hst := fun i p => @picks_step s l i p
 have hz : upTo (pickS s l) 0 = true := rfl
 unfold picksQ
 generalize upTo (pickS s l) = nt at *
 (refine awp_sr fun Y Yh=>?_;simp[go_sem];((repeat' (first|intro _|apply And.intro|(apply Yh;clear Yh Y)));all_goals first|apply Hold.mk|omega|assumption|skip))
 refine awp_frzbox 2 rfl rfl ?_
 simp only [go_sem]
 refine awp_seq_k fun K1 hK1 => ?_
 (refine awp_sr fun Y Yh=>?_;simp[go_sem];((repeat' (first|intro _|apply And.intro|(apply Yh;clear Yh Y)));all_goals first|apply Hold.mk|omega|assumption|skip))
 refine awp_block ?_
 refine awp_loop (σ := Nat) (fun i => ⟨[(1, dPs l), (2, .rd [dGms s]), (9, dPs l), (10, dI l.length), (11, dI i)], []⟩) (fun i => i ≤ l.length ∧ nt i = true) (fun i => l.length - i) 0 ?_ ?_ ?_
 ·(refine cov_of ?_ ?_ <;> simp[go_sem])
 ·exact ⟨by omega, hz⟩
 rintro i ⟨hi, hn⟩
 (refine awp_sr fun Y Yh=>?_;simp[go_sem];((repeat' (first|intro _|apply And.intro|(apply Yh;clear Yh Y)));all_goals first|apply Hold.mk|omega|assumption|skip))
 refine awp_seq_k fun K4 hK4 => ?_
 (refine awp_if fun T F hT hF=>?_;simp[go_sem];refine BR.intro (fun h5=>hT ?_) (fun h5=>hF ?_);all_goals clear hT hF T F;try simp at h5)
 ·refine awp_skip ?_
  refine hK4 _ ?_; clear hK4
  obtain ⟨x, hx⟩ : ∃ x, l[i]? = some x := ⟨_, List.getElem?_eq_getElem (by omega)⟩
  have V := sof_spec s x hsu
  have hst1 := hst i x hx hn
  have hbad1 := fun h => hbad (i + 1) h (by omega)
  generalize fndP s x = fp at *
  generalize (fndV s x).isSome = vb at *
  refine awp_seq_k fun K6 hK6 => ?_
  refine awp_block ?_
  (refine awp_sr fun Y Yh=>?_;simp[go_sem, hx];((repeat' (first|intro _|apply And.intro|(apply Yh;clear Yh Y)));all_goals first|apply Hold.mk|omega|assumption|skip))
  (refine awp_sr fun Y Yh=>?_;simp[go_sem];((repeat' (first|intro _|apply And.intro|(apply Yh;clear Yh Y)));all_goals first|apply Hold.mk|omega|assumption|skip))
  ((try refine CallT.toA ?_);refine callT_m (.inl ⟨rfl,rfl⟩) (by simp[go_sem]) ?_;intro args ha;simp[go_sem] at ha;subst ha;refine ⟨_, V, ?_⟩;rintro _ rfl;simp[go_sem];((repeat' (first|intro _|apply And.intro|(apply Yh;clear Yh Y)));all_goals first|apply Hold.mk|omega|assumption|skip))
  cases vb with
  | false =>
   have hF := hbad1 (by rw [hst1]; simp)
   ((refine awp_dr (.qs [0, 1, 2] (.sk 3 (.sk 4 (.sk 5 (.sk 6 (.sk 7 (.sk 8 (.sk 9 (.sk 10 (.sk 12 (.sk 11 (.sk 13 (.sk 14 (.sk 15 (.qs [16] (.nil)))))))))))))))) (by kernel_rfl) ?_ ?_ ?_ ?_);kernel_rfl;exact (by decide +kernel);kernel_rfl;intro Y Yh;((repeat' (first|refine adr_nil ?_|((first|refine adr_qs fun Y Yh=>?_|refine adr_y fun Y Yh=>?_);simp[go_sem, undef])|intro _|apply And.intro|(apply Yh;clear Yh Y)));all_goals first|apply Hold.mk|omega|assumption|skip))
   (refine awp_if fun T F hT hF=>?_;simp[go_sem];refine hT ?_;clear hT hF T F)
   (refine awp_sr fun Y Yh=>?_;simp[go_sem];((repeat' (first|intro _|apply And.intro|(apply Yh;clear Yh Y)));all_goals first|apply Hold.mk|omega|assumption|skip))
   (refine awp_ret ?_;simp[go_sem, hF])
  | true =>
   by_cases h0 : i = 0
   ·subst h0
    have hT : nt 1 = true := by rw [hst1]; simp
    ((refine awp_dr (.qs [0, 1, 2, 3, 4, 5] (.sk 6 (.sk 7 (.sk 8 (.sk 9 (.sk 10 (.sk 12 (.sk 11 (.sk 13 (.sk 14 (.qs [15, 16] (.nil)))))))))))) (by kernel_rfl) ?_ ?_ ?_ ?_);kernel_rfl;exact (by decide +kernel);kernel_rfl;intro Y Yh;((repeat' (first|refine adr_nil ?_|((first|refine adr_qs fun Y Yh=>?_|refine adr_y fun Y Yh=>?_);simp[go_sem, undef])|intro _|apply And.intro|(apply Yh;clear Yh Y)));all_goals first|apply Hold.mk|omega|assumption|skip))
    (refine awp_if fun T F hT hF=>?_;simp[go_sem];refine hF ?_;clear hT hF T F)
    refine awp_skip ?_
    refine hK6 _ ?_; clear hK6
    (refine awp_r fun Y Yh=>?_;simp[go_sem];((repeat' (first|intro _|apply And.intro|(apply Yh;clear Yh Y)));all_goals first|apply Hold.mk|omega|assumption|skip))
    refine ⟨1, ?_, ⟨by omega, hT⟩, by omega⟩
    (refine cov_of ?_ ?_ <;> simp[go_sem])
   ·obtain ⟨j, rfl⟩ : ∃ j, i = j + 1 := ⟨i - 1, by omega⟩
    obtain ⟨y, hy⟩ : ∃ y, l[j]? = some y := ⟨_, List.getElem?_eq_getElem (by omega)⟩
    have hi1 : ((j : Int) + 1 - 1).toNat = j := by omega
    have hi2 : (j : Int) + 1 - 1 = j := by omega
    have hi3 : ((j : Int) + 1).toNat = j + 1 := by omega
    have hpos : (0 : Int) < (j : Int) + 1 := by omega
    simp only [Nat.add_sub_cancel, hy] at hst1
    generalize hlb : Op.bytesLess y.1 x.1 = lb at *
    cases lb with
    | false =>
     have hF := hbad1 (by rw [hst1]; simp)
     ((refine awp_dr (.qs [0, 1, 2, 3, 4, 5, 6, 7, 8, 9, 10, 12, 11, 13, 14, 15, 16] (.nil)) (by kernel_rfl) ?_ ?_ ?_ ?_);kernel_rfl;exact (by decide +kernel);kernel_rfl;intro Y Yh;((repeat' (first|refine adr_nil ?_|((first|refine adr_qs fun Y Yh=>?_|refine adr_y fun Y Yh=>?_);simp[go_sem, hy, hi1, hi2, hi3, hpos, hlb])|intro _|apply And.intro|(apply Yh;clear Yh Y)));all_goals first|apply Hold.mk|omega|assumption|skip))
     (refine awp_if fun T F hT hF=>?_;simp[go_sem];refine hT ?_;clear hT hF T F)
     (refine awp_sr fun Y Yh=>?_;simp[go_sem];((repeat' (first|intro _|apply And.intro|(apply Yh;clear Yh Y)));all_goals first|apply Hold.mk|omega|assumption|skip))
     (refine awp_ret ?_;simp[go_sem, hF])
    | true =>
     have hT : nt (j + 1 + 1) = true := by rw [hst1]; simp
     ((refine awp_dr (.qs [0, 1, 2, 3, 4, 5, 6, 7, 8, 9, 10, 12, 11, 13, 14, 15, 16] (.nil)) (by kernel_rfl) ?_ ?_ ?_ ?_);kernel_rfl;exact (by decide +kernel);kernel_rfl;intro Y Yh;((repeat' (first|refine adr_nil ?_|((first|refine adr_qs fun Y Yh=>?_|refine adr_y fun Y Yh=>?_);simp[go_sem, hy, hi1, hi2, hi3, hpos, hlb])|intro _|apply And.intro|(apply Yh;clear Yh Y)));all_goals first|apply Hold.mk|omega|assumption|skip))
     (refine awp_if fun T F hT hF=>?_;simp[go_sem];refine hF ?_;clear hT hF T F)
     refine awp_skip ?_
     refine hK6 _ ?_; clear hK6
     (refine awp_r fun Y Yh=>?_;simp[go_sem];((repeat' (first|intro _|apply And.intro|(apply Yh;clear Yh Y)));all_goals first|apply Hold.mk|omega|assumption|skip))
     refine ⟨j + 1 + 1, ?_, ⟨by omega, hT⟩, by omega⟩
     (refine cov_of ?_ ?_ <;> simp[go_sem])
 ·refine awp_exit ?_
  simp only [go_sem]
  refine hK1 _ ?_; clear hK1
  have : i = l.length := by omega
  subst this
  (refine awp_sr fun Y Yh=>?_;simp[go_sem];((repeat' (first|intro _|apply And.intro|(apply Yh;clear Yh Y)));all_goals first|apply Hold.mk|omega|assumption|skip))
  (refine awp_ret ?_;simp[go_sem, hn])
theorem indexN_spec (l : List Prs) (f : Nat) (caps : List D) (p : Prs → Bool) (hp : ∀ x ∈ l, PCall Tryz.prog f (dP x :: caps) fun r => r = dB (p x)) (hl : l.length ≤ 1000000) : PCall Tryz.prog 130 [dPs l, .fn f caps] fun r => r = dI (fIx p l) := by
 refine pcall_of Tryz.func130 rfl rfl Tryz.ntmps130 (rs := [.tmp 4]) (tys := [3]) rfl rfl (by simp) ?_
 (refine awp_sr fun Y Yh=>?_;simp[go_sem];((repeat' (first|intro _|apply And.intro|(apply Yh;clear Yh Y)));all_goals first|apply Hold.mk|omega|assumption|skip))
 refine awp_seq_k fun K1 hK1 => ?_
 (refine awp_sr fun Y Yh=>?_;simp[go_sem];((repeat' (first|intro _|apply And.intro|(apply Yh;clear Yh Y)));all_goals first|apply Hold.mk|omega|assumption|skip))
 refine awp_block ?_
 refine awp_loop (σ := Nat) (fun i => ⟨[(0, dPs l), (1, .fn f caps), (7, dI l.length), (8, dI i)], []⟩) (fun i => i ≤ l.length ∧ (l.take i).any p = false) (fun i => l.length - i) 0 (by (refine cov_of ?_ ?_ <;> simp[go_sem])) (by simp) ?_
 rintro i ⟨hi, hany⟩
 (refine awp_sr fun Y Yh=>?_;simp[go_sem];((repeat' (first|intro _|apply And.intro|(apply Yh;clear Yh Y)));all_goals first|apply Hold.mk|omega|assumption|skip))
 refine awp_seq_k fun K2 hK2 => ?_
 (refine awp_if fun T F hT hF=>?_;simp[go_sem];refine BR.intro (fun h3=>hT ?_) (fun h3=>hF ?_);all_goals clear hT hF T F;try simp at h3)
 ·refine awp_skip ?_
  refine hK2 _ ?_; clear hK2
  obtain ⟨x, hx⟩ : ∃ x, l[i]? = some x := ⟨_, List.getElem?_eq_getElem (by omega)⟩
  refine awp_seq_k fun K4 hK4 => ?_
  refine awp_block ?_
  (refine awp_sr fun Y Yh=>?_;simp[go_sem];((repeat' (first|intro _|apply And.intro|(apply Yh;clear Yh Y)));all_goals first|apply Hold.mk|omega|assumption|skip))
  (refine awp_sr fun Y Yh=>?_;simp[go_sem, hx];((repeat' (first|intro _|apply And.intro|(apply Yh;clear Yh Y)));all_goals first|apply Hold.mk|omega|assumption|skip))
  ((try refine CallT.toA ?_);refine callT_m (by first|exact .inl ⟨rfl,rfl⟩|exact .inr rfl) (by simp[go_sem]) ?_;intro args ha;simp[go_sem] at ha;subst ha;refine ⟨_, (hp x (List.mem_of_getElem? hx)), ?_⟩;rintro _ rfl;simp[go_sem];((repeat' (first|intro _|apply And.intro|(apply Yh;clear Yh Y)));all_goals first|apply Hold.mk|omega|assumption|skip))
  (refine awp_if fun T F hT hF=>?_;simp[go_sem];refine BR.intro (fun h5=>hT ?_) (fun h5=>hF ?_);all_goals clear hT hF T F;try simp at h5)
  ·(refine awp_sr fun Y Yh=>?_;simp[go_sem];((repeat' (first|intro _|apply And.intro|(apply Yh;clear Yh Y)));all_goals first|apply Hold.mk|omega|assumption|skip))
   (refine awp_ret ?_;simp[go_sem])
   rw [fIx_at hany hx h5]
  ·refine awp_skip ?_
   refine hK4 _ ?_; clear hK4
   (refine awp_r fun Y Yh=>?_;simp[go_sem];((repeat' (first|intro _|apply And.intro|(apply Yh;clear Yh Y)));all_goals first|apply Hold.mk|omega|assumption|skip))
   refine ⟨i + 1, ?_, ⟨by omega, take_anyG hany hx (by simp [h5])⟩, by omega⟩
   (refine cov_of ?_ ?_ <;> simp[go_sem])
 ·refine awp_exit ?_
  simp only [go_sem]
  refine hK1 _ ?_; clear hK1
  (refine awp_sr fun Y Yh=>?_;simp[go_sem];((repeat' (first|intro _|apply And.intro|(apply Yh;clear Yh Y)));all_goals first|apply Hold.mk|omega|assumption|skip))
  (refine awp_ret ?_;simp[go_sem])
  have : i = l.length := by omega
  subst this
  rw [List.take_length] at hany
  rw [fIx_none hany]
theorem anyN_spec (l : List Prs) (f : Nat) (caps : List D) (p : Prs → Bool) (hp : ∀ x ∈ l, PCall Tryz.prog f (dP x :: caps) fun r => r = dB (p x)) (hl : l.length ≤ 1000000) : PCall Tryz.prog 83 [dPs l, .fn f caps] fun r => r = dB (l.any p) := by
 refine pcall_of Tryz.func83 rfl rfl Tryz.ntmps83 (rs := [.tmp 4]) (tys := [4]) rfl rfl (by simp) ?_
 (refine awp_sr fun Y Yh=>?_;simp[go_sem];((repeat' (first|intro _|apply And.intro|(apply Yh;clear Yh Y)));all_goals first|apply Hold.mk|omega|assumption|skip))
 (refine awp_sr fun Y Yh=>?_;simp[go_sem];((repeat' (first|intro _|apply And.intro|(apply Yh;clear Yh Y)));all_goals first|apply Hold.mk|omega|assumption|skip))
 ((try refine CallT.toA ?_);refine callT_m (.inl ⟨rfl,rfl⟩) (by simp[go_sem]) ?_;intro args ha;simp[go_sem] at ha;subst ha;refine ⟨_, (indexN_spec l f caps p hp hl), ?_⟩;rintro _ rfl;simp[go_sem];((repeat' (first|intro _|apply And.intro|(apply Yh;clear Yh Y)));all_goals first|apply Hold.mk|omega|assumption|skip))
 (refine awp_ret ?_;simp[go_sem, fIx_any])
theorem anyP_spec (l : List Prs) (f : Nat) (caps : List D) (p : Prs → Bool) (hp : ∀ x ∈ l, PCall Tryz.prog f (dP x :: caps) fun r => r = dB (p x)) (hl : l.length ≤ 1000000) : PCall Tryz.prog 85 [dPs l, .fn f caps] fun r => r = dB (l.any p) := by
 refine pcall_of Tryz.func85 rfl rfl Tryz.ntmps85 (rs := [.tmp 4]) (tys := [4]) rfl rfl (by simp) ?_
 (refine awp_sr fun Y Yh=>?_;simp[go_sem];((repeat' (first|intro _|apply And.intro|(apply Yh;clear Yh Y)));all_goals first|apply Hold.mk|omega|assumption|skip))
 (refine awp_sr fun Y Yh=>?_;simp[go_sem];((repeat' (first|intro _|apply And.intro|(apply Yh;clear Yh Y)));all_goals first|apply Hold.mk|omega|assumption|skip))
 ((try refine CallT.toA ?_);refine callT_m (.inl ⟨rfl,rfl⟩) (by simp[go_sem]) ?_;intro args ha;simp[go_sem] at ha;subst ha;refine ⟨_, (indexP_spec l f caps p hp hl), ?_⟩;rintro _ rfl;simp[go_sem];((repeat' (first|intro _|apply And.intro|(apply Yh;clear Yh Y)));all_goals first|apply Hold.mk|omega|assumption|skip))
 (refine awp_ret ?_;simp[go_sem, fIx_any])
end Go.Proofs.YteekfnhhlcmcgaaGreatDoor
namespace Go.Lk
open Go.Ver
theorem pkd_idx {l : List Prs} (h : NumOk l) (n : Bs) : (l.any (fun p => decide (p.1 = n)) = false ∧ pkdV l n = []) ∨ ∃ p, l.any (fun p => decide (p.1 = n)) = true ∧ l[l.findIdx fun p => decide (p.1 = n)]? = some p ∧ pkdV l n = p.2 ∧ p.2 ≠ [] ∧ p.1 = n := by
 cases hf : l.find? (fun x => decide (x.1 = n)) with
 | none =>
  refine .inl ⟨?_, (pkd_none h).2 hf⟩
  rw [List.any_eq_false]
  intro x hx
  simpa using List.find?_eq_none.1 hf x hx
 | some p =>
  have hm := List.mem_of_find?_eq_some hf
  have hp := List.find?_some hf
  refine .inr ⟨p, by rw [List.any_eq_true]; exact ⟨p, hm, hp⟩, ?_, ?_, h p hm, by simpa using hp⟩
  ·clear hm h
   induction l with
   | nil => cases hf
   | cons x l ih =>
    rw [List.find?_cons] at hf
    rw [List.findIdx_cons]
    cases hx : decide (x.1 = n) with
    | true =>
     rw [hx] at hf
     simp only [cond_true]
     simpa using hf
    | false =>
     rw [hx] at hf
     simp only [cond_false, List.getElem?_cons_succ]
     exact ih hf
  ·unfold pkdV
   rw [hf]; rfl
end Go.Lk
namespace Go.Proofs.YteekfnhhlcmcgaaGreatDoor
open Go.Eng Go.Wh Go.Ver Go.Lk
set_option maxRecDepth 20000
attribute [local irreducible] AG CallA CallT AWp PCall ACall AgC
theorem nclone_own (nm : Nat) (l : List Prs) (hl : l.length ≤ 1000000) (h9 : 900000 ≤ nm) : ACall Tryz.prog 69 [dPs l] [] [nm] fun ps r => ∃ g, ps = [(g, .row 114 2 (l.map cP))] ∧ r = .own nm g := by 
 refine acall_of Tryz.func69 rfl rfl Tryz.ntmps69 (rs := [.tmp 2]) (tys := [38]) rfl rfl (by simp) (by simp) ?_
 cases l with
 | nil =>
  (refine awp_sr fun Y Yh=>?_;simp[go_sem];((repeat' (first|(refine ag_x ?_;simp[go_sem])|intro _|apply And.intro|(apply Yh;clear Yh Y)));all_goals first|apply Hold.mk|omega|assumption|skip))
  refine awp_seq_k fun K1 hK1 => ?_
  (refine awp_sr fun Y Yh=>?_;simp[go_sem];((repeat' (first|(refine ag_x ?_;simp[go_sem])|intro _|apply And.intro|(apply Yh;clear Yh Y)));all_goals first|apply Hold.mk|omega|assumption|skip))
  ·(refine awp_if fun T F hT hF=>?_;simp[go_sem];refine hF ?_;clear hT hF T F)
   refine awp_skip ?_
   refine hK1 _ ?_; clear hK1
   (refine awp_sr fun Y Yh=>?_;simp[go_sem];((repeat' (first|(refine ag_x ?_;simp[go_sem])|intro _|apply And.intro|(apply Yh;clear Yh Y)));all_goals first|apply Hold.mk|omega|assumption|skip))
   refine awp_renrow 2 nm rfl rfl (fun _ => h9) fun g => ?_
   simp only [go_sem]
   refine awp_ret ?_
   simp [go_sem]
  ·(refine awp_if fun T F hT hF=>?_;simp[go_sem];refine hT ?_;clear hT hF T F)
   (refine awp_sr fun Y Yh=>?_;simp[go_sem];((repeat' (first|(refine ag_x ?_;simp[go_sem])|intro _|apply And.intro|(apply Yh;clear Yh Y)));all_goals first|apply Hold.mk|omega|assumption|skip))
   refine awp_nilslot 2 nm 114 2 rfl fun g => ?_
   simp only [go_sem]
   refine awp_ret ?_
   simp [go_sem]
 | cons x r =>
  simp only [List.length_cons] at hl
  (refine awp_sr fun Y Yh=>?_;simp[go_sem];((repeat' (first|(refine ag_x ?_;simp[go_sem])|intro _|apply And.intro|(apply Yh;clear Yh Y)));all_goals first|apply Hold.mk|omega|assumption|skip))
  refine awp_seq_k fun K1 hK1 => ?_
  (refine awp_sr fun Y Yh=>?_;simp[go_sem];((repeat' (first|(refine ag_x ?_;simp[go_sem])|intro _|apply And.intro|(apply Yh;clear Yh Y)));all_goals first|apply Hold.mk|omega|assumption|skip))
  refine awp_if fun T F hT hF => ?_
  simp [go_sem]
  refine hF ?_
  refine awp_skip ?_
  refine hK1 _ ?_; clear hK1
  (refine awp_sr fun Y Yh=>?_;simp[go_sem];((repeat' (first|(refine ag_x ?_;simp[go_sem])|intro _|apply And.intro|(apply Yh;clear Yh Y)));all_goals first|apply Hold.mk|omega|assumption|skip))
  refine awp_renrow 2 nm rfl rfl (fun _ => h9) fun g => ?_
  simp only [go_sem]
  refine awp_ret ?_
  simp [go_sem]
theorem fndP_len {s : Src} (hsu : suV s = true) (p : Prs) : (fndP s p).2.length ≤ 6 := by
 unfold fndP
 cases h : fndV s p with
 | none => simp
 | some v =>
  obtain ⟨g, a, b, c, d⟩ := fndV_mem h
  exact (nuV_parts ((vuV_parts ((suV_parts hsu).2 g a).2).2 v c).2).1
theorem allN_len6 {s : Src} (hsu : suV s = true) (w : List Prs) : ∀ l : List Prs, (allN s w l).length ≤ w.length + l.length * 6
 | [] => by simp [allN]
 | p :: l => by
  have ih := allN_len6 hsu w l
  have hp := fndP_len hsu p
  unfold allN at ih ⊢
  simp only [List.length_append, List.flatMap_cons, List.length_cons] at ih ⊢
  omega
set_option maxHeartbeats 8000000 in
theorem sall_spec (s : Src) (w l : List Prs) (hsu : suV s = true) (hw : w.length ≤ 1000000) (hl : l.length ≤ 1000000) : PCall Tryz.prog 90 [dSrc s, dPs w, dPs l] fun r => r = dPs (allN s w l) := by 
 refine pcall_of Tryz.func90 rfl rfl Tryz.ntmps90 (rs := [.tmp 6]) (tys := [38]) rfl rfl (by simp) ?_
 have hst := fun i p => @allN_step s w l i p
 have h0 : allN s w (l.take 0) = w := allN_nil s w
 have hall : allN s w (l.take l.length) = allN s w l := by rw [List.take_length]
 have hlen := fun i => allN_len6 hsu w (l.take i)
 obtain ⟨F, hF⟩ : ∃ F : Nat → List Prs, ∀ i, allN s w (l.take i) = F i := ⟨_, fun _ => rfl⟩
 simp only [hF] at hst h0 hall hlen
 rw [← hall]
 clear hF hall
 (refine awp_sr fun Y Yh=>?_;simp[go_sem];((repeat' (first|(refine ag_x ?_;simp[go_sem])|intro _|apply And.intro|(apply Yh;clear Yh Y)));all_goals first|apply Hold.mk|omega|assumption|skip))
 refine awp_frzbox 3 rfl rfl ?_
 simp only [go_sem]
 (refine awp_sr fun Y Yh=>?_;simp[go_sem];((repeat' (first|(refine ag_x ?_;simp[go_sem])|intro _|apply And.intro|(apply Yh;clear Yh Y)));all_goals first|apply Hold.mk|omega|assumption|skip))
 (refine callA_l [900012] (.inl ⟨rfl,rfl⟩) (by simp[go_sem]) ?_;intro args ha;simp[go_sem] at ha;subst ha;refine ⟨_, _, (nclone_own 900012 w hw (by decide)), (by simp[go_sem]), ?_⟩;rintro ps r hps ⟨g0, rfl, rfl⟩;simp[go_sem];((repeat' (first|(refine ag_x ?_;simp[go_sem])|intro _|apply And.intro|(apply Yh;clear Yh Y)));all_goals first|apply Hold.mk|omega|assumption|skip))
 refine awp_seq_k fun K1 hK1 => ?_
 (refine awp_sr fun Y Yh=>?_;simp[go_sem];((repeat' (first|(refine ag_x ?_;simp[go_sem])|intro _|apply And.intro|(apply Yh;clear Yh Y)));all_goals first|apply Hold.mk|omega|assumption|skip))
 refine awp_block ?_
 refine awp_loop (σ := Nat × Nat) (fun x => ⟨[(3, .rd [dGms s]), (7, .own 900012 x.2), (14, dPs l), (15, dI l.length), (16, dI x.1)], [(900012, (x.2, .row 114 2 ((F x.1).map cP)))]⟩) (fun x => x.1 ≤ l.length) (fun x => l.length - x.1) (0, g0) ?_ ?_ ?_
 ·(refine cov_of ?_ ?_ <;> simp[go_sem, h0])
 ·simp
 rintro ⟨i, g⟩ hi
 simp only at hi
 (refine awp_sr fun Y Yh=>?_;simp[go_sem];((repeat' (first|(refine ag_x ?_;simp[go_sem])|intro _|apply And.intro|(apply Yh;clear Yh Y)));all_goals first|apply Hold.mk|omega|assumption|skip))
 refine awp_seq_k fun K2 hK2 => ?_
 (refine awp_if fun T F hT hF=>?_;simp[go_sem];refine BR.intro (fun h3=>hT ?_) (fun h3=>hF ?_);all_goals clear hT hF T F;try simp at h3)
 ·refine awp_skip ?_
  refine hK2 _ ?_; clear hK2
  obtain ⟨p, hp⟩ : ∃ p, l[i]? = some p := ⟨_, List.getElem?_eq_getElem (by omega)⟩
  have hst1 := hst i p hp
  have hl1 := hlen i
  have hl2 : (l.take i).length ≤ l.length := by simp; omega
  have V := sof_spec s p hsu
  have hpl := fndP_len hsu p
  generalize fndP s p = fp at *
  generalize (fndV s p).isSome = vb at *
  refine awp_seq_k fun K4 hK4 => ?_
  refine awp_block ?_
  (refine awp_sr fun Y Yh=>?_;simp[go_sem, hp];((repeat' (first|(refine ag_x ?_;simp[go_sem, hp])|intro _|apply And.intro|(apply Yh;clear Yh Y)));all_goals first|apply Hold.mk|omega|assumption|skip))
  (refine awp_sr fun Y Yh=>?_;simp[go_sem];((repeat' (first|(refine ag_x ?_;simp[go_sem])|intro _|apply And.intro|(apply Yh;clear Yh Y)));all_goals first|apply Hold.mk|omega|assumption|skip))
  ((try refine CallT.toA ?_);refine callT_m (.inl ⟨rfl,rfl⟩) (by simp[go_sem]) ?_;intro args ha;simp[go_sem] at ha;subst ha;refine ⟨_, V, ?_⟩;rintro _ rfl;simp[go_sem];((repeat' (first|(refine ag_x ?_;simp[go_sem])|intro _|apply And.intro|(apply Yh;clear Yh Y)));all_goals first|apply Hold.mk|omega|assumption|skip))
  (refine awp_r fun Y Yh=>?_;simp[go_sem];((repeat' (first|(refine ag_x ?_;simp[go_sem])|intro _|apply And.intro|(apply Yh;clear Yh Y)));all_goals first|apply Hold.mk|omega|assumption|skip))
  rename_i g1 g2
  refine hK4 _ ?_; clear hK4
  (refine awp_r fun Y Yh=>?_;simp[go_sem];((repeat' (first|(refine ag_x ?_;simp[go_sem])|intro _|apply And.intro|(apply Yh;clear Yh Y)));all_goals first|apply Hold.mk|omega|assumption|skip))
  refine ⟨(i + 1, g2), ?_, by simp only; omega, by simp only; omega⟩
  simp only [hst1]
  (refine cov_of ?_ ?_ <;> simp[go_sem])
 ·refine awp_exit ?_
  simp only [go_sem]
  refine hK1 _ ?_; clear hK1
  have : i = l.length := by omega
  subst this
  (refine awp_sr fun Y Yh=>?_;simp[go_sem];((repeat' (first|(refine ag_x ?_;simp[go_sem])|intro _|apply And.intro|(apply Yh;clear Yh Y)));all_goals first|apply Hold.mk|omega|assumption|skip))
  refine awp_frzrow 6 rfl rfl ?_
  simp only [go_sem]
  (refine awp_ret ?_;simp[go_sem])
theorem missing1_spec (p n : Prs) : PCall Tryz.prog 131 [dP p, .rd [dS n.1, dS n.2]] fun r => r = dB (decide (p.1 = n.1)) := by 
 refine pcall_of Tryz.func131 rfl rfl Tryz.ntmps131 (rs := [.tmp 3]) (tys := [4]) rfl rfl (by simp) ?_
 (refine awp_sr fun Y Yh=>?_;simp[go_sem];((repeat' (first|(refine ag_x ?_;simp[go_sem])|intro _|apply And.intro|(apply Yh;clear Yh Y)));all_goals first|apply Hold.mk|omega|assumption|skip))
 (refine awp_sr fun Y Yh=>?_;simp[go_sem];((repeat' (first|(refine ag_x ?_;simp[go_sem])|intro _|apply And.intro|(apply Yh;clear Yh Y)));all_goals first|apply Hold.mk|omega|assumption|skip))
 (refine awp_ret ?_;simp[go_sem])
 by_cases h : p.1 = n.1 <;> simp [h]
set_option maxHeartbeats 8000000 in
theorem missing_spec (all l : List Prs) (hal : all.length ≤ 100000000) (ha : ∀ x ∈ all, Sz1 x) (hl : l.length ≤ 1000000) (hlz : ∀ x ∈ l, Sz1 x) (hno : NumOk l) : PCall Tryz.prog 89 [dPs all, dPs l] fun r => r = dPs (lackV all l) := by 
 refine pcall_of Tryz.func89 rfl rfl Tryz.ntmps89 (rs := [.tmp 4]) (tys := [38]) rfl rfl (by simp) ?_
 have hst := fun i n => @lack_step all l i n
 have h0 : lackV (all.take 0) l = [] := rfl
 have hall : lackV (all.take all.length) l = lackV all l := by rw [List.take_length]
 have hlen := fun i => lack_len (all.take i) l
 obtain ⟨F, hF⟩ : ∃ F : Nat → List Prs, ∀ i, lackV (all.take i) l = F i := ⟨_, fun _ => rfl⟩
 simp only [hF] at hst h0 hall hlen
 rw [← hall]
 clear hF hall
 (refine awp_sr fun Y Yh=>?_;simp[go_sem];((repeat' (first|(refine ag_x ?_;simp[go_sem])|intro _|apply And.intro|(apply Yh;clear Yh Y)));all_goals first|apply Hold.mk|omega|assumption|skip))
 (refine awp_sr fun Y Yh=>?_;simp[go_sem];((repeat' (first|(refine ag_x ?_;simp[go_sem])|intro _|apply And.intro|(apply Yh;clear Yh Y)));all_goals first|apply Hold.mk|omega|assumption|skip))
 refine awp_nilslot 5 900013 114 2 rfl fun g5 => ?_
 simp only [go_sem]
 refine awp_seq_k fun K1 hK1 => ?_
 (refine awp_sr fun Y Yh=>?_;simp[go_sem];((repeat' (first|(refine ag_x ?_;simp[go_sem])|intro _|apply And.intro|(apply Yh;clear Yh Y)));all_goals first|apply Hold.mk|omega|assumption|skip))
 refine awp_block ?_
 refine awp_loop (σ := Nat × Nat) (fun x => ⟨[(1, dPs l), (5, .own 900013 x.2), (9, dPs all), (10, dI all.length), (11, dI x.1)], [(900013, (x.2, .row 114 2 ((F x.1).map cP)))]⟩) (fun x => x.1 ≤ all.length) (fun x => all.length - x.1) (0, g5) ?_ ?_ ?_
 ·(refine cov_of ?_ ?_ <;> simp[go_sem, h0])
 ·simp
 rintro ⟨i, g⟩ hi
 simp only at hi
 (refine awp_sr fun Y Yh=>?_;simp[go_sem];((repeat' (first|(refine ag_x ?_;simp[go_sem])|intro _|apply And.intro|(apply Yh;clear Yh Y)));all_goals first|apply Hold.mk|omega|assumption|skip))
 refine awp_seq_k fun K2 hK2 => ?_
 (refine awp_if fun T F hT hF=>?_;simp[go_sem];refine BR.intro (fun h3=>hT ?_) (fun h3=>hF ?_);all_goals clear hT hF T F;try simp at h3)
 ·refine awp_skip ?_
  refine hK2 _ ?_; clear hK2
  obtain ⟨n, hn⟩ : ∃ n, all[i]? = some n := ⟨_, List.getElem?_eq_getElem (by omega)⟩
  have hst1 := hst i n hn
  have hl1 := hlen i
  have hl2 : (all.take i).length ≤ all.length := by simp; omega
  have hnz := (ha n (List.mem_of_getElem? hn)).2
  have IX := indexP_spec l 131 [.rd [dS n.1, dS n.2]] (fun p => decide (p.1 = n.1)) (fun p _ => missing1_spec p n) hl
  refine awp_seq_k fun K4 hK4 => ?_
  have tl4 : ∀ S' g', Cov S' ⟨[(1, dPs l), (5, .own 900013 g'), (9, dPs all), (10, dI all.length), (11, dI i)], [(900013, (g', .row 114 2 ((F (i + 1)).map cP)))]⟩ → K4 S' := fun S' g' hS => by
   refine hK4 _ ?_; clear hK4
   refine awp_cov hS ?_; clear hS
   (refine awp_r fun Y Yh=>?_;simp[go_sem];((repeat' (first|(refine ag_x ?_;simp[go_sem])|intro _|apply And.intro|(apply Yh;clear Yh Y)));all_goals first|apply Hold.mk|omega|assumption|skip))
   refine ⟨(i + 1, g'), ?_, by simp only; omega, by simp only; omega⟩
   (refine cov_of ?_ ?_ <;> simp[go_sem])
  clear hK4
  refine awp_block ?_
  rcases pkd_idx hno n.1 with ⟨q1, q2⟩ | ⟨p, q1, q2, q3, q4, q5⟩
  ·have hlk : lackN l n = true := by unfold lackN; simp [q2]
   rw [if_pos hlk] at hst1
   have hfx : fIx (fun p : Prs => decide (p.1 = n.1)) l = -1 := fIx_none q1
   rw [hfx] at IX
   (refine awp_sr fun Y Yh=>?_;simp[go_sem, hn];((repeat' (first|(refine ag_x ?_;simp[go_sem, hn])|intro _|apply And.intro|(apply Yh;clear Yh Y)));all_goals first|apply Hold.mk|omega|assumption|skip))
   (refine awp_sr fun Y Yh=>?_;simp[go_sem];((repeat' (first|(refine ag_x ?_;simp[go_sem])|intro _|apply And.intro|(apply Yh;clear Yh Y)));all_goals first|apply Hold.mk|omega|assumption|skip))
   ((try refine CallT.toA ?_);refine callT_f (.inl ⟨rfl,rfl⟩) ?_;intro args ha;simp[go_sem] at ha;subst ha;refine ⟨_, IX, ?_⟩;rintro _ rfl;refine ⟨rfl, ?_⟩;simp[go_sem];((repeat' (first|(refine ag_x ?_;simp[go_sem])|intro _|apply And.intro|(apply Yh;clear Yh Y)));all_goals first|apply Hold.mk|omega|assumption|skip))
   ((refine awp_dr (.qs [0, 1, 2] (.sk 3 (.sk 4 (.sk 5 (.sk 6 (.sk 8 (.sk 7 (.sk 9 (.sk 10 (.sk 11 (.qs [12] (.nil)))))))))))) (by kernel_rfl) ?_ ?_ ?_ ?_);kernel_rfl;exact (by decide +kernel);kernel_rfl;intro Y Yh;((repeat' (first|(refine ag_x ?_;simp[go_sem, undef])|refine adr_nil ?_|((first|refine adr_qs fun Y Yh=>?_|refine adr_y fun Y Yh=>?_);simp[go_sem, undef])|intro _|apply And.intro|(apply Yh;clear Yh Y)));all_goals first|apply Hold.mk|omega|assumption|skip))
   (refine awp_if fun T F hT hF=>?_;simp[go_sem];refine hT ?_;clear hT hF T F)
   (refine awp_r fun Y Yh=>?_;simp[go_sem];((repeat' (first|(refine ag_x ?_;simp[go_sem])|intro _|apply And.intro|(apply Yh;clear Yh Y)));all_goals first|apply Hold.mk|omega|assumption|skip))
   rename_i g1 g2
   refine tl4 _ g2 ?_
   rw [hst1]
   (refine cov_of ?_ ?_ <;> simp[go_sem])
  ·have hfx : fIx (fun p : Prs => decide (p.1 = n.1)) l = ((l.findIdx fun p => decide (p.1 = n.1) : Nat) : Int) := by unfold fIx; rw [if_pos q1]
   rw [hfx] at IX
   generalize l.findIdx (fun p => decide (p.1 = n.1)) = k at *
   have hkl := (List.getElem?_eq_some_iff.1 q2).1
   have M := smeets_spec p.2 n.2 (hlz p (List.mem_of_getElem? q2)).2 hnz
   have hlk : lackN l n = !meetsP p.2 n.2 := by unfold lackN; rw [q3]; simp [q4]
   rw [hlk] at hst1
   generalize meetsP p.2 n.2 = mb at *
   have hk0 : ¬ ((k : Int) < 0) := by omega
   (refine awp_sr fun Y Yh=>?_;simp[go_sem, hn];((repeat' (first|(refine ag_x ?_;simp[go_sem, hn])|intro _|apply And.intro|(apply Yh;clear Yh Y)));all_goals first|apply Hold.mk|omega|assumption|skip))
   (refine awp_sr fun Y Yh=>?_;simp[go_sem];((repeat' (first|(refine ag_x ?_;simp[go_sem])|intro _|apply And.intro|(apply Yh;clear Yh Y)));all_goals first|apply Hold.mk|omega|assumption|skip))
   ((try refine CallT.toA ?_);refine callT_f (.inl ⟨rfl,rfl⟩) ?_;intro args ha;simp[go_sem] at ha;subst ha;refine ⟨_, IX, ?_⟩;rintro _ rfl;refine ⟨rfl, ?_⟩;simp[go_sem];((repeat' (first|(refine ag_x ?_;simp[go_sem])|intro _|apply And.intro|(apply Yh;clear Yh Y)));all_goals first|apply Hold.mk|omega|assumption|skip))
   ((refine awp_dr (.qs [0, 1, 2, 3, 4, 5, 6, 8, 7, 9] (.one 10 (.qs [11, 12] (.nil)))) (by kernel_rfl) ?_ ?_ ?_ ?_);kernel_rfl;exact (by decide +kernel);kernel_rfl;intro Y Yh;((repeat' (first|(refine ag_x ?_;simp[go_sem, hk0, q2])|refine adr_nil ?_|((first|refine adr_qs fun Y Yh=>?_|refine adr_y fun Y Yh=>?_);simp[go_sem, hk0, q2])|intro _|apply And.intro|(apply Yh;clear Yh Y)));all_goals first|apply Hold.mk|omega|assumption|skip))
   (refine agc_f (dB mb) (.inl ⟨rfl,rfl⟩) ?_ rfl ?_;(intro hc args ha;simp[go_sem] at ha;subst ha;exact M);simp[go_sem, hk0, q2];((repeat' (first|(refine ag_x ?_;simp[go_sem, hk0, q2])|refine adr_nil ?_|((first|refine adr_qs fun Y Yh=>?_|refine adr_y fun Y Yh=>?_);simp[go_sem, hk0, q2])|intro _|apply And.intro|(apply Yh;clear Yh Y)));all_goals first|apply Hold.mk|omega|assumption|skip))
   cases mb with
   | false =>
    (refine awp_if fun T F hT hF=>?_;simp[go_sem];refine hT ?_;clear hT hF T F)
    (refine awp_r fun Y Yh=>?_;simp[go_sem];((repeat' (first|(refine ag_x ?_;simp[go_sem])|intro _|apply And.intro|(apply Yh;clear Yh Y)));all_goals first|apply Hold.mk|omega|assumption|skip))
    rename_i g1 g2
    refine tl4 _ g2 ?_
    rw [hst1]
    (refine cov_of ?_ ?_ <;> simp[go_sem])
   | true =>
    (refine awp_if fun T F hT hF=>?_;simp[go_sem];refine hF ?_;clear hT hF T F)
    refine awp_skip ?_
    refine tl4 _ g ?_
    rw [hst1]
    (refine cov_of ?_ ?_ <;> simp[go_sem])
 ·refine awp_exit ?_
  simp only [go_sem]
  refine hK1 _ ?_; clear hK1
  have : i = all.length := by omega
  subst this
  (refine awp_sr fun Y Yh=>?_;simp[go_sem];((repeat' (first|(refine ag_x ?_;simp[go_sem])|intro _|apply And.intro|(apply Yh;clear Yh Y)));all_goals first|apply Hold.mk|omega|assumption|skip))
  refine awp_frzrow 4 rfl rfl ?_
  simp only [go_sem]
  (refine awp_ret ?_;simp[go_sem])
theorem mT_len (ns : List Bs) : (mT ns).length = ns.length := by simp [mT]
set_option maxHeartbeats 8000000 in
theorem sis_spec (s : Src) (w l : List Prs) (hsu : suV s = true) (hw : SzN w) (hl : l.length ≤ 1000000) (hlz : ∀ x ∈ l, Sz1 x) (hno : NumOk l) (hnd : (l.map (·.1)).Nodup) : PCall Tryz.prog 88 [dSrc s, dPs w, dPs l] fun r => r = dB (solQ (allN s w l) l) := by 
 refine pcall_of Tryz.func88 rfl rfl Tryz.ntmps88 (rs := [.tmp 6]) (tys := [4]) rfl rfl (by simp) ?_
 have A := sall_spec s w l hsu hw.1 hl
 have hal := allN_len6 hsu w l
 have ham := allN_mem (l := l) (suV_sz hsu) hw.2
 have hw0 := hw.1
 have M := missing_spec (allN s w l) l (by omega) ham hl hlz hno
 have hsc := sol_count (all := allN s w l) hnd hno
 have hst := fun i n => @nset_snoc (allN s w l) i n
 rw [← hsc]
 generalize allN s w l = all at *
 clear hsc
 (refine awp_sr fun Y Yh=>?_;simp[go_sem];((repeat' (first|intro _|apply And.intro|(apply Yh;clear Yh Y)));all_goals first|apply Hold.mk|omega|assumption|skip))
 refine awp_frzbox 3 rfl rfl ?_
 simp only [go_sem]
 (refine awp_sr fun Y Yh=>?_;simp[go_sem];((repeat' (first|intro _|apply And.intro|(apply Yh;clear Yh Y)));all_goals first|apply Hold.mk|omega|assumption|skip))
 ((try refine CallT.toA ?_);refine callT_m (.inl ⟨rfl,rfl⟩) (by simp[go_sem]) ?_;intro args ha;simp[go_sem] at ha;subst ha;refine ⟨_, A, ?_⟩;rintro _ rfl;simp[go_sem];((repeat' (first|intro _|apply And.intro|(apply Yh;clear Yh Y)));all_goals first|apply Hold.mk|omega|assumption|skip))
 (refine awp_sr fun Y Yh=>?_;simp[go_sem];((repeat' (first|intro _|apply And.intro|(apply Yh;clear Yh Y)));all_goals first|apply Hold.mk|omega|assumption|skip))
 rename_i gm
 refine awp_seq_k fun K1 hK1 => ?_
 (refine awp_sr fun Y Yh=>?_;simp[go_sem];((repeat' (first|intro _|apply And.intro|(apply Yh;clear Yh Y)));all_goals first|apply Hold.mk|omega|assumption|skip))
 refine awp_block ?_
 refine awp_loop (σ := Nat) (fun i => ⟨[(2, dPs l), (7, dPs all), (8, .own 15 gm), (16, dPs all), (17, dI all.length), (18, dI i)], [(15, (gm, .map (mT (nset all i))))]⟩) (fun i => i ≤ all.length) (fun i => all.length - i) 0 ?_ ?_ ?_
 ·(refine cov_of ?_ ?_ <;> simp[go_sem, mT, nset])
 ·simp
 rintro i hi
 (refine awp_sr fun Y Yh=>?_;simp[go_sem];((repeat' (first|intro _|apply And.intro|(apply Yh;clear Yh Y)));all_goals first|apply Hold.mk|omega|assumption|skip))
 refine awp_seq_k fun K2 hK2 => ?_
 (refine awp_if fun T F hT hF=>?_;simp[go_sem];refine BR.intro (fun h3=>hT ?_) (fun h3=>hF ?_);all_goals clear hT hF T F;try simp at h3)
 ·refine awp_skip ?_
  refine hK2 _ ?_; clear hK2
  obtain ⟨n, hn⟩ : ∃ n, all[i]? = some n := ⟨_, List.getElem?_eq_getElem (by omega)⟩
  have hst1 := hst i n hn
  refine awp_seq_k fun K4 hK4 => ?_
  refine awp_block ?_
  (refine awp_sr fun Y Yh=>?_;simp[go_sem, hn];((repeat' (first|intro _|apply And.intro|(apply Yh;clear Yh Y)));all_goals first|apply Hold.mk|omega|assumption|skip))
  (refine awp_r fun Y Yh=>?_;simp[go_sem, mput_mT, mfind_mT];((repeat' (first|intro _|apply And.intro|(apply Yh;clear Yh Y)));all_goals first|apply Hold.mk|omega|assumption|skip))
  refine hK4 _ ?_; clear hK4
  (refine awp_r fun Y Yh=>?_;simp[go_sem];((repeat' (first|intro _|apply And.intro|(apply Yh;clear Yh Y)));all_goals first|apply Hold.mk|omega|assumption|skip))
  refine ⟨i + 1, ?_, by omega, by omega⟩
  rw [hst1]
  (refine cov_of ?_ ?_ <;> simp[go_sem])
 ·refine awp_exit ?_
  simp only [go_sem]
  refine hK1 _ ?_; clear hK1
  have : i = all.length := by omega
  subst this
  refine awp_seq_k fun K5 hK5 => ?_
  generalize lackV all l = L at *
  (refine awp_sr fun Y Yh=>?_;simp[go_sem];((repeat' (first|intro _|apply And.intro|(apply Yh;clear Yh Y)));all_goals first|apply Hold.mk|omega|assumption|skip))
  ((try refine CallT.toA ?_);refine callT_m (.inl ⟨rfl,rfl⟩) (by simp[go_sem]) ?_;intro args ha;simp[go_sem] at ha;subst ha;refine ⟨_, M, ?_⟩;rintro _ rfl;simp[go_sem];((repeat' (first|intro _|apply And.intro|(apply Yh;clear Yh Y)));all_goals first|apply Hold.mk|omega|assumption|skip))
  cases L with
  | nil =>
   (refine awp_if fun T F hT hF=>?_;simp[go_sem];refine hF ?_;clear hT hF T F)
   refine awp_skip ?_
   refine hK5 _ ?_; clear hK5
   (refine awp_sr fun Y Yh=>?_;simp[go_sem, mT_len];((repeat' (first|intro _|apply And.intro|(apply Yh;clear Yh Y)));all_goals first|apply Hold.mk|omega|assumption|skip))
   (refine awp_ret ?_;simp[go_sem])
  | cons x L =>
   (refine awp_if fun T F hT hF=>?_;simp[go_sem];refine hT ?_;clear hT hF T F)
   (refine awp_sr fun Y Yh=>?_;simp[go_sem];((repeat' (first|intro _|apply And.intro|(apply Yh;clear Yh Y)));all_goals first|apply Hold.mk|omega|assumption|skip))
   (refine awp_ret ?_;simp[go_sem])
theorem pick_sz {s : Src} {l : List Prs} (hsu : suV s = true) (h : PickOk s l) : ∀ x ∈ l, Sz1 x := fun x hx => by
 have hs := suV_sz hsu
 obtain ⟨g, hg, e1, v, hv, e2⟩ := h.1 x hx
 have := hs.2 g hg
 exact ⟨by rw [← e1]; exact this.1, by rw [← e2]; exact (this.2.2 v hv).1⟩
def okQ (s : Src) (w l : List Prs) : Bool := chkV s w && picksQ s l
set_option maxHeartbeats 8000000 in
theorem Is_spec (s : Src) (w l : List Prs) (hs : SzS s) (hw : SzN w) (hl : l.length ≤ 1000000) : PCall Tryz.prog 35 [dSrc s, dPs w, dPs l] fun r => r = .tup [dB (okQ s w l && solQ (allN s w l) l), dI (if okQ s w l = true then 0 else 1)] := by 
 refine pcall_of Tryz.func35 rfl rfl Tryz.ntmps35 (rs := [.tmp 6, .tmp 7]) (tys := [4, 35]) rfl rfl (by simp) ?_
 have C := sCheck_spec s w hs hw
 unfold okQ
 by_cases hc : chkV s w = true
 ·have hsu := (chk_parts hc).1
  have P1 := spicked_spec s l hsu hl
  rw [if_pos hc] at C
  by_cases hp : picksQ s l = true
  ·have hpo := picksQ_ok hp
   have I := sis_spec s w l hsu hw hl (pick_sz hsu hpo) (pickOk_num hsu hpo) hpo.2
   generalize solQ (allN s w l) l = sq at *
   rw [hp] at P1
   (refine awp_sr fun Y Yh=>?_;simp[go_sem];((repeat' (first|(refine ag_x ?_;simp[go_sem])|intro _|apply And.intro|(apply Yh;clear Yh Y)));all_goals first|apply Hold.mk|omega|assumption|skip))
   refine awp_frzbox 3 rfl rfl ?_
   simp only [go_sem]
   refine awp_seq_k fun K1 hK1 => ?_
   (refine awp_sr fun Y Yh=>?_;simp[go_sem];((repeat' (first|(refine ag_x ?_;simp[go_sem])|intro _|apply And.intro|(apply Yh;clear Yh Y)));all_goals first|apply Hold.mk|omega|assumption|skip))
   ((try refine CallT.toA ?_);refine callT_m (.inl ⟨rfl,rfl⟩) (by simp[go_sem]) ?_;intro args ha;simp[go_sem] at ha;subst ha;refine ⟨_, C, ?_⟩;rintro _ rfl;simp[go_sem];((repeat' (first|(refine ag_x ?_;simp[go_sem])|intro _|apply And.intro|(apply Yh;clear Yh Y)));all_goals first|apply Hold.mk|omega|assumption|skip))
   (refine agc_f (dB true) (.inl ⟨rfl,rfl⟩) ?_ rfl ?_;(intro hc args ha;simp[go_sem] at ha;subst ha;exact P1);simp[go_sem];((repeat' (first|(refine ag_x ?_;simp[go_sem])|intro _|apply And.intro|(apply Yh;clear Yh Y)));all_goals first|apply Hold.mk|omega|assumption|skip))
   (refine awp_if fun T F hT hF=>?_;simp[go_sem];refine hF ?_;clear hT hF T F)
   refine awp_skip ?_
   refine hK1 _ ?_; clear hK1
   (refine awp_sr fun Y Yh=>?_;simp[go_sem];((repeat' (first|(refine ag_x ?_;simp[go_sem])|intro _|apply And.intro|(apply Yh;clear Yh Y)));all_goals first|apply Hold.mk|omega|assumption|skip))
   ((try refine CallT.toA ?_);refine callT_m (.inl ⟨rfl,rfl⟩) (by simp[go_sem]) ?_;intro args ha;simp[go_sem] at ha;subst ha;refine ⟨_, I, ?_⟩;rintro _ rfl;simp[go_sem];((repeat' (first|(refine ag_x ?_;simp[go_sem])|intro _|apply And.intro|(apply Yh;clear Yh Y)));all_goals first|apply Hold.mk|omega|assumption|skip))
   (refine awp_ret ?_;simp[go_sem, hc, hp])
  ·have hp' : picksQ s l = false := by simpa using hp
   rw [hp'] at P1
   (refine awp_sr fun Y Yh=>?_;simp[go_sem];((repeat' (first|(refine ag_x ?_;simp[go_sem])|intro _|apply And.intro|(apply Yh;clear Yh Y)));all_goals first|apply Hold.mk|omega|assumption|skip))
   refine awp_frzbox 3 rfl rfl ?_
   simp only [go_sem]
   refine awp_seq_k fun K1 hK1 => ?_
   (refine awp_sr fun Y Yh=>?_;simp[go_sem];((repeat' (first|(refine ag_x ?_;simp[go_sem])|intro _|apply And.intro|(apply Yh;clear Yh Y)));all_goals first|apply Hold.mk|omega|assumption|skip))
   ((try refine CallT.toA ?_);refine callT_m (.inl ⟨rfl,rfl⟩) (by simp[go_sem]) ?_;intro args ha;simp[go_sem] at ha;subst ha;refine ⟨_, C, ?_⟩;rintro _ rfl;simp[go_sem];((repeat' (first|(refine ag_x ?_;simp[go_sem])|intro _|apply And.intro|(apply Yh;clear Yh Y)));all_goals first|apply Hold.mk|omega|assumption|skip))
   (refine agc_f (dB false) (.inl ⟨rfl,rfl⟩) ?_ rfl ?_;(intro hc args ha;simp[go_sem] at ha;subst ha;exact P1);simp[go_sem];((repeat' (first|(refine ag_x ?_;simp[go_sem])|intro _|apply And.intro|(apply Yh;clear Yh Y)));all_goals first|apply Hold.mk|omega|assumption|skip))
   (refine awp_if fun T F hT hF=>?_;simp[go_sem];refine hT ?_;clear hT hF T F)
   (refine awp_sr fun Y Yh=>?_;simp[go_sem];((repeat' (first|(refine ag_x ?_;simp[go_sem])|intro _|apply And.intro|(apply Yh;clear Yh Y)));all_goals first|apply Hold.mk|omega|assumption|skip))
   (refine awp_ret ?_;simp[go_sem, hc, hp'])
 ·have hc' : chkV s w = false := by simpa using hc
  rw [if_neg hc] at C
  (refine awp_sr fun Y Yh=>?_;simp[go_sem];((repeat' (first|(refine ag_x ?_;simp[go_sem])|intro _|apply And.intro|(apply Yh;clear Yh Y)));all_goals first|apply Hold.mk|omega|assumption|skip))
  refine awp_frzbox 3 rfl rfl ?_
  simp only [go_sem]
  refine awp_seq_k fun K1 hK1 => ?_
  (refine awp_sr fun Y Yh=>?_;simp[go_sem];((repeat' (first|(refine ag_x ?_;simp[go_sem])|intro _|apply And.intro|(apply Yh;clear Yh Y)));all_goals first|apply Hold.mk|omega|assumption|skip))
  ((try refine CallT.toA ?_);refine callT_m (.inl ⟨rfl,rfl⟩) (by simp[go_sem]) ?_;intro args ha;simp[go_sem] at ha;subst ha;refine ⟨_, C, ?_⟩;rintro _ rfl;simp[go_sem];((repeat' (first|(refine ag_false (by simp[go_sem, undef]) (by simp[go_sem]) ?_;simp[go_sem])|intro _|apply And.intro|(apply Yh;clear Yh Y)));all_goals first|apply Hold.mk|omega|assumption|skip))
  (refine awp_if fun T F hT hF=>?_;simp[go_sem];refine hT ?_;clear hT hF T F)
  (refine awp_sr fun Y Yh=>?_;simp[go_sem];((repeat' (first|(refine ag_x ?_;simp[go_sem])|intro _|apply And.intro|(apply Yh;clear Yh Y)));all_goals first|apply Hold.mk|omega|assumption|skip))
  (refine awp_ret ?_;simp[go_sem, hc'])
set_option maxHeartbeats 8000000 in
theorem Missing_spec (s : Src) (w l : List Prs) (hs : SzS s) (hw : SzN w) (hl : l.length ≤ 1000000) : PCall Tryz.prog 36 [dSrc s, dPs w, dPs l] fun r => r = .tup [dPs (if okQ s w l = true then lackV (allN s w l) l else []), dI (if okQ s w l = true then 0 else 1)] := by 
 refine pcall_of Tryz.func36 rfl rfl Tryz.ntmps36 (rs := [.tmp 6, .tmp 7]) (tys := [38, 35]) rfl rfl (by simp) ?_
 have C := sCheck_spec s w hs hw
 unfold okQ
 by_cases hc : chkV s w = true
 ·have hsu := (chk_parts hc).1
  have P1 := spicked_spec s l hsu hl
  rw [if_pos hc] at C
  by_cases hp : picksQ s l = true
  ·have hpo := picksQ_ok hp
   have A := sall_spec s w l hsu hw.1 hl
   have hal := allN_len6 hsu w l
   have hw0 := hw.1
   have M := missing_spec (allN s w l) l (by omega) (allN_mem (l := l) (suV_sz hsu) hw.2) hl (pick_sz hsu hpo) (pickOk_num hsu hpo)
   generalize lackV (allN s w l) l = L at *
   generalize allN s w l = all at *
   rw [hp] at P1
   (refine awp_sr fun Y Yh=>?_;simp[go_sem];((repeat' (first|(refine ag_x ?_;simp[go_sem])|intro _|apply And.intro|(apply Yh;clear Yh Y)));all_goals first|apply Hold.mk|omega|assumption|skip))
   refine awp_frzbox 3 rfl rfl ?_
   simp only [go_sem]
   refine awp_seq_k fun K1 hK1 => ?_
   (refine awp_sr fun Y Yh=>?_;simp[go_sem];((repeat' (first|(refine ag_x ?_;simp[go_sem])|intro _|apply And.intro|(apply Yh;clear Yh Y)));all_goals first|apply Hold.mk|omega|assumption|skip))
   ((try refine CallT.toA ?_);refine callT_m (.inl ⟨rfl,rfl⟩) (by simp[go_sem]) ?_;intro args ha;simp[go_sem] at ha;subst ha;refine ⟨_, C, ?_⟩;rintro _ rfl;simp[go_sem];((repeat' (first|(refine ag_x ?_;simp[go_sem])|intro _|apply And.intro|(apply Yh;clear Yh Y)));all_goals first|apply Hold.mk|omega|assumption|skip))
   (refine agc_f (dB true) (.inl ⟨rfl,rfl⟩) ?_ rfl ?_;(intro hc args ha;simp[go_sem] at ha;subst ha;exact P1);simp[go_sem];((repeat' (first|(refine ag_x ?_;simp[go_sem])|intro _|apply And.intro|(apply Yh;clear Yh Y)));all_goals first|apply Hold.mk|omega|assumption|skip))
   (refine awp_if fun T F hT hF=>?_;simp[go_sem];refine hF ?_;clear hT hF T F)
   refine awp_skip ?_
   refine hK1 _ ?_; clear hK1
   (refine awp_sr fun Y Yh=>?_;simp[go_sem];((repeat' (first|(refine ag_x ?_;simp[go_sem])|intro _|apply And.intro|(apply Yh;clear Yh Y)));all_goals first|apply Hold.mk|omega|assumption|skip))
   ((try refine CallT.toA ?_);refine callT_m (.inl ⟨rfl,rfl⟩) (by simp[go_sem]) ?_;intro args ha;simp[go_sem] at ha;subst ha;refine ⟨_, A, ?_⟩;rintro _ rfl;simp[go_sem];((repeat' (first|(refine ag_x ?_;simp[go_sem])|intro _|apply And.intro|(apply Yh;clear Yh Y)));all_goals first|apply Hold.mk|omega|assumption|skip))
   ((try refine CallT.toA ?_);refine callT_m (.inl ⟨rfl,rfl⟩) (by simp[go_sem]) ?_;intro args ha;simp[go_sem] at ha;subst ha;refine ⟨_, M, ?_⟩;rintro _ rfl;simp[go_sem];((repeat' (first|(refine ag_x ?_;simp[go_sem])|intro _|apply And.intro|(apply Yh;clear Yh Y)));all_goals first|apply Hold.mk|omega|assumption|skip))
   (refine awp_ret ?_;simp[go_sem, hc, hp])
  ·have hp' : picksQ s l = false := by simpa using hp
   rw [hp'] at P1
   (refine awp_sr fun Y Yh=>?_;simp[go_sem];((repeat' (first|(refine ag_x ?_;simp[go_sem])|intro _|apply And.intro|(apply Yh;clear Yh Y)));all_goals first|apply Hold.mk|omega|assumption|skip))
   refine awp_frzbox 3 rfl rfl ?_
   simp only [go_sem]
   refine awp_seq_k fun K1 hK1 => ?_
   (refine awp_sr fun Y Yh=>?_;simp[go_sem];((repeat' (first|(refine ag_x ?_;simp[go_sem])|intro _|apply And.intro|(apply Yh;clear Yh Y)));all_goals first|apply Hold.mk|omega|assumption|skip))
   ((try refine CallT.toA ?_);refine callT_m (.inl ⟨rfl,rfl⟩) (by simp[go_sem]) ?_;intro args ha;simp[go_sem] at ha;subst ha;refine ⟨_, C, ?_⟩;rintro _ rfl;simp[go_sem];((repeat' (first|(refine ag_x ?_;simp[go_sem])|intro _|apply And.intro|(apply Yh;clear Yh Y)));all_goals first|apply Hold.mk|omega|assumption|skip))
   (refine agc_f (dB false) (.inl ⟨rfl,rfl⟩) ?_ rfl ?_;(intro hc args ha;simp[go_sem] at ha;subst ha;exact P1);simp[go_sem];((repeat' (first|(refine ag_x ?_;simp[go_sem])|intro _|apply And.intro|(apply Yh;clear Yh Y)));all_goals first|apply Hold.mk|omega|assumption|skip))
   (refine awp_if fun T F hT hF=>?_;simp[go_sem];refine hT ?_;clear hT hF T F)
   (refine awp_sr fun Y Yh=>?_;simp[go_sem];((repeat' (first|(refine ag_x ?_;simp[go_sem])|intro _|apply And.intro|(apply Yh;clear Yh Y)));all_goals first|apply Hold.mk|omega|assumption|skip))
   (refine awp_ret ?_;simp[go_sem, hc, hp'])
 ·have hc' : chkV s w = false := by simpa using hc
  rw [if_neg hc] at C
  (refine awp_sr fun Y Yh=>?_;simp[go_sem];((repeat' (first|(refine ag_x ?_;simp[go_sem])|intro _|apply And.intro|(apply Yh;clear Yh Y)));all_goals first|apply Hold.mk|omega|assumption|skip))
  refine awp_frzbox 3 rfl rfl ?_
  simp only [go_sem]
  refine awp_seq_k fun K1 hK1 => ?_
  (refine awp_sr fun Y Yh=>?_;simp[go_sem];((repeat' (first|(refine ag_x ?_;simp[go_sem])|intro _|apply And.intro|(apply Yh;clear Yh Y)));all_goals first|apply Hold.mk|omega|assumption|skip))
  ((try refine CallT.toA ?_);refine callT_m (.inl ⟨rfl,rfl⟩) (by simp[go_sem]) ?_;intro args ha;simp[go_sem] at ha;subst ha;refine ⟨_, C, ?_⟩;rintro _ rfl;simp[go_sem];((repeat' (first|(refine ag_false (by simp[go_sem, undef]) (by simp[go_sem]) ?_;simp[go_sem])|intro _|apply And.intro|(apply Yh;clear Yh Y)));all_goals first|apply Hold.mk|omega|assumption|skip))
  (refine awp_if fun T F hT hF=>?_;simp[go_sem];refine hT ?_;clear hT hF T F)
  (refine awp_sr fun Y Yh=>?_;simp[go_sem];((repeat' (first|(refine ag_x ?_;simp[go_sem])|intro _|apply And.intro|(apply Yh;clear Yh Y)));all_goals first|apply Hold.mk|omega|assumption|skip))
  (refine awp_ret ?_;simp[go_sem, hc'])
theorem map_take_snoc2 {α : Type} (f : α → List D) {l : List α} {i : Nat} {x : α} (h : l[i]? = some x) : (l.take (i + 1)).map f = (l.take i).map f ++ [f x] := by rw [List.take_add_one, h]; simp
theorem take_map_len2 {α : Type} (f : α → List D) (l : List α) : (l.map f).take l.length = l.map f := by
 conv => lhs; rw [← List.length_map (f := f)]
 exact List.take_length
set_option maxHeartbeats 4000000 in
theorem back12_spec (l : List Prs) (hl : l.length ≤ 1000000) : PCall Tryz.prog 17 [dPs l] fun r => r = dPs l := by 
 refine pcall_of Tryz.func17 rfl rfl Tryz.ntmps17 (rs := [.tmp 2]) (tys := [38]) rfl rfl (by simp) ?_
 (refine awp_sr fun Y Yh=>?_;simp[go_sem];((repeat' (first|intro _|apply And.intro|(apply Yh;clear Yh Y)));all_goals first|apply Hold.mk|omega|assumption|skip))
 (refine awp_sr fun Y Yh=>?_;simp[go_sem];((repeat' (first|intro _|apply And.intro|(apply Yh;clear Yh Y)));all_goals first|apply Hold.mk|omega|assumption|skip))
 refine awp_nilslot 3 3 114 2 rfl fun g3 => ?_
 simp only [go_sem]
 refine awp_seq_k fun K1 hK1 => ?_
 (refine awp_sr fun Y Yh=>?_;simp[go_sem];((repeat' (first|intro _|apply And.intro|(apply Yh;clear Yh Y)));all_goals first|apply Hold.mk|omega|assumption|skip))
 refine awp_block ?_
 refine awp_loop (σ := Nat × Nat) (fun x => ⟨[(0, dPs l), (3, .own 3 x.2), (4, dI x.1)], [(3, x.2, .row 114 2 ((l.take x.1).map cP))]⟩) (fun x => x.1 ≤ l.length) (fun x => l.length - x.1) (0, g3) ?_ ?_ ?_
 ·(refine cov_of ?_ ?_ <;> simp[go_sem])
 ·simp
 rintro ⟨i, g⟩ hi
 simp only at hi
 refine awp_seq_k fun K2 hK2 => ?_
 (refine awp_sr fun Y Yh=>?_;simp[go_sem];((repeat' (first|intro _|apply And.intro|(apply Yh;clear Yh Y)));all_goals first|apply Hold.mk|omega|assumption|skip))
 (refine awp_if fun T F hT hF=>?_;simp[go_sem];refine BR.intro (fun h3=>hT ?_) (fun h3=>hF ?_);all_goals clear hT hF T F;try simp at h3) 
 ·refine awp_skip ?_
  refine hK2 _ ?_; clear hK2
  obtain ⟨x, hx⟩ : ∃ x, l[i]? = some x := ⟨_, List.getElem?_eq_getElem (by omega)⟩
  have htk : l.take (i + 1) = l.take i ++ [x] := by rw [List.take_add_one, hx]; rfl
  refine awp_seq_k fun K4 hK4 => ?_
  refine awp_block ?_
  ((refine awp_d (.qs [0, 1, 2, 3, 4, 6, 7, 8, 9, 5, 10, 11] (.one 12 (.one 13 (.qs [14] (.nil))))) (by kernel_rfl) ?_ ?_ ?_ ?_);kernel_rfl;exact (by decide +kernel);kernel_rfl;intro Y Yh;((repeat' (first|refine adr_nil ?_|((first|refine adr_qs fun Y Yh=>?_|refine adr_y fun Y Yh=>?_);simp[go_sem, hx])|intro _|apply And.intro|(apply Yh;clear Yh Y)));all_goals first|apply Hold.mk|omega|assumption|skip))
  refine hK4 _ ?_; clear hK4
  rename_i g' _
  refine awp_renrow 3 3 rfl rfl (by decide) fun g'' => ?_
  simp only [go_sem]
  (refine awp_r fun Y Yh=>?_;simp[go_sem];((repeat' (first|intro _|apply And.intro|(apply Yh;clear Yh Y)));all_goals first|apply Hold.mk|omega|assumption|skip))
  refine ⟨(i + 1, g''), ?_, by simp only; omega, by simp only; omega⟩
  simp only [htk]
  (refine cov_of ?_ ?_ <;> simp[go_sem])
 ·refine awp_exit ?_
  simp only [go_sem]
  refine hK1 _ ?_; clear hK1
  have : i = l.length := by omega
  subst this
  (refine awp_sr fun Y Yh=>?_;simp[go_sem];((repeat' (first|intro _|apply And.intro|(apply Yh;clear Yh Y)));all_goals first|apply Hold.mk|omega|assumption|skip))
  refine awp_frzrow 2 rfl rfl ?_
  simp only [go_sem]
  have htl : List.take l.length (l.map cP) = l.map cP := by
   conv => lhs; rw [← List.length_map (f := cP)]
   exact List.take_length
  (refine awp_ret ?_;simp[go_sem, htl])
set_option maxHeartbeats 4000000 in
theorem pks12_spec (l : List Prs) (hl : l.length ≤ 1000000) : PCall Tryz.prog 39 [dPs l] fun r => r = dPs l := by 
 refine pcall_of Tryz.func39 rfl rfl Tryz.ntmps39 (rs := [.tmp 2]) (tys := [58]) rfl rfl (by simp) ?_
 (refine awp_sr fun Y Yh=>?_;simp[go_sem];((repeat' (first|intro _|apply And.intro|(apply Yh;clear Yh Y)));all_goals first|apply Hold.mk|omega|assumption|skip))
 (refine awp_sr fun Y Yh=>?_;simp[go_sem];((repeat' (first|intro _|apply And.intro|(apply Yh;clear Yh Y)));all_goals first|apply Hold.mk|omega|assumption|skip))
 refine awp_nilslot 3 3 95 2 rfl fun g3 => ?_
 simp only [go_sem]
 refine awp_seq_k fun K1 hK1 => ?_
 (refine awp_sr fun Y Yh=>?_;simp[go_sem];((repeat' (first|intro _|apply And.intro|(apply Yh;clear Yh Y)));all_goals first|apply Hold.mk|omega|assumption|skip))
 refine awp_block ?_
 refine awp_loop (σ := Nat × Nat) (fun x => ⟨[(0, dPs l), (3, .own 3 x.2), (4, dI x.1)], [(3, x.2, .row 95 2 ((l.take x.1).map cP))]⟩) (fun x => x.1 ≤ l.length) (fun x => l.length - x.1) (0, g3) ?_ ?_ ?_
 ·(refine cov_of ?_ ?_ <;> simp[go_sem])
 ·simp
 rintro ⟨i, g⟩ hi
 simp only at hi
 refine awp_seq_k fun K2 hK2 => ?_
 (refine awp_sr fun Y Yh=>?_;simp[go_sem];((repeat' (first|intro _|apply And.intro|(apply Yh;clear Yh Y)));all_goals first|apply Hold.mk|omega|assumption|skip))
 (refine awp_if fun T F hT hF=>?_;simp[go_sem];refine BR.intro (fun h3=>hT ?_) (fun h3=>hF ?_);all_goals clear hT hF T F;try simp at h3) 
 ·refine awp_skip ?_
  refine hK2 _ ?_; clear hK2
  obtain ⟨x, hx⟩ : ∃ x, l[i]? = some x := ⟨_, List.getElem?_eq_getElem (by omega)⟩
  have htk : l.take (i + 1) = l.take i ++ [x] := by rw [List.take_add_one, hx]; rfl
  refine awp_seq_k fun K4 hK4 => ?_
  refine awp_block ?_
  ((refine awp_d (.qs [0, 1, 2, 3, 4, 6, 7, 8, 9, 5, 10, 11] (.one 12 (.one 13 (.qs [14] (.nil))))) (by kernel_rfl) ?_ ?_ ?_ ?_);kernel_rfl;exact (by decide +kernel);kernel_rfl;intro Y Yh;((repeat' (first|refine adr_nil ?_|((first|refine adr_qs fun Y Yh=>?_|refine adr_y fun Y Yh=>?_);simp[go_sem, hx])|intro _|apply And.intro|(apply Yh;clear Yh Y)));all_goals first|apply Hold.mk|omega|assumption|skip))
  refine hK4 _ ?_; clear hK4
  rename_i g' _
  refine awp_renrow 3 3 rfl rfl (by decide) fun g'' => ?_
  simp only [go_sem]
  (refine awp_r fun Y Yh=>?_;simp[go_sem];((repeat' (first|intro _|apply And.intro|(apply Yh;clear Yh Y)));all_goals first|apply Hold.mk|omega|assumption|skip))
  refine ⟨(i + 1, g''), ?_, by simp only; omega, by simp only; omega⟩
  simp only [htk]
  (refine cov_of ?_ ?_ <;> simp[go_sem])
 ·refine awp_exit ?_
  simp only [go_sem]
  refine hK1 _ ?_; clear hK1
  have : i = l.length := by omega
  subst this
  (refine awp_sr fun Y Yh=>?_;simp[go_sem];((repeat' (first|intro _|apply And.intro|(apply Yh;clear Yh Y)));all_goals first|apply Hold.mk|omega|assumption|skip))
  refine awp_frzrow 2 rfl rfl ?_
  simp only [go_sem]
  have htl : List.take l.length (l.map cP) = l.map cP := by
   conv => lhs; rw [← List.length_map (f := cP)]
   exact List.take_length
  (refine awp_ret ?_;simp[go_sem, htl])
set_option maxHeartbeats 16000000 in
theorem Back_spec (s : Src) (hs : SzS s) : PCall Tryz.prog 15 [dSrc s] fun r => r = dSrc s := by 
 refine pcall_of Tryz.func15 rfl rfl Tryz.ntmps15 (rs := [.cell 2 32]) (tys := [32]) rfl rfl (by simp) ?_
 obtain ⟨hs0, hs1⟩ := hs
 (refine awp_sr fun Y Yh=>?_;simp[go_sem];((repeat' (first|intro _|apply And.intro|(apply Yh;clear Yh Y)));all_goals first|apply Hold.mk|omega|assumption|skip))
 refine awp_frzbox 1 rfl rfl ?_
 simp only [go_sem]
 rename_i g2
 (refine awp_sr fun Y Yh=>?_;simp[go_sem];((repeat' (first|intro _|apply And.intro|(apply Yh;clear Yh Y)));all_goals first|apply Hold.mk|omega|assumption|skip))
 rename_i g3
 refine awp_nilbox 900021 119 2 0 (sb := 3) rfl rfl (by decide) fun gr0 => ?_
 simp only [List.set, go_sem]
 refine awp_seq_k fun K1 hK1 => ?_
 (refine awp_sr fun Y Yh=>?_;simp[go_sem];((repeat' (first|intro _|apply And.intro|(apply Yh;clear Yh Y)));all_goals first|apply Hold.mk|omega|assumption|skip))
 refine awp_block ?_
 refine awp_loop (σ := Nat × Nat) (fun x => ⟨[(1, .rd [dGms s]), (2, .ptr 2 g2 0), (3, .ptr 3 g3 0), (4, dI x.1)], [(2, (g2, .box [.v (.slice none 0 0)])), (3, (g3, .box [.own 900021 x.2])), (900021, (x.2, .row 119 2 ((s.take x.1).map cGm)))]⟩) (fun x => x.1 ≤ s.length) (fun x => s.length - x.1) (0, gr0) ?_ ?_ ?_
 ·(refine cov_of ?_ ?_ <;> simp[go_sem])
 ·simp
 rintro ⟨i, gr⟩ hi
 simp only at hi
 refine awp_seq_k fun K2 hK2 => ?_
 (refine awp_sr fun Y Yh=>?_;simp[go_sem];((repeat' (first|intro _|apply And.intro|(apply Yh;clear Yh Y)));all_goals first|apply Hold.mk|omega|assumption|skip))
 (refine awp_if fun T F hT hF=>?_;simp[go_sem];refine BR.intro (fun h3=>hT ?_) (fun h3=>hF ?_);all_goals clear hT hF T F;try simp at h3)
 ·refine awp_skip ?_
  refine hK2 _ ?_; clear hK2
  obtain ⟨x, hx⟩ : ∃ x, s[i]? = some x := ⟨_, List.getElem?_eq_getElem (by omega)⟩
  obtain ⟨hx0, hx1, hx2⟩ := hs1 x (List.mem_of_getElem? hx)
  have htk := map_take_snoc2 cGm hx
  refine awp_seq_k fun K4 hK4 => ?_
  refine awp_block ?_
  (refine awp_sr fun Y Yh=>?_;simp[go_sem, hx];((repeat' (first|intro _|apply And.intro|(apply Yh;clear Yh Y)));all_goals first|apply Hold.mk|omega|assumption|skip))
  rename_i g5
  refine awp_nilbox 900022 116 2 1 (sb := 5) rfl rfl (by decide) fun gv0 => ?_
  simp only [List.set, go_sem]
  refine awp_seq_k fun K5 hK5 => ?_
  (refine awp_sr fun Y Yh=>?_;simp[go_sem];((repeat' (first|intro _|apply And.intro|(apply Yh;clear Yh Y)));all_goals first|apply Hold.mk|omega|assumption|skip))
  refine awp_block ?_
  refine awp_loop (σ := Nat × Nat) (fun y => ⟨[(1, .rd [dGms s]), (2, .ptr 2 g2 0), (3, .ptr 3 g3 0), (4, dI i), (5, .ptr 5 g5 0), (6, dI y.1)], [(2, (g2, .box [.v (.slice none 0 0)])), (3, (g3, .box [.own 900021 gr])), (900021, (gr, .row 119 2 ((s.take i).map cGm))), (5, (g5, .box [dS x.1, .own 900022 y.2])), (900022, (y.2, .row 116 2 ((x.2.take y.1).map cVr)))]⟩) (fun y => y.1 ≤ x.2.length) (fun y => x.2.length - y.1) (0, gv0) ?_ ?_ ?_
  ·(refine cov_of ?_ ?_ <;> simp[go_sem])
  ·simp
  rintro ⟨k, gv⟩ hk
  simp only at hk
  refine awp_seq_k fun K6 hK6 => ?_
  (refine awp_sr fun Y Yh=>?_;simp[go_sem, hx];((repeat' (first|intro _|apply And.intro|(apply Yh;clear Yh Y)));all_goals first|apply Hold.mk|omega|assumption|skip))
  (refine awp_if fun T F hT hF=>?_;simp[go_sem];refine BR.intro (fun h7=>hT ?_) (fun h7=>hF ?_);all_goals clear hT hF T F;try simp at h7)
  ·refine awp_skip ?_
   refine hK6 _ ?_; clear hK6
   obtain ⟨v, hv⟩ : ∃ v, x.2[k]? = some v := ⟨_, List.getElem?_eq_getElem (by omega)⟩
   obtain ⟨hv0, hv1⟩ := hx2 v (List.mem_of_getElem? hv)
   have htv := map_take_snoc2 cVr hv
   have B := back12_spec v.2 hv1.1
   refine awp_seq_k fun K8 hK8 => ?_
   refine awp_block ?_
   (refine awp_sr fun Y Yh=>?_;simp[go_sem, hx, hv];((repeat' (first|intro _|apply And.intro|(apply Yh;clear Yh Y)));all_goals first|apply Hold.mk|omega|assumption|skip))
   ((refine awp_d (.qs [0, 2, 4, 1, 3, 5] (.kp 6 (.qs [7] (.kp 8 (.one 9 (.qs [10] (.one 11 (.nil)))))))) (by kernel_rfl) ?_ ?_ ?_ ?_);kernel_rfl;exact (by decide +kernel);kernel_rfl;intro Y Yh;((repeat' (first|refine adr_nil ?_|((first|refine adr_qs fun Y Yh=>?_|refine adr_y fun Y Yh=>?_);simp[go_sem])|intro _|apply And.intro|(apply Yh;clear Yh Y)));all_goals first|apply Hold.mk|omega|assumption|skip))
   ((try refine CallT.toA ?_);refine callT_m (.inl ⟨rfl,rfl⟩) (by simp[go_sem]) ?_;intro args ha;simp[go_sem] at ha;subst ha;refine ⟨_, B, ?_⟩;rintro _ rfl;simp[go_sem];((repeat' (first|refine adr_nil ?_|((first|refine adr_qs fun Y Yh=>?_|refine adr_y fun Y Yh=>?_);simp[go_sem])|intro _|apply And.intro|(apply Yh;clear Yh Y)));all_goals first|apply Hold.mk|omega|assumption|skip))
   refine hK8 _ ?_; clear hK8
   rename_i gq gv'
   (refine awp_r fun Y Yh=>?_;simp[go_sem];((repeat' (first|intro _|apply And.intro|(apply Yh;clear Yh Y)));all_goals first|apply Hold.mk|omega|assumption|skip))
   refine ⟨(k + 1, gv'), ?_, by simp only; omega, by simp only; omega⟩
   simp only [htv]
   (refine cov_of ?_ ?_ <;> simp[go_sem])
  ·refine awp_exit ?_
   simp only [go_sem]
   refine hK5 _ ?_; clear hK5
   have : k = x.2.length := by omega
   subst this
   refine awp_frzin 900022 5 1 rfl rfl (by decide) rfl ?_
   simp only [go_sem, List.set]
   (refine awp_r fun Y Yh=>?_;simp[go_sem];((repeat' (first|intro _|apply And.intro|(apply Yh;clear Yh Y)));all_goals first|apply Hold.mk|omega|assumption|skip))
   rename_i gq gr'
   refine hK4 _ ?_; clear hK4
   (refine awp_r fun Y Yh=>?_;simp[go_sem];((repeat' (first|intro _|apply And.intro|(apply Yh;clear Yh Y)));all_goals first|apply Hold.mk|omega|assumption|skip))
   refine ⟨(i + 1, gr'), ?_, by simp only; omega, by simp only; omega⟩
   simp only [htk]
   (refine cov_of ?_ ?_ <;> simp[go_sem, take_map_len2])
 ·refine awp_exit ?_
  simp only [go_sem]
  refine hK1 _ ?_; clear hK1
  have : i = s.length := by omega
  subst this
  refine awp_frzin 900021 3 0 rfl rfl (by decide) rfl ?_
  simp only [go_sem, List.set]
  (refine awp_sr fun Y Yh=>?_;simp[go_sem];((repeat' (first|intro _|apply And.intro|(apply Yh;clear Yh Y)));all_goals first|apply Hold.mk|omega|assumption|skip))
  (refine awp_ret ?_;simp[go_sem, take_map_len2])
end Go.Proofs.YteekfnhhlcmcgaaGreatDoor
namespace Go.Lk
open Go.Lib Go.Wh Go.Ver
/-! picks that numbers choose, gem by gem -/
structure Cho (s : Src) (i : Nat) (l : List Prs) : Prop where
 asc : Asc l
 fnd : ∀ p ∈ l, ∃ v, fndV s p = some v
 nm : ∀ p ∈ l, ∃ g ∈ s.take i, g.1 = p.1
 len : l.length ≤ i
theorem cho_zero (s : Src) : Cho s 0 [] := ⟨List.Pairwise.nil, by simp, by simp, by simp⟩
theorem cho_step {s : Src} {i : Nat} {l : List Prs} (h : Cho s i l) : Cho s (i + 1) l :=
 ⟨h.asc, h.fnd, fun p hp => by
  obtain ⟨g, a, b⟩ := h.nm p hp
  exact ⟨g, by rw [List.take_add_one]; exact List.mem_append.2 (.inl a), b⟩, by have := h.len; omega⟩
theorem cho_snoc {s : Src} {i : Nat} {l : List Prs} {g : Gm} {v : Vrs} (hs : suV s = true) (h : Cho s i l) (hg : s[i]? = some g) (hv : v ∈ g.2) : Cho s (i + 1) (l ++ [(g.1, v.1)]) := by
 have hgm := List.mem_of_getElem? hg
 refine ⟨?_, fun p hp => ?_, fun p hp => ?_, by have := h.len; simp; omega⟩
 ·refine List.pairwise_append.2 ⟨h.asc, by simp, fun x hx y hy => ?_⟩
  simp at hy; subst hy
  obtain ⟨k, hk, e⟩ := h.nm x hx
  obtain ⟨j, hj⟩ := List.getElem?_of_mem hk
  rw [List.getElem?_take] at hj
  split at hj
  ·rename_i hji
   have ha := suV_asc hs
   have h1 := List.getElem?_eq_some_iff.1 hj
   have h2 := List.getElem?_eq_some_iff.1 hg
   have := List.pairwise_iff_getElem.1 ha j i h1.1 h2.1 hji
   rw [h1.2, h2.2] at this
   rw [← e]; exact this
  ·cases hj
 ·rcases List.mem_append.1 hp with hp | hp
  ·exact h.fnd p hp
  ·simp at hp; subst hp
   exact ⟨v, fnd_of hs hgm hv⟩
 ·rcases List.mem_append.1 hp with hp | hp
  ·exact (cho_step h).nm p hp
  ·simp at hp; subst hp
   exact ⟨g, by rw [List.take_add_one, hg]; simp, rfl⟩
theorem Cho.pks {s : Src} {i : Nat} {l : List Prs} (h : Cho s i l) : picksQ s l = true := picksQ_of h.asc h.fnd
/-! what the laws ask -/
end Go.Lk
namespace Go.Proofs.YteekfnhhlcmcgaaGreatDoor
open Go.Eng Go.Wh Go.Ver Go.Lk
set_option maxRecDepth 20000
attribute [local irreducible] AG CallA CallT AWp PCall ACall AgC
theorem same_step {a b : List Prs} {i : Nat} {x y : Prs} (h : a.take i = b.take i) (hx : a[i]? = some x) (hy : b[i]? = some y) (e : x = y) : a.take (i + 1) = b.take (i + 1) := by
 rw [List.take_add_one, List.take_add_one, h, hx, hy, e]
set_option maxHeartbeats 8000000 in
theorem samePicks_spec (a b : List Prs) (ha : a.length ≤ 1000000) (hb : b.length ≤ 1000000) : PCall Tryz.prog 38 [dPs a, dPs b] fun r => r = dB (decide (a = b)) := by 
 refine pcall_of Tryz.func38 rfl rfl Tryz.ntmps38 (rs := [.tmp 4]) (tys := [4]) rfl rfl (by simp) ?_
 (refine awp_sr fun Y Yh=>?_;simp[go_sem];((repeat' (first|intro _|apply And.intro|(apply Yh;clear Yh Y)));all_goals first|apply Hold.mk|omega|assumption|skip))
 refine awp_seq_k fun K1 hK1 => ?_
 (refine awp_sr fun Y Yh=>?_;simp[go_sem];((repeat' (first|intro _|apply And.intro|(apply Yh;clear Yh Y)));all_goals first|apply Hold.mk|omega|assumption|skip))
 by_cases hl : a.length = b.length
 ·(refine awp_if fun T F hT hF=>?_;simp[go_sem, hl];refine hF ?_;clear hT hF T F)
  refine awp_skip ?_
  refine hK1 _ ?_; clear hK1
  refine awp_seq_k fun K3 hK3 => ?_
  (refine awp_sr fun Y Yh=>?_;simp[go_sem];((repeat' (first|intro _|apply And.intro|(apply Yh;clear Yh Y)));all_goals first|apply Hold.mk|omega|assumption|skip))
  refine awp_block ?_
  refine awp_loop (σ := Nat) (fun i => ⟨[(0, dPs a), (1, dPs b), (5, dI i)], []⟩) (fun i => i ≤ a.length ∧ a.take i = b.take i) (fun i => a.length - i) 0 ?_ ?_ ?_
  ·(refine cov_of ?_ ?_ <;> simp[go_sem])
  ·exact ⟨by omega, by simp⟩
  rintro i ⟨hi, he⟩
  refine awp_seq_k fun K4 hK4 => ?_
  (refine awp_sr fun Y Yh=>?_;simp[go_sem];((repeat' (first|intro _|apply And.intro|(apply Yh;clear Yh Y)));all_goals first|apply Hold.mk|omega|assumption|skip))
  (refine awp_if fun T F hT hF=>?_;simp[go_sem];refine BR.intro (fun h5=>hT ?_) (fun h5=>hF ?_);all_goals clear hT hF T F;try simp at h5)
  ·refine awp_skip ?_
   refine hK4 _ ?_; clear hK4
   obtain ⟨x, hx⟩ : ∃ x, a[i]? = some x := ⟨_, List.getElem?_eq_getElem (by omega)⟩
   obtain ⟨y, hy⟩ : ∃ y, b[i]? = some y := ⟨_, List.getElem?_eq_getElem (by omega)⟩
   have hne : x ≠ y → decide (a = b) = false := fun h => by
    rw [decide_eq_false_iff_not]
    rintro rfl
    rw [hx] at hy
    exact h (Option.some.inj hy)
   refine awp_seq_k fun K6 hK6 => ?_
   refine awp_block ?_
   by_cases h1 : x.1 = y.1
   ·by_cases h2 : x.2 = y.2
    ·have h1b : (x.1 == y.1) = true := by simp [h1]
     have h2b : (x.2 == y.2) = true := by simp [h2]
     ((refine awp_dr (.qs [0, 1, 2, 3, 5, 6, 7, 8, 4, 9, 10, 11, 12, 13, 14, 15, 17, 18, 19, 20, 16, 21, 22, 23] (.nil)) (by kernel_rfl) ?_ ?_ ?_ ?_);kernel_rfl;exact (by decide +kernel);kernel_rfl;intro Y Yh;((repeat' (first|refine adr_nil ?_|((first|refine adr_qs fun Y Yh=>?_|refine adr_y fun Y Yh=>?_);simp[go_sem, hx, hy, h1, h2])|intro _|apply And.intro|(apply Yh;clear Yh Y)));all_goals first|apply Hold.mk|omega|assumption|skip))
     (refine awp_if fun T F hT hF=>?_;simp[go_sem, h1, h2];refine hF ?_;clear hT hF T F)
     refine awp_skip ?_
     refine hK6 _ ?_; clear hK6
     (refine awp_r fun Y Yh=>?_;simp[go_sem];((repeat' (first|intro _|apply And.intro|(apply Yh;clear Yh Y)));all_goals first|apply Hold.mk|omega|assumption|skip))
     refine ⟨i + 1, ?_, ⟨by omega, same_step he hx hy (Prod.ext h1 h2)⟩, by omega⟩
     (refine cov_of ?_ ?_ <;> simp[go_sem])
    ·have hF := hne fun q => h2 (by rw [q])
     have h2b : (x.2 == y.2) = false := by simp [h2]
     ((refine awp_dr (.qs [0, 1, 2, 3, 5, 6, 7, 8, 4, 9, 10, 11, 12, 13, 14, 15, 17, 18, 19, 20, 16, 21, 22, 23] (.nil)) (by kernel_rfl) ?_ ?_ ?_ ?_);kernel_rfl;exact (by decide +kernel);kernel_rfl;intro Y Yh;((repeat' (first|refine adr_nil ?_|((first|refine adr_qs fun Y Yh=>?_|refine adr_y fun Y Yh=>?_);simp[go_sem, hx, hy, h1, h2])|intro _|apply And.intro|(apply Yh;clear Yh Y)));all_goals first|apply Hold.mk|omega|assumption|skip))
     (refine awp_if fun T F hT hF=>?_;simp[go_sem, h1, h2, h2b];refine hT ?_;clear hT hF T F)
     (refine awp_sr fun Y Yh=>?_;simp[go_sem];((repeat' (first|intro _|apply And.intro|(apply Yh;clear Yh Y)));all_goals first|apply Hold.mk|omega|assumption|skip))
     (refine awp_ret ?_;simp[go_sem, hF])
   ·have hF := hne fun q => h1 (by rw [q])
    have h1b : (x.1 == y.1) = false := by simp [h1]
    ((refine awp_dr (.qs [0, 1, 2, 3, 5, 6, 7, 8, 4, 9, 10, 11] (.sk 12 (.sk 13 (.sk 14 (.sk 15 (.sk 17 (.sk 18 (.sk 19 (.sk 20 (.sk 16 (.sk 21 (.sk 22 (.qs [23] (.nil)))))))))))))) (by kernel_rfl) ?_ ?_ ?_ ?_);kernel_rfl;exact (by decide +kernel);kernel_rfl;intro Y Yh;((repeat' (first|refine adr_nil ?_|((first|refine adr_qs fun Y Yh=>?_|refine adr_y fun Y Yh=>?_);simp[go_sem, hx, hy, h1, h1b, undef])|intro _|apply And.intro|(apply Yh;clear Yh Y)));all_goals first|apply Hold.mk|omega|assumption|skip))
    (refine awp_if fun T F hT hF=>?_;simp[go_sem, h1];refine hT ?_;clear hT hF T F)
    (refine awp_sr fun Y Yh=>?_;simp[go_sem];((repeat' (first|intro _|apply And.intro|(apply Yh;clear Yh Y)));all_goals first|apply Hold.mk|omega|assumption|skip))
    (refine awp_ret ?_;simp[go_sem, hF])
  ·refine awp_exit ?_
   simp only [go_sem]
   refine hK3 _ ?_; clear hK3
   have hia : i = a.length := by omega
   have : a = b := by
    rw [hia, List.take_length, hl, List.take_length] at he
    exact he
   (refine awp_sr fun Y Yh=>?_;simp[go_sem];((repeat' (first|intro _|apply And.intro|(apply Yh;clear Yh Y)));all_goals first|apply Hold.mk|omega|assumption|skip))
   (refine awp_ret ?_;simp[go_sem, this])
 ·have hF : decide (a = b) = false := by
   rw [decide_eq_false_iff_not]
   rintro rfl
   exact hl rfl
  have hl2 : ¬ (a.length : Int) = b.length := by omega
  (refine awp_if fun T F hT hF=>?_;simp[go_sem, hl, hl2];refine hT ?_;clear hT hF T F)
  (refine awp_sr fun Y Yh=>?_;simp[go_sem];((repeat' (first|intro _|apply And.intro|(apply Yh;clear Yh Y)));all_goals first|apply Hold.mk|omega|assumption|skip))
  (refine awp_ret ?_;simp[go_sem, hF])
end Go.Proofs.YteekfnhhlcmcgaaGreatDoor
set_option linter.unusedSectionVars false
namespace Go.Eng
variable {P : Program} [HasGlob P]
theorem args_weak {f : FuncId} {args args' : List D} {R : D → Prop} (h : PCall P f args' R) (hw : WeakL args args') : PCall P f args R := by
 obtain ⟨h1, h2⟩ := hw.at
 refine ⟨h.1, fun C w us hc hg hr => h.2 C w us hc hg ⟨by rw [hr.1, h1], fun j d u hd hu => ?_⟩⟩
 obtain ⟨d0, hd0, hw⟩ := h2 j d hd
 exact hw _ _ _ (hr.2 j d0 u hd0 hu)
end Go.Eng
namespace Go.Lk
open Go.Ver
/-! the example of chapter 12 -/
def exS : Src := [([97], [([49], [([98], [126, 62, 32, 49, 46, 48])]), ([50], [([98], [126, 62, 32, 50, 46, 48])])]), ([98], [([49, 46, 53], [])])]
def exW : List Prs := [([97], [])]
set_option maxRecDepth 100000
theorem ex_val : (solV exS exW 100).1 = [([97], [49]), ([98], [49, 46, 53])] ∧ (solV exS exW 100).2.2 = 0 := by decide +kernel
end Go.Lk
namespace Go.Proofs.YteekfnhhlcmcgaaGreatDoor
open Go.Eng Go.Wh Go.Ver Go.Lk
set_option maxRecDepth 20000
attribute [local irreducible] AG CallA CallT AWp PCall ACall AgC
set_option maxHeartbeats 16000000 in
theorem sane12_spec : PCall Tryz.prog 14 [] fun r => r = dB true := by 
 refine pcall_of Tryz.func14 rfl rfl Tryz.ntmps14 (rs := [.tmp 0]) (tys := [4]) rfl rfl (by simp) ?_
 have hx := chk_parts (solV_chk ex_val.2).1
 have S1 := Solve_spec exS exW 100 (suV_sz hx.1) hx.2.1 (by constructor <;> decide)
 obtain ⟨v1, v2⟩ := ex_val
 rw [v1, v2] at S1
 (refine awp_sr fun Y Yh=>?_;simp[go_sem];((repeat' (first|(refine ag_x ?_;simp[go_sem])|intro _|apply And.intro|(apply Yh;clear Yh Y)));all_goals first|apply Hold.mk|omega|assumption|skip))
 (refine awp_sr fun Y Yh=>?_;simp[go_sem];((repeat' (first|(refine ag_x ?_;simp[go_sem])|intro _|apply And.intro|(apply Yh;clear Yh Y)));all_goals first|apply Hold.mk|omega|assumption|skip))
 refine awp_frzin 15 1 0 rfl rfl (by decide) rfl ?_
 simp only [go_sem, List.set]
 refine awp_frzbox 1 rfl rfl ?_
 simp only [go_sem]
 (refine awp_sr fun Y Yh=>?_;simp[go_sem];((repeat' (first|(refine ag_x ?_;simp[go_sem])|intro _|apply And.intro|(apply Yh;clear Yh Y)));all_goals first|apply Hold.mk|omega|assumption|skip))
 ((try refine CallT.toA ?_);refine callT_z (.inl ⟨rfl,rfl⟩) rfl (by simp[go_sem]) (by simp[go_sem]) ?_;intro args ha;simp[go_sem] at ha;subst ha;refine ⟨_, (args_weak S1 (by repeat' first | exact Weak.refl _ | exact Weak.nil _ | exact True.intro | refine Weak.agg ?_ | refine Weak.sl ?_ | refine And.intro ?_ ?_)), ?_⟩;rintro _ rfl;simp[go_sem];((repeat' (first|(refine ag_x ?_;simp[go_sem])|intro _|apply And.intro|(apply Yh;clear Yh Y)));all_goals first|apply Hold.mk|omega|assumption|skip))
 (refine awp_sr fun Y Yh=>?_;simp[go_sem];((repeat' (first|(refine ag_x ?_;simp[go_sem])|intro _|apply And.intro|(apply Yh;clear Yh Y)));all_goals first|apply Hold.mk|omega|assumption|skip))
 (refine awp_ret ?_;simp[go_sem])
theorem grOk_chk {s : Src} {w : List Prs} (h : GrOk s w) : chkV s w = true := by
 unfold chkV
 rw [grOk_su h, Bool.true_and, nuV_iff]
 obtain ⟨_, b, c⟩ := nuV_iff.1 h.wi
 exact ⟨by have := h.wl; omega, b, c⟩
theorem grOk_wz {s : Src} {w : List Prs} (h : GrOk s w) : SzN w := (chk_parts (grOk_chk h)).2.1
set_option maxHeartbeats 8000000 in
theorem needs12_spec (l : List Prs) (hl : l.length ≤ 1000000) : PCall Tryz.prog 72 [dPs l] fun r => r = dPs l := by 
 refine pcall_of Tryz.func72 rfl rfl Tryz.ntmps72 (rs := [.tmp 2]) (tys := [26]) rfl rfl (by simp) ?_
 (refine awp_sr fun Y Yh=>?_;simp[go_sem];((repeat' (first|intro _|apply And.intro|(apply Yh;clear Yh Y)));all_goals first|apply Hold.mk|omega|assumption|skip))
 (refine awp_sr fun Y Yh=>?_;simp[go_sem];((repeat' (first|intro _|apply And.intro|(apply Yh;clear Yh Y)));all_goals first|apply Hold.mk|omega|assumption|skip))
 refine awp_nilslot 3 3 43 2 rfl fun g3 => ?_
 simp only [go_sem]
 refine awp_seq_k fun K1 hK1 => ?_
 (refine awp_sr fun Y Yh=>?_;simp[go_sem];((repeat' (first|intro _|apply And.intro|(apply Yh;clear Yh Y)));all_goals first|apply Hold.mk|omega|assumption|skip))
 refine awp_block ?_
 refine awp_loop (σ := Nat × Nat) (fun x => ⟨[(0, dPs l), (3, .own 3 x.2), (4, dI x.1)], [(3, x.2, .row 43 2 ((l.take x.1).map cP))]⟩) (fun x => x.1 ≤ l.length) (fun x => l.length - x.1) (0, g3) ?_ ?_ ?_
 ·(refine cov_of ?_ ?_ <;> simp[go_sem])
 ·simp
 rintro ⟨i, g⟩ hi
 simp only at hi
 refine awp_seq_k fun K2 hK2 => ?_
 (refine awp_sr fun Y Yh=>?_;simp[go_sem];((repeat' (first|intro _|apply And.intro|(apply Yh;clear Yh Y)));all_goals first|apply Hold.mk|omega|assumption|skip))
 (refine awp_if fun T F hT hF=>?_;simp[go_sem];refine BR.intro (fun h3=>hT ?_) (fun h3=>hF ?_);all_goals clear hT hF T F;try simp at h3) 
 ·refine awp_skip ?_
  refine hK2 _ ?_; clear hK2
  obtain ⟨x, hx⟩ : ∃ x, l[i]? = some x := ⟨_, List.getElem?_eq_getElem (by omega)⟩
  have htk : l.take (i + 1) = l.take i ++ [x] := by rw [List.take_add_one, hx]; rfl
  refine awp_seq_k fun K4 hK4 => ?_
  refine awp_block ?_
  ((refine awp_d (.qs [0, 1, 2, 3, 4, 6, 7, 8, 9, 5, 10, 11] (.one 12 (.one 13 (.qs [14] (.nil))))) (by kernel_rfl) ?_ ?_ ?_ ?_);kernel_rfl;exact (by decide +kernel);kernel_rfl;intro Y Yh;((repeat' (first|refine adr_nil ?_|((first|refine adr_qs fun Y Yh=>?_|refine adr_y fun Y Yh=>?_);simp[go_sem, hx])|intro _|apply And.intro|(apply Yh;clear Yh Y)));all_goals first|apply Hold.mk|omega|assumption|skip))
  refine hK4 _ ?_; clear hK4
  rename_i g' _
  refine awp_renrow 3 3 rfl rfl (by decide) fun g'' => ?_
  simp only [go_sem]
  (refine awp_r fun Y Yh=>?_;simp[go_sem];((repeat' (first|intro _|apply And.intro|(apply Yh;clear Yh Y)));all_goals first|apply Hold.mk|omega|assumption|skip))
  refine ⟨(i + 1, g''), ?_, by simp only; omega, by simp only; omega⟩
  simp only [htk]
  (refine cov_of ?_ ?_ <;> simp[go_sem])
 ·refine awp_exit ?_
  simp only [go_sem]
  refine hK1 _ ?_; clear hK1
  have : i = l.length := by omega
  subst this
  (refine awp_sr fun Y Yh=>?_;simp[go_sem];((repeat' (first|intro _|apply And.intro|(apply Yh;clear Yh Y)));all_goals first|apply Hold.mk|omega|assumption|skip))
  refine awp_frzrow 2 rfl rfl ?_
  simp only [go_sem]
  have htl : List.take l.length (l.map cP) = l.map cP := by
   conv => lhs; rw [← List.length_map (f := cP)]
   exact List.take_length
  (refine awp_ret ?_;simp[go_sem, htl])
set_option maxHeartbeats 16000000 in
theorem As_spec (s : Src) (hs : SzS s) : PCall Tryz.prog 71 [dSrc s] fun r => r = dSrc s := by 
 refine pcall_of Tryz.func71 rfl rfl Tryz.ntmps71 (rs := [.cell 2 25]) (tys := [25]) rfl rfl (by simp) ?_
 obtain ⟨hs0, hs1⟩ := hs
 (refine awp_sr fun Y Yh=>?_;simp[go_sem];((repeat' (first|intro _|apply And.intro|(apply Yh;clear Yh Y)));all_goals first|apply Hold.mk|omega|assumption|skip))
 refine awp_frzbox 1 rfl rfl ?_
 simp only [go_sem]
 rename_i g2
 (refine awp_sr fun Y Yh=>?_;simp[go_sem];((repeat' (first|intro _|apply And.intro|(apply Yh;clear Yh Y)));all_goals first|apply Hold.mk|omega|assumption|skip))
 rename_i g3
 refine awp_nilbox 900021 46 2 0 (sb := 3) rfl rfl (by decide) fun gr0 => ?_
 simp only [List.set, go_sem]
 refine awp_seq_k fun K1 hK1 => ?_
 (refine awp_sr fun Y Yh=>?_;simp[go_sem];((repeat' (first|intro _|apply And.intro|(apply Yh;clear Yh Y)));all_goals first|apply Hold.mk|omega|assumption|skip))
 refine awp_block ?_
 refine awp_loop (σ := Nat × Nat) (fun x => ⟨[(1, .rd [dGms s]), (2, .ptr 2 g2 0), (3, .ptr 3 g3 0), (4, dI x.1)], [(2, (g2, .box [.v (.slice none 0 0)])), (3, (g3, .box [.own 900021 x.2])), (900021, (x.2, .row 46 2 ((s.take x.1).map cGm)))]⟩) (fun x => x.1 ≤ s.length) (fun x => s.length - x.1) (0, gr0) ?_ ?_ ?_
 ·(refine cov_of ?_ ?_ <;> simp[go_sem])
 ·simp
 rintro ⟨i, gr⟩ hi
 simp only at hi
 refine awp_seq_k fun K2 hK2 => ?_
 (refine awp_sr fun Y Yh=>?_;simp[go_sem];((repeat' (first|intro _|apply And.intro|(apply Yh;clear Yh Y)));all_goals first|apply Hold.mk|omega|assumption|skip))
 (refine awp_if fun T F hT hF=>?_;simp[go_sem];refine BR.intro (fun h3=>hT ?_) (fun h3=>hF ?_);all_goals clear hT hF T F;try simp at h3)
 ·refine awp_skip ?_
  refine hK2 _ ?_; clear hK2
  obtain ⟨x, hx⟩ : ∃ x, s[i]? = some x := ⟨_, List.getElem?_eq_getElem (by omega)⟩
  obtain ⟨hx0, hx1, hx2⟩ := hs1 x (List.mem_of_getElem? hx)
  have htk := map_take_snoc2 cGm hx
  refine awp_seq_k fun K4 hK4 => ?_
  refine awp_block ?_
  (refine awp_sr fun Y Yh=>?_;simp[go_sem, hx];((repeat' (first|intro _|apply And.intro|(apply Yh;clear Yh Y)));all_goals first|apply Hold.mk|omega|assumption|skip))
  rename_i g5
  refine awp_nilbox 900022 48 2 1 (sb := 5) rfl rfl (by decide) fun gv0 => ?_
  simp only [List.set, go_sem]
  refine awp_seq_k fun K5 hK5 => ?_
  (refine awp_sr fun Y Yh=>?_;simp[go_sem];((repeat' (first|intro _|apply And.intro|(apply Yh;clear Yh Y)));all_goals first|apply Hold.mk|omega|assumption|skip))
  refine awp_block ?_
  refine awp_loop (σ := Nat × Nat) (fun y => ⟨[(1, .rd [dGms s]), (2, .ptr 2 g2 0), (3, .ptr 3 g3 0), (4, dI i), (5, .ptr 5 g5 0), (6, dI y.1)], [(2, (g2, .box [.v (.slice none 0 0)])), (3, (g3, .box [.own 900021 gr])), (900021, (gr, .row 46 2 ((s.take i).map cGm))), (5, (g5, .box [dS x.1, .own 900022 y.2])), (900022, (y.2, .row 48 2 ((x.2.take y.1).map cVr)))]⟩) (fun y => y.1 ≤ x.2.length) (fun y => x.2.length - y.1) (0, gv0) ?_ ?_ ?_
  ·(refine cov_of ?_ ?_ <;> simp[go_sem])
  ·simp
  rintro ⟨k, gv⟩ hk
  simp only at hk
  refine awp_seq_k fun K6 hK6 => ?_
  (refine awp_sr fun Y Yh=>?_;simp[go_sem, hx];((repeat' (first|intro _|apply And.intro|(apply Yh;clear Yh Y)));all_goals first|apply Hold.mk|omega|assumption|skip))
  (refine awp_if fun T F hT hF=>?_;simp[go_sem];refine BR.intro (fun h7=>hT ?_) (fun h7=>hF ?_);all_goals clear hT hF T F;try simp at h7)
  ·refine awp_skip ?_
   refine hK6 _ ?_; clear hK6
   obtain ⟨v, hv⟩ : ∃ v, x.2[k]? = some v := ⟨_, List.getElem?_eq_getElem (by omega)⟩
   obtain ⟨hv0, hv1⟩ := hx2 v (List.mem_of_getElem? hv)
   have htv := map_take_snoc2 cVr hv
   have B := needs12_spec v.2 hv1.1
   refine awp_seq_k fun K8 hK8 => ?_
   refine awp_block ?_
   (refine awp_sr fun Y Yh=>?_;simp[go_sem, hx, hv];((repeat' (first|intro _|apply And.intro|(apply Yh;clear Yh Y)));all_goals first|apply Hold.mk|omega|assumption|skip))
   ((refine awp_d (.qs [0, 2, 4, 1, 3, 5] (.kp 6 (.qs [7] (.kp 8 (.one 9 (.qs [10] (.one 11 (.nil)))))))) (by kernel_rfl) ?_ ?_ ?_ ?_);kernel_rfl;exact (by decide +kernel);kernel_rfl;intro Y Yh;((repeat' (first|refine adr_nil ?_|((first|refine adr_qs fun Y Yh=>?_|refine adr_y fun Y Yh=>?_);simp[go_sem])|intro _|apply And.intro|(apply Yh;clear Yh Y)));all_goals first|apply Hold.mk|omega|assumption|skip))
   ((try refine CallT.toA ?_);refine callT_m (.inl ⟨rfl,rfl⟩) (by simp[go_sem]) ?_;intro args ha;simp[go_sem] at ha;subst ha;refine ⟨_, B, ?_⟩;rintro _ rfl;simp[go_sem];((repeat' (first|refine adr_nil ?_|((first|refine adr_qs fun Y Yh=>?_|refine adr_y fun Y Yh=>?_);simp[go_sem])|intro _|apply And.intro|(apply Yh;clear Yh Y)));all_goals first|apply Hold.mk|omega|assumption|skip))
   refine hK8 _ ?_; clear hK8
   rename_i gq gv'
   (refine awp_r fun Y Yh=>?_;simp[go_sem];((repeat' (first|intro _|apply And.intro|(apply Yh;clear Yh Y)));all_goals first|apply Hold.mk|omega|assumption|skip))
   refine ⟨(k + 1, gv'), ?_, by simp only; omega, by simp only; omega⟩
   simp only [htv]
   (refine cov_of ?_ ?_ <;> simp[go_sem])
  ·refine awp_exit ?_
   simp only [go_sem]
   refine hK5 _ ?_; clear hK5
   have : k = x.2.length := by omega
   subst this
   refine awp_frzin 900022 5 1 rfl rfl (by decide) rfl ?_
   simp only [go_sem, List.set]
   (refine awp_r fun Y Yh=>?_;simp[go_sem];((repeat' (first|intro _|apply And.intro|(apply Yh;clear Yh Y)));all_goals first|apply Hold.mk|omega|assumption|skip))
   rename_i gq gr'
   refine hK4 _ ?_; clear hK4
   (refine awp_r fun Y Yh=>?_;simp[go_sem];((repeat' (first|intro _|apply And.intro|(apply Yh;clear Yh Y)));all_goals first|apply Hold.mk|omega|assumption|skip))
   refine ⟨(i + 1, gr'), ?_, by simp only; omega, by simp only; omega⟩
   simp only [htk]
   (refine cov_of ?_ ?_ <;> simp[go_sem, take_map_len2])
 ·refine awp_exit ?_
  simp only [go_sem]
  refine hK1 _ ?_; clear hK1
  have : i = s.length := by omega
  subst this
  refine awp_frzin 900021 3 0 rfl rfl (by decide) rfl ?_
  simp only [go_sem, List.set]
  (refine awp_sr fun Y Yh=>?_;simp[go_sem];((repeat' (first|intro _|apply And.intro|(apply Yh;clear Yh Y)));all_goals first|apply Hold.mk|omega|assumption|skip))
  (refine awp_ret ?_;simp[go_sem, take_map_len2])
set_option maxHeartbeats 8000000 in
theorem sameNeeds_spec (a b : List Prs) (ha : a.length ≤ 1000000) (hb : b.length ≤ 1000000) : PCall Tryz.prog 75 [dPs a, dPs b] fun r => r = dB (decide (a = b)) := by 
 refine pcall_of Tryz.func75 rfl rfl Tryz.ntmps75 (rs := [.tmp 4]) (tys := [4]) rfl rfl (by simp) ?_
 (refine awp_sr fun Y Yh=>?_;simp[go_sem];((repeat' (first|intro _|apply And.intro|(apply Yh;clear Yh Y)));all_goals first|apply Hold.mk|omega|assumption|skip))
 refine awp_seq_k fun K1 hK1 => ?_
 (refine awp_sr fun Y Yh=>?_;simp[go_sem];((repeat' (first|intro _|apply And.intro|(apply Yh;clear Yh Y)));all_goals first|apply Hold.mk|omega|assumption|skip))
 by_cases hl : a.length = b.length
 ·(refine awp_if fun T F hT hF=>?_;simp[go_sem, hl];refine hF ?_;clear hT hF T F)
  refine awp_skip ?_
  refine hK1 _ ?_; clear hK1
  refine awp_seq_k fun K3 hK3 => ?_
  (refine awp_sr fun Y Yh=>?_;simp[go_sem];((repeat' (first|intro _|apply And.intro|(apply Yh;clear Yh Y)));all_goals first|apply Hold.mk|omega|assumption|skip))
  refine awp_block ?_
  refine awp_loop (σ := Nat) (fun i => ⟨[(0, dPs a), (1, dPs b), (5, dI i)], []⟩) (fun i => i ≤ a.length ∧ a.take i = b.take i) (fun i => a.length - i) 0 ?_ ?_ ?_
  ·(refine cov_of ?_ ?_ <;> simp[go_sem])
  ·exact ⟨by omega, by simp⟩
  rintro i ⟨hi, he⟩
  refine awp_seq_k fun K4 hK4 => ?_
  (refine awp_sr fun Y Yh=>?_;simp[go_sem];((repeat' (first|intro _|apply And.intro|(apply Yh;clear Yh Y)));all_goals first|apply Hold.mk|omega|assumption|skip))
  (refine awp_if fun T F hT hF=>?_;simp[go_sem];refine BR.intro (fun h5=>hT ?_) (fun h5=>hF ?_);all_goals clear hT hF T F;try simp at h5)
  ·refine awp_skip ?_
   refine hK4 _ ?_; clear hK4
   obtain ⟨x, hx⟩ : ∃ x, a[i]? = some x := ⟨_, List.getElem?_eq_getElem (by omega)⟩
   obtain ⟨y, hy⟩ : ∃ y, b[i]? = some y := ⟨_, List.getElem?_eq_getElem (by omega)⟩
   have hne : x ≠ y → decide (a = b) = false := fun h => by
    rw [decide_eq_false_iff_not]
    rintro rfl
    rw [hx] at hy
    exact h (Option.some.inj hy)
   refine awp_seq_k fun K6 hK6 => ?_
   refine awp_block ?_
   by_cases h1 : x.1 = y.1
   ·by_cases h2 : x.2 = y.2
    ·have h1b : (x.1 == y.1) = true := by simp [h1]
     have h2b : (x.2 == y.2) = true := by simp [h2]
     ((refine awp_dr (.qs [0, 1, 2, 3, 5, 6, 7, 8, 4, 9, 10, 11, 12, 13, 14, 15, 17, 18, 19, 20, 16, 21, 22, 23] (.nil)) (by kernel_rfl) ?_ ?_ ?_ ?_);kernel_rfl;exact (by decide +kernel);kernel_rfl;intro Y Yh;((repeat' (first|refine adr_nil ?_|((first|refine adr_qs fun Y Yh=>?_|refine adr_y fun Y Yh=>?_);simp[go_sem, hx, hy, h1, h2])|intro _|apply And.intro|(apply Yh;clear Yh Y)));all_goals first|apply Hold.mk|omega|assumption|skip))
     (refine awp_if fun T F hT hF=>?_;simp[go_sem, h1, h2];refine hF ?_;clear hT hF T F)
     refine awp_skip ?_
     refine hK6 _ ?_; clear hK6
     (refine awp_r fun Y Yh=>?_;simp[go_sem];((repeat' (first|intro _|apply And.intro|(apply Yh;clear Yh Y)));all_goals first|apply Hold.mk|omega|assumption|skip))
     refine ⟨i + 1, ?_, ⟨by omega, same_step he hx hy (Prod.ext h1 h2)⟩, by omega⟩
     (refine cov_of ?_ ?_ <;> simp[go_sem])
    ·have hF := hne fun q => h2 (by rw [q])
     have h2b : (x.2 == y.2) = false := by simp [h2]
     ((refine awp_dr (.qs [0, 1, 2, 3, 5, 6, 7, 8, 4, 9, 10, 11, 12, 13, 14, 15, 17, 18, 19, 20, 16, 21, 22, 23] (.nil)) (by kernel_rfl) ?_ ?_ ?_ ?_);kernel_rfl;exact (by decide +kernel);kernel_rfl;intro Y Yh;((repeat' (first|refine adr_nil ?_|((first|refine adr_qs fun Y Yh=>?_|refine adr_y fun Y Yh=>?_);simp[go_sem, hx, hy, h1, h2])|intro _|apply And.intro|(apply Yh;clear Yh Y)));all_goals first|apply Hold.mk|omega|assumption|skip))
     (refine awp_if fun T F hT hF=>?_;simp[go_sem, h1, h2, h2b];refine hT ?_;clear hT hF T F)
     (refine awp_sr fun Y Yh=>?_;simp[go_sem];((repeat' (first|intro _|apply And.intro|(apply Yh;clear Yh Y)));all_goals first|apply Hold.mk|omega|assumption|skip))
     (refine awp_ret ?_;simp[go_sem, hF])
   ·have hF := hne fun q => h1 (by rw [q])
    have h1b : (x.1 == y.1) = false := by simp [h1]
    ((refine awp_dr (.qs [0, 1, 2, 3, 5, 6, 7, 8, 4, 9, 10, 11] (.sk 12 (.sk 13 (.sk 14 (.sk 15 (.sk 17 (.sk 18 (.sk 19 (.sk 20 (.sk 16 (.sk 21 (.sk 22 (.qs [23] (.nil)))))))))))))) (by kernel_rfl) ?_ ?_ ?_ ?_);kernel_rfl;exact (by decide +kernel);kernel_rfl;intro Y Yh;((repeat' (first|refine adr_nil ?_|((first|refine adr_qs fun Y Yh=>?_|refine adr_y fun Y Yh=>?_);simp[go_sem, hx, hy, h1, h1b, undef])|intro _|apply And.intro|(apply Yh;clear Yh Y)));all_goals first|apply Hold.mk|omega|assumption|skip))
    (refine awp_if fun T F hT hF=>?_;simp[go_sem, h1];refine hT ?_;clear hT hF T F)
    (refine awp_sr fun Y Yh=>?_;simp[go_sem];((repeat' (first|intro _|apply And.intro|(apply Yh;clear Yh Y)));all_goals first|apply Hold.mk|omega|assumption|skip))
    (refine awp_ret ?_;simp[go_sem, hF])
  ·refine awp_exit ?_
   simp only [go_sem]
   refine hK3 _ ?_; clear hK3
   have hia : i = a.length := by omega
   have : a = b := by
    rw [hia, List.take_length, hl, List.take_length] at he
    exact he
   (refine awp_sr fun Y Yh=>?_;simp[go_sem];((repeat' (first|intro _|apply And.intro|(apply Yh;clear Yh Y)));all_goals first|apply Hold.mk|omega|assumption|skip))
   (refine awp_ret ?_;simp[go_sem, this])
 ·have hF : decide (a = b) = false := by
   rw [decide_eq_false_iff_not]
   rintro rfl
   exact hl rfl
  have hl2 : ¬ (a.length : Int) = b.length := by omega
  (refine awp_if fun T F hT hF=>?_;simp[go_sem, hl, hl2];refine hT ?_;clear hT hF T F)
  (refine awp_sr fun Y Yh=>?_;simp[go_sem];((repeat' (first|intro _|apply And.intro|(apply Yh;clear Yh Y)));all_goals first|apply Hold.mk|omega|assumption|skip))
  (refine awp_ret ?_;simp[go_sem, hF])
end Go.Proofs.YteekfnhhlcmcgaaGreatDoor
