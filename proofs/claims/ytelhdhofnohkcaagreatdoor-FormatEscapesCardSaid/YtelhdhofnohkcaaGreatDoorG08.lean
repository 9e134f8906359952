/- Part of a proof: see the last text. -/
import Derived.Test.YtelhdhofnohkcaaGreatDoorG07
set_option linter.unusedVariables false
set_option linter.unusedSimpArgs false
namespace Go.Proofs.YtelhdhofnohkcaaGreatDoor
open Go.Eng Go.Fm
set_option maxRecDepth 20000
attribute [local irreducible] AG CallA CallT AWp PCall ACall AgC
theorem agI_ok {n : Int} (h : InR n) : AgOk (agI n) := ⟨h, by simp [agI]⟩
theorem ags1 {a : Ag} (h : AgOk a) : AgsOk [a] := ⟨by simp, fun x hx => by rw [List.mem_singleton.1 hx]; exact h⟩
theorem np_of {form : Bs} {L : List Fld} (h : readV form = some L) (h2 : ∀ f ∈ L, f.lt ≠ 112) : ∀ L, readV form = some L → ∀ f ∈ L, f.lt ≠ 112 := fun L' h' => by
 rw [h] at h'; cases h'; exact h2
theorem form_np {form : Bs} {args : List Ag} (hA : AgsOk args) (hfl : form.length ≤ 9223372036854775807) {L : List Fld} (h : readV form = some L) (h2 : ∀ f ∈ L, f.lt ≠ 112) {t : Bs} {u e : Nat} (hr : runV form args = (t, u, e)) :
  PCall Tryz.prog 13 [dS form, dAs args] fun r => r = .tup [dS t, dI e] := by
 have := Format_spec form args hA hfl (fillC_np hA (np_of h h2))
 rw [hr] at this
 exact this
theorem rd1 : ∃ L, readV [37, 48, 53, 100] = some L ∧ ∀ f ∈ L, f.lt ≠ 112 := ⟨_, rfl, by decide⟩
theorem rd2 : ∃ L, readV [37, 35, 120] = some L ∧ ∀ f ∈ L, f.lt ≠ 112 := ⟨_, rfl, by decide⟩
theorem rd3 : ∃ L, readV [37, 45, 52, 115, 124] = some L ∧ ∀ f ∈ L, f.lt ≠ 112 := ⟨_, rfl, by decide⟩
set_option maxHeartbeats 8000000 in
theorem sane_spec : PCall Tryz.prog 12 [] fun r => r = dB true := by 
 refine pcall_of Tryz.func12 rfl rfl Tryz.ntmps12 (rs := [.tmp 0]) (tys := [4]) rfl rfl (by simp) ?_
 obtain ⟨L1, h1, p1⟩ := rd1
 obtain ⟨L2, h2, p2⟩ := rd2
 obtain ⟨L3, h3, p3⟩ := rd3
 have S1 := form_np (ags1 (agI_ok (n := -42) (by simp [InR]))) (by simp) h1 p1 sane1
 have S2 := form_np (ags1 (agI_ok (n := 255) (by simp [InR]))) (by simp) h2 p2 sane2
 have S3 := form_np (args := [⟨[], true, 0, [97, 98]⟩]) (ags1 ⟨by simp [InR], by simp⟩) (by simp) h3 p3 sane3
 simp only [dAs, List.map_cons, List.map_nil, agI] at S1 S2 S3
 (refine awp_sr fun Y Yh => ?_; simp [go_sem]; ((repeat' (first|(refine ag_x ?_;simp [go_sem])|intro _|apply And.intro|(apply Yh;clear Yh Y)));all_goals first|apply Hold.mk|omega|with_reducible assumption|skip))
 (refine awp_sr fun Y Yh => ?_; simp [go_sem]; ((repeat' (first|(refine ag_x ?_;simp [go_sem])|intro _|apply And.intro|(apply Yh;clear Yh Y)));all_goals first|apply Hold.mk|omega|with_reducible assumption|skip))
 ((try refine CallT.toA ?_); refine callT_f (.inl ⟨rfl,rfl⟩) ?_; intro args ha; simp [go_sem] at ha; subst ha; refine ⟨_, S1, ?_⟩; rintro _ rfl; refine ⟨rfl, ?_⟩; simp [go_sem]; ((repeat' (first|(refine ag_x ?_;simp [go_sem])|intro _|apply And.intro|(apply Yh;clear Yh Y)));all_goals first|apply Hold.mk|omega|with_reducible assumption|skip))
 (refine awp_sr fun Y Yh => ?_; simp [go_sem]; ((repeat' (first|(refine ag_x ?_;simp [go_sem])|intro _|apply And.intro|(apply Yh;clear Yh Y)));all_goals first|apply Hold.mk|omega|with_reducible assumption|skip))
 ((try refine CallT.toA ?_); refine callT_f (.inl ⟨rfl,rfl⟩) ?_; intro args ha; simp [go_sem] at ha; subst ha; refine ⟨_, S2, ?_⟩; rintro _ rfl; refine ⟨rfl, ?_⟩; simp [go_sem]; ((repeat' (first|(refine ag_x ?_;simp [go_sem])|intro _|apply And.intro|(apply Yh;clear Yh Y)));all_goals first|apply Hold.mk|omega|with_reducible assumption|skip))
 (refine awp_sr fun Y Yh => ?_; simp [go_sem]; ((repeat' (first|(refine ag_x ?_;simp [go_sem])|intro _|apply And.intro|(apply Yh;clear Yh Y)));all_goals first|apply Hold.mk|omega|with_reducible assumption|skip))
 ((try refine CallT.toA ?_); refine callT_f (.inl ⟨rfl,rfl⟩) ?_; intro args ha; simp [go_sem] at ha; subst ha; refine ⟨_, S3, ?_⟩; rintro _ rfl; refine ⟨rfl, ?_⟩; simp [go_sem]; ((repeat' (first|(refine ag_x ?_;simp [go_sem])|intro _|apply And.intro|(apply Yh;clear Yh Y)));all_goals first|apply Hold.mk|omega|with_reducible assumption|skip))
 (refine awp_sr fun Y Yh => ?_; simp [go_sem]; ((repeat' (first|(refine ag_x ?_;simp [go_sem])|intro _|apply And.intro|(apply Yh;clear Yh Y)));all_goals first|apply Hold.mk|omega|with_reducible assumption|skip))
 (refine awp_ret ?_; simp [go_sem])
theorem esc_read {s : Bs} (h : s.length ≤ 1000) : ∃ L, readV (escV s) = some L ∧ (∀ f ∈ L, f.lt ≠ 112) ∧ fldsV L = 0 := by
 obtain ⟨L, h1, h2, h3⟩ := readV_esc h
 refine ⟨L, h1, fun f hf => by rw [(h2 f hf).1]; decide, ?_⟩
 clear h1 h3
 induction L with
 | nil => rfl
 | cons f L ih =>
  have e : fldsV (f :: L) = fld1 f + fldsV L := by simp [fldsV]
  rw [e, ih fun x hx => h2 x (by simp [hx])]
  unfold fld1
  rw [if_pos (.inl (h2 f (by simp)).1)]
set_option maxHeartbeats 8000000 in
theorem escapes_spec (s : Bs) (hl : s.length ≤ 9223372036854775807) : PCall Tryz.prog 8 [dS s] fun r => r = dB true := by 
 refine pcall_of Tryz.func8 rfl rfl Tryz.ntmps8 (rs := [.tmp 2]) (tys := [4]) rfl rfl (by simp) ?_
 (refine awp_sr fun Y Yh => ?_; simp [go_sem]; ((repeat' (first|(refine ag_x ?_;simp [go_sem])|intro _|apply And.intro|(apply Yh;clear Yh Y)));all_goals first|apply Hold.mk|omega|with_reducible assumption|skip))
 refine awp_seq_k fun K1 hK1 => ?_
 have tl1 : ∀ S' t, t.length ≤ 1000 → Cov S' ⟨[(0, dS t)], []⟩ → K1 S' := fun S' t ht hS => by
  refine hK1 _ ?_; clear hK1
  refine awp_cov hS ?_; clear hS
  obtain ⟨L, h1, h2, h3⟩ := esc_read ht
  have hel := esc_len t
  have F := form_np (args := []) ⟨by simp, by simp⟩ (by omega) h1 h2 (run_esc ht [])
  have G := fields_spec (escV t) (by omega)
  unfold fieldsN at G
  rw [h1] at G
  simp only [h3] at G
  have E := escape_spec t (by omega)
  have R := rescape_spec t (by omega)
  generalize escV t = t2 at *
  (refine awp_sr fun Y Yh => ?_; simp [go_sem]; ((repeat' (first|(refine ag_x ?_;simp [go_sem])|intro _|apply And.intro|(apply Yh;clear Yh Y)));all_goals first|apply Hold.mk|omega|with_reducible assumption|skip))
  ((try refine CallT.toA ?_); refine callT_m (.inl ⟨rfl,rfl⟩) (by simp [go_sem]) ?_; intro args ha; simp [go_sem] at ha; subst ha; refine ⟨_, E, ?_⟩; rintro _ rfl; simp [go_sem]; ((repeat' (first|(refine ag_x ?_;simp [go_sem])|intro _|apply And.intro|(apply Yh;clear Yh Y)));all_goals first|apply Hold.mk|omega|with_reducible assumption|skip))
  (refine awp_sr fun Y Yh => ?_; simp [go_sem]; ((repeat' (first|(refine ag_x ?_;simp [go_sem])|intro _|apply And.intro|(apply Yh;clear Yh Y)));all_goals first|apply Hold.mk|omega|with_reducible assumption|skip))
  ((try refine CallT.toA ?_); refine callT_m (.inl ⟨rfl,rfl⟩) (by simp [go_sem]) ?_; intro args ha; simp [go_sem] at ha; subst ha; refine ⟨_, F, ?_⟩; rintro _ rfl; simp [go_sem]; ((repeat' (first|(refine ag_x ?_;simp [go_sem])|intro _|apply And.intro|(apply Yh;clear Yh Y)));all_goals first|apply Hold.mk|omega|with_reducible assumption|skip))
  (refine awp_sr fun Y Yh => ?_; simp [go_sem]; ((repeat' (first|(refine ag_x ?_;simp [go_sem])|intro _|apply And.intro|(apply Yh;clear Yh Y)));all_goals first|apply Hold.mk|omega|with_reducible assumption|skip))
  ((try refine CallT.toA ?_); refine callT_m (.inl ⟨rfl,rfl⟩) (by simp [go_sem]) ?_; intro args ha; simp [go_sem] at ha; subst ha; refine ⟨_, G, ?_⟩; rintro _ rfl; simp [go_sem]; ((repeat' (first|(refine ag_x ?_;simp [go_sem])|intro _|apply And.intro|(apply Yh;clear Yh Y)));all_goals first|apply Hold.mk|omega|with_reducible assumption|skip))
  (refine awp_sr fun Y Yh => ?_; simp [go_sem]; ((repeat' (first|(refine ag_x ?_;simp [go_sem])|intro _|apply And.intro|(apply Yh;clear Yh Y)));all_goals first|apply Hold.mk|omega|with_reducible assumption|skip))
  ((try refine CallT.toA ?_); refine callT_m (.inl ⟨rfl,rfl⟩) (by simp [go_sem]) ?_; intro args ha; simp [go_sem] at ha; subst ha; refine ⟨_, R, ?_⟩; rintro _ rfl; simp [go_sem]; ((repeat' (first|(refine ag_x ?_;simp [go_sem])|intro _|apply And.intro|(apply Yh;clear Yh Y)));all_goals first|apply Hold.mk|omega|with_reducible assumption|skip))
  (refine agc_f (dB true) (.inl ⟨rfl,rfl⟩) ?_ rfl ?_; (intro hc args ha; simp [go_sem] at ha; subst ha; exact sane_spec); simp [go_sem]; ((repeat' (first|(refine ag_x ?_;simp [go_sem])|intro _|apply And.intro|(apply Yh;clear Yh Y)));all_goals first|apply Hold.mk|omega|with_reducible assumption|skip))
  (refine awp_ret ?_; simp [go_sem])
 clear hK1
 have hlz : decide ((1000 : Int) < s.length) = decide (1000 < s.length) := by rw [decide_eq_decide]; omega
 have hcut : ({ data := s.toArray } : ByteArray).extract 0 1000 = { data := (s.take 1000).toArray } := by rw [ba_cut, List.drop_zero]
 (refine awp_sr fun Y Yh => ?_; simp [go_sem, ba_size]; ((repeat' (first|(refine ag_x ?_;simp [go_sem, ba_size])|intro _|apply And.intro|(apply Yh;clear Yh Y)));all_goals first|apply Hold.mk|omega|with_reducible assumption|skip))
 by_cases h : 1000 < s.length
 ·(refine awp_if fun T F hT hF => ?_; simp [go_sem, hlz, h]; refine hT ?_; clear hT hF T F)
  (refine awp_r fun Y Yh => ?_; simp [go_sem, ba_size, hcut]; ((repeat' (first|(refine ag_x ?_;simp [go_sem, ba_size, hcut])|intro _|apply And.intro|(apply Yh;clear Yh Y)));all_goals first|apply Hold.mk|omega|with_reducible assumption|skip))
  refine tl1 _ (s.take 1000) (by rw [List.length_take]; omega) ?_
  (refine cov_of ?_ ?_ <;> simp [go_sem])
 ·(refine awp_if fun T F hT hF => ?_; simp [go_sem, hlz, h]; refine hF ?_; clear hT hF T F)
  refine awp_skip ?_
  refine tl1 _ s (by omega) ?_
  (refine cov_of ?_ ?_ <;> simp [go_sem])
end Go.Proofs.YtelhdhofnohkcaaGreatDoor
