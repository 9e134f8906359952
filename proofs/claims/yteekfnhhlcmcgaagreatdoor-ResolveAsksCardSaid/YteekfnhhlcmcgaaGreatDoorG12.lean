/- Part of a proof: see the last text. -/
import Derived.Test.YteekfnhhlcmcgaaGreatDoorG11
import Derived.Test.YteekfnhhlcmcgaaGreatDoorG05
set_option linter.unusedVariables false
set_option linter.unusedSimpArgs false
namespace Go.Proofs.YteekfnhhlcmcgaaGreatDoor
open Go.Eng Go.Wh Go.Ver Go.Lk
set_option maxRecDepth 20000
attribute [local irreducible] AG CallA CallT AWp PCall ACall AgC
abbrev ZQ (r : List Prs) : Prop := r.length ≤ 140737488355328 ∧ ∀ x ∈ r, x.1.length ≤ 140737488355328 ∧ x.2.length ≤ 140737488355328
theorem take_in2 {α : Type} {p : α → Prop} {l : List α} {i : Nat} {y : α} (h : l[i]? = some y) (h1 : ∀ x ∈ l.take i, p x) (h2 : p y) : ∀ x ∈ l.take (i + 1), p x := by
 rw [List.take_add_one, h]
 intro x hx
 rcases List.mem_append.1 hx with q | q
 ·exact h1 x q
 ·simp at q; subst q; exact h2
theorem quo_100 (n : Nat) : ((n : Int).tdiv 100) = ((n / 100 : Nat) : Int) := by
 rw [Int.tdiv_eq_ediv_of_nonneg (by omega)]; rfl
set_option maxHeartbeats 8000000 in
theorem weight_spec (l : List Prs) (hz : ZQ l) : PCall Tryz.prog 31 [dPs l] fun r => ∃ n : Nat, l.length ≤ n ∧ n ≤ 562949953421312 ∧ (n < 1000 → SzN l) ∧ r = dI n := by 
 refine pcall_of Tryz.func31 rfl rfl Tryz.ntmps31 (rs := [.tmp 2]) (tys := [3]) rfl rfl (by simp) ?_
 obtain ⟨hz0, hz1⟩ := hz
 (refine awp_sr fun Y Yh=>?_;simp[go_sem];((repeat' (first|(refine ag_x ?_;simp[go_sem])|intro _|apply And.intro|(apply Yh;clear Yh Y)));all_goals first|apply Hold.mk|omega|assumption|skip))
 (refine awp_sr fun Y Yh=>?_;simp[go_sem];((repeat' (first|(refine ag_x ?_;simp[go_sem])|intro _|apply And.intro|(apply Yh;clear Yh Y)));all_goals first|apply Hold.mk|omega|assumption|skip))
 refine awp_seq_k fun K1 hK1 => ?_
 have tl1 : ∀ S' (n : Nat), l.length ≤ n → n ≤ 562949953421312 → (n < 1000 → SzN l) → Cov S' ⟨[(3, dI n)], []⟩ → K1 S' := fun S' n h1 h2 h3 hS => by
  refine hK1 _ ?_; clear hK1
  refine awp_cov hS ?_; clear hS
  (refine awp_sr fun Y Yh=>?_;simp[go_sem];((repeat' (first|(refine ag_x ?_;simp[go_sem])|intro _|apply And.intro|(apply Yh;clear Yh Y)));all_goals first|apply Hold.mk|omega|assumption|skip))
  (refine awp_ret ?_;simp[go_sem])
  exact ⟨n, h1, h2, h3, rfl⟩
 clear hK1
 (refine awp_sr fun Y Yh=>?_;simp[go_sem];((repeat' (first|(refine ag_x ?_;simp[go_sem])|intro _|apply And.intro|(apply Yh;clear Yh Y)));all_goals first|apply Hold.mk|omega|assumption|skip))
 refine awp_block ?_
 refine awp_loop (σ := Nat × Nat) (fun z => ⟨[(0, dPs l), (3, dI z.2), (4, dI z.1)], []⟩) (fun z => z.1 ≤ l.length ∧ l.length ≤ z.2 ∧ z.2 ≤ 562949953421312 ∧ (z.2 < 1000 → ∀ x ∈ l.take z.1, Sz1 x)) (fun z => l.length - z.1) (0, l.length) ?_ ?_ ?_
 ·(refine cov_of ?_ ?_ <;> simp[go_sem])
 ·exact ⟨by simp, Nat.le_refl _, by simp only; omega, fun _ => by simp⟩
 rintro ⟨i, m⟩ ⟨hi, hnm, hm, hT⟩
 simp only at hi hnm hm hT
 refine awp_seq_k fun K4 hK4 => ?_
 by_cases h1 : i < l.length
 ·by_cases h2 : m < 1000
  ·have h2i : (m : Int) < 1000 := by omega
   have h1i : (i : Int) < l.length := by omega
   obtain ⟨x, hx⟩ : ∃ x, l[i]? = some x := ⟨_, List.getElem?_eq_getElem h1⟩
   obtain ⟨x1, x2⟩ := hz1 x (List.mem_of_getElem? hx)
   have q1 := quo_100 x.1.length
   have q2 := quo_100 x.2.length
   (refine awp_sr fun Y Yh=>?_;simp[go_sem, h1, h1i, h2, h2i];((repeat' (first|(refine ag_x ?_;simp[go_sem, h1, h1i, h2, h2i])|intro _|apply And.intro|(apply Yh;clear Yh Y)));all_goals first|apply Hold.mk|omega|assumption|skip))
   (refine awp_if fun T F hT hF=>?_;simp[go_sem, h1, h1i, h2, h2i];refine hT ?_;clear hT hF T F)
   refine awp_skip ?_
   refine hK4 _ ?_; clear hK4
   refine awp_seq_k fun K5 hK5 => ?_
   refine awp_block ?_
   ((refine awp_d (.qs [0, 1, 2, 3, 4, 9, 10, 11, 12, 5, 6, 7, 8, 13, 14, 15, 16, 17] (.nil)) (by kernel_rfl) ?_ ?_ ?_ ?_);kernel_rfl;exact (by decide +kernel);kernel_rfl;intro Y Yh;((repeat' (first|(refine ag_x ?_;simp[go_sem, hx, q1, q2])|refine adr_nil ?_|((first|refine adr_qs fun Y Yh=>?_|refine adr_y fun Y Yh=>?_);simp[go_sem, hx, q1, q2])|intro _|apply And.intro|(apply Yh;clear Yh Y)));all_goals first|apply Hold.mk|omega|assumption|skip))
   refine hK5 _ ?_; clear hK5
   (refine awp_r fun Y Yh=>?_;simp[go_sem];((repeat' (first|(refine ag_x ?_;simp[go_sem])|intro _|apply And.intro|(apply Yh;clear Yh Y)));all_goals first|apply Hold.mk|omega|assumption|skip))
   refine ⟨(i + 1, m + x.1.length / 100 + x.2.length / 100), ?_, ⟨by simp only; omega, by simp only; omega, by simp only; omega, fun q => take_in2 hx (hT h2) ⟨by simp only at q; omega, by simp only at q; omega⟩⟩, by simp only; omega⟩
   (refine cov_of ?_ ?_ <;> simp[go_sem])
  ·have h2i : ¬ (m : Int) < 1000 := by omega
   have h1i : (i : Int) < l.length := by omega
   (refine awp_sr fun Y Yh=>?_;simp[go_sem, h1, h1i, h2, h2i];((repeat' (first|(refine ag_x ?_;simp[go_sem, h1, h1i, h2, h2i])|intro _|apply And.intro|(apply Yh;clear Yh Y)));all_goals first|apply Hold.mk|omega|assumption|skip))
   (refine awp_if fun T F hT hF=>?_;simp[go_sem, h1, h1i, h2, h2i];refine hF ?_;clear hT hF T F)
   refine awp_exit ?_
   simp only [go_sem]
   refine tl1 _ m hnm hm (fun q => absurd q h2) ?_
   (refine cov_of ?_ ?_ <;> simp[go_sem])
 ·have h1i : ¬ (i : Int) < l.length := by omega
  have hie : i = l.length := by omega
  (refine awp_sr fun Y Yh=>?_;simp[go_sem, h1, h1i];((repeat' (first|(refine ag_false ?_ ?_ ?_;(focus (simp[go_sem, undef, h1, h1i];done));(focus (simp[go_sem];done));simp[go_sem, h1, h1i])|(refine ag_true ?_ ?_;(focus (simp[go_sem, undef, h1, h1i];done));simp[go_sem, h1, h1i])|(refine ag_x ?_;simp[go_sem, undef, h1, h1i])|intro _|apply And.intro|(apply Yh;clear Yh Y)));all_goals first|apply Hold.mk|omega|assumption|skip))
  (refine awp_if fun T F hT hF=>?_;simp[go_sem, h1, h1i];refine hF ?_;clear hT hF T F)
  refine awp_exit ?_
  simp only [go_sem]
  rw [hie, List.take_length] at hT
  refine tl1 _ m hnm hm (fun q => ⟨by omega, hT q⟩) ?_
  (refine cov_of ?_ ?_ <;> simp[go_sem])
abbrev ZV (v : Vrs) : Prop := v.1.length ≤ 140737488355328 ∧ ZQ v.2
abbrev ZG (g : Gm) : Prop := g.1.length ≤ 140737488355328 ∧ g.2.length ≤ 140737488355328 ∧ ∀ v ∈ g.2, ZV v
abbrev ZS (s : Src) : Prop := s.length ≤ 140737488355328 ∧ ∀ g ∈ s, ZG g
set_option maxHeartbeats 16000000 in
theorem large12_spec (s : Src) (hz : ZS s) : PCall Tryz.prog 30 [dSrc s] fun r => ∃ b, (b = false → SzS s) ∧ r = dB b := by 
 refine pcall_of Tryz.func30 rfl rfl Tryz.ntmps30 (rs := [.tmp 2]) (tys := [4]) rfl rfl (by simp) ?_
 obtain ⟨hz0, hz1⟩ := hz
 (refine awp_sr fun Y Yh=>?_;simp[go_sem];((repeat' (first|(refine ag_x ?_;simp[go_sem])|intro _|apply And.intro|(apply Yh;clear Yh Y)));all_goals first|apply Hold.mk|omega|assumption|skip))
 refine awp_frzbox 1 rfl rfl ?_
 simp only [go_sem]
 (refine awp_sr fun Y Yh=>?_;simp[go_sem];((repeat' (first|(refine ag_x ?_;simp[go_sem])|intro _|apply And.intro|(apply Yh;clear Yh Y)));all_goals first|apply Hold.mk|omega|assumption|skip))
 refine awp_seq_k fun K1 hK1 => ?_
 have tl1 : ∀ S' (n : Nat), n ≤ 1125899906842624 → (n < 1000 → SzS s) → Cov S' ⟨[(3, dI n)], []⟩ → K1 S' := fun S' n h2 h3 hS => by
  refine hK1 _ ?_; clear hK1
  refine awp_cov hS ?_; clear hS
  (refine awp_sr fun Y Yh=>?_;simp[go_sem];((repeat' (first|(refine ag_x ?_;simp[go_sem])|intro _|apply And.intro|(apply Yh;clear Yh Y)));all_goals first|apply Hold.mk|omega|assumption|skip))
  (refine awp_ret ?_;simp[go_sem])
  intro hlt
  exact h3 (by omega)
 clear hK1
 (refine awp_sr fun Y Yh=>?_;simp[go_sem];((repeat' (first|(refine ag_x ?_;simp[go_sem])|intro _|apply And.intro|(apply Yh;clear Yh Y)));all_goals first|apply Hold.mk|omega|assumption|skip))
 refine awp_block ?_
 refine awp_loop (σ := Nat × Nat) (fun z => ⟨[(1, .rd [dGms s]), (3, dI z.2), (4, dI z.1)], []⟩) (fun z => z.1 ≤ s.length ∧ s.length ≤ z.2 ∧ z.2 ≤ 1125899906842624 ∧ (z.2 < 1000 → ∀ x ∈ s.take z.1, SzG x)) (fun z => s.length - z.1) (0, s.length) ?_ ?_ ?_
 ·(refine cov_of ?_ ?_ <;> simp[go_sem])
 ·exact ⟨by simp, Nat.le_refl _, by simp only; omega, fun _ => by simp⟩
 rintro ⟨i, m⟩ ⟨hi, hnm, hm, hT⟩
 simp only at hi hnm hm hT
 refine awp_seq_k fun K4 hK4 => ?_
 by_cases h1 : i < s.length
 rotate_left
 ·have h1i : ¬ (i : Int) < s.length := by omega
  have hie : i = s.length := by omega
  (refine awp_sr fun Y Yh=>?_;simp[go_sem, h1, h1i];((repeat' (first|(refine ag_false ?_ ?_ ?_;(focus (simp[go_sem, undef, h1, h1i];done));(focus (simp[go_sem];done));simp[go_sem, h1, h1i])|(refine ag_true ?_ ?_;(focus (simp[go_sem, undef, h1, h1i];done));simp[go_sem, h1, h1i])|(refine ag_x ?_;simp[go_sem, undef, h1, h1i])|intro _|apply And.intro|(apply Yh;clear Yh Y)));all_goals first|apply Hold.mk|omega|assumption|skip))
  (refine awp_if fun T F hT hF=>?_;simp[go_sem, h1, h1i];refine hF ?_;clear hT hF T F)
  refine awp_exit ?_
  simp only [go_sem]
  rw [hie, List.take_length] at hT
  refine tl1 _ m hm (fun q => ⟨by omega, hT q⟩) ?_
  (refine cov_of ?_ ?_ <;> simp[go_sem])
 have h1i : (i : Int) < s.length := by omega
 by_cases h2 : m < 1000
 rotate_left
 ·have h2i : ¬ (m : Int) < 1000 := by omega
  (refine awp_sr fun Y Yh=>?_;simp[go_sem, h1, h1i, h2, h2i];((repeat' (first|(refine ag_x ?_;simp[go_sem, h1, h1i, h2, h2i])|intro _|apply And.intro|(apply Yh;clear Yh Y)));all_goals first|apply Hold.mk|omega|assumption|skip))
  (refine awp_if fun T F hT hF=>?_;simp[go_sem, h1, h1i, h2, h2i];refine hF ?_;clear hT hF T F)
  refine awp_exit ?_
  simp only [go_sem]
  refine tl1 _ m hm (fun q => absurd q h2) ?_
  (refine cov_of ?_ ?_ <;> simp[go_sem])
 have h2i : (m : Int) < 1000 := by omega
 obtain ⟨x, hx⟩ : ∃ x, s[i]? = some x := ⟨_, List.getElem?_eq_getElem h1⟩
 obtain ⟨x1, x2, x3⟩ := hz1 x (List.mem_of_getElem? hx)
 have q1 := quo_100 x.1.length
 (refine awp_sr fun Y Yh=>?_;simp[go_sem, h1, h1i, h2, h2i];((repeat' (first|(refine ag_x ?_;simp[go_sem, h1, h1i, h2, h2i])|intro _|apply And.intro|(apply Yh;clear Yh Y)));all_goals first|apply Hold.mk|omega|assumption|skip))
 (refine awp_if fun T F hT hF=>?_;simp[go_sem, h1, h1i, h2, h2i];refine hT ?_;clear hT hF T F)
 refine awp_skip ?_
 refine hK4 _ ?_; clear hK4
 refine awp_seq_k fun K5 hK5 => ?_
 have tl5 : ∀ S' (n : Nat), m ≤ n → n ≤ 1125899906842624 → (n < 1000 → SzG x) → Cov S' ⟨[(1, .rd [dGms s]), (3, dI n), (4, dI i)], []⟩ → K5 S' := fun S' n n1 n2 n3 hS => by
  refine hK5 _ ?_; clear hK5
  refine awp_cov hS ?_; clear hS
  (refine awp_r fun Y Yh=>?_;simp[go_sem];((repeat' (first|(refine ag_x ?_;simp[go_sem])|intro _|apply And.intro|(apply Yh;clear Yh Y)));all_goals first|apply Hold.mk|omega|assumption|skip))
  refine ⟨(i + 1, n), ?_, ⟨by simp only; omega, by simp only; omega, n2, fun q => take_in2 hx (hT h2) (n3 q)⟩, by simp only; omega⟩
  (refine cov_of ?_ ?_ <;> simp[go_sem])
 clear hK5
 refine awp_block ?_
 ((refine awp_dr (.qs [0, 1, 3, 9, 11, 2, 4, 5, 6, 7, 8, 10, 12, 13, 14, 15, 16, 17, 18] (.nil)) (by kernel_rfl) ?_ ?_ ?_ ?_);kernel_rfl;exact (by decide +kernel);kernel_rfl;intro Y Yh;((repeat' (first|(refine ag_x ?_;simp[go_sem, hx, q1])|refine adr_nil ?_|((first|refine adr_qs fun Y Yh=>?_|refine adr_y fun Y Yh=>?_);simp[go_sem, hx, q1])|intro _|apply And.intro|(apply Yh;clear Yh Y)));all_goals first|apply Hold.mk|omega|assumption|skip))
 (refine awp_sr fun Y Yh=>?_;simp[go_sem];((repeat' (first|(refine ag_x ?_;simp[go_sem])|intro _|apply And.intro|(apply Yh;clear Yh Y)));all_goals first|apply Hold.mk|omega|assumption|skip))
 refine awp_block ?_
 refine awp_loop (σ := Nat × Nat) (fun z => ⟨[(1, .rd [dGms s]), (3, dI z.2), (4, dI i), (5, dI z.1)], []⟩) (fun z => z.1 ≤ x.2.length ∧ m + x.2.length + x.1.length / 100 ≤ z.2 ∧ z.2 ≤ 1125899906842624 ∧ (z.2 < 1000 → ∀ v ∈ x.2.take z.1, SzV v)) (fun z => x.2.length - z.1) (0, m + x.2.length + x.1.length / 100) ?_ ?_ ?_
 ·(refine cov_of ?_ ?_ <;> simp[go_sem])
 ·exact ⟨by simp, Nat.le_refl _, by simp only; omega, fun _ => by simp⟩
 rintro ⟨k, n⟩ ⟨hk, hkn, hn, hV⟩
 simp only at hk hkn hn hV
 refine awp_seq_k fun K6 hK6 => ?_
 by_cases h3 : k < x.2.length
 rotate_left
 ·have h3i : ¬ (k : Int) < x.2.length := by omega
  have hie : k = x.2.length := by omega
  (refine awp_sr fun Y Yh=>?_;simp[go_sem, hx, h3, h3i];((repeat' (first|(refine ag_false ?_ ?_ ?_;(focus (simp[go_sem, undef, hx, h3, h3i];done));(focus (simp[go_sem];done));simp[go_sem, hx, h3, h3i])|(refine ag_true ?_ ?_;(focus (simp[go_sem, undef, hx, h3, h3i];done));simp[go_sem, hx, h3, h3i])|(refine ag_x ?_;simp[go_sem, undef, hx, h3, h3i])|intro _|apply And.intro|(apply Yh;clear Yh Y)));all_goals first|apply Hold.mk|omega|assumption|skip))
  (refine awp_if fun T F hT hF=>?_;simp[go_sem, h3, h3i];refine hF ?_;clear hT hF T F)
  refine awp_exit ?_
  simp only [go_sem]
  rw [hie, List.take_length] at hV
  refine tl5 _ n (by omega) hn (fun q => ⟨by omega, by omega, hV q⟩) ?_
  (refine cov_of ?_ ?_ <;> simp[go_sem])
 have h3i : (k : Int) < x.2.length := by omega
 by_cases h4 : n < 1000
 rotate_left
 ·have h4i : ¬ (n : Int) < 1000 := by omega
  (refine awp_sr fun Y Yh=>?_;simp[go_sem, hx, h3, h3i, h4, h4i];((repeat' (first|(refine ag_x ?_;simp[go_sem, hx, h3, h3i, h4, h4i])|intro _|apply And.intro|(apply Yh;clear Yh Y)));all_goals first|apply Hold.mk|omega|assumption|skip))
  (refine awp_if fun T F hT hF=>?_;simp[go_sem, h3, h3i, h4, h4i];refine hF ?_;clear hT hF T F)
  refine awp_exit ?_
  simp only [go_sem]
  refine tl5 _ n (by omega) hn (fun q => absurd q h4) ?_
  (refine cov_of ?_ ?_ <;> simp[go_sem])
 have h4i : (n : Int) < 1000 := by omega
 obtain ⟨v, hv⟩ : ∃ v, x.2[k]? = some v := ⟨_, List.getElem?_eq_getElem h3⟩
 obtain ⟨v1, v2⟩ := x3 v (List.mem_of_getElem? hv)
 have q3 := quo_100 v.1.length
 have WT := weight_spec v.2 v2
 (refine awp_sr fun Y Yh=>?_;simp[go_sem, hx, h3, h3i, h4, h4i];((repeat' (first|(refine ag_x ?_;simp[go_sem, hx, h3, h3i, h4, h4i])|intro _|apply And.intro|(apply Yh;clear Yh Y)));all_goals first|apply Hold.mk|omega|assumption|skip))
 (refine awp_if fun T F hT hF=>?_;simp[go_sem, h3, h3i, h4, h4i];refine hT ?_;clear hT hF T F)
 refine awp_skip ?_
 refine hK6 _ ?_; clear hK6
 refine awp_seq_k fun K8 hK8 => ?_
 refine awp_block ?_
 (refine awp_sr fun Y Yh=>?_;simp[go_sem, hx, hv];((repeat' (first|(refine ag_x ?_;simp[go_sem, hx, hv])|intro _|apply And.intro|(apply Yh;clear Yh Y)));all_goals first|apply Hold.mk|omega|assumption|skip))
 ((refine awp_d (.qs [0, 1, 6, 2, 3, 4, 5, 7] (.kp 8 (.qs [9, 10] (.nil)))) (by kernel_rfl) ?_ ?_ ?_ ?_);kernel_rfl;exact (by decide +kernel);kernel_rfl;intro Y Yh;((repeat' (first|(refine ag_x ?_;simp[go_sem, q3])|refine adr_nil ?_|((first|refine adr_qs fun Y Yh=>?_|refine adr_y fun Y Yh=>?_);simp[go_sem, q3])|intro _|apply And.intro|(apply Yh;clear Yh Y)));all_goals first|apply Hold.mk|omega|assumption|skip))
 ((try refine CallT.toA ?_);refine callT_m (.inl ⟨rfl,rfl⟩) (by simp[go_sem]) ?_;intro args ha;simp[go_sem] at ha;subst ha;refine ⟨_, WT, ?_⟩;rintro _ ⟨w, w1, w2, w3, rfl⟩;simp[go_sem, q3];((repeat' (first|(refine ag_x ?_;simp[go_sem, q3])|refine adr_nil ?_|((first|refine adr_qs fun Y Yh=>?_|refine adr_y fun Y Yh=>?_);simp[go_sem, q3])|intro _|apply And.intro|(apply Yh;clear Yh Y)));all_goals first|apply Hold.mk|omega|assumption|skip))
 refine hK8 _ ?_; clear hK8
 (refine awp_r fun Y Yh=>?_;simp[go_sem];((repeat' (first|(refine ag_x ?_;simp[go_sem])|intro _|apply And.intro|(apply Yh;clear Yh Y)));all_goals first|apply Hold.mk|omega|assumption|skip))
 refine ⟨(k + 1, n + v.1.length / 100 + w), ?_, ⟨by simp only; omega, by simp only; omega, by simp only; omega, fun q => take_in2 hv (hV h4) ⟨by simp only at q; omega, w3 (by simp only at q; omega)⟩⟩, by simp only; omega⟩
 (refine cov_of ?_ ?_ <;> simp[go_sem])
end Go.Proofs.YteekfnhhlcmcgaaGreatDoor
namespace Go.Proofs.YteekfnhhlcmcgaaGreatDoor
open Go.Eng Go.WideShapes Go.Wh Go.Ver Go.Lk
set_option maxRecDepth 100000
/-! the parameters of ResolveSolves and ResolveAsks, with their sizes -/
theorem oz_int : OpensZ Tryz.prog 3 (fun n : Int => cI n) InR := opensZ_int Tryz.underlying3
theorem oz_str : OpensZ Tryz.prog 9 (fun s : List UInt8 => [dS s]) (fun s => s.length ≤ 140737488355328) :=
 (opensZ_str Tryz.underlying9).iso (fun s => s.data.toList) (fun s => by cases s; simp) (fun s h => by
  have h : s.data.size ≤ reachBytes := h
  rw [Array.length_toList]
  unfold reachBytes at h
  omega)
theorem oz_ints : OpensZ Tryz.prog 22 (fun l : List Int => [dIs l]) (fun l => l.length ≤ 9223372036854775807 ∧ ∀ x ∈ l, InR x) :=
 (opensZ_slice 1 Tryz.underlying22 (by kernel_rfl) (by decide) (fun _ => rfl) oz_int).iso (fun l => l) (fun _ => rfl) (fun l h => ⟨h.2.1, h.2.2⟩)
theorem oz_pick : OpensZ Tryz.prog 41 (fun x : Prs => cP x) (fun x => x.1.length ≤ 140737488355328 ∧ x.2.length ≤ 140737488355328) := by
 have h := opensZ_struct (e := 2) Tryz.underlying41 rfl (by kernel_rfl) (opensZS_cons (n := 1) rfl (by kernel_rfl) oz_str (opensZS_cons (n := 1) rfl (by kernel_rfl) oz_str opensZS_nil))
 exact h.iso (fun x => (x.1, x.2.1)) (fun _ => rfl) (fun _ q => ⟨q.1, q.2.1⟩)
theorem oz_need : OpensZ Tryz.prog 114 (fun x : Prs => cP x) (fun x => x.1.length ≤ 140737488355328 ∧ x.2.length ≤ 140737488355328) := by
 have h := opensZ_struct (e := 2) Tryz.underlying114 rfl (by kernel_rfl) (opensZS_cons (n := 1) rfl (by kernel_rfl) oz_str (opensZS_cons (n := 1) rfl (by kernel_rfl) oz_str opensZS_nil))
 exact h.iso (fun x => (x.1, x.2.1)) (fun _ => rfl) (fun _ q => ⟨q.1, q.2.1⟩)
theorem by83 : Tryz.prog.bytesOf 41 = 32 := by kernel_rfl
theorem by100 : Tryz.prog.bytesOf 114 = 32 := by kernel_rfl
theorem reach_le {n k : Nat} (h : n * k ≤ reachBytes) (hk : 1 ≤ k) : n ≤ 140737488355328 := by
 have h1 : n * 1 ≤ n * k := Nat.mul_le_mul_left _ hk
 unfold reachBytes at h
 omega
theorem oz_picks : OpensZ Tryz.prog 34 (fun l : List Prs => [dPs l]) ZQ :=
 (opensZ_slice 2 Tryz.underlying34 (by kernel_rfl) (by decide) (fun _ => rfl) oz_pick).iso (fun l => l) (fun _ => rfl) (fun l h => ⟨reach_le h.1 (by rw [by83]; decide), h.2.2⟩)
theorem oz_needs : OpensZ Tryz.prog 38 (fun l : List Prs => [dPs l]) ZQ :=
 (opensZ_slice 2 Tryz.underlying38 (by kernel_rfl) (by decide) (fun _ => rfl) oz_need).iso (fun l => l) (fun _ => rfl) (fun l h => ⟨reach_le h.1 (by rw [by100]; decide), h.2.2⟩)
theorem by116 : Tryz.prog.bytesOf 116 = 40 := by kernel_rfl
theorem by119 : Tryz.prog.bytesOf 119 = 40 := by kernel_rfl
theorem oz_ver : OpensZ Tryz.prog 116 (fun v : Vrs => cVr v) ZV := by
 have h := opensZ_struct (e := 2) Tryz.underlying116 rfl (by kernel_rfl) (opensZS_cons (n := 1) rfl (by kernel_rfl) oz_str (opensZS_cons (n := 1) rfl (by kernel_rfl) oz_needs opensZS_nil))
 exact h.iso (fun x => (x.1, x.2.1)) (fun _ => rfl) (fun _ q => ⟨q.1, q.2.1⟩)
theorem oz_vers : OpensZ Tryz.prog 117 (fun l : List Vrs => [dVrs l]) (fun l => l.length ≤ 140737488355328 ∧ ∀ v ∈ l, ZV v) :=
 (opensZ_slice 2 Tryz.underlying117 (by kernel_rfl) (by decide) (fun _ => rfl) oz_ver).iso (fun l => l) (fun _ => rfl) (fun l h => ⟨reach_le h.1 (by rw [by116]; decide), h.2.2⟩)
theorem oz_gem : OpensZ Tryz.prog 119 (fun g : Gm => cGm g) ZG := by
 have h := opensZ_struct (e := 2) Tryz.underlying119 rfl (by kernel_rfl) (opensZS_cons (n := 1) rfl (by kernel_rfl) oz_str (opensZS_cons (n := 1) rfl (by kernel_rfl) oz_vers opensZS_nil))
 exact h.iso (fun x => (x.1, x.2.1)) (fun _ => rfl) (fun _ q => ⟨q.1, q.2.1.1, q.2.1.2⟩)
theorem oz_gems : OpensZ Tryz.prog 30 (fun l : Src => [dGms l]) ZS :=
 (opensZ_slice 2 Tryz.underlying30 (by kernel_rfl) (by decide) (fun _ => rfl) oz_gem).iso (fun l => l) (fun _ => rfl) (fun l h => ⟨reach_le h.1 (by rw [by119]; decide), h.2.2⟩)
theorem oz_src : OpensZ Tryz.prog 32 (fun s : Src => [dGms s]) ZS := by
 have h := opensZ_struct (e := 1) Tryz.underlying32 rfl (by kernel_rfl) (opensZS_cons (n := 1) rfl (by kernel_rfl) oz_gems opensZS_nil)
 exact h.iso (fun x => (x.1 : Src)) (fun _ => rfl) (fun _ q => q.1)
abbrev AskT := Src × List Prs × List Prs × Int × List Int × List Int
abbrev AskQ (x : AskT) : Prop := ZS x.1 ∧ ZQ x.2.1 ∧ ZQ x.2.2.1 ∧ InR x.2.2.2.1 ∧ (x.2.2.2.2.1.length ≤ 9223372036854775807 ∧ ∀ n ∈ x.2.2.2.2.1, InR n) ∧ (x.2.2.2.2.2.length ≤ 9223372036854775807 ∧ ∀ n ∈ x.2.2.2.2.2, InR n)
theorem oz_ask : OpensZ Tryz.prog 76 (fun x : AskT => [dGms x.1, dPs x.2.1, dPs x.2.2.1, dI x.2.2.2.1, dIs x.2.2.2.2.1, dIs x.2.2.2.2.2]) AskQ := by
 have h := opensZ_struct (e := 6) Tryz.underlying76 rfl (by kernel_rfl) (opensZS_cons (n := 1) rfl (by kernel_rfl) oz_src (opensZS_cons (n := 1) rfl (by kernel_rfl) oz_needs (opensZS_cons (n := 1) rfl (by kernel_rfl) oz_picks (opensZS_cons (n := 1) rfl (by kernel_rfl) oz_int (opensZS_cons (n := 1) rfl (by kernel_rfl) oz_ints (opensZS_cons (n := 1) rfl (by kernel_rfl) oz_ints opensZS_nil))))))
 exact h.iso (fun x => (x.1, x.2.1, x.2.2.1, x.2.2.2.1, x.2.2.2.2.1, x.2.2.2.2.2.1)) (fun _ => rfl) (fun _ q => ⟨q.1, q.2.1, q.2.2.1, q.2.2.2.1, q.2.2.2.2.1, q.2.2.2.2.2.1⟩)
theorem ovz_ask : OpensZV Tryz.prog 76 (fun x : AskT => .agg [dGms x.1, dPs x.2.1, dPs x.2.2.1, dI x.2.2.2.1, dIs x.2.2.2.2.1, dIs x.2.2.2.2.2]) AskQ := opensZV_agg Tryz.underlying76 oz_ask
theorem wrapZ {H : Type} {enc : TypeId × Value → H} {a : Assume} {C : Checked} {os : Os} {f : FuncId} {fn : Func} {s : ChangeSpec} {conds : List PathCond} {apart fresh handsOn again : Bool} {X : World → Array Value → Prop}
  (hX : ∀ (w w' : World) (args : Array Value), w.heap = w'.heap → X w args → X w' args)
  (own : ownKnob C.prog.godebug = none) (started : os.Started) (noInit : C.prog.inits.idxOf? f = none) (hfn : C.prog.funcs[f]? = some fn)
  (witness : ∃ (w : World) (tape : Tape) (i : Input), w.os = os ∧ (w.forCall tape i).Shaped C.prog ∧ i.vars = [] ∧ Input.okWide C.prog (w.forCall tape i) .any w.heap.size f i ∧
   ((s.pre enc C.prog fn conds apart (w.forCall tape i).memory i.args ∧ X (w.forCall tape i).memory i.args) ∧ sizedMet enc C.prog fn (OpenSpec.ofChange s) apart (w.forCall tape i).memory i.args) ∧ a.holds C.prog (lone (Frame.enter C.prog f i.args .normal) [] (w.forCall tape i)))
  (contract : ∀ (W : World) (base : Nat) (args : Array Value) (ds gs : List (DataW H)) (before : List MemPlace),
   (∀ (j : Nat) t v, fn.params[j]? = some t → args[j]? = some v → Value.okWide C.prog W .any base t v) →
   DataW.Whole enc C.prog fn.params.toList s.vars apart W args.toList ds gs before → sizedMet enc C.prog fn (OpenSpec.ofChange s) apart W args → X W args → W.ShapedOpen C.prog →
   Calls C.prog f args W fun e W' => ∃ v, e = .returned v ∧ s.post enc C.prog fn apart fresh handsOn again W args v W') :
  ReturnsInHanded a C os f .any (fun w args => (s.pre enc C.prog fn conds apart w args ∧ X w args) ∧ sizedMet enc C.prog fn (OpenSpec.ofChange s) apart w args) (s.post enc C.prog fn apart fresh handsOn again) := by
 refine returnsInHanded_of_calls own started noInit witness ?_
 intro w tape i _ hsh _ hok hpre hholds
 obtain ⟨_, _, _, fn', hfn', _, _, _, _, hval⟩ := hok
 have e : fn' = fn := Option.some.inj (hfn'.symm.trans hfn)
 subst e
 obtain ⟨⟨⟨ds, gs, before, hw, hc⟩, hx⟩, hp, dz, gz, bz, hwz, hlz⟩ := hpre
 have hw' := DataW.Whole.of_heap (w' := w.forCall tape i) (by rfl) hw
 have hwz' := DataW.Whole.of_heap (w' := w.forCall tape i) (by rfl) hwz
 refine (contract (w.forCall tape i) w.heap.size i.args ds gs before hval hw' ⟨hp, dz, gz, bz, hwz', hlz⟩ (hX _ _ _ (by rfl) hx) hsh).mono fun e W' ⟨v, he, hp⟩ => ?_
 subst he
 exact ChangeSpec.post_blind hp
end Go.Proofs.YteekfnhhlcmcgaaGreatDoor
namespace Go.Proofs.YteekfnhhlcmcgaaGreatDoor
open Go.Eng Go.Wh Go.Ver Go.Lk
set_option maxRecDepth 20000
attribute [local irreducible] AG CallA CallT AWp PCall ACall AgC
set_option maxHeartbeats 4000000 in
theorem texts12_spec (a b : List Bs) (ha : a.length ≤ 1000000) (hb : b.length ≤ 1000000) : PCall Tryz.prog 97 [dSs a, dSs b] fun r => r = dB (decide (a = b)) := by 
 refine pcall_of Tryz.func97 rfl rfl Tryz.ntmps97 (rs := [.tmp 4]) (tys := [4]) rfl rfl (by simp) ?_
 (refine awp_sr fun Y Yh=>?_;simp[go_sem];((repeat' (first|intro _|apply And.intro|(apply Yh;clear Yh Y)));all_goals first|apply Hold.mk|omega|assumption|skip))
 refine awp_seq_k fun K1 hK1 => ?_
 (refine awp_sr fun Y Yh=>?_;simp[go_sem];((repeat' (first|intro _|apply And.intro|(apply Yh;clear Yh Y)));all_goals first|apply Hold.mk|omega|assumption|skip))
 (refine awp_if fun T F hT hF=>?_;simp[go_sem];refine BR.intro (fun h2=>hT ?_) (fun h2=>hF ?_);all_goals clear hT hF T F;try simp at h2) 
 ·(refine awp_sr fun Y Yh=>?_;simp[go_sem];((repeat' (first|intro _|apply And.intro|(apply Yh;clear Yh Y)));all_goals first|apply Hold.mk|omega|assumption|skip))
  have : ¬ a = b := fun q => h2 (by rw [q])
  (refine awp_ret ?_;simp[go_sem, h2, this])
 ·have hl : a.length = b.length := by omega
  refine awp_skip ?_
  refine hK1 _ ?_; clear hK1
  refine awp_seq_k fun K3 hK3 => ?_
  (refine awp_sr fun Y Yh=>?_;simp[go_sem];((repeat' (first|intro _|apply And.intro|(apply Yh;clear Yh Y)));all_goals first|apply Hold.mk|omega|assumption|skip))
  refine awp_block ?_
  refine awp_loop (σ := Nat) (fun i => ⟨[(0, dSs a), (1, dSs b), (5, dI i)], []⟩) (fun i => i ≤ a.length ∧ a.take i = b.take i) (fun i => a.length - i) 0 ?_ ?_ ?_
  ·(refine cov_of ?_ ?_ <;> simp[go_sem])
  ·simp
  rintro i ⟨hi, ht⟩
  refine awp_seq_k fun K4 hK4 => ?_
  (refine awp_sr fun Y Yh=>?_;simp[go_sem];((repeat' (first|intro _|apply And.intro|(apply Yh;clear Yh Y)));all_goals first|apply Hold.mk|omega|assumption|skip))
  (refine awp_if fun T F hT hF=>?_;simp[go_sem];refine BR.intro (fun h5=>hT ?_) (fun h5=>hF ?_);all_goals clear hT hF T F;try simp at h5) 
  ·refine awp_skip ?_
   refine hK4 _ ?_; clear hK4
   obtain ⟨x, hx⟩ : ∃ x, a[i]? = some x := ⟨_, List.getElem?_eq_getElem (by omega)⟩
   obtain ⟨y, hy⟩ : ∃ y, b[i]? = some y := ⟨_, List.getElem?_eq_getElem (by omega)⟩
   have hs := take_eq_step hx hy ht
   have hn := take_ne hx hy
   refine awp_seq_k fun K6 hK6 => ?_
   refine awp_block ?_
   ((refine awp_dr (.qs [0, 1, 2, 4, 5, 6, 3, 7, 8] (.nil)) (by kernel_rfl) ?_ ?_ ?_ ?_);kernel_rfl;exact (by decide +kernel);kernel_rfl;intro Y Yh;((repeat' (first|refine adr_nil ?_|((first|refine adr_qs fun Y Yh=>?_|refine adr_y fun Y Yh=>?_);simp[go_sem, hx, hy])|intro _|apply And.intro|(apply Yh;clear Yh Y)));all_goals first|apply Hold.mk|omega|assumption|skip))
   (refine awp_if fun T F hT hF=>?_;simp[go_sem];refine BR.intro (fun h7=>hT ?_) (fun h7=>hF ?_);all_goals clear hT hF T F;try simp at h7) 
   ·have hne : ¬ a = b := hn (fun q => by subst q; simp at h7)
    (refine awp_sr fun Y Yh=>?_;simp[go_sem];((repeat' (first|intro _|apply And.intro|(apply Yh;clear Yh Y)));all_goals first|apply Hold.mk|omega|assumption|skip))
    (refine awp_ret ?_;simp[go_sem, hne])
   ·refine awp_skip ?_
    refine hK6 _ ?_; clear hK6
    (refine awp_r fun Y Yh=>?_;simp[go_sem];((repeat' (first|intro _|apply And.intro|(apply Yh;clear Yh Y)));all_goals first|apply Hold.mk|omega|assumption|skip))
    refine ⟨i + 1, ?_, ⟨by omega, ?_⟩, by omega⟩
    ·(refine cov_of ?_ ?_ <;> simp[go_sem])
    ·exact hs.2 h7
  ·refine awp_exit ?_
   simp only [go_sem]
   refine hK3 _ ?_; clear hK3
   have : i = a.length := by omega
   subst this
   have := take_all hl ht
   (refine awp_sr fun Y Yh=>?_;simp[go_sem];((repeat' (first|intro _|apply And.intro|(apply Yh;clear Yh Y)));all_goals first|apply Hold.mk|omega|assumption|skip))
   (refine awp_ret ?_;simp[go_sem, h2, h5, this])
set_option maxHeartbeats 16000000 in
theorem rpicks_spec (s : Src) (l : List Prs) (hs : SzS s) (hl : l.length ≤ 1000000) : PCall Tryz.prog 135 [dSrc s, dPs l] fun r => r = dB (picksQ s l) := by 
 refine pcall_of Tryz.func135 rfl rfl Tryz.ntmps135 (rs := [.tmp 4]) (tys := [4]) rfl rfl (by simp) ?_
 have FD := fun p => found_spec s p hs
 (refine awp_sr fun Y Yh=>?_;simp[go_sem];((repeat' (first|intro _|apply And.intro|(apply Yh;clear Yh Y)));all_goals first|apply Hold.mk|omega|assumption|skip))
 refine awp_frzbox 2 rfl rfl ?_
 simp only [go_sem]
 refine awp_seq_k fun K1 hK1 => ?_
 (refine awp_sr fun Y Yh=>?_;simp[go_sem];((repeat' (first|intro _|apply And.intro|(apply Yh;clear Yh Y)));all_goals first|apply Hold.mk|omega|assumption|skip))
 refine awp_block ?_
 refine awp_loop (σ := Nat) (fun i => ⟨[(1, dPs l), (2, .rd [dGms s]), (5, dI i)], []⟩) (fun i => i ≤ l.length ∧ upTo (pickS s l) i = true) (fun i => l.length - i) 0 ?_ ?_ ?_
 ·(refine cov_of ?_ ?_ <;> simp[go_sem])
 ·exact ⟨by simp, rfl⟩
 rintro i ⟨hi, hT⟩
 refine awp_seq_k fun K2 hK2 => ?_
 (refine awp_sr fun Y Yh=>?_;simp[go_sem];((repeat' (first|intro _|apply And.intro|(apply Yh;clear Yh Y)));all_goals first|apply Hold.mk|omega|assumption|skip))
 (refine awp_if fun T F hT hF=>?_;simp[go_sem];refine BR.intro (fun h3=>hT ?_) (fun h3=>hF ?_);all_goals clear hT hF T F;try simp at h3)
 ·refine awp_skip ?_
  refine hK2 _ ?_; clear hK2
  have hil : i < l.length := by omega
  obtain ⟨x, hx⟩ : ∃ x, l[i]? = some x := ⟨_, List.getElem?_eq_getElem hil⟩
  have hst := picks_step hx hT
  have hbad : upTo (pickS s l) (i + 1) = false → picksQ s l = false := fun h => by
   cases hq : picksQ s l with
   | false => rfl
   | true =>
    have h1 := upTo_iff.1 hq
    rw [upTo_iff.2 fun j hj => h1 j (by omega)] at h
    cases h
  have F1 := FD x
  generalize fndP s x = v at F1
  generalize fndV s x = o at F1 hst
  refine awp_seq_k fun K4 hK4 => ?_
  refine awp_block ?_
  ((refine awp_dr (.qs [1, 2, 3, 0, 4] (.kp2 5 (.qs [6, 7, 8] (.kp 9 (.one 10 (.qs [11] (.nil))))) 9 (.kp 5 (.qs [6, 7, 8] (.one 10 (.qs [11] (.nil))))))) (by kernel_rfl) ?_ ?_ ?_ ?_);kernel_rfl;exact (by decide +kernel);kernel_rfl;intro Y Yh;((repeat' (first|refine adr_nil ?_|refine adr_kp2 ?_ ?_|((first|refine adr_qs fun Y Yh=>?_|refine adr_y fun Y Yh=>?_);simp[go_sem, hx])|intro _|apply And.intro|(apply Yh;clear Yh Y)));all_goals first|apply Hold.mk|omega|assumption|skip))
  all_goals ((try refine CallT.toA ?_);refine callT_m (.inl ⟨rfl,rfl⟩) (by simp[go_sem]) ?_;intro args ha;simp[go_sem] at ha;subst ha;refine ⟨_, F1, ?_⟩;rintro _ rfl;simp[go_sem, hx];((repeat' (first|refine adr_nil ?_|refine adr_kp2 ?_ ?_|((first|refine adr_qs fun Y Yh=>?_|refine adr_y fun Y Yh=>?_);simp[go_sem, hx])|intro _|apply And.intro|(apply Yh;clear Yh Y)));all_goals first|apply Hold.mk|omega|assumption|skip))
  all_goals
   cases o with
   | none =>
    have hF := hbad (by rw [hst]; rfl)
    ((refine awp_dr (.qs [0, 1, 2] (.sk 3 (.sk 4 (.sk 5 (.sk 6 (.sk 7 (.sk 8 (.sk 9 (.sk 11 (.sk 12 (.sk 13 (.sk 14 (.sk 15 (.sk 10 (.sk 16 (.sk 17 (.sk 18 (.qs [19] (.nil))))))))))))))))))) (by kernel_rfl) ?_ ?_ ?_ ?_);kernel_rfl;exact (by decide +kernel);kernel_rfl;intro Y Yh;((repeat' (first|refine adr_nil ?_|((first|refine adr_qs fun Y Yh=>?_|refine adr_y fun Y Yh=>?_);simp[go_sem, undef])|intro _|apply And.intro|(apply Yh;clear Yh Y)));all_goals first|apply Hold.mk|omega|assumption|skip))
    (refine awp_if fun T F hT hF=>?_;simp[go_sem];refine hT ?_;clear hT hF T F)
    (refine awp_sr fun Y Yh=>?_;simp[go_sem];((repeat' (first|intro _|apply And.intro|(apply Yh;clear Yh Y)));all_goals first|apply Hold.mk|omega|assumption|skip))
    (refine awp_ret ?_;simp[go_sem, hF])
   | some u =>
    by_cases h0 : i = 0
    ·subst h0
     have hT1 : upTo (pickS s l) (0 + 1) = true := by rw [hst]; rfl
     ((refine awp_dr (.qs [0, 1, 2, 3, 4, 5] (.sk 6 (.sk 7 (.sk 8 (.sk 9 (.sk 11 (.sk 12 (.sk 13 (.sk 14 (.sk 15 (.sk 10 (.sk 16 (.sk 17 (.qs [18, 19] (.nil))))))))))))))) (by kernel_rfl) ?_ ?_ ?_ ?_);kernel_rfl;exact (by decide +kernel);kernel_rfl;intro Y Yh;((repeat' (first|refine adr_nil ?_|((first|refine adr_qs fun Y Yh=>?_|refine adr_y fun Y Yh=>?_);simp[go_sem, undef])|intro _|apply And.intro|(apply Yh;clear Yh Y)));all_goals first|apply Hold.mk|omega|assumption|skip))
     (refine awp_if fun T F hT hF=>?_;simp[go_sem];refine hF ?_;clear hT hF T F)
     refine awp_skip ?_
     refine hK4 _ ?_
     (refine awp_r fun Y Yh=>?_;simp[go_sem];((repeat' (first|intro _|apply And.intro|(apply Yh;clear Yh Y)));all_goals first|apply Hold.mk|omega|assumption|skip))
     refine ⟨1, ?_, ⟨by omega, hT1⟩, by omega⟩
     (refine cov_of ?_ ?_ <;> simp[go_sem])
    ·obtain ⟨j, rfl⟩ : ∃ j, i = j + 1 := ⟨i - 1, by omega⟩
     obtain ⟨y, hy⟩ : ∃ y, l[j]? = some y := ⟨_, List.getElem?_eq_getElem (by omega)⟩
     have hi1 : ((j : Int) + 1 - 1).toNat = j := by omega
     have hi2 : (j : Int) + 1 - 1 = j := by omega
     have hi3 : ((j : Int) + 1).toNat = j + 1 := by omega
     have hpos : (0 : Int) < (j : Int) + 1 := by omega
     simp only [Nat.add_sub_cancel, hy] at hst
     generalize hlb : Op.bytesLess y.1 x.1 = lb at *
     ((refine awp_dr (.qs [0, 1, 2, 3, 4, 5, 6, 7, 8, 9, 11, 12, 13, 14, 15, 10, 16, 17, 18, 19] (.nil)) (by kernel_rfl) ?_ ?_ ?_ ?_);kernel_rfl;exact (by decide +kernel);kernel_rfl;intro Y Yh;((repeat' (first|refine adr_nil ?_|((first|refine adr_qs fun Y Yh=>?_|refine adr_y fun Y Yh=>?_);simp[go_sem, hx, hy, hi1, hi2, hi3, hpos, hlb])|intro _|apply And.intro|(apply Yh;clear Yh Y)));all_goals first|apply Hold.mk|omega|assumption|skip))
     cases lb with
     | false =>
      have hF := hbad (by rw [hst]; simp)
      (refine awp_if fun T F hT hF=>?_;simp[go_sem];refine hT ?_;clear hT hF T F)
      (refine awp_sr fun Y Yh=>?_;simp[go_sem];((repeat' (first|intro _|apply And.intro|(apply Yh;clear Yh Y)));all_goals first|apply Hold.mk|omega|assumption|skip))
      (refine awp_ret ?_;simp[go_sem, hF])
     | true =>
      have hT1 : upTo (pickS s l) (j + 1 + 1) = true := by rw [hst]; simp
      (refine awp_if fun T F hT hF=>?_;simp[go_sem];refine hF ?_;clear hT hF T F)
      refine awp_skip ?_
      refine hK4 _ ?_
      (refine awp_r fun Y Yh=>?_;simp[go_sem];((repeat' (first|intro _|apply And.intro|(apply Yh;clear Yh Y)));all_goals first|apply Hold.mk|omega|assumption|skip))
      refine ⟨j + 1 + 1, ?_, ⟨by omega, hT1⟩, by omega⟩
      (refine cov_of ?_ ?_ <;> simp[go_sem])
 ·refine awp_exit ?_
  simp only [go_sem]
  refine hK1 _ ?_; clear hK1
  have hie : i = l.length := by omega
  subst hie
  have hT' : picksQ s l = true := hT
  (refine awp_sr fun Y Yh=>?_;simp[go_sem];((repeat' (first|intro _|apply And.intro|(apply Yh;clear Yh Y)));all_goals first|apply Hold.mk|omega|assumption|skip))
  (refine awp_ret ?_;simp[go_sem, hT'])
set_option maxHeartbeats 16000000 in
theorem rLacks_spec (s : Src) (w l : List Prs) (hs : SzS s) (hw : SzN w) (hl : l.length ≤ 1000) (hlz : ∀ x ∈ l, Sz1 x) : PCall Tryz.prog 136 [dSrc s, dPs w, dPs l] fun r => r = dPs (lackV (allN s w l) l) := by 
 refine pcall_of Tryz.func136 rfl rfl Tryz.ntmps136 (rs := [.tmp 6]) (tys := [26]) rfl rfl (by simp) ?_
 have AL := all_spec s w l hs hw hl
 have haz := allN_mem (l := l) hs hw.2
 have hal := allN_len (w := w) hs l
 have hal2 : (allN s w l).length ≤ 2000000000 := by have := hw.1; have : l.length * 1000000 ≤ 1000 * 1000000 := Nat.mul_le_mul_right _ hl; omega
 generalize allN s w l = all at *
 (refine awp_sr fun Y Yh=>?_;simp[go_sem];((repeat' (first|intro _|apply And.intro|(apply Yh;clear Yh Y)));all_goals first|apply Hold.mk|omega|assumption|skip))
 refine awp_frzbox 3 rfl rfl ?_
 simp only [go_sem]
 (refine awp_sr fun Y Yh=>?_;simp[go_sem];((repeat' (first|intro _|apply And.intro|(apply Yh;clear Yh Y)));all_goals first|apply Hold.mk|omega|assumption|skip))
 ((try refine CallT.toA ?_);refine callT_m (.inl ⟨rfl,rfl⟩) (by simp[go_sem]) ?_;intro args ha;simp[go_sem] at ha;subst ha;refine ⟨_, AL, ?_⟩;rintro _ rfl;simp[go_sem];((repeat' (first|intro _|apply And.intro|(apply Yh;clear Yh Y)));all_goals first|apply Hold.mk|omega|assumption|skip))
 (refine awp_sr fun Y Yh=>?_;simp[go_sem];((repeat' (first|intro _|apply And.intro|(apply Yh;clear Yh Y)));all_goals first|apply Hold.mk|omega|assumption|skip))
 refine awp_nilslot 8 900013 43 2 rfl fun g8 => ?_
 simp only [go_sem]
 refine awp_seq_k fun K1 hK1 => ?_
 (refine awp_sr fun Y Yh=>?_;simp[go_sem];((repeat' (first|intro _|apply And.intro|(apply Yh;clear Yh Y)));all_goals first|apply Hold.mk|omega|assumption|skip))
 refine awp_block ?_
 refine awp_loop (σ := Nat × Nat) (fun z => ⟨[(2, dPs l), (7, dPs all), (8, .own 900013 z.2), (9, dI z.1)], [(900013, (z.2, .row 43 2 ((lackV (all.take z.1) l).map cP)))]⟩) (fun z => z.1 ≤ all.length) (fun z => all.length - z.1) (0, g8) ?_ ?_ ?_
 ·(refine cov_of ?_ ?_ <;> simp[go_sem, lackV])
 ·simp
 rintro ⟨i, g⟩ hi
 simp only at hi
 refine awp_seq_k fun K2 hK2 => ?_
 (refine awp_sr fun Y Yh=>?_;simp[go_sem];((repeat' (first|intro _|apply And.intro|(apply Yh;clear Yh Y)));all_goals first|apply Hold.mk|omega|assumption|skip))
 (refine awp_if fun T F hT hF=>?_;simp[go_sem];refine BR.intro (fun h3=>hT ?_) (fun h3=>hF ?_);all_goals clear hT hF T F;try simp at h3)
 ·refine awp_skip ?_
  refine hK2 _ ?_; clear hK2
  obtain ⟨x, hx⟩ : ∃ x, all[i]? = some x := ⟨_, List.getElem?_eq_getElem (by omega)⟩
  have hst := lack_step (l := l) hx
  have hFl : (lackV (all.take i) l).length ≤ 2000000000 := by
   have h1 := List.length_filter_le (lackN l) (all.take i)
   rw [List.length_take] at h1
   unfold lackV
   omega
  obtain ⟨hz1, hz2⟩ := haz x (List.mem_of_getElem? hx)
  have PK := picked_spec l x.1 (by omega)
  have hpz := pkdV_sz (l := l) (fun y hy => (hlz y hy).2) x.1
  have MT := r12met_spec (pkdV l x.1) x.2 hpz hz2
  unfold lackN at hst
  generalize pkdV l x.1 = p at *
  generalize meetsP p x.2 = mt at *
  generalize lackV (all.take i) l = F at *
  refine awp_seq_k fun K4 hK4 => ?_
  have tl4 : ∀ S' g', Cov S' ⟨[(2, dPs l), (7, dPs all), (8, .own 900013 g'), (9, dI i)], [(900013, (g', .row 43 2 ((lackV (all.take (i + 1)) l).map cP)))]⟩ → K4 S' := fun S' g' hS => by
   refine hK4 _ ?_; clear hK4
   refine awp_cov hS ?_; clear hS
   (refine awp_r fun Y Yh=>?_;simp[go_sem];((repeat' (first|intro _|apply And.intro|(apply Yh;clear Yh Y)));all_goals first|apply Hold.mk|omega|assumption|skip))
   refine ⟨(i + 1, g'), ?_, by simp only; omega, by simp only; omega⟩
   (refine cov_of ?_ ?_ <;> simp[go_sem])
  clear hK4
  refine awp_block ?_
  (refine awp_sr fun Y Yh=>?_;simp[go_sem, hx];((repeat' (first|intro _|apply And.intro|(apply Yh;clear Yh Y)));all_goals first|apply Hold.mk|omega|assumption|skip))
  ((try refine CallT.toA ?_);refine callT_m (.inl ⟨rfl,rfl⟩) (by simp[go_sem]) ?_;intro args ha;simp[go_sem] at ha;subst ha;refine ⟨_, PK, ?_⟩;rintro _ rfl;simp[go_sem, hx];((repeat' (first|intro _|apply And.intro|(apply Yh;clear Yh Y)));all_goals first|apply Hold.mk|omega|assumption|skip))
  by_cases hp : p = []
  ·subst hp
   (refine awp_sr fun Y Yh=>?_;simp[go_sem, hx];((repeat' (first|(refine ag_false ?_ ?_ ?_;(focus (simp[go_sem, undef, hx];done));(focus (simp[go_sem];done));simp[go_sem, hx])|(refine ag_true ?_ ?_;(focus (simp[go_sem, undef, hx];done));simp[go_sem, hx])|(refine ag_x ?_;simp[go_sem, undef, hx])|intro _|apply And.intro|(apply Yh;clear Yh Y)));all_goals first|apply Hold.mk|omega|assumption|skip))
   (refine awp_if fun T F hT hF=>?_;simp[go_sem];refine hT ?_;clear hT hF T F)
   (refine awp_r fun Y Yh=>?_;simp[go_sem, hx];((repeat' (first|intro _|apply And.intro|(apply Yh;clear Yh Y)));all_goals first|apply Hold.mk|omega|assumption|skip))
   rename_i gq g'
   refine tl4 _ g' ?_
   rw [hst]
   (refine cov_of ?_ ?_ <;> simp[go_sem])
  ·have hpe : p.isEmpty = false := by cases p with | nil => exact absurd rfl hp | cons _ _ => rfl
   (refine awp_sr fun Y Yh=>?_;simp[go_sem, hx, hpe];((repeat' (first|(refine ag_false ?_ ?_ ?_;(focus (simp[go_sem, undef, hx, hpe];done));(focus (simp[go_sem];done));simp[go_sem, hx, hpe])|(refine ag_true ?_ ?_;(focus (simp[go_sem, undef, hx, hpe];done));simp[go_sem, hx, hpe])|(refine ag_x ?_;simp[go_sem, undef, hx, hpe])|intro _|apply And.intro|(apply Yh;clear Yh Y)));all_goals first|apply Hold.mk|omega|assumption|skip))
   ((try refine CallT.toA ?_);refine callT_m (.inl ⟨rfl,rfl⟩) (by simp[go_sem]) ?_;intro args ha;simp[go_sem] at ha;subst ha;refine ⟨_, MT, ?_⟩;rintro _ rfl;simp[go_sem, hx, hpe];((repeat' (first|(refine ag_false ?_ ?_ ?_;(focus (simp[go_sem, undef, hx, hpe];done));(focus (simp[go_sem];done));simp[go_sem, hx, hpe])|(refine ag_true ?_ ?_;(focus (simp[go_sem, undef, hx, hpe];done));simp[go_sem, hx, hpe])|(refine ag_x ?_;simp[go_sem, undef, hx, hpe])|intro _|apply And.intro|(apply Yh;clear Yh Y)));all_goals first|apply Hold.mk|omega|assumption|skip))
   cases mt with
   | true =>
    (refine awp_if fun T F hT hF=>?_;simp[go_sem];refine hF ?_;clear hT hF T F)
    refine awp_skip ?_
    refine tl4 _ g ?_
    simp only [hp, decide_false, Bool.not_true, Bool.or_self, Bool.false_eq_true, if_false, List.append_nil] at hst
    rw [hst]
    (refine cov_of ?_ ?_ <;> simp[go_sem])
   | false =>
    (refine awp_if fun T F hT hF=>?_;simp[go_sem];refine hT ?_;clear hT hF T F)
    (refine awp_r fun Y Yh=>?_;simp[go_sem, hx];((repeat' (first|intro _|apply And.intro|(apply Yh;clear Yh Y)));all_goals first|apply Hold.mk|omega|assumption|skip))
    rename_i gq g'
    refine tl4 _ g' ?_
    rw [hst]
    (refine cov_of ?_ ?_ <;> simp[go_sem, hp])
 ·refine awp_exit ?_
  simp only [go_sem]
  refine hK1 _ ?_; clear hK1
  have hie : i = all.length := by omega
  subst hie
  rw [List.take_length]
  (refine awp_sr fun Y Yh=>?_;simp[go_sem];((repeat' (first|intro _|apply And.intro|(apply Yh;clear Yh Y)));all_goals first|apply Hold.mk|omega|assumption|skip))
  refine awp_frzrow 6 rfl rfl ?_
  simp only [go_sem]
  (refine awp_ret ?_;simp[go_sem])
set_option maxHeartbeats 8000000 in
theorem rMissing_spec (s : Src) (w l : List Prs) (hs : SzS s) (hw : SzN w) (hl : l.length ≤ 1000) : PCall Tryz.prog 93 [dSrc s, dPs w, dPs l] fun r => r = .tup [dPs (if okQ s w l then lackV (allN s w l) l else []), dI (if okQ s w l then 0 else 1)] := by 
 refine pcall_of Tryz.func93 rfl rfl Tryz.ntmps93 (rs := [.tmp 6, .tmp 7]) (tys := [26, 35]) rfl rfl (by simp) ?_
 have CK := rChk_spec s w hs hw
 have PK := rpicks_spec s l hs (by omega)
 have LK := fun hz => rLacks_spec s w l hs hw hl hz
 have hz : chkV s w = true → picksQ s l = true → ∀ x ∈ l, Sz1 x := fun hc hp => pick_sz (chk_parts hc).1 (picksQ_ok hp)
 unfold okQ
 generalize lackV (allN s w l) l = k at *
 generalize picksQ s l = pk at *
 generalize chkV s w = ck at *
 (refine awp_sr fun Y Yh=>?_;simp[go_sem];((repeat' (first|intro _|apply And.intro|(apply Yh;clear Yh Y)));all_goals first|apply Hold.mk|omega|assumption|skip))
 refine awp_frzbox 3 rfl rfl ?_
 simp only [go_sem]
 refine awp_seq_k fun K1 hK1 => ?_
 cases ck with
 | false =>
  (refine awp_sr fun Y Yh=>?_;simp[go_sem];((repeat' (first|(refine ag_false ?_ ?_ ?_;(focus (simp[go_sem, undef];done));(focus (simp[go_sem];done));simp[go_sem])|(refine ag_true ?_ ?_;(focus (simp[go_sem, undef];done));simp[go_sem])|(refine ag_x ?_;simp[go_sem, undef])|intro _|apply And.intro|(apply Yh;clear Yh Y)));all_goals first|apply Hold.mk|omega|assumption|skip))
  ((try refine CallT.toA ?_);refine callT_m (.inl ⟨rfl,rfl⟩) (by simp[go_sem]) ?_;intro args ha;simp[go_sem] at ha;subst ha;refine ⟨_, CK, ?_⟩;rintro _ rfl;simp[go_sem];((repeat' (first|(refine ag_false ?_ ?_ ?_;(focus (simp[go_sem, undef];done));(focus (simp[go_sem];done));simp[go_sem])|(refine ag_true ?_ ?_;(focus (simp[go_sem, undef];done));simp[go_sem])|(refine ag_x ?_;simp[go_sem, undef])|intro _|apply And.intro|(apply Yh;clear Yh Y)));all_goals first|apply Hold.mk|omega|assumption|skip))
  (refine awp_if fun T F hT hF=>?_;simp[go_sem];refine hT ?_;clear hT hF T F)
  (refine awp_sr fun Y Yh=>?_;simp[go_sem];((repeat' (first|intro _|apply And.intro|(apply Yh;clear Yh Y)));all_goals first|apply Hold.mk|omega|assumption|skip))
  (refine awp_ret ?_;simp[go_sem])
 | true =>
  (refine awp_sr fun Y Yh=>?_;simp[go_sem];((repeat' (first|(refine ag_false ?_ ?_ ?_;(focus (simp[go_sem, undef];done));(focus (simp[go_sem];done));simp[go_sem])|(refine ag_true ?_ ?_;(focus (simp[go_sem, undef];done));simp[go_sem])|(refine ag_x ?_;simp[go_sem, undef])|intro _|apply And.intro|(apply Yh;clear Yh Y)));all_goals first|apply Hold.mk|omega|assumption|skip))
  ((try refine CallT.toA ?_);refine callT_m (.inl ⟨rfl,rfl⟩) (by simp[go_sem]) ?_;intro args ha;simp[go_sem] at ha;subst ha;refine ⟨_, CK, ?_⟩;rintro _ rfl;simp[go_sem];((repeat' (first|(refine ag_false ?_ ?_ ?_;(focus (simp[go_sem, undef];done));(focus (simp[go_sem];done));simp[go_sem])|(refine ag_true ?_ ?_;(focus (simp[go_sem, undef];done));simp[go_sem])|(refine ag_x ?_;simp[go_sem, undef])|intro _|apply And.intro|(apply Yh;clear Yh Y)));all_goals first|apply Hold.mk|omega|assumption|skip))
  ((try refine CallT.toA ?_);refine callT_m (.inl ⟨rfl,rfl⟩) (by simp[go_sem]) ?_;intro args ha;simp[go_sem] at ha;subst ha;refine ⟨_, PK, ?_⟩;rintro _ rfl;simp[go_sem];((repeat' (first|(refine ag_false ?_ ?_ ?_;(focus (simp[go_sem, undef];done));(focus (simp[go_sem];done));simp[go_sem])|(refine ag_true ?_ ?_;(focus (simp[go_sem, undef];done));simp[go_sem])|(refine ag_x ?_;simp[go_sem, undef])|intro _|apply And.intro|(apply Yh;clear Yh Y)));all_goals first|apply Hold.mk|omega|assumption|skip))
  cases pk with
  | false =>
   (refine awp_if fun T F hT hF=>?_;simp[go_sem];refine hT ?_;clear hT hF T F)
   (refine awp_sr fun Y Yh=>?_;simp[go_sem];((repeat' (first|intro _|apply And.intro|(apply Yh;clear Yh Y)));all_goals first|apply Hold.mk|omega|assumption|skip))
   (refine awp_ret ?_;simp[go_sem])
  | true =>
   (refine awp_if fun T F hT hF=>?_;simp[go_sem];refine hF ?_;clear hT hF T F)
   refine awp_skip ?_
   refine hK1 _ ?_; clear hK1
   (refine awp_sr fun Y Yh=>?_;simp[go_sem];((repeat' (first|intro _|apply And.intro|(apply Yh;clear Yh Y)));all_goals first|apply Hold.mk|omega|assumption|skip))
   ((try refine CallT.toA ?_);refine callT_m (.inl ⟨rfl,rfl⟩) (by simp[go_sem]) ?_;intro args ha;simp[go_sem] at ha;subst ha;refine ⟨_, (LK (hz rfl rfl)), ?_⟩;rintro _ rfl;simp[go_sem];((repeat' (first|intro _|apply And.intro|(apply Yh;clear Yh Y)));all_goals first|apply Hold.mk|omega|assumption|skip))
   (refine awp_ret ?_;simp[go_sem])
theorem any_take {α : Type} (f : α → Bool) {l : List α} {i : Nat} {x : α} (h : l[i]? = some x) : (l.take (i + 1)).any f = ((l.take i).any f || f x) := by
 rw [List.take_add_one, h]; simp
set_option maxHeartbeats 16000000 in
theorem rSolution_spec (s : Src) (w l : List Prs) (hs : SzS s) (hw : SzN w) (hl : l.length ≤ 1000) (hlz : ∀ x ∈ l, Sz1 x) : PCall Tryz.prog 104 [dSrc s, dPs w, dPs l] fun r => r = dB (solQ (allN s w l) l) := by 
 refine pcall_of Tryz.func104 rfl rfl Tryz.ntmps104 (rs := [.tmp 6]) (tys := [4]) rfl rfl (by simp) ?_
 have AL := all_spec s w l hs hw hl
 have LK := rLacks_spec s w l hs hw hl hlz
 have hal := allN_len (w := w) hs l
 have hal2 : (allN s w l).length ≤ 2000000000 := by have := hw.1; have : l.length * 1000000 ≤ 1000 * 1000000 := Nat.mul_le_mul_right _ hl; omega
 unfold solQ
 have hkl := lack_len (allN s w l) l
 generalize hLV : lackV (allN s w l) l = lv at *
 generalize allN s w l = all at *
 (refine awp_sr fun Y Yh=>?_;simp[go_sem];((repeat' (first|intro _|apply And.intro|(apply Yh;clear Yh Y)));all_goals first|apply Hold.mk|omega|assumption|skip))
 refine awp_frzbox 3 rfl rfl ?_
 simp only [go_sem]
 (refine awp_sr fun Y Yh=>?_;simp[go_sem];((repeat' (first|intro _|apply And.intro|(apply Yh;clear Yh Y)));all_goals first|apply Hold.mk|omega|assumption|skip))
 ((try refine CallT.toA ?_);refine callT_m (.inl ⟨rfl,rfl⟩) (by simp[go_sem]) ?_;intro args ha;simp[go_sem] at ha;subst ha;refine ⟨_, AL, ?_⟩;rintro _ rfl;simp[go_sem];((repeat' (first|intro _|apply And.intro|(apply Yh;clear Yh Y)));all_goals first|apply Hold.mk|omega|assumption|skip))
 refine awp_seq_k fun K1 hK1 => ?_
 (refine awp_sr fun Y Yh=>?_;simp[go_sem];((repeat' (first|intro _|apply And.intro|(apply Yh;clear Yh Y)));all_goals first|apply Hold.mk|omega|assumption|skip))
 refine awp_block ?_
 refine awp_loop (σ := Nat) (fun i => ⟨[(1, dPs w), (2, dPs l), (3, .rd [dGms s]), (7, dPs all), (8, dI i)], []⟩) (fun i => i ≤ l.length ∧ (l.take i).all (ndedN all) = true) (fun i => l.length - i) 0 ?_ ?_ ?_
 ·(refine cov_of ?_ ?_ <;> simp[go_sem])
 ·exact ⟨by simp, by simp⟩
 rintro i ⟨hi, hT⟩
 refine awp_seq_k fun K2 hK2 => ?_
 (refine awp_sr fun Y Yh=>?_;simp[go_sem];((repeat' (first|intro _|apply And.intro|(apply Yh;clear Yh Y)));all_goals first|apply Hold.mk|omega|assumption|skip))
 (refine awp_if fun T F hT hF=>?_;simp[go_sem];refine BR.intro (fun h3=>hT ?_) (fun h3=>hF ?_);all_goals clear hT hF T F;try simp at h3)
 ·refine awp_skip ?_
  refine hK2 _ ?_; clear hK2
  have hil : i < l.length := by omega
  obtain ⟨x, hx⟩ : ∃ x, l[i]? = some x := ⟨_, List.getElem?_eq_getElem hil⟩
  have hst := all_take (ndedN all) hx
  rw [hT, Bool.true_and] at hst
  have hxm := List.mem_of_getElem? hx
  refine awp_seq_k fun K4 hK4 => ?_
  refine awp_block ?_
  (refine awp_sr fun Y Yh=>?_;simp[go_sem];((repeat' (first|intro _|apply And.intro|(apply Yh;clear Yh Y)));all_goals first|apply Hold.mk|omega|assumption|skip))
  refine awp_seq_k fun K5 hK5 => ?_
  (refine awp_sr fun Y Yh=>?_;simp[go_sem];((repeat' (first|intro _|apply And.intro|(apply Yh;clear Yh Y)));all_goals first|apply Hold.mk|omega|assumption|skip))
  refine awp_block ?_
  refine awp_loop (σ := Nat) (fun k => ⟨[(1, dPs w), (2, dPs l), (3, .rd [dGms s]), (7, dPs all), (8, dI i), (9, dB ((all.take k).any fun n => decide (n.1 = x.1))), (10, dI k)], []⟩) (fun k => k ≤ all.length) (fun k => all.length - k) 0 ?_ ?_ ?_
  ·(refine cov_of ?_ ?_ <;> simp[go_sem])
  ·simp
  rintro k hk
  refine awp_seq_k fun K6 hK6 => ?_
  (refine awp_sr fun Y Yh=>?_;simp[go_sem];((repeat' (first|intro _|apply And.intro|(apply Yh;clear Yh Y)));all_goals first|apply Hold.mk|omega|assumption|skip))
  (refine awp_if fun T F hT hF=>?_;simp[go_sem];refine BR.intro (fun h5=>hT ?_) (fun h5=>hF ?_);all_goals clear hT hF T F;try simp at h5)
  ·refine awp_skip ?_
   refine hK6 _ ?_; clear hK6
   obtain ⟨y, hy⟩ : ∃ y, all[k]? = some y := ⟨_, List.getElem?_eq_getElem (by omega)⟩
   have hsk := any_take (fun n : Prs => decide (n.1 = x.1)) hy
   refine awp_seq_k fun K8 hK8 => ?_
   refine awp_block ?_
   generalize (all.take k).any (fun n : Prs => decide (n.1 = x.1)) = b at *
   cases b with
   | true =>
    ((refine awp_d (.qs [0, 1] (.sk 2 (.sk 3 (.sk 4 (.sk 5 (.sk 7 (.sk 8 (.sk 9 (.sk 10 (.sk 6 (.sk 11 (.sk 12 (.qs [13, 14] (.nil)))))))))))))) (by kernel_rfl) ?_ ?_ ?_ ?_);kernel_rfl;exact (by decide +kernel);kernel_rfl;intro Y Yh;((repeat' (first|refine adr_nil ?_|((first|refine adr_qs fun Y Yh=>?_|refine adr_y fun Y Yh=>?_);simp[go_sem, undef])|intro _|apply And.intro|(apply Yh;clear Yh Y)));all_goals first|apply Hold.mk|omega|assumption|skip))
    refine hK8 _ ?_; clear hK8
    (refine awp_r fun Y Yh=>?_;simp[go_sem];((repeat' (first|intro _|apply And.intro|(apply Yh;clear Yh Y)));all_goals first|apply Hold.mk|omega|assumption|skip))
    refine ⟨k + 1, ?_, by omega, by omega⟩
    rw [hsk]
    (refine cov_of ?_ ?_ <;> simp[go_sem])
   | false =>
    ((refine awp_d (.qs [0, 1, 2, 3, 4, 5, 7, 8, 9, 10, 6, 11, 12, 13, 14] (.nil)) (by kernel_rfl) ?_ ?_ ?_ ?_);kernel_rfl;exact (by decide +kernel);kernel_rfl;intro Y Yh;((repeat' (first|refine adr_nil ?_|((first|refine adr_qs fun Y Yh=>?_|refine adr_y fun Y Yh=>?_);simp[go_sem, hx, hy])|intro _|apply And.intro|(apply Yh;clear Yh Y)));all_goals first|apply Hold.mk|omega|assumption|skip))
    refine hK8 _ ?_; clear hK8
    (refine awp_r fun Y Yh=>?_;simp[go_sem];((repeat' (first|intro _|apply And.intro|(apply Yh;clear Yh Y)));all_goals first|apply Hold.mk|omega|assumption|skip))
    refine ⟨k + 1, ?_, by omega, by omega⟩
    rw [hsk]
    (refine cov_of ?_ ?_ <;> simp[go_sem])
    by_cases e : y.1 = x.1 <;> simp [e]
  ·refine awp_exit ?_
   simp only [go_sem]
   refine hK5 _ ?_; clear hK5
   have hke : k = all.length := by omega
   subst hke
   rw [List.take_length]
   have hnd : (all.any fun n => decide (n.1 = x.1)) = ndedN all x := rfl
   rw [hnd]
   generalize ndedN all x = nb at *
   cases nb with
   | false =>
    (refine awp_sr fun Y Yh=>?_;simp[go_sem];((repeat' (first|intro _|apply And.intro|(apply Yh;clear Yh Y)));all_goals first|apply Hold.mk|omega|assumption|skip))
    (refine awp_if fun T F hT hF=>?_;simp[go_sem];refine hT ?_;clear hT hF T F)
    have hF : l.all (ndedN all) = false := by
     rw [Bool.eq_false_iff]
     intro q
     rw [List.all_eq_true] at q
     have hq : (l.take (i + 1)).all (ndedN all) = true := List.all_eq_true.2 fun z hz => q z (List.mem_of_mem_take hz)
     rw [hst] at hq
     cases hq
    (refine awp_sr fun Y Yh=>?_;simp[go_sem];((repeat' (first|intro _|apply And.intro|(apply Yh;clear Yh Y)));all_goals first|apply Hold.mk|omega|assumption|skip))
    (refine awp_ret ?_;simp[go_sem, hF])
   | true =>
    (refine awp_sr fun Y Yh=>?_;simp[go_sem];((repeat' (first|intro _|apply And.intro|(apply Yh;clear Yh Y)));all_goals first|apply Hold.mk|omega|assumption|skip))
    (refine awp_if fun T F hT hF=>?_;simp[go_sem];refine hF ?_;clear hT hF T F)
    refine awp_skip ?_
    refine hK4 _ ?_; clear hK4
    (refine awp_r fun Y Yh=>?_;simp[go_sem];((repeat' (first|intro _|apply And.intro|(apply Yh;clear Yh Y)));all_goals first|apply Hold.mk|omega|assumption|skip))
    refine ⟨i + 1, ?_, ⟨by omega, hst⟩, by omega⟩
    (refine cov_of ?_ ?_ <;> simp[go_sem])
 ·refine awp_exit ?_
  simp only [go_sem]
  refine hK1 _ ?_; clear hK1
  have hie : i = l.length := by omega
  subst hie
  rw [List.take_length] at hT
  (refine awp_sr fun Y Yh=>?_;simp[go_sem];((repeat' (first|intro _|apply And.intro|(apply Yh;clear Yh Y)));all_goals first|apply Hold.mk|omega|assumption|skip))
  ((try refine CallT.toA ?_);refine callT_m (.inl ⟨rfl,rfl⟩) (by simp[go_sem]) ?_;intro args ha;simp[go_sem] at ha;subst ha;refine ⟨_, LK, ?_⟩;rintro _ rfl;simp[go_sem];((repeat' (first|intro _|apply And.intro|(apply Yh;clear Yh Y)));all_goals first|apply Hold.mk|omega|assumption|skip))
  (refine awp_ret ?_;simp[go_sem, hT])
  cases lv with
  | nil => simp
  | cons a b => simp
set_option maxHeartbeats 8000000 in
theorem rIs_spec (s : Src) (w l : List Prs) (hs : SzS s) (hw : SzN w) (hl : l.length ≤ 1000) : PCall Tryz.prog 92 [dSrc s, dPs w, dPs l] fun r => r = .tup [dB (okQ s w l && solQ (allN s w l) l), dI (if okQ s w l then 0 else 1)] := by 
 refine pcall_of Tryz.func92 rfl rfl Tryz.ntmps92 (rs := [.tmp 6, .tmp 7]) (tys := [4, 35]) rfl rfl (by simp) ?_
 have CK := rChk_spec s w hs hw
 have PK := rpicks_spec s l hs (by omega)
 have SL := fun hz => rSolution_spec s w l hs hw hl hz
 have hz : chkV s w = true → picksQ s l = true → ∀ x ∈ l, Sz1 x := fun hc hp => pick_sz (chk_parts hc).1 (picksQ_ok hp)
 unfold okQ
 generalize solQ (allN s w l) l = k at *
 generalize picksQ s l = pk at *
 generalize chkV s w = ck at *
 (refine awp_sr fun Y Yh=>?_;simp[go_sem];((repeat' (first|intro _|apply And.intro|(apply Yh;clear Yh Y)));all_goals first|apply Hold.mk|omega|assumption|skip))
 refine awp_frzbox 3 rfl rfl ?_
 simp only [go_sem]
 refine awp_seq_k fun K1 hK1 => ?_
 cases ck with
 | false =>
  (refine awp_sr fun Y Yh=>?_;simp[go_sem];((repeat' (first|(refine ag_false ?_ ?_ ?_;(focus (simp[go_sem, undef];done));(focus (simp[go_sem];done));simp[go_sem])|(refine ag_true ?_ ?_;(focus (simp[go_sem, undef];done));simp[go_sem])|(refine ag_x ?_;simp[go_sem, undef])|intro _|apply And.intro|(apply Yh;clear Yh Y)));all_goals first|apply Hold.mk|omega|assumption|skip))
  ((try refine CallT.toA ?_);refine callT_m (.inl ⟨rfl,rfl⟩) (by simp[go_sem]) ?_;intro args ha;simp[go_sem] at ha;subst ha;refine ⟨_, CK, ?_⟩;rintro _ rfl;simp[go_sem];((repeat' (first|(refine ag_false ?_ ?_ ?_;(focus (simp[go_sem, undef];done));(focus (simp[go_sem];done));simp[go_sem])|(refine ag_true ?_ ?_;(focus (simp[go_sem, undef];done));simp[go_sem])|(refine ag_x ?_;simp[go_sem, undef])|intro _|apply And.intro|(apply Yh;clear Yh Y)));all_goals first|apply Hold.mk|omega|assumption|skip))
  (refine awp_if fun T F hT hF=>?_;simp[go_sem];refine hT ?_;clear hT hF T F)
  (refine awp_sr fun Y Yh=>?_;simp[go_sem];((repeat' (first|intro _|apply And.intro|(apply Yh;clear Yh Y)));all_goals first|apply Hold.mk|omega|assumption|skip))
  (refine awp_ret ?_;simp[go_sem])
 | true =>
  (refine awp_sr fun Y Yh=>?_;simp[go_sem];((repeat' (first|(refine ag_false ?_ ?_ ?_;(focus (simp[go_sem, undef];done));(focus (simp[go_sem];done));simp[go_sem])|(refine ag_true ?_ ?_;(focus (simp[go_sem, undef];done));simp[go_sem])|(refine ag_x ?_;simp[go_sem, undef])|intro _|apply And.intro|(apply Yh;clear Yh Y)));all_goals first|apply Hold.mk|omega|assumption|skip))
  ((try refine CallT.toA ?_);refine callT_m (.inl ⟨rfl,rfl⟩) (by simp[go_sem]) ?_;intro args ha;simp[go_sem] at ha;subst ha;refine ⟨_, CK, ?_⟩;rintro _ rfl;simp[go_sem];((repeat' (first|(refine ag_false ?_ ?_ ?_;(focus (simp[go_sem, undef];done));(focus (simp[go_sem];done));simp[go_sem])|(refine ag_true ?_ ?_;(focus (simp[go_sem, undef];done));simp[go_sem])|(refine ag_x ?_;simp[go_sem, undef])|intro _|apply And.intro|(apply Yh;clear Yh Y)));all_goals first|apply Hold.mk|omega|assumption|skip))
  ((try refine CallT.toA ?_);refine callT_m (.inl ⟨rfl,rfl⟩) (by simp[go_sem]) ?_;intro args ha;simp[go_sem] at ha;subst ha;refine ⟨_, PK, ?_⟩;rintro _ rfl;simp[go_sem];((repeat' (first|(refine ag_false ?_ ?_ ?_;(focus (simp[go_sem, undef];done));(focus (simp[go_sem];done));simp[go_sem])|(refine ag_true ?_ ?_;(focus (simp[go_sem, undef];done));simp[go_sem])|(refine ag_x ?_;simp[go_sem, undef])|intro _|apply And.intro|(apply Yh;clear Yh Y)));all_goals first|apply Hold.mk|omega|assumption|skip))
  cases pk with
  | false =>
   (refine awp_if fun T F hT hF=>?_;simp[go_sem];refine hT ?_;clear hT hF T F)
   (refine awp_sr fun Y Yh=>?_;simp[go_sem];((repeat' (first|intro _|apply And.intro|(apply Yh;clear Yh Y)));all_goals first|apply Hold.mk|omega|assumption|skip))
   (refine awp_ret ?_;simp[go_sem])
  | true =>
   (refine awp_if fun T F hT hF=>?_;simp[go_sem];refine hF ?_;clear hT hF T F)
   refine awp_skip ?_
   refine hK1 _ ?_; clear hK1
   (refine awp_sr fun Y Yh=>?_;simp[go_sem];((repeat' (first|intro _|apply And.intro|(apply Yh;clear Yh Y)));all_goals first|apply Hold.mk|omega|assumption|skip))
   ((try refine CallT.toA ?_);refine callT_m (.inl ⟨rfl,rfl⟩) (by simp[go_sem]) ?_;intro args ha;simp[go_sem] at ha;subst ha;refine ⟨_, (SL (hz rfl rfl)), ?_⟩;rintro _ rfl;simp[go_sem];((repeat' (first|intro _|apply And.intro|(apply Yh;clear Yh Y)));all_goals first|apply Hold.mk|omega|assumption|skip))
   (refine awp_ret ?_;simp[go_sem])
end Go.Proofs.YteekfnhhlcmcgaaGreatDoor
set_option maxRecDepth 20000
namespace Go.Lk
open Go.Lib Go.Wh Go.Ver
/-! orders of picks, found from the end on -/
def atF (s : Src) (left : List Prs) (k : Nat) : Nat := (((left.drop k).findIdx? (nextO s left)).map (· + k)).getD 0
theorem atF_step {s : Src} {left : List Prs} {k : Nat} {p : Prs} (h : left[k]? = some p) : atF s left k = if nextO s left p = true then k else atF s left (k + 1) := by
 unfold atF
 rw [drop_cons h, List.findIdx?_cons]
 split
 ·simp
 ·cases (left.drop (k + 1)).findIdx? (nextO s left) with
  | none => rfl
  | some j => simp; omega
theorem atF_end (s : Src) (left : List Prs) : atF s left left.length = 0 := by simp [atF]
theorem atF_zero (s : Src) (left : List Prs) : atF s left 0 = atO s left := by
 unfold atF atO
 cases h : left.findIdx? (nextO s left) <;> simp [h]
theorem ordL_end (s : Src) (out : List Bs) : ordL s ([] : List Prs).length [] out = out := rfl
end Go.Lk
namespace Go.Proofs.YteekfnhhlcmcgaaGreatDoor
open Go.Eng Go.Wh Go.Ver Go.Lk
set_option maxRecDepth 20000
attribute [local irreducible] AG CallA CallT AWp PCall ACall AgC
set_option maxHeartbeats 16000000 in
theorem rOrder_spec (s : Src) (l : List Prs) (hs : SzS s) (hl : l.length ≤ 1000) : PCall Tryz.prog 96 [dSrc s, dPs l] fun r => r = .tup [dSs (if (suV s && picksQ s l) = true then ordV s l else []), dI (if (suV s && picksQ s l) = true then 0 else 1)] := by 
 refine pcall_of Tryz.func96 rfl rfl Tryz.ntmps96 (rs := [.tmp 4, .tmp 5]) (tys := [64, 35]) rfl rfl (by simp) ?_
 have SU := isSource_spec s hs
 have PK := rpicks_spec s l hs (by omega)
 have FD := fun p => found_spec s p hs
 generalize picksQ s l = pk at *
 generalize suV s = su at *
 (refine awp_sr fun Y Yh=>?_;simp[go_sem];((repeat' (first|(refine ag_x ?_;simp[go_sem])|intro _|apply And.intro|(apply Yh;clear Yh Y)));all_goals first|apply Hold.mk|omega|assumption|skip))
 refine awp_frzbox 2 rfl rfl ?_
 simp only [go_sem]
 refine awp_seq_k fun K1 hK1 => ?_
 cases su with
 | false =>
  (refine awp_sr fun Y Yh=>?_;simp[go_sem];((repeat' (first|(refine ag_false ?_ ?_ ?_;(focus (simp[go_sem, undef];done));(focus (simp[go_sem];done));simp[go_sem])|(refine ag_true ?_ ?_;(focus (simp[go_sem, undef];done));simp[go_sem])|(refine ag_x ?_;simp[go_sem, undef])|intro _|apply And.intro|(apply Yh;clear Yh Y)));all_goals first|apply Hold.mk|omega|assumption|skip))
  ((try refine CallT.toA ?_);refine callT_m (.inl ⟨rfl,rfl⟩) (by simp[go_sem]) ?_;intro args ha;simp[go_sem] at ha;subst ha;refine ⟨_, SU, ?_⟩;rintro _ rfl;simp[go_sem];((repeat' (first|(refine ag_false ?_ ?_ ?_;(focus (simp[go_sem, undef];done));(focus (simp[go_sem];done));simp[go_sem])|(refine ag_true ?_ ?_;(focus (simp[go_sem, undef];done));simp[go_sem])|(refine ag_x ?_;simp[go_sem, undef])|intro _|apply And.intro|(apply Yh;clear Yh Y)));all_goals first|apply Hold.mk|omega|assumption|skip))
  (refine awp_if fun T F hT hF=>?_;simp[go_sem];refine hT ?_;clear hT hF T F)
  (refine awp_sr fun Y Yh=>?_;simp[go_sem];((repeat' (first|(refine ag_x ?_;simp[go_sem])|intro _|apply And.intro|(apply Yh;clear Yh Y)));all_goals first|apply Hold.mk|omega|assumption|skip))
  (refine awp_ret ?_;simp[go_sem])
 | true =>
 (refine awp_sr fun Y Yh=>?_;simp[go_sem];((repeat' (first|(refine ag_false ?_ ?_ ?_;(focus (simp[go_sem, undef];done));(focus (simp[go_sem];done));simp[go_sem])|(refine ag_true ?_ ?_;(focus (simp[go_sem, undef];done));simp[go_sem])|(refine ag_x ?_;simp[go_sem, undef])|intro _|apply And.intro|(apply Yh;clear Yh Y)));all_goals first|apply Hold.mk|omega|assumption|skip))
 ((try refine CallT.toA ?_);refine callT_m (.inl ⟨rfl,rfl⟩) (by simp[go_sem]) ?_;intro args ha;simp[go_sem] at ha;subst ha;refine ⟨_, SU, ?_⟩;rintro _ rfl;simp[go_sem];((repeat' (first|(refine ag_false ?_ ?_ ?_;(focus (simp[go_sem, undef];done));(focus (simp[go_sem];done));simp[go_sem])|(refine ag_true ?_ ?_;(focus (simp[go_sem, undef];done));simp[go_sem])|(refine ag_x ?_;simp[go_sem, undef])|intro _|apply And.intro|(apply Yh;clear Yh Y)));all_goals first|apply Hold.mk|omega|assumption|skip))
 ((try refine CallT.toA ?_);refine callT_m (.inl ⟨rfl,rfl⟩) (by simp[go_sem]) ?_;intro args ha;simp[go_sem] at ha;subst ha;refine ⟨_, PK, ?_⟩;rintro _ rfl;simp[go_sem];((repeat' (first|(refine ag_false ?_ ?_ ?_;(focus (simp[go_sem, undef];done));(focus (simp[go_sem];done));simp[go_sem])|(refine ag_true ?_ ?_;(focus (simp[go_sem, undef];done));simp[go_sem])|(refine ag_x ?_;simp[go_sem, undef])|intro _|apply And.intro|(apply Yh;clear Yh Y)));all_goals first|apply Hold.mk|omega|assumption|skip))
 cases pk with
 | false =>
  (refine awp_if fun T F hT hF=>?_;simp[go_sem];refine hT ?_;clear hT hF T F)
  (refine awp_sr fun Y Yh=>?_;simp[go_sem];((repeat' (first|(refine ag_x ?_;simp[go_sem])|intro _|apply And.intro|(apply Yh;clear Yh Y)));all_goals first|apply Hold.mk|omega|assumption|skip))
  (refine awp_ret ?_;simp[go_sem])
 | true =>
 (refine awp_if fun T F hT hF=>?_;simp[go_sem];refine hF ?_;clear hT hF T F)
 refine awp_skip ?_
 refine hK1 _ ?_; clear hK1
 (refine awp_sr fun Y Yh=>?_;simp[go_sem];((repeat' (first|(refine ag_x ?_;simp[go_sem])|intro _|apply And.intro|(apply Yh;clear Yh Y)));all_goals first|apply Hold.mk|omega|assumption|skip))
 refine awp_nilslot 6 900061 9 1 rfl fun g6 => ?_
 simp only [go_sem]
 (refine awp_sr fun Y Yh=>?_;simp[go_sem];((repeat' (first|(refine ag_x ?_;simp[go_sem])|intro _|apply And.intro|(apply Yh;clear Yh Y)));all_goals first|apply Hold.mk|omega|assumption|skip))
 refine awp_renrow 7 88 rfl rfl (by decide) fun g7 => ?_
 simp only [go_sem]
 refine awp_seq_k fun K2 hK2 => ?_
 refine awp_block ?_
 generalize hW : ordL s l.length l [] = W at *
 have hWo : ordV s l = W := hW
 rw [hWo]
 refine awp_loop (σ := List Prs × List Bs × Nat × Nat) (fun z => ⟨[(2, .rd [dGms s]), (6, .own 900061 z.2.2.1), (7, .own 88 z.2.2.2)], [(900061, (z.2.2.1, .row 9 1 (z.2.1.map cS))), (88, (z.2.2.2, .row 95 2 (z.1.map cP)))]⟩) (fun z => z.1.length + z.2.1.length = l.length ∧ ordL s z.1.length z.1 z.2.1 = W) (fun z => z.1.length) (l, [], g6, g7) ?_ ?_ ?_
 ·(refine cov_of ?_ ?_ <;> simp[go_sem])
 ·exact ⟨by simp, hW⟩
 rintro ⟨left, out, g, g7⟩ ⟨hlen, hO⟩
 simp only at hlen hO
 refine awp_frzrow 7 rfl rfl ?_
 simp only [go_sem]
 refine awp_seq_k fun K3 hK3 => ?_
 (refine awp_sr fun Y Yh=>?_;simp[go_sem];((repeat' (first|(refine ag_x ?_;simp[go_sem])|intro _|apply And.intro|(apply Yh;clear Yh Y)));all_goals first|apply Hold.mk|omega|assumption|skip))
 (refine awp_if fun T F hT hF=>?_;simp[go_sem];refine BR.intro (fun h3=>hT ?_) (fun h3=>hF ?_);all_goals clear hT hF T F;try simp at h3)
 ·refine awp_skip ?_
  refine hK3 _ ?_; clear hK3
  have hl0 : 0 < left.length := by omega
  have hat := atO_lt (s := s) hl0
  obtain ⟨p0, hp0⟩ : ∃ p, left[atO s left]? = some p := ⟨_, List.getElem?_eq_getElem hat⟩
  rw [ordL_step hp0] at hO
  refine awp_block ?_
  (refine awp_sr fun Y Yh=>?_;simp[go_sem];((repeat' (first|(refine ag_x ?_;simp[go_sem])|intro _|apply And.intro|(apply Yh;clear Yh Y)));all_goals first|apply Hold.mk|omega|assumption|skip))
  refine awp_seq_k fun K5 hK5 => ?_
  (refine awp_sr fun Y Yh=>?_;simp[go_sem];((repeat' (first|(refine ag_x ?_;simp[go_sem])|intro _|apply And.intro|(apply Yh;clear Yh Y)));all_goals first|apply Hold.mk|omega|assumption|skip))
  refine awp_block ?_
  refine awp_loop (σ := Nat) (fun k => ⟨[(2, .rd [dGms s]), (6, .own 900061 g), (7, dPs left), (8, dI (atF s left k)), (9, dI ((k : Int) - 1))], [(900061, (g, .row 9 1 (out.map cS)))]⟩) (fun k => k ≤ left.length) (fun k => k) left.length ?_ ?_ ?_
  ·(refine cov_of ?_ ?_ <;> simp[go_sem, atF_end])
  ·simp
  rintro k hk
  refine awp_seq_k fun K6 hK6 => ?_
  (refine awp_sr fun Y Yh=>?_;simp[go_sem];((repeat' (first|(refine ag_x ?_;simp[go_sem])|intro _|apply And.intro|(apply Yh;clear Yh Y)));all_goals first|apply Hold.mk|omega|assumption|skip))
  (refine awp_if fun T F hT hF=>?_;simp[go_sem];refine BR.intro (fun h5=>hT ?_) (fun h5=>hF ?_);all_goals clear hT hF T F;try simp at h5)
  ·refine awp_skip ?_
   refine hK6 _ ?_; clear hK6
   obtain ⟨j, rfl⟩ : ∃ j, k = j + 1 := ⟨k - 1, by omega⟩
   have hj1 : ((j + 1 : Nat) : Int) - 1 = j := by omega
   simp only [hj1] at *
   obtain ⟨x, hx⟩ : ∃ x, left[j]? = some x := ⟨_, List.getElem?_eq_getElem (by omega)⟩
   have hst := atF_step (s := s) hx
   have F1 := FD x
   have hnx : nextO s left x = (fndP s x).2.all fun n => decide (n.1 = x.1) || decide (pkdV left n.1 = []) := rfl
   generalize nextO s left x = nx at *
   have hvz := fndP_sz hs x
   generalize fndP s x = v at *
   generalize (fndV s x).isSome = o at F1
   refine awp_seq_k fun K8 hK8 => ?_
   refine awp_block ?_
   refine awp_seq_j (α := Nat) (fun gb => ⟨[(2, .rd [dGms s]), (6, .own 900061 g), (7, dPs left), (8, dI (atF s left (j + 1))), (9, dI j), (10, .ptr 10 gb 0)], [(10, (gb, .box [dS v.1, dPs v.2])), (900061, (g, .row 9 1 (out.map cS)))]⟩) (fun K9 hK9 hM9 => ?_) (fun gb => ?_)
   ·((refine awp_d (.qs [1, 2, 3, 0, 4] (.kp2 5 (.qs [6, 7, 8] (.kp 9 (.one 10 (.qs [11] (.nil))))) 9 (.kp 5 (.qs [6, 7, 8] (.one 10 (.qs [11] (.nil))))))) (by kernel_rfl) ?_ ?_ ?_ ?_);kernel_rfl;exact (by decide +kernel);kernel_rfl;intro Y Yh;((repeat' (first|(refine ag_x ?_;simp[go_sem, hx])|refine adr_nil ?_|refine adr_kp2 ?_ ?_|((first|refine adr_qs fun Y Yh=>?_|refine adr_y fun Y Yh=>?_);simp[go_sem, hx])|intro _|apply And.intro|(apply Yh;clear Yh Y)));all_goals first|apply Hold.mk|omega|assumption|skip))
    all_goals ((try refine CallT.toA ?_);refine callT_m (.inl ⟨rfl,rfl⟩) (by simp[go_sem]) ?_;intro args ha;simp[go_sem] at ha;subst ha;refine ⟨_, F1, ?_⟩;rintro _ rfl;simp[go_sem, hx];((repeat' (first|(refine ag_x ?_;simp[go_sem, hx])|refine adr_nil ?_|refine adr_kp2 ?_ ?_|((first|refine adr_qs fun Y Yh=>?_|refine adr_y fun Y Yh=>?_);simp[go_sem, hx])|intro _|apply And.intro|(apply Yh;clear Yh Y)));all_goals first|apply Hold.mk|omega|assumption|skip))
    all_goals
     rename_i gq
     refine hK9 _ ?_
     refine hM9 gq _ ?_
     (refine cov_of ?_ ?_ <;> simp[go_sem])
   ·refine awp_frzbox 10 rfl rfl ?_
    simp only [go_sem]
    (refine awp_sr fun Y Yh=>?_;simp[go_sem];((repeat' (first|(refine ag_x ?_;simp[go_sem])|intro _|apply And.intro|(apply Yh;clear Yh Y)));all_goals first|apply Hold.mk|omega|assumption|skip))
    refine awp_seq_k fun K10 hK10 => ?_
    (refine awp_sr fun Y Yh=>?_;simp[go_sem];((repeat' (first|(refine ag_x ?_;simp[go_sem])|intro _|apply And.intro|(apply Yh;clear Yh Y)));all_goals first|apply Hold.mk|omega|assumption|skip))
    refine awp_block ?_
    refine awp_loop (σ := Nat) (fun m => ⟨[(2, .rd [dGms s]), (6, .own 900061 g), (7, dPs left), (8, dI (atF s left (j + 1))), (9, dI j), (10, .rd [dS v.1, dPs v.2]), (12, dB ((v.2.take m).all fun n => decide (n.1 = x.1) || decide (pkdV left n.1 = []))), (13, dI m)], [(900061, (g, .row 9 1 (out.map cS)))]⟩) (fun m => m ≤ v.2.length) (fun m => v.2.length - m) 0 ?_ ?_ ?_
    ·(refine cov_of ?_ ?_ <;> simp[go_sem])
    ·simp
    rintro m hm
    refine awp_seq_k fun K11 hK11 => ?_
    (refine awp_sr fun Y Yh=>?_;simp[go_sem];((repeat' (first|(refine ag_x ?_;simp[go_sem])|intro _|apply And.intro|(apply Yh;clear Yh Y)));all_goals first|apply Hold.mk|omega|assumption|skip))
    have hvl := hvz.2.1
    (refine awp_if fun T F hT hF=>?_;simp[go_sem];refine BR.intro (fun h7=>hT ?_) (fun h7=>hF ?_);all_goals clear hT hF T F;try simp at h7)
    ·refine awp_skip ?_
     refine hK11 _ ?_; clear hK11
     obtain ⟨y, hy⟩ : ∃ y, v.2[m]? = some y := ⟨_, List.getElem?_eq_getElem (by omega)⟩
     have hsm := all_take (fun n : Prs => decide (n.1 = x.1) || decide (pkdV left n.1 = [])) hy
     have PD := picked_spec left y.1 (by omega)
     refine awp_seq_k fun K12 hK12 => ?_
     refine awp_block ?_
     generalize hpk : pkdV left y.1 = pk at *
     generalize (v.2.take m).all (fun n : Prs => decide (n.1 = x.1) || decide (pkdV left n.1 = [])) = b at *
     have tl : ∀ S', Cov S' ⟨[(2, .rd [dGms s]), (6, .own 900061 g), (7, dPs left), (8, dI (atF s left (j + 1))), (9, dI j), (10, .rd [dS v.1, dPs v.2]), (12, dB (b && (decide (y.1 = x.1) || decide (pk = [])))), (13, dI m)], [(900061, (g, .row 9 1 (out.map cS)))]⟩ → K12 S' := fun S' hS => by
      refine hK12 _ ?_
      refine awp_cov hS ?_; clear hS
      (refine awp_r fun Y Yh=>?_;simp[go_sem];((repeat' (first|(refine ag_x ?_;simp[go_sem])|intro _|apply And.intro|(apply Yh;clear Yh Y)));all_goals first|apply Hold.mk|omega|assumption|skip))
      refine ⟨m + 1, ?_, by omega, by omega⟩
      rw [hsm]
      (refine cov_of ?_ ?_ <;> simp[go_sem])
     clear hK12
     cases b with
     | false =>
      ((refine awp_d (.qs [0, 1] (.sk 2 (.sk 4 (.sk 8 (.sk 9 (.sk 10 (.sk 11 (.sk 3 (.sk 5 (.sk 6 (.sk 7 (.sk 12 (.sk 13 (.sk 14 (.sk 15 (.sk 16 (.sk 18 (.sk 17 (.sk 19 (.sk 20 (.sk 21 (.sk 22 (.sk 23 (.sk 24 (.qs [25, 26] (.nil)))))))))))))))))))))))))) (by kernel_rfl) ?_ ?_ ?_ ?_);kernel_rfl;exact (by decide +kernel);kernel_rfl;intro Y Yh;((repeat' (first|(refine ag_x ?_;simp[go_sem, undef])|refine adr_nil ?_|((first|refine adr_qs fun Y Yh=>?_|refine adr_y fun Y Yh=>?_);simp[go_sem, undef])|intro _|apply And.intro|(apply Yh;clear Yh Y)));all_goals first|apply Hold.mk|omega|assumption|skip))
      refine tl _ ?_
      (refine cov_of ?_ ?_ <;> simp[go_sem])
     | true =>
      by_cases he : y.1 = x.1
      ·((refine awp_d (.qs [0, 1, 2, 4, 8, 9, 10, 11, 3, 5, 6, 7, 12, 13, 14] (.sk 15 (.sk 16 (.sk 18 (.sk 17 (.sk 19 (.sk 20 (.sk 21 (.sk 22 (.sk 23 (.qs [24, 25, 26] (.nil)))))))))))) (by kernel_rfl) ?_ ?_ ?_ ?_);kernel_rfl;exact (by decide +kernel);kernel_rfl;intro Y Yh;((repeat' (first|(refine ag_x ?_;simp[go_sem, hx, hy, he, undef])|refine adr_nil ?_|((first|refine adr_qs fun Y Yh=>?_|refine adr_y fun Y Yh=>?_);simp[go_sem, hx, hy, he, undef])|intro _|apply And.intro|(apply Yh;clear Yh Y)));all_goals first|apply Hold.mk|omega|assumption|skip))
       refine tl _ ?_
       (refine cov_of ?_ ?_ <;> simp[go_sem, he])
      ·((refine awp_d (.qs [0, 1, 2, 4, 8, 9, 10, 11, 3, 5, 6, 7, 12, 13, 14, 15, 16, 18, 17, 19, 20, 21] (.one 22 (.qs [23, 24, 25, 26] (.nil)))) (by kernel_rfl) ?_ ?_ ?_ ?_);kernel_rfl;exact (by decide +kernel);kernel_rfl;intro Y Yh;((repeat' (first|(refine ag_x ?_;simp[go_sem, hx, hy, he])|refine adr_nil ?_|((first|refine adr_qs fun Y Yh=>?_|refine adr_y fun Y Yh=>?_);simp[go_sem, hx, hy, he])|intro _|apply And.intro|(apply Yh;clear Yh Y)));all_goals first|apply Hold.mk|omega|assumption|skip))
       (refine agc_f (dS pk) (.inl ⟨rfl,rfl⟩) ?_ rfl ?_;(intro hc args ha;simp[go_sem] at ha;subst ha;exact PD);simp[go_sem, hx, hy, he];((repeat' (first|(refine ag_x ?_;simp[go_sem, hx, hy, he])|refine adr_nil ?_|((first|refine adr_qs fun Y Yh=>?_|refine adr_y fun Y Yh=>?_);simp[go_sem, hx, hy, he])|intro _|apply And.intro|(apply Yh;clear Yh Y)));all_goals first|apply Hold.mk|omega|assumption|skip))
       refine tl _ ?_
       (refine cov_of ?_ ?_ <;> simp[go_sem, he])
       cases pk with
       | nil => simp [he]
       | cons a b => simp [he]
    ·refine awp_exit ?_
     simp only [go_sem]
     refine hK10 _ ?_; clear hK10
     have hme : m = v.2.length := by omega
     subst hme
     rw [List.take_length, ← hnx]
     (refine awp_sr fun Y Yh=>?_;simp[go_sem];((repeat' (first|(refine ag_x ?_;simp[go_sem])|intro _|apply And.intro|(apply Yh;clear Yh Y)));all_goals first|apply Hold.mk|omega|assumption|skip))
     cases nx with
     | true =>
      (refine awp_if fun T F hT hF=>?_;simp[go_sem];refine hT ?_;clear hT hF T F)
      (refine awp_r fun Y Yh=>?_;simp[go_sem];((repeat' (first|(refine ag_x ?_;simp[go_sem])|intro _|apply And.intro|(apply Yh;clear Yh Y)));all_goals first|apply Hold.mk|omega|assumption|skip))
      refine hK8 _ ?_; clear hK8
      (refine awp_r fun Y Yh=>?_;simp[go_sem];((repeat' (first|(refine ag_x ?_;simp[go_sem])|intro _|apply And.intro|(apply Yh;clear Yh Y)));all_goals first|apply Hold.mk|omega|assumption|skip))
      refine ⟨j, ?_, by omega, by omega⟩
      rw [hst]
      (refine cov_of ?_ ?_ <;> simp[go_sem])
     | false =>
      (refine awp_if fun T F hT hF=>?_;simp[go_sem];refine hF ?_;clear hT hF T F)
      refine awp_skip ?_
      refine hK8 _ ?_; clear hK8
      (refine awp_r fun Y Yh=>?_;simp[go_sem];((repeat' (first|(refine ag_x ?_;simp[go_sem])|intro _|apply And.intro|(apply Yh;clear Yh Y)));all_goals first|apply Hold.mk|omega|assumption|skip))
      refine ⟨j, ?_, by omega, by omega⟩
      rw [hst]
      (refine cov_of ?_ ?_ <;> simp[go_sem])
  ·refine awp_exit ?_
   simp only [go_sem]
   refine hK5 _ ?_; clear hK5
   have hk0 : k = 0 := by omega
   subst hk0
   rw [atF_zero]
   generalize atO s left = a at *
   have hcell : dPs (lessN left a) = D.sl 2 ((left.map cP).take a ++ (left.map cP).drop (a + 1)) := by unfold lessN; show D.sl 2 _ = _; rw [List.map_append, List.map_take, List.map_drop]
   have hle := lessN_len hat
   (refine awp_sr fun Y Yh=>?_;simp[go_sem, hp0];((repeat' (first|(refine ag_x ?_;simp[go_sem, hp0])|intro _|apply And.intro|(apply Yh;clear Yh Y)));all_goals first|apply Hold.mk|omega|assumption|skip))
   rename_i gq g'
   ((refine awp_d (.qs [1, 2, 3, 5, 6, 7, 8] (.one 0 (.one 4 (.one 9 (.qs [10] (.nil)))))) (by kernel_rfl) ?_ ?_ ?_ ?_);kernel_rfl;exact (by decide +kernel);kernel_rfl;intro Y Yh;((repeat' (first|(refine ag_x ?_;simp[go_sem])|refine adr_nil ?_|((first|refine adr_qs fun Y Yh=>?_|refine adr_y fun Y Yh=>?_);simp[go_sem])|intro _|apply And.intro|(apply Yh;clear Yh Y)));all_goals first|apply Hold.mk|omega|assumption|skip))
   have hcells : (lessN left a).map cP = (left.map cP).take a ++ (left.map cP).drop (a + 1) := by unfold lessN; rw [List.map_append, List.map_take, List.map_drop]
   rename_i gn1 gn2 gn3
   simp only [go_sem]
   refine ⟨(lessN left a, out ++ [p0.1], g', gn3), ?_, ⟨by simp only [List.length_append, List.length_cons, List.length_nil]; omega, hO⟩, by simp only; omega⟩
   (refine cov_of ?_ ?_ <;> simp[go_sem, hcells])
 ·refine awp_exit ?_
  simp only [go_sem]
  refine hK2 _ ?_; clear hK2
  have hl0 : left = [] := by first | exact h3 | exact List.eq_nil_of_length_eq_zero (by omega)
  subst hl0
  rw [ordL_end] at hO
  subst hO
  (refine awp_sr fun Y Yh=>?_;simp[go_sem];((repeat' (first|(refine ag_x ?_;simp[go_sem])|intro _|apply And.intro|(apply Yh;clear Yh Y)));all_goals first|apply Hold.mk|omega|assumption|skip))
  refine awp_frzrow 4 rfl rfl ?_
  simp only [go_sem]
  (refine awp_ret ?_;simp[go_sem, hWo])
end Go.Proofs.YteekfnhhlcmcgaaGreatDoor
set_option maxRecDepth 20000
namespace Go.Lk
open Go.Lib Go.Wh Go.Ver
/-! greater versions, gem by gem -/
def newG (s : Src) (w l : List Prs) (i : Nat) (n : Bs) (b : Bs) (g : Gm) : Bs := if g.1 = n then g.2.foldl (newB s w l i) b else b
theorem newG_none {s : Src} {w l : List Prs} {i : Nat} {n : Bs} : ∀ {t : Src} {b : Bs}, (∀ g ∈ t, g.1 ≠ n) → t.foldl (newG s w l i n) b = b
 | [], b, _ => rfl
 | g :: t, b, h => by
  rw [List.foldl_cons]
  have : newG s w l i n b g = b := by unfold newG; rw [if_neg (h g (by simp))]
  rw [this]
  exact newG_none fun g hg => h g (by simp [hg])
theorem newG_gem {s : Src} {w l : List Prs} {i : Nat} {n : Bs} : ∀ {t : Src} {b : Bs}, (t.Pairwise fun g k => g.1 ≠ k.1) → t.foldl (newG s w l i n) b = ((gemV t n).map (fun g => g.2.foldl (newB s w l i) b)).getD b
 | [], b, _ => rfl
 | g :: t, b, h => by
  obtain ⟨h1, h2⟩ := List.pairwise_cons.1 h
  rw [List.foldl_cons]
  unfold gemV
  rw [List.find?_cons]
  by_cases e : g.1 = n
  ·have : newG s w l i n b g = g.2.foldl (newB s w l i) b := by unfold newG; rw [if_pos e]
   rw [this, newG_none fun k hk => fun q => h1 k hk (by rw [e, q])]
   simp [e]
  ·have : newG s w l i n b g = b := by unfold newG; rw [if_neg e]
   rw [this, newG_gem h2]
   simp only [e, decide_false]
   rfl
theorem newG_new {s : Src} (hs : suV s = true) {w l : List Prs} {i : Nat} {p : Prs} : s.foldl (newG s w l i p.1) p.2 = newN s w l i p := by
 rw [newG_gem (asc_ne (suV_asc hs))]; rfl
theorem newB_sz {s : Src} {w l : List Prs} {i : Nat} {b : Bs} {v : Vrs} (hb : b.length ≤ 1000000) (hv : v.1.length ≤ 1000000) : (newB s w l i b v).length ≤ 1000000 := by
 unfold newB
 split
 ·exact hv
 ·exact hb
theorem setN_at {l : List Prs} {i : Nat} {p : Prs} (h : l[i]? = some p) (v : Bs) : setN l i v = l.set i (p.1, v) := by unfold setN; rw [h]
theorem setN_nm {l : List Prs} {i : Nat} {p : Prs} (h : l[i]? = some p) (v : Bs) : (setN l i v).map (·.1) = l.map (·.1) := by
 rw [setN_at h, List.map_set]
 refine List.ext_getElem? fun j => ?_
 rw [List.getElem?_set]
 split
 ·rename_i e
  subst e
  split
  ·simp [h]
  ·rename_i h2
   rw [List.getElem?_eq_none (by simpa using h2)]
 ·rfl
theorem setN_len (l : List Prs) (i : Nat) (v : Bs) : (setN l i v).length = l.length := by
 unfold setN
 split <;> simp
theorem setN_mem {l : List Prs} {i : Nat} {v : Bs} {p x : Prs} (h : l[i]? = some p) (hx : x ∈ setN l i v) : x ∈ l ∨ x = (p.1, v) := by
 rw [setN_at h] at hx
 rcases List.mem_or_eq_of_mem_set hx with q | q
 ·exact .inl q
 ·exact .inr q
end Go.Lk
namespace Go.Proofs.YteekfnhhlcmcgaaGreatDoor
open Go.Eng Go.Wh Go.Ver Go.Lk
set_option maxRecDepth 20000
attribute [local irreducible] AG CallA CallT AWp PCall ACall AgC
set_option maxHeartbeats 32000000 in
theorem rNewer_spec (s : Src) (w l : List Prs) (hs : SzS s) (hw : SzN w) (hl : l.length ≤ 1000) : PCall Tryz.prog 95 [dSrc s, dPs w, dPs l] fun r => r = .tup [dPs (if (okQ s w l && solQ (allN s w l) l) = true then newTo s w l l.length else []), dI (if (okQ s w l && solQ (allN s w l) l) = true then 0 else 1)] := by 
 refine pcall_of Tryz.func95 rfl rfl Tryz.ntmps95 (rs := [.tmp 6, .tmp 7]) (tys := [58, 35]) rfl rfl (by simp) ?_
 have IS := rIs_spec s w l hs hw hl
 have hpz : okQ s w l = true → suV s = true ∧ ∀ x ∈ l, Sz1 x := fun h => by
  unfold okQ at h
  rw [Bool.and_eq_true] at h
  exact ⟨(chk_parts h.1).1, pick_sz (chk_parts h.1).1 (picksQ_ok h.2)⟩
 generalize okQ s w l = ok at *
 generalize solQ (allN s w l) l = sq at *
 (refine awp_sr fun Y Yh=>?_;simp[go_sem];((repeat' (first|intro _|apply And.intro|(apply Yh;clear Yh Y)));all_goals first|apply Hold.mk|omega|assumption|skip))
 refine awp_frzbox 3 rfl rfl ?_
 simp only [go_sem]
 (refine awp_sr fun Y Yh=>?_;simp[go_sem];((repeat' (first|intro _|apply And.intro|(apply Yh;clear Yh Y)));all_goals first|apply Hold.mk|omega|assumption|skip))
 ((try refine CallT.toA ?_);refine callT_m (.inl ⟨rfl,rfl⟩) (by simp[go_sem]) ?_;intro args ha;simp[go_sem] at ha;subst ha;refine ⟨_, IS, ?_⟩;rintro _ rfl;simp[go_sem];((repeat' (first|intro _|apply And.intro|(apply Yh;clear Yh Y)));all_goals first|apply Hold.mk|omega|assumption|skip))
 refine awp_seq_k fun K1 hK1 => ?_
 cases ok with
 | false =>
  (refine awp_sr fun Y Yh=>?_;simp[go_sem];((repeat' (first|(refine ag_false ?_ ?_ ?_;(focus (simp[go_sem, undef];done));(focus (simp[go_sem];done));simp[go_sem])|(refine ag_true ?_ ?_;(focus (simp[go_sem, undef];done));simp[go_sem])|(refine ag_x ?_;simp[go_sem, undef])|intro _|apply And.intro|(apply Yh;clear Yh Y)));all_goals first|apply Hold.mk|omega|assumption|skip))
  (refine awp_if fun T F hT hF=>?_;simp[go_sem];refine hT ?_;clear hT hF T F)
  (refine awp_sr fun Y Yh=>?_;simp[go_sem];((repeat' (first|intro _|apply And.intro|(apply Yh;clear Yh Y)));all_goals first|apply Hold.mk|omega|assumption|skip))
  (refine awp_ret ?_;simp[go_sem])
 | true =>
 obtain ⟨hsu, hlz⟩ := hpz rfl
 cases sq with
 | false =>
  (refine awp_sr fun Y Yh=>?_;simp[go_sem];((repeat' (first|(refine ag_false ?_ ?_ ?_;(focus (simp[go_sem, undef];done));(focus (simp[go_sem];done));simp[go_sem])|(refine ag_true ?_ ?_;(focus (simp[go_sem, undef];done));simp[go_sem])|(refine ag_x ?_;simp[go_sem, undef])|intro _|apply And.intro|(apply Yh;clear Yh Y)));all_goals first|apply Hold.mk|omega|assumption|skip))
  (refine awp_if fun T F hT hF=>?_;simp[go_sem];refine hT ?_;clear hT hF T F)
  (refine awp_sr fun Y Yh=>?_;simp[go_sem];((repeat' (first|intro _|apply And.intro|(apply Yh;clear Yh Y)));all_goals first|apply Hold.mk|omega|assumption|skip))
  (refine awp_ret ?_;simp[go_sem])
 | true =>
 (refine awp_sr fun Y Yh=>?_;simp[go_sem];((repeat' (first|(refine ag_false ?_ ?_ ?_;(focus (simp[go_sem, undef];done));(focus (simp[go_sem];done));simp[go_sem])|(refine ag_true ?_ ?_;(focus (simp[go_sem, undef];done));simp[go_sem])|(refine ag_x ?_;simp[go_sem, undef])|intro _|apply And.intro|(apply Yh;clear Yh Y)));all_goals first|apply Hold.mk|omega|assumption|skip))
 (refine awp_if fun T F hT hF=>?_;simp[go_sem];refine hF ?_;clear hT hF T F)
 refine awp_skip ?_
 refine hK1 _ ?_; clear hK1
 (refine awp_sr fun Y Yh=>?_;simp[go_sem];((repeat' (first|intro _|apply And.intro|(apply Yh;clear Yh Y)));all_goals first|apply Hold.mk|omega|assumption|skip))
 refine awp_nilslot 10 900091 95 2 rfl fun g10 => ?_
 simp only [go_sem]
 refine awp_seq_k fun K3 hK3 => ?_
 (refine awp_sr fun Y Yh=>?_;simp[go_sem];((repeat' (first|intro _|apply And.intro|(apply Yh;clear Yh Y)));all_goals first|apply Hold.mk|omega|assumption|skip))
 refine awp_block ?_
 refine awp_loop (σ := Nat × Nat) (fun z => ⟨[(1, dPs w), (2, dPs l), (3, .rd [dGms s]), (10, .own 900091 z.2), (11, dI z.1)], [(900091, (z.2, .row 95 2 ((newTo s w l z.1).map cP)))]⟩) (fun z => z.1 ≤ l.length) (fun z => l.length - z.1) (0, g10) ?_ ?_ ?_
 ·(refine cov_of ?_ ?_ <;> simp[go_sem, newTo])
 ·simp
 rintro ⟨i, go⟩ hi
 simp only at hi
 refine awp_seq_k fun K4 hK4 => ?_
 (refine awp_sr fun Y Yh=>?_;simp[go_sem];((repeat' (first|intro _|apply And.intro|(apply Yh;clear Yh Y)));all_goals first|apply Hold.mk|omega|assumption|skip))
 (refine awp_if fun T F hT hF=>?_;simp[go_sem];refine BR.intro (fun h5=>hT ?_) (fun h5=>hF ?_);all_goals clear hT hF T F;try simp at h5)
 ·refine awp_skip ?_
  refine hK4 _ ?_; clear hK4
  have hil : i < l.length := by omega
  obtain ⟨x, hx⟩ : ∃ x, l[i]? = some x := ⟨_, List.getElem?_eq_getElem hil⟩
  have hst := newTo_snoc (s := s) (w := w) hx
  have hnl := newTo_len s w l i
  obtain ⟨hx1, hx2⟩ := hlz x (List.mem_of_getElem? hx)
  have hnew : s.foldl (newG s w l i x.1) x.2 = newN s w l i x := newG_new hsu
  have hft := fun g G => @foldl_take Gm Bs (newG s w l i x.1) x.2 s g G
  generalize newN s w l i x = nw at *
  refine awp_seq_k fun K6 hK6 => ?_
  have tl6 : ∀ S' g', Cov S' ⟨[(1, dPs w), (2, dPs l), (3, .rd [dGms s]), (10, .own 900091 g'), (11, dI i)], [(900091, (g', .row 95 2 ((newTo s w l (i + 1)).map cP)))]⟩ → K6 S' := fun S' g' hS => by
   refine hK6 _ ?_; clear hK6
   refine awp_cov hS ?_; clear hS
   (refine awp_r fun Y Yh=>?_;simp[go_sem];((repeat' (first|intro _|apply And.intro|(apply Yh;clear Yh Y)));all_goals first|apply Hold.mk|omega|assumption|skip))
   refine ⟨(i + 1, g'), ?_, by simp only; omega, by simp only; omega⟩
   (refine cov_of ?_ ?_ <;> simp[go_sem])
  clear hK6
  refine awp_block ?_
  (refine awp_sr fun Y Yh=>?_;simp[go_sem, hx];((repeat' (first|intro _|apply And.intro|(apply Yh;clear Yh Y)));all_goals first|apply Hold.mk|omega|assumption|skip))
  refine awp_seq_k fun K7 hK7 => ?_
  (refine awp_sr fun Y Yh=>?_;simp[go_sem];((repeat' (first|intro _|apply And.intro|(apply Yh;clear Yh Y)));all_goals first|apply Hold.mk|omega|assumption|skip))
  refine awp_block ?_
  refine awp_loop (σ := Nat) (fun g => ⟨[(1, dPs w), (2, dPs l), (3, .rd [dGms s]), (10, .own 900091 go), (11, dI i), (12, dS ((s.take g).foldl (newG s w l i x.1) x.2)), (13, dI g)], [(900091, (go, .row 95 2 ((newTo s w l i).map cP)))]⟩) (fun g => g ≤ s.length ∧ ((s.take g).foldl (newG s w l i x.1) x.2).length ≤ 1000000) (fun g => s.length - g) 0 ?_ ?_ ?_
  ·(refine cov_of ?_ ?_ <;> simp[go_sem])
  ·exact ⟨by simp, by simpa using hx2⟩
  rintro g ⟨hg, hbz⟩
  refine awp_seq_k fun K8 hK8 => ?_
  (refine awp_sr fun Y Yh=>?_;simp[go_sem];((repeat' (first|intro _|apply And.intro|(apply Yh;clear Yh Y)));all_goals first|apply Hold.mk|omega|assumption|skip))
  have hs0 := hs.1
  (refine awp_if fun T F hT hF=>?_;simp[go_sem];refine BR.intro (fun h9=>hT ?_) (fun h9=>hF ?_);all_goals clear hT hF T F;try simp at h9)
  ·refine awp_skip ?_
   refine hK8 _ ?_; clear hK8
   have hgl : g < s.length := by omega
   obtain ⟨G, hG⟩ : ∃ G, s[g]? = some G := ⟨_, List.getElem?_eq_getElem hgl⟩
   obtain ⟨hGz1, hGz2, hGz3⟩ := hs.2 G (List.mem_of_getElem? hG)
   have hfg := hft g G hG
   generalize (s.take g).foldl (newG s w l i x.1) x.2 = b0 at *
   generalize hW : (s.take (g + 1)).foldl (newG s w l i x.1) x.2 = W at *
   unfold newG at hfg
   refine awp_seq_k fun K10 hK10 => ?_
   refine awp_block ?_
   (refine awp_sr fun Y Yh=>?_;simp[go_sem];((repeat' (first|intro _|apply And.intro|(apply Yh;clear Yh Y)));all_goals first|apply Hold.mk|omega|assumption|skip))
   refine awp_block ?_
   refine awp_loop (σ := Nat) (fun k => ⟨[(1, dPs w), (2, dPs l), (3, .rd [dGms s]), (10, .own 900091 go), (11, dI i), (12, dS ((G.2.take k).foldl (newB s w l i) b0)), (13, dI g), (14, dI k)], [(900091, (go, .row 95 2 ((newTo s w l i).map cP)))]⟩) (fun k => k ≤ G.2.length ∧ (k = 0 ∨ G.1 = x.1) ∧ ((G.2.take k).foldl (newB s w l i) b0).length ≤ 1000000) (fun k => G.2.length - k) 0 ?_ ?_ ?_
   ·(refine cov_of ?_ ?_ <;> simp[go_sem])
   ·exact ⟨by simp, .inl rfl, by simpa using hbz⟩
   rintro k ⟨hk, hk2, hkz⟩
   refine awp_seq_k fun K11 hK11 => ?_
   have tlX : ∀ S', Cov S' ⟨[(1, dPs w), (2, dPs l), (3, .rd [dGms s]), (10, .own 900091 go), (11, dI i), (12, dS W), (13, dI g)], [(900091, (go, .row 95 2 ((newTo s w l i).map cP)))]⟩ → W.length ≤ 1000000 → K10 S' := fun S' hS hWz => by
    refine hK10 _ ?_; clear hK10
    refine awp_cov hS ?_; clear hS
    (refine awp_r fun Y Yh=>?_;simp[go_sem];((repeat' (first|intro _|apply And.intro|(apply Yh;clear Yh Y)));all_goals first|apply Hold.mk|omega|assumption|skip))
    refine ⟨g + 1, ?_, ⟨by omega, by rw [hW]; exact hWz⟩, by omega⟩
    rw [hW]
    (refine cov_of ?_ ?_ <;> simp[go_sem])
   clear hK10
   by_cases h6 : k < G.2.length
   ·by_cases h7 : G.1 = x.1
    ·obtain ⟨v, hv⟩ : ∃ v, G.2[k]? = some v := ⟨_, List.getElem?_eq_getElem h6⟩
     obtain ⟨hvz, hvn⟩ := hGz3 v (List.mem_of_getElem? hv)
     have hfb := foldl_take (newB s w l i) b0 hv
     have hbz2 := newB_sz (s := s) (w := w) (l := l) (i := i) hkz hvz
     ((refine awp_dr (.qs [0, 1, 3, 2, 4, 5, 6, 7, 8, 9, 10, 12, 16, 17, 18, 19, 11, 13, 14, 15, 20, 21, 22] (.nil)) (by kernel_rfl) ?_ ?_ ?_ ?_);kernel_rfl;exact (by decide +kernel);kernel_rfl;intro Y Yh;((repeat' (first|refine adr_nil ?_|((first|refine adr_qs fun Y Yh=>?_|refine adr_y fun Y Yh=>?_);simp[go_sem, hx, hG, h6, h7])|intro _|apply And.intro|(apply Yh;clear Yh Y)));all_goals first|apply Hold.mk|omega|assumption|skip))
     (refine awp_if fun T F hT hF=>?_;simp[go_sem, h6, h7];refine hT ?_;clear hT hF T F)
     refine awp_skip ?_
     refine hK11 _ ?_; clear hK11
     have hsl := setN_len l i v.1
     have AL : ∀ y ∈ setN l i v.1, Sz1 y := fun y hy => by
      rcases setN_mem hx hy with q | q
      ·exact hlz y q
      ·subst q; exact ⟨hx1, hvz⟩
     have SL := rSolution_spec s w (setN l i v.1) hs hw (by omega) AL
     rw [setN_at hx] at SL
     have CM := rCompare_spec v.1 ((G.2.take k).foldl (newB s w l i) b0) hvz hkz
     have hnb : newB s w l i ((G.2.take k).foldl (newB s w l i) b0) v = if 0 < compareP v.1 ((G.2.take k).foldl (newB s w l i) b0) ∧ solQ (allN s w (l.set i (x.1, v.1))) (l.set i (x.1, v.1)) = true then v.1 else (G.2.take k).foldl (newB s w l i) b0 := by unfold newB; rw [setN_at hx]
     rw [← hfb] at hnb hbz2
     generalize hb1 : (G.2.take k).foldl (newB s w l i) b0 = b1 at *
     generalize hb2 : (G.2.take (k + 1)).foldl (newB s w l i) b0 = b2 at *
     refine awp_seq_k fun K13 hK13 => ?_
     have tl13 : ∀ S', Cov S' ⟨[(1, dPs w), (2, dPs l), (3, .rd [dGms s]), (10, .own 900091 go), (11, dI i), (12, dS b2), (13, dI g), (14, dI k)], [(900091, (go, .row 95 2 ((newTo s w l i).map cP)))]⟩ → K13 S' := fun S' hS => by
      refine hK13 _ ?_; clear hK13
      refine awp_cov hS ?_; clear hS
      (refine awp_r fun Y Yh=>?_;simp[go_sem];((repeat' (first|intro _|apply And.intro|(apply Yh;clear Yh Y)));all_goals first|apply Hold.mk|omega|assumption|skip))
      refine ⟨k + 1, ?_, ⟨by omega, .inr h7, by rw [hb2]; exact hbz2⟩, by omega⟩
      rw [hb2]
      (refine cov_of ?_ ?_ <;> simp[go_sem])
     clear hK13
     refine awp_block ?_
     (refine awp_sr fun Y Yh=>?_;simp[go_sem];((repeat' (first|intro _|apply And.intro|(apply Yh;clear Yh Y)));all_goals first|apply Hold.mk|omega|assumption|skip))
     (refine awp_sr fun Y Yh=>?_;simp[go_sem, hx, hG, hv];((repeat' (first|intro _|apply And.intro|(apply Yh;clear Yh Y)));all_goals first|apply Hold.mk|omega|assumption|skip))
     have hcell : dPs (l.set i (x.1, v.1)) = D.sl 2 ((l.map cP).set i [dS x.1, dS v.1]) := by show D.sl 2 _ = _; rw [List.map_set]
     have hsi : (l.set i (x.1, v.1))[i]? = some (x.1, v.1) := by rw [List.getElem?_set_self hil]
     refine awp_frzrow 15 rfl rfl ?_
     simp only [go_sem]
     rw [← hcell]
     generalize hL : l.set i (x.1, v.1) = L at *
     (refine awp_sr fun Y Yh=>?_;simp[go_sem, hsi];((repeat' (first|intro _|apply And.intro|(apply Yh;clear Yh Y)));all_goals first|apply Hold.mk|omega|assumption|skip))
     ((try refine CallT.toA ?_);refine callT_m (.inl ⟨rfl,rfl⟩) (by simp[go_sem]) ?_;intro args ha;simp[go_sem] at ha;subst ha;refine ⟨_, CM, ?_⟩;rintro _ rfl;simp[go_sem];((repeat' (first|intro _|apply And.intro|(apply Yh;clear Yh Y)));all_goals first|apply Hold.mk|omega|assumption|skip))
     by_cases hc : 0 < compareP v.1 b1
     ·generalize compareP v.1 b1 = cm at *
      generalize solQ (allN s w L) L = sq at *
      (refine awp_sr fun Y Yh=>?_;simp[go_sem, hc];((repeat' (first|(refine ag_false ?_ ?_ ?_;(focus (simp[go_sem, undef, hc];done));(focus (simp[go_sem];done));simp[go_sem, hc])|(refine ag_true ?_ ?_;(focus (simp[go_sem, undef, hc];done));simp[go_sem, hc])|(refine ag_x ?_;simp[go_sem, undef, hc])|intro _|apply And.intro|(apply Yh;clear Yh Y)));all_goals first|apply Hold.mk|omega|assumption|skip))
      ((try refine CallT.toA ?_);refine callT_m (.inl ⟨rfl,rfl⟩) (by simp[go_sem]) ?_;intro args ha;simp[go_sem] at ha;subst ha;refine ⟨_, SL, ?_⟩;rintro _ rfl;simp[go_sem, hc];((repeat' (first|(refine ag_false ?_ ?_ ?_;(focus (simp[go_sem, undef, hc];done));(focus (simp[go_sem];done));simp[go_sem, hc])|(refine ag_true ?_ ?_;(focus (simp[go_sem, undef, hc];done));simp[go_sem, hc])|(refine ag_x ?_;simp[go_sem, undef, hc])|intro _|apply And.intro|(apply Yh;clear Yh Y)));all_goals first|apply Hold.mk|omega|assumption|skip))
      cases sq with
      | true =>
       rw [if_pos ⟨hc, rfl⟩] at hnb
       (refine awp_if fun T F hT hF=>?_;simp[go_sem, hc];refine hT ?_;clear hT hF T F)
       (refine awp_r fun Y Yh=>?_;simp[go_sem, hsi];((repeat' (first|intro _|apply And.intro|(apply Yh;clear Yh Y)));all_goals first|apply Hold.mk|omega|assumption|skip))
       refine tl13 _ ?_
       rw [hnb]
       (refine cov_of ?_ ?_ <;> simp[go_sem])
      | false =>
       rw [if_neg (fun q => by cases q.2)] at hnb
       (refine awp_if fun T F hT hF=>?_;simp[go_sem, hc];refine hF ?_;clear hT hF T F)
       refine awp_skip ?_
       refine tl13 _ ?_
       rw [hnb]
       (refine cov_of ?_ ?_ <;> simp[go_sem])
     ·rw [if_neg (fun q => hc q.1)] at hnb
      generalize compareP v.1 b1 = cm at *
      (refine awp_sr fun Y Yh=>?_;simp[go_sem, hc];((repeat' (first|(refine ag_false ?_ ?_ ?_;(focus (simp[go_sem, undef, hc];done));(focus (simp[go_sem];done));simp[go_sem, hc])|(refine ag_true ?_ ?_;(focus (simp[go_sem, undef, hc];done));simp[go_sem, hc])|(refine ag_x ?_;simp[go_sem, undef, hc])|intro _|apply And.intro|(apply Yh;clear Yh Y)));all_goals first|apply Hold.mk|omega|assumption|skip))
      (refine awp_if fun T F hT hF=>?_;simp[go_sem, hc];refine hF ?_;clear hT hF T F)
      refine awp_skip ?_
      refine tl13 _ ?_
      rw [hnb]
      (refine cov_of ?_ ?_ <;> simp[go_sem])
    ·have hk0 : k = 0 := hk2.resolve_right h7
     subst hk0
     rw [if_neg h7] at hfg
     ((refine awp_dr (.qs [0, 1, 3, 2, 4, 5, 6, 7, 8, 9, 10, 12, 16, 17, 18, 19, 11, 13, 14, 15, 20, 21, 22] (.nil)) (by kernel_rfl) ?_ ?_ ?_ ?_);kernel_rfl;exact (by decide +kernel);kernel_rfl;intro Y Yh;((repeat' (first|refine adr_nil ?_|((first|refine adr_qs fun Y Yh=>?_|refine adr_y fun Y Yh=>?_);simp[go_sem, hx, hG, h6, h7])|intro _|apply And.intro|(apply Yh;clear Yh Y)));all_goals first|apply Hold.mk|omega|assumption|skip))
     have h7b : (G.1 == x.1) = false := by simp [h7]
     (refine awp_if fun T F hT hF=>?_;simp[go_sem, h6, h7, h7b];refine hF ?_;clear hT hF T F)
     refine awp_exit ?_
     simp only [go_sem]
     refine tlX _ ?_ (by rw [hfg]; exact hbz)
     rw [hfg]
     (refine cov_of ?_ ?_ <;> simp[go_sem])
   ·have hke : k = G.2.length := by omega
    subst hke
    rw [List.take_length] at hkz ⊢
    have hWf : W = G.2.foldl (newB s w l i) b0 := by
     rcases hk2 with q | q
     ·have : G.2 = [] := List.eq_nil_of_length_eq_zero q
      rw [hfg, this]
      split <;> rfl
     ·rw [hfg, if_pos q]
    ((refine awp_dr (.qs [0, 1, 3, 2, 4, 5, 6, 7, 8, 9] (.sk 10 (.sk 12 (.sk 16 (.sk 17 (.sk 18 (.sk 19 (.sk 11 (.sk 13 (.sk 14 (.sk 15 (.sk 20 (.sk 21 (.qs [22] (.nil))))))))))))))) (by kernel_rfl) ?_ ?_ ?_ ?_);kernel_rfl;exact (by decide +kernel);kernel_rfl;intro Y Yh;((repeat' (first|refine adr_nil ?_|((first|refine adr_qs fun Y Yh=>?_|refine adr_y fun Y Yh=>?_);simp[go_sem, hx, hG, undef])|intro _|apply And.intro|(apply Yh;clear Yh Y)));all_goals first|apply Hold.mk|omega|assumption|skip))
    (refine awp_if fun T F hT hF=>?_;simp[go_sem];refine hF ?_;clear hT hF T F)
    refine awp_exit ?_
    simp only [go_sem]
    refine tlX _ ?_ (by rw [hWf]; exact hkz)
    rw [hWf]
    (refine cov_of ?_ ?_ <;> simp[go_sem])
  ·refine awp_exit ?_
   simp only [go_sem]
   refine hK7 _ ?_; clear hK7
   have hge : g = s.length := by omega
   subst hge
   rw [List.take_length, hnew]
   rw [List.take_length, hnew] at hbz
   by_cases he : nw = x.2
   ·rw [if_pos he] at hst
    (refine awp_sr fun Y Yh=>?_;simp[go_sem, hx, he];((repeat' (first|intro _|apply And.intro|(apply Yh;clear Yh Y)));all_goals first|apply Hold.mk|omega|assumption|skip))
    (refine awp_if fun T F hT hF=>?_;simp[go_sem, he];refine hF ?_;clear hT hF T F)
    refine awp_skip ?_
    refine tl6 _ go ?_
    rw [hst]
    (refine cov_of ?_ ?_ <;> simp[go_sem])
   ·rw [if_neg he] at hst
    have heb : (nw == x.2) = false := by simp [he]
    (refine awp_sr fun Y Yh=>?_;simp[go_sem, hx, he];((repeat' (first|intro _|apply And.intro|(apply Yh;clear Yh Y)));all_goals first|apply Hold.mk|omega|assumption|skip))
    (refine awp_if fun T F hT hF=>?_;simp[go_sem, he, heb];refine hT ?_;clear hT hF T F)
    (refine awp_r fun Y Yh=>?_;simp[go_sem, hx];((repeat' (first|intro _|apply And.intro|(apply Yh;clear Yh Y)));all_goals first|apply Hold.mk|omega|assumption|skip))
    rename_i gq g'
    refine tl6 _ g' ?_
    rw [hst]
    (refine cov_of ?_ ?_ <;> simp[go_sem])
 ·refine awp_exit ?_
  simp only [go_sem]
  refine hK3 _ ?_; clear hK3
  have hie : i = l.length := by omega
  subst hie
  (refine awp_sr fun Y Yh=>?_;simp[go_sem];((repeat' (first|intro _|apply And.intro|(apply Yh;clear Yh Y)));all_goals first|apply Hold.mk|omega|assumption|skip))
  refine awp_frzrow 6 rfl rfl ?_
  simp only [go_sem]
  (refine awp_ret ?_;simp[go_sem])
end Go.Proofs.YteekfnhhlcmcgaaGreatDoor
set_option linter.unusedSectionVars false
namespace Go.Eng
variable {P : Program} [HasGlob P]
/-! results that hold an own row inside a struct of one cell, and such structs as arguments -/
def frzDG (ss : List Nat) (S : St) (d : D) (k : St → D → Prop) : Prop :=
 match d with
 | .agg [.own s g] => if ss.contains s then k S (.agg [.own s g]) else frzDA ss S (.agg [.own s g]) k
 | d => frzDA ss S d k
def frzDsG (ss : List Nat) : St → List D → (St → List D → Prop) → Prop
 | S, [], k => k S []
 | S, d :: ds, k => frzDG ss S d fun S' d' => frzDsG ss S' ds fun S'' ds' => k S'' (d' :: ds')
def retG (P : Program) (rs : List ResultVar) (tys : List TypeId) (ss : List Nat) (R : List (Nat × Blk) → D → Prop) : Exit → St → Prop
 | .normal, S | .ret, S => resL P S rs fun ds => frzDsG ss S ds fun S' ds' => postK S' ss fun ps => R ps (pack (nilDs P tys ds'))
 | _, _ => False
section
variable {w0 w : World} {B : Nat → Nat → Prop} {C0 C : Ctx} {n : Nat} {a : Act} {S : St}
end
attribute [go_sem] retG frzDsG frzDG
end Go.Eng
set_option linter.unusedSectionVars false
namespace Go.Eng
variable {P : Program} [HasGlob P]
theorem flat_get {α : Type} {k : Nat} : ∀ {xs : List (List α)}, (∀ x ∈ xs, x.length = k) → ∀ (i j : Nat), j < k → xs.flatten[i * k + j]? = (xs[i]?).bind fun x => x[j]?
 | [], _, i, j, _ => by simp
 | x :: xs, h, 0, j, hj => by
  have hx := h x (by simp)
  rw [List.flatten_cons, Nat.zero_mul, Nat.zero_add, List.getElem?_append_left (by omega)]
  simp
 | x :: xs, h, i + 1, j, hj => by
  have hx := h x (by simp)
  have e : (i + 1) * k + j = k + (i * k + j) := by rw [Nat.succ_mul]; omega
  rw [List.flatten_cons, e, List.getElem?_append_right (by omega), hx, Nat.add_sub_cancel_left, flat_get (fun y hy => h y (by simp [hy])) i j hj]
  simp
theorem flat_len {α : Type} {k : Nat} : ∀ {xs : List (List α)}, (∀ x ∈ xs, x.length = k) → xs.flatten.length = xs.length * k
 | [], _ => by simp
 | x :: xs, h => by
  have hx := h x (by simp)
  rw [List.flatten_cons, List.length_append, flat_len (fun y hy => h y (by simp [hy])), hx, List.length_cons, Nat.succ_mul, Nat.add_comm]
theorem rowk_data {C : Ctx} {w : World} {s g T k : Nat} {xs : List (List Value)} (hk : 0 < k) (hx : ∀ x ∈ xs, x.length = k) (h : HRep C w s g (.row T k (xs.map fun x => x.map .v))) :
  ∃ u, C.val s g = some u ∧ C.live s g = true ∧ w.ownsRow 0 T k u xs.length xs.flatten := by
 obtain ⟨u, zs, h1, h2, h3, h4, h5⟩ := h
 refine ⟨u, h1, h2, ?_⟩
 have hfl := flat_len hx
 have hz : zs = xs.flatten := by
  have hl : zs.length = xs.length * k := by simpa using h3.1
  refine List.ext_getElem (by omega) fun n i1 i2 => ?_
  have hn : n = (n / k) * k + n % k := by rw [Nat.mul_comm]; exact (Nat.div_add_mod n k).symm
  have hj : n % k < k := Nat.mod_lt _ hk
  have hi : n / k < xs.length := by rw [Nat.div_lt_iff_lt_mul hk]; omega
  have hg := flat_get hx (n / k) (n % k) hj
  rw [← hn, List.getElem?_eq_getElem i2, List.getElem?_eq_getElem hi, Option.bind_some] at hg
  have hxi := hx _ (List.getElem_mem hi)
  rw [List.getElem?_eq_getElem (by omega)] at hg
  simp only [Option.some.injEq] at hg
  have := (h5 (n / k) (n % k) (xs[n / k].map .v) (.v (xs[n / k][n % k]'(by omega))) zs[n] (by simp [hi]) (by simp [hxi, hj]) (by rw [← hn]; exact List.getElem?_eq_getElem i1)).1
  rw [hg]
  exact this.v_inv
 rw [← hz]
 have : (xs.map fun x => x.map D.v).length = xs.length := by simp
 rw [this] at h3
 exact h3
theorem datak_row {C : Ctx} {w : World} {s g T k : Nat} {xs : List (List Value)} {u : Value} (hk : 0 < k) (h1 : C.val s g = some u) (h2 : C.live s g = true) (h3 : w.ownsRow 0 T k u xs.length xs.flatten) (ho : ∀ y ∈ xs, y.length = k ∧ ∀ u ∈ y, u.oneCell' = true) :
  HRep C w s g (.row T k (xs.map fun x => x.map .v)) := by
 refine ⟨u, xs.flatten, h1, h2, by simpa using h3, by simpa using fun y hy => (ho y hy).1, fun i j e c x hi hj hx => ?_⟩
 simp only [List.getElem?_map, Option.map_eq_some_iff] at hi
 obtain ⟨y, hy, rfl⟩ := hi
 have hym := ho y (List.mem_of_getElem? hy)
 simp only [List.getElem?_map, Option.map_eq_some_iff] at hj
 obtain ⟨z, hz, rfl⟩ := hj
 have hjk : j < k := by have := (List.getElem?_eq_some_iff.1 hz).1; omega
 rw [flat_get (fun y hy => (ho y hy).1) i j hjk, hy, Option.bind_some, hz] at hx
 simp only [Option.some.injEq] at hx
 subst hx
 exact ⟨.v z, hym.2 z (List.mem_of_getElem? hz)⟩
theorem acall_cutk {f : FuncId} {T kc nr gr : Nat} {xs ys : List (List Value)} {vs : List Value} (hf : FnOk P f) (h2 : 900000 ≤ nr) (hk0 : 0 < kc) (hx : ∀ x ∈ xs, x.length = kc) (hy : ∀ y ∈ ys, y.length = kc ∧ ∀ u ∈ y, u.oneCell' = true)
  (h : ∀ (v : Value) (w : World), HasGlob.ok P w → w.ownsRow 0 T kc v xs.length xs.flatten →
   Calls P f (v :: vs).toArray w fun en w' => ∃ v', en = .returned v' ∧ v'.oneCell' = true ∧ v'.ownBlock = v.ownBlock ∧ w'.ownsRow 0 T kc v' ys.length ys.flatten ∧ RowFrm w w' v) :
  ACall P f (.own nr gr :: vs.map .v) [(nr, (gr, .row T kc (xs.map fun x => x.map .v)))] [nr] fun ps r' => ∃ gr', ps = [(gr', .row T kc (ys.map fun x => x.map .v))] ∧ r' = .own nr gr' := by
 refine ⟨hf, ?_, fun C w us hc hg hr he => ?_⟩
 ·intro p hp
  simp only [List.mem_cons, List.mem_nil_iff, or_false] at hp
  subst hp
  exact ⟨h2, rfl, by simp⟩
 ·obtain ⟨u, u1, u2, u3⟩ := rowk_data hk0 hx (he nr gr (.row T kc (xs.map fun x => x.map .v)) (by simp [look]))
  obtain ⟨k1, k2⟩ := blk_own' u3
  have hus : us = u :: vs := by
   refine List.ext_getElem (by simpa using hr.1) fun j h1 h2 => ?_
   match j with
   | 0 =>
    have := hr.2 0 (.own nr gr) us[0] rfl (List.getElem?_eq_getElem h1)
    cases this with
    | own _ _ _ hv _ =>
     rw [u1] at hv
     simp only [Option.some.injEq] at hv
     simp [hv]
   | j + 1 =>
    have hj : j < vs.length := by simpa using h2
    have := hr.2 (j + 1) (.v vs[j]) us[j + 1] (by simp [hj]) (List.getElem?_eq_getElem h1)
    simpa using this.v_inv
  subst hus
  refine (h u w hg.1 u3).mono fun en w' ⟨v', he', ho', hb', s1, s2⟩ => ?_
  obtain ⟨N, hN⟩ := hc.fresh nr
  obtain ⟨m1, m2⟩ := blk_own' s1
  have hblk : blk v' = blk u := by rw [m1, k1, hb']
  let C' : Ctx := ⟨fun s g => if s = nr ∧ g = N then some v' else C.val s g, fun s g => if s = nr ∧ g = N then true else if s = nr ∧ g = gr then false else C.live s g⟩
  have hgN : gr ≠ N := fun q => by subst q; rw [hN _ (Nat.le_refl _)] at u1; cases u1
  have hval : ∀ s g y, C.val s g = some y → C'.val s g = some y := fun s g y hy => by
   show (if s = nr ∧ g = N then some v' else C.val s g) = some y
   rw [if_neg]
   ·exact hy
   ·rintro ⟨rfl, rfl⟩
    rw [hN _ (Nat.le_refl _)] at hy
    cases hy
  have cases' : ∀ s g x, C'.val s g = some x → C'.live s g = true → (s = nr ∧ g = N ∧ x = v') ∨ (¬ (s = nr ∧ g = gr) ∧ C.val s g = some x ∧ C.live s g = true) := fun s g x q1 q2 => by
   change (if s = nr ∧ g = N then some v' else C.val s g) = some x at q1
   change (if s = nr ∧ g = N then true else if s = nr ∧ g = gr then false else C.live s g) = true at q2
   by_cases q : s = nr ∧ g = N
   ·rw [if_pos q] at q1
    exact .inl ⟨q.1, q.2, by simpa using q1.symm⟩
   ·rw [if_neg q] at q1 q2
    by_cases q' : s = nr ∧ g = gr
    ·rw [if_pos q'] at q2; cases q2
    ·rw [if_neg q'] at q2
     exact .inr ⟨q', q1, q2⟩
  have hvN : C'.val nr N = some v' := by show (if nr = nr ∧ N = N then some v' else C.val nr N) = some v'; simp
  have hlN : C'.live nr N = true := by show (if nr = nr ∧ N = N then true else _) = true; simp
  have hlo : ∀ s g, ¬ (s = nr ∧ g = N) → ¬ (s = nr ∧ g = gr) → C'.live s g = C.live s g := fun s g q1 q2 => by
   show (if s = nr ∧ g = N then true else if s = nr ∧ g = gr then false else C.live s g) = C.live s g
   rw [if_neg q1, if_neg q2]
  have hext : Ext C w C' w' := by
   refine ⟨hval, fun k hk ⟨s, g, x, q1, q2, q3⟩ => ?_, fun k hk hno => ?_, s2.size⟩
   ·rcases cases' s g x q1 q2 with ⟨_, _, e3⟩ | ⟨_, q4, q5⟩
    ·rw [e3, hblk] at q3
     exact ⟨nr, gr, u, u1, u2, q3⟩
    ·exact ⟨s, g, x, q4, q5, q3⟩
   ·exact s2.rest k hk fun q => hno ⟨nr, gr, u, u1, u2, k1.trans q⟩
  refine ⟨v', .own nr N, [(N, .row T kc (ys.map fun x => x.map .v))], C', he', ⟨N, rfl, rfl⟩, .own nr N v' hvN ho', ⟨?_, ?_, ?_⟩, hext, ⟨rfl, ?_⟩, ?_, ?_, ?_, ?_, ⟨s2.os, s2.tape, s2.output, s2.size, ?_⟩⟩
  ·intro s g x s' g' x' k q1 q2 q3 q4 q5 q6
   rcases cases' s g x q1 q2 with ⟨rfl, rfl, rfl⟩ | ⟨p1, p2, p3⟩ <;> rcases cases' s' g' x' q3 q4 with ⟨rfl, rfl, rfl⟩ | ⟨t1, t2, t3⟩
   ·exact ⟨rfl, rfl⟩
   ·rw [hblk] at q5
    exact absurd (hc.apart s' g' x' s gr u k t2 t3 u1 u2 q6 q5) t1
   ·rw [hblk] at q6
    exact absurd (hc.apart s g x s' gr u k p2 p3 u1 u2 q5 q6) p1
   ·exact hc.apart s g x s' g' x' k p2 p3 t2 t3 q5 q6
  ·intro s g x k q1 q2 q3
   rcases cases' s g x q1 q2 with ⟨rfl, rfl, rfl⟩ | ⟨p1, p2, p3⟩
   ·exact m2 k (m1 ▸ q3)
   ·exact Nat.lt_of_lt_of_le (hc.bound s g x k p2 p3 q3) s2.size
  ·intro s
   obtain ⟨M, hM⟩ := hc.fresh s
   refine ⟨max M (N + 1), fun g hg' => ?_⟩
   show (if s = nr ∧ g = N then some v' else C.val s g) = none
   rw [if_neg (by omega)]
   exact hM g (by omega)
  ·intro j s p hj hp
   match j, hj, hp with
   | 0, hj, hp =>
    simp only [List.getElem?_cons_zero, Option.some.injEq] at hj hp
    subst hj hp
    exact ⟨datak_row hk0 hvN hlN s1 hy, rfl⟩
   | j + 1, hj, hp => simp at hj
  ·intro j s p x k hj hp hv hk
   match j, hj, hp with
   | 0, hj, hp =>
    simp only [List.getElem?_cons_zero, Option.some.injEq] at hj hp
    subst hj hp
    have : x = v' := by rw [hvN] at hv; exact (Option.some.inj hv).symm
    subst this
    exact .inr ⟨⟨nr, gr, u, ⟨.row T kc (xs.map fun x => x.map .v), by simp [look]⟩, u1, hblk ▸ hk⟩, h2⟩
   | j + 1, hj, hp => simp at hj
  ·intro j s p y hj hp hy
   match j, hj, hp with
   | 0, hj, hp =>
    simp only [List.getElem?_cons_zero, Option.some.injEq] at hj hp
    subst hj hp
    rw [hN _ (Nat.le_refl _)] at hy
    cases hy
   | j + 1, hj, hp => simp at hj
  ·intro s g y hy hnl
   refine hlo s g (fun q => ?_) (fun q => ?_)
   ·rw [q.1, q.2, hN _ (Nat.le_refl _)] at hy; cases hy
   ·rw [q.1, q.2] at hnl
    exact hnl ⟨.row T kc (xs.map fun x => x.map .v), by simp [look]⟩
  ·intro s g y hy hl
   by_cases q : s = nr ∧ g = N
   ·rw [q.1, q.2, hN _ (Nat.le_refl _)] at hy; cases hy
   ·by_cases q' : s = nr ∧ g = gr
    ·rw [q'.1, q'.2]; exact u2
    ·rw [← hlo s g q q']; exact hl
  ·intro k hk hno
   exact s2.rest k hk fun q => hno ⟨nr, gr, u, ⟨.row T kc (xs.map fun x => x.map .v), by simp [look]⟩, u1, k1.trans q⟩
end Go.Eng
