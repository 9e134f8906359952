/- Part of a proof: see the last text. -/
import Derived.Test.YteekfnhhlcmcgaaGreatDoorGD
import Derived.Test.YteekfnhhlcmcgaaGreatDoorGK
import Derived.Test.YteekfnhhlcmcgaaGreatDoorHB
import Derived.Test.YteekfnhhlcmcgaaGreatDoorG05
set_option linter.unusedVariables false
set_option linter.unusedSimpArgs false
namespace Go.Proofs.YteekfnhhlcmcgaaGreatDoor
open Go.Eng Go.Wh Go.Ver Go.RowKit Go.Lk
set_option maxRecDepth 20000
attribute [local irreducible] AG CallA CallT AWp PCall ACall AgC
abbrev Z1 (x : Prs) : Prop := x.1.length ≤ 140737488355328 ∧ x.2.length ≤ 140737488355328
abbrev ZN (r : List Prs) : Prop := r.length ≤ 140737488355328 ∧ ∀ x ∈ r, Z1 x
abbrev ZL (L : Lck) : Prop := ZN L.1 ∧ (L.2.1.length ≤ 140737488355328 ∧ ∀ r ∈ L.2.1, ZN r) ∧ ZN L.2.2
theorem take_in {α : Type} {p : α → Prop} {l : List α} {i : Nat} {y : α} (h : l[i]? = some y) (h1 : ∀ x ∈ l.take i, p x) (h2 : p y) : ∀ x ∈ l.take (i + 1), p x := by
 rw [List.take_add_one, h]
 intro x hx
 rcases List.mem_append.1 hx with q | q
 ·exact h1 x q
 ·simp at q; subst q; exact h2
theorem quo100 (n : Nat) : ((n : Int).tdiv 100) = ((n / 100 : Nat) : Int) := by
 rw [Int.tdiv_eq_ediv_of_nonneg (by omega)]; rfl
set_option maxHeartbeats 16000000 in
theorem large_spec (L : Lck) (hZ : ZL L) : PCall Tryz.prog 19 [dLk L] fun r => ∃ b, (b = false → LkOk L) ∧ r = dB b := by 
 refine pcall_of Tryz.func19 rfl rfl Tryz.ntmps19 (rs := [.tmp 2]) (tys := [4]) rfl rfl (by simp) ?_
 obtain ⟨P, N, W⟩ := L
 obtain ⟨⟨zP, zP1⟩, ⟨zN, zN1⟩, zW, zW1⟩ := hZ
 simp only at zP zP1 zN zN1 zW zW1
 (refine awp_sr fun Y Yh => ?_; simp [go_sem]; ((repeat' (first|(refine ag_x ?_;simp [go_sem])|intro _|apply And.intro|(apply Yh;clear Yh Y)));all_goals first|apply Hold.mk|omega|assumption|skip))
 rename_i g1
 (refine awp_sr fun Y Yh => ?_; simp [go_sem]; ((repeat' (first|(refine ag_x ?_;simp [go_sem])|intro _|apply And.intro|(apply Yh;clear Yh Y)));all_goals first|apply Hold.mk|omega|assumption|skip))
 refine awp_seq_k fun K1 hK1 => ?_
 have tl1 : ∀ S' n, n ≤ 562949953421312 → P.length + N.length + W.length ≤ n → (n < 1000 → ∀ r ∈ N, r.length ≤ 1000000 ∧ ∀ x ∈ r, PrOk x) → Cov S' ⟨[(1, .ptr 1 g1 0), (3, dI n)], [(1, (g1, .box [dPs P, dNs N, dPs W]))]⟩ → K1 S' := fun S' n hn hpw hN hS => by
  refine hK1 _ ?_; clear hK1
  refine awp_cov hS ?_; clear hS
  refine awp_seq_k fun K2 hK2 => ?_
  have tl2 : ∀ S' n, n ≤ 562949953421312 → P.length + N.length + W.length ≤ n → (n < 1000 → ∀ r ∈ N, r.length ≤ 1000000 ∧ ∀ x ∈ r, PrOk x) → (n < 1000 → ∀ x ∈ P, PrOk x) → Cov S' ⟨[(1, .ptr 1 g1 0), (3, dI n)], [(1, (g1, .box [dPs P, dNs N, dPs W]))]⟩ → K2 S' := fun S' n hn hpw hN hP hS => by
   refine hK2 _ ?_; clear hK2
   refine awp_cov hS ?_; clear hS
   refine awp_seq_k fun K3 hK3 => ?_
   have tl3 : ∀ S' n, n ≤ 562949953421312 → P.length + N.length + W.length ≤ n → (n < 1000 → ∀ r ∈ N, r.length ≤ 1000000 ∧ ∀ x ∈ r, PrOk x) → (n < 1000 → ∀ x ∈ P, PrOk x) → (n < 1000 → ∀ x ∈ W, PrOk x) → Cov S' ⟨[(1, .ptr 1 g1 0), (3, dI n)], [(1, (g1, .box [dPs P, dNs N, dPs W]))]⟩ → K3 S' := fun S' n hn hpw hN hP hW hS => by
    refine hK3 _ ?_; clear hK3
    refine awp_cov hS ?_; clear hS
    (refine awp_sr fun Y Yh => ?_; simp [go_sem]; ((repeat' (first|(refine ag_x ?_;simp [go_sem])|intro _|apply And.intro|(apply Yh;clear Yh Y)));all_goals first|apply Hold.mk|omega|assumption|skip))
    (refine awp_ret ?_; simp [go_sem])
    intro hlt
    exact ⟨by show P.length ≤ _; omega, by show N.length ≤ _; omega, by show W.length ≤ _; omega, hP (by omega), hN (by omega), hW (by omega)⟩
   clear hK3
   (refine awp_sr fun Y Yh => ?_; simp [go_sem]; ((repeat' (first|(refine ag_x ?_;simp [go_sem])|intro _|apply And.intro|(apply Yh;clear Yh Y)));all_goals first|apply Hold.mk|omega|assumption|skip))
   refine awp_block ?_
   refine awp_loop (σ := Nat × Nat) (fun z => ⟨[(1, .ptr 1 g1 0), (3, dI z.2), (7, dI z.1)], [(1, (g1, .box [dPs P, dNs N, dPs W]))]⟩) (fun z => z.1 ≤ W.length ∧ n ≤ z.2 ∧ z.2 ≤ 562949953421312 ∧ (z.2 < 1000 → ∀ x ∈ W.take z.1, PrOk x)) (fun z => W.length - z.1) (0, n) ?_ ?_ ?_
   ·(refine cov_of ?_ ?_ <;> simp [go_sem])
   ·exact ⟨by simp, Nat.le_refl _, hn, fun _ => by simp⟩
   rintro ⟨i, m⟩ ⟨hi, hnm, hm, hT⟩
   simp only at hi hnm hm hT
   refine awp_seq_k fun K4 hK4 => ?_
   by_cases h1 : i < W.length
   ·by_cases h2 : m < 1000
    ·have h2i : (m : Int) < 1000 := by omega
     have h1i : (i : Int) < W.length := by omega
     obtain ⟨x, hx⟩ : ∃ x, W[i]? = some x := ⟨_, List.getElem?_eq_getElem h1⟩
     obtain ⟨x1, x2⟩ := zW1 x (List.mem_of_getElem? hx)
     have q1 := quo100 x.1.length
     have q2 := quo100 x.2.length
     (refine awp_sr fun Y Yh => ?_; simp [go_sem, h1, h1i, h2, h2i]; ((repeat' (first|(refine ag_x ?_;simp [go_sem, h1, h1i, h2, h2i])|intro _|apply And.intro|(apply Yh;clear Yh Y)));all_goals first|apply Hold.mk|omega|assumption|skip))
     (refine awp_if fun T F hT hF => ?_; simp [go_sem, h1, h1i, h2, h2i]; refine hT ?_; clear hT hF T F)
     refine awp_skip ?_
     refine hK4 _ ?_; clear hK4
     refine awp_seq_k fun K5 hK5 => ?_
     refine awp_block ?_
     ((refine awp_d (.qs [0, 1, 3, 10, 12, 2, 4, 5, 6, 7, 8, 9, 11, 13, 14, 15, 16, 17, 18, 19] (.nil)) (by kernel_rfl) ?_ ?_ ?_ ?_); (kernel_rfl); (exact (by decide +kernel)); (kernel_rfl); intro Y Yh; ((repeat' (first|(refine ag_x ?_;simp [go_sem, hx, q1, q2])|refine adr_nil ?_|((first|refine adr_qs fun Y Yh=>?_|refine adr_y fun Y Yh=>?_);simp [go_sem, hx, q1, q2])|intro _|apply And.intro|(apply Yh;clear Yh Y)));all_goals first|apply Hold.mk|omega|assumption|skip))
     refine hK5 _ ?_; clear hK5
     (refine awp_r fun Y Yh => ?_; simp [go_sem]; ((repeat' (first|(refine ag_x ?_;simp [go_sem])|intro _|apply And.intro|(apply Yh;clear Yh Y)));all_goals first|apply Hold.mk|omega|assumption|skip))
     refine ⟨(i + 1, m + x.1.length / 100 + x.2.length / 100), ?_, ⟨by simp only; omega, by simp only; omega, by simp only; omega, fun q => take_in hx (hT h2) ⟨by simp only at q; omega, by simp only at q; omega⟩⟩, by simp only; omega⟩
     (refine cov_of ?_ ?_ <;> simp [go_sem])
    ·have h2i : ¬ (m : Int) < 1000 := by omega
     have h1i : (i : Int) < W.length := by omega
     (refine awp_sr fun Y Yh => ?_; simp [go_sem, h1, h1i, h2, h2i]; ((repeat' (first|(refine ag_x ?_;simp [go_sem, h1, h1i, h2, h2i])|intro _|apply And.intro|(apply Yh;clear Yh Y)));all_goals first|apply Hold.mk|omega|assumption|skip))
     (refine awp_if fun T F hT hF => ?_; simp [go_sem, h1, h1i, h2, h2i]; refine hF ?_; clear hT hF T F)
     refine awp_exit ?_
     simp only [go_sem]
     refine tl3 _ m hm (by omega) (fun q => hN (by omega)) (fun q => hP (by omega)) (fun q => absurd q h2) ?_
     (refine cov_of ?_ ?_ <;> simp [go_sem])
   ·have h1i : ¬ (i : Int) < W.length := by omega
    have hie : i = W.length := by omega
    (refine awp_sr fun Y Yh => ?_; simp [go_sem, h1, h1i]; ((repeat' (first|(refine ag_false ?_ ?_ ?_;(focus (simp [go_sem, undef, h1, h1i];done));(focus (simp [go_sem];done));simp [go_sem, h1, h1i])|(refine ag_true ?_ ?_;(focus (simp [go_sem, undef, h1, h1i];done));simp [go_sem, h1, h1i])|(refine ag_x ?_;simp [go_sem, undef, h1, h1i])|intro _|apply And.intro|(apply Yh;clear Yh Y)));all_goals first|apply Hold.mk|omega|assumption|skip))
    (refine awp_if fun T F hT hF => ?_; simp [go_sem, h1, h1i]; refine hF ?_; clear hT hF T F)
    refine awp_exit ?_
    simp only [go_sem]
    rw [hie, List.take_length] at hT
    refine tl3 _ m hm (by omega) (fun q => hN (by omega)) (fun q => hP (by omega)) hT ?_
    (refine cov_of ?_ ?_ <;> simp [go_sem])
  clear hK2
  (refine awp_sr fun Y Yh => ?_; simp [go_sem]; ((repeat' (first|(refine ag_x ?_;simp [go_sem])|intro _|apply And.intro|(apply Yh;clear Yh Y)));all_goals first|apply Hold.mk|omega|assumption|skip))
  refine awp_block ?_
  refine awp_loop (σ := Nat × Nat) (fun z => ⟨[(1, .ptr 1 g1 0), (3, dI z.2), (6, dI z.1)], [(1, (g1, .box [dPs P, dNs N, dPs W]))]⟩) (fun z => z.1 ≤ P.length ∧ n ≤ z.2 ∧ z.2 ≤ 562949953421312 ∧ (z.2 < 1000 → ∀ x ∈ P.take z.1, PrOk x)) (fun z => P.length - z.1) (0, n) ?_ ?_ ?_
  ·(refine cov_of ?_ ?_ <;> simp [go_sem])
  ·exact ⟨by simp, Nat.le_refl _, hn, fun _ => by simp⟩
  rintro ⟨i, m⟩ ⟨hi, hnm, hm, hT⟩
  simp only at hi hnm hm hT
  refine awp_seq_k fun K4 hK4 => ?_
  by_cases h1 : i < P.length
  ·by_cases h2 : m < 1000
   ·have h2i : (m : Int) < 1000 := by omega
    have h1i : (i : Int) < P.length := by omega
    obtain ⟨x, hx⟩ : ∃ x, P[i]? = some x := ⟨_, List.getElem?_eq_getElem h1⟩
    obtain ⟨x1, x2⟩ := zP1 x (List.mem_of_getElem? hx)
    have q1 := quo100 x.1.length
    have q2 := quo100 x.2.length
    (refine awp_sr fun Y Yh => ?_; simp [go_sem, h1, h1i, h2, h2i]; ((repeat' (first|(refine ag_x ?_;simp [go_sem, h1, h1i, h2, h2i])|intro _|apply And.intro|(apply Yh;clear Yh Y)));all_goals first|apply Hold.mk|omega|assumption|skip))
    (refine awp_if fun T F hT hF => ?_; simp [go_sem, h1, h1i, h2, h2i]; refine hT ?_; clear hT hF T F)
    refine awp_skip ?_
    refine hK4 _ ?_; clear hK4
    refine awp_seq_k fun K5 hK5 => ?_
    refine awp_block ?_
    ((refine awp_d (.qs [0, 1, 3, 10, 12, 2, 4, 5, 6, 7, 8, 9, 11, 13, 14, 15, 16, 17, 18, 19] (.nil)) (by kernel_rfl) ?_ ?_ ?_ ?_); (kernel_rfl); (exact (by decide +kernel)); (kernel_rfl); intro Y Yh; ((repeat' (first|(refine ag_x ?_;simp [go_sem, hx, q1, q2])|refine adr_nil ?_|((first|refine adr_qs fun Y Yh=>?_|refine adr_y fun Y Yh=>?_);simp [go_sem, hx, q1, q2])|intro _|apply And.intro|(apply Yh;clear Yh Y)));all_goals first|apply Hold.mk|omega|assumption|skip))
    refine hK5 _ ?_; clear hK5
    (refine awp_r fun Y Yh => ?_; simp [go_sem]; ((repeat' (first|(refine ag_x ?_;simp [go_sem])|intro _|apply And.intro|(apply Yh;clear Yh Y)));all_goals first|apply Hold.mk|omega|assumption|skip))
    refine ⟨(i + 1, m + x.1.length / 100 + x.2.length / 100), ?_, ⟨by simp only; omega, by simp only; omega, by simp only; omega, fun q => take_in hx (hT h2) ⟨by simp only at q; omega, by simp only at q; omega⟩⟩, by simp only; omega⟩
    (refine cov_of ?_ ?_ <;> simp [go_sem])
   ·have h2i : ¬ (m : Int) < 1000 := by omega
    have h1i : (i : Int) < P.length := by omega
    (refine awp_sr fun Y Yh => ?_; simp [go_sem, h1, h1i, h2, h2i]; ((repeat' (first|(refine ag_x ?_;simp [go_sem, h1, h1i, h2, h2i])|intro _|apply And.intro|(apply Yh;clear Yh Y)));all_goals first|apply Hold.mk|omega|assumption|skip))
    (refine awp_if fun T F hT hF => ?_; simp [go_sem, h1, h1i, h2, h2i]; refine hF ?_; clear hT hF T F)
    refine awp_exit ?_
    simp only [go_sem]
    refine tl2 _ m hm (by omega) (fun q => hN (by omega)) (fun q => absurd q h2) ?_
    (refine cov_of ?_ ?_ <;> simp [go_sem])
  ·have h1i : ¬ (i : Int) < P.length := by omega
   have hie : i = P.length := by omega
   (refine awp_sr fun Y Yh => ?_; simp [go_sem, h1, h1i]; ((repeat' (first|(refine ag_false ?_ ?_ ?_;(focus (simp [go_sem, undef, h1, h1i];done));(focus (simp [go_sem];done));simp [go_sem, h1, h1i])|(refine ag_true ?_ ?_;(focus (simp [go_sem, undef, h1, h1i];done));simp [go_sem, h1, h1i])|(refine ag_x ?_;simp [go_sem, undef, h1, h1i])|intro _|apply And.intro|(apply Yh;clear Yh Y)));all_goals first|apply Hold.mk|omega|assumption|skip))
   (refine awp_if fun T F hT hF => ?_; simp [go_sem, h1, h1i]; refine hF ?_; clear hT hF T F)
   refine awp_exit ?_
   simp only [go_sem]
   rw [hie, List.take_length] at hT
   refine tl2 _ m hm (by omega) (fun q => hN (by omega)) hT ?_
   (refine cov_of ?_ ?_ <;> simp [go_sem])
 clear hK1
 (refine awp_sr fun Y Yh => ?_; simp [go_sem]; ((repeat' (first|(refine ag_x ?_;simp [go_sem])|intro _|apply And.intro|(apply Yh;clear Yh Y)));all_goals first|apply Hold.mk|omega|assumption|skip))
 refine awp_block ?_
 refine awp_loop (σ := Nat × Nat) (fun z => ⟨[(1, .ptr 1 g1 0), (3, dI z.2), (4, dI z.1)], [(1, (g1, .box [dPs P, dNs N, dPs W]))]⟩) (fun z => z.1 ≤ N.length ∧ P.length + N.length + W.length ≤ z.2 ∧ z.2 ≤ 562949953421312 ∧ (z.2 < 1000 → ∀ r ∈ N.take z.1, r.length ≤ 1000000 ∧ ∀ x ∈ r, PrOk x)) (fun z => N.length - z.1) (0, P.length + N.length + W.length) ?_ ?_ ?_
 ·(refine cov_of ?_ ?_ <;> simp [go_sem])
 ·exact ⟨by simp, Nat.le_refl _, by simp only; omega, fun _ => by simp⟩
 rintro ⟨i, m⟩ ⟨hi, hnm, hm, hT⟩
 simp only at hi hnm hm hT
 refine awp_seq_k fun K4 hK4 => ?_
 by_cases h1 : i < N.length
 ·by_cases h2 : m < 1000
  ·have h2i : (m : Int) < 1000 := by omega
   have h1i : (i : Int) < N.length := by omega
   obtain ⟨r, hr⟩ : ∃ r, N[i]? = some r := ⟨_, List.getElem?_eq_getElem h1⟩
   obtain ⟨zr, zr1⟩ := zN1 r (List.mem_of_getElem? hr)
   (refine awp_sr fun Y Yh => ?_; simp [go_sem, h1, h1i, h2, h2i]; ((repeat' (first|(refine ag_x ?_;simp [go_sem, h1, h1i, h2, h2i])|intro _|apply And.intro|(apply Yh;clear Yh Y)));all_goals first|apply Hold.mk|omega|assumption|skip))
   (refine awp_if fun T F hT hF => ?_; simp [go_sem, h1, h1i, h2, h2i]; refine hT ?_; clear hT hF T F)
   refine awp_skip ?_
   refine hK4 _ ?_; clear hK4
   refine awp_seq_k fun K5 hK5 => ?_
   have tl5 : ∀ S' n, m ≤ n → n ≤ 562949953421312 → (n < 1000 → r.length ≤ 1000000 ∧ ∀ x ∈ r, PrOk x) → Cov S' ⟨[(1, .ptr 1 g1 0), (3, dI n), (4, dI i)], [(1, (g1, .box [dPs P, dNs N, dPs W]))]⟩ → K5 S' := fun S' n h1' h2' h3' hS => by
    refine hK5 _ ?_; clear hK5
    refine awp_cov hS ?_; clear hS
    (refine awp_r fun Y Yh => ?_; simp [go_sem]; ((repeat' (first|(refine ag_x ?_;simp [go_sem])|intro _|apply And.intro|(apply Yh;clear Yh Y)));all_goals first|apply Hold.mk|omega|assumption|skip))
    refine ⟨(i + 1, n), ?_, ⟨by simp only; omega, by simp only; omega, h2', fun q => take_in hr (hT h2) (h3' q)⟩, by simp only; omega⟩
    (refine cov_of ?_ ?_ <;> simp [go_sem])
   clear hK5
   refine awp_block ?_
   (refine awp_sr fun Y Yh => ?_; simp [go_sem, hr]; ((repeat' (first|(refine ag_x ?_;simp [go_sem, hr])|intro _|apply And.intro|(apply Yh;clear Yh Y)));all_goals first|apply Hold.mk|omega|assumption|skip))
   (refine awp_sr fun Y Yh => ?_; simp [go_sem]; ((repeat' (first|(refine ag_x ?_;simp [go_sem])|intro _|apply And.intro|(apply Yh;clear Yh Y)));all_goals first|apply Hold.mk|omega|assumption|skip))
   refine awp_block ?_
   refine awp_loop (σ := Nat × Nat) (fun z => ⟨[(1, .ptr 1 g1 0), (3, dI z.2), (4, dI i), (5, dI z.1)], [(1, (g1, .box [dPs P, dNs N, dPs W]))]⟩) (fun z => z.1 ≤ r.length ∧ m + r.length ≤ z.2 ∧ z.2 ≤ 562949953421312 ∧ (z.2 < 1000 → ∀ x ∈ r.take z.1, PrOk x)) (fun z => r.length - z.1) (0, m + r.length) ?_ ?_ ?_
   ·(refine cov_of ?_ ?_ <;> simp [go_sem])
   ·exact ⟨by simp, Nat.le_refl _, by simp only; omega, fun _ => by simp⟩
   rintro ⟨k, n⟩ ⟨hk, hkn, hn, hR⟩
   simp only at hk hkn hn hR
   refine awp_seq_k fun K7 hK7 => ?_
   by_cases h3 : k < r.length
   ·by_cases h4 : n < 1000
    ·have h4i : (n : Int) < 1000 := by omega
     have h3i : (k : Int) < r.length := by omega
     obtain ⟨x, hx⟩ : ∃ x, r[k]? = some x := ⟨_, List.getElem?_eq_getElem h3⟩
     obtain ⟨x1, x2⟩ := zr1 x (List.mem_of_getElem? hx)
     have q1 := quo100 x.1.length
     have q2 := quo100 x.2.length
     (refine awp_sr fun Y Yh => ?_; simp [go_sem, hr, h3, h3i, h4, h4i]; ((repeat' (first|(refine ag_x ?_;simp [go_sem, hr, h3, h3i, h4, h4i])|intro _|apply And.intro|(apply Yh;clear Yh Y)));all_goals first|apply Hold.mk|omega|assumption|skip))
     (refine awp_if fun T F hT hF => ?_; simp [go_sem, h3, h3i, h4, h4i]; refine hT ?_; clear hT hF T F)
     refine awp_skip ?_
     refine hK7 _ ?_; clear hK7
     refine awp_seq_k fun K8 hK8 => ?_
     refine awp_block ?_
     ((refine awp_d (.qs [0, 1, 3, 6, 13, 15, 18, 2, 4, 5, 7, 8, 9, 10, 11, 12, 14, 16, 17, 19, 20, 21, 22, 23, 24, 25] (.nil)) (by kernel_rfl) ?_ ?_ ?_ ?_); (kernel_rfl); (exact (by decide +kernel)); (kernel_rfl); intro Y Yh; ((repeat' (first|(refine ag_x ?_;simp [go_sem, hr, hx, q1, q2])|refine adr_nil ?_|((first|refine adr_qs fun Y Yh=>?_|refine adr_y fun Y Yh=>?_);simp [go_sem, hr, hx, q1, q2])|intro _|apply And.intro|(apply Yh;clear Yh Y)));all_goals first|apply Hold.mk|omega|assumption|skip))
     refine hK8 _ ?_; clear hK8
     (refine awp_r fun Y Yh => ?_; simp [go_sem]; ((repeat' (first|(refine ag_x ?_;simp [go_sem])|intro _|apply And.intro|(apply Yh;clear Yh Y)));all_goals first|apply Hold.mk|omega|assumption|skip))
     refine ⟨(k + 1, n + x.1.length / 100 + x.2.length / 100), ?_, ⟨by simp only; omega, by simp only; omega, by simp only; omega, fun q => take_in hx (hR h4) ⟨by simp only at q; omega, by simp only at q; omega⟩⟩, by simp only; omega⟩
     (refine cov_of ?_ ?_ <;> simp [go_sem])
    ·have h4i : ¬ (n : Int) < 1000 := by omega
     have h3i : (k : Int) < r.length := by omega
     (refine awp_sr fun Y Yh => ?_; simp [go_sem, hr, h3, h3i, h4, h4i]; ((repeat' (first|(refine ag_x ?_;simp [go_sem, hr, h3, h3i, h4, h4i])|intro _|apply And.intro|(apply Yh;clear Yh Y)));all_goals first|apply Hold.mk|omega|assumption|skip))
     (refine awp_if fun T F hT hF => ?_; simp [go_sem, h3, h3i, h4, h4i]; refine hF ?_; clear hT hF T F)
     refine awp_exit ?_
     simp only [go_sem]
     refine tl5 _ n (by omega) hn (fun q => absurd q h4) ?_
     (refine cov_of ?_ ?_ <;> simp [go_sem])
   ·have h3i : ¬ (k : Int) < r.length := by omega
    have hke : k = r.length := by omega
    (refine awp_sr fun Y Yh => ?_; simp [go_sem, hr, h3, h3i]; ((repeat' (first|(refine ag_false ?_ ?_ ?_;(focus (simp [go_sem, undef, hr, h3, h3i];done));(focus (simp [go_sem];done));simp [go_sem, hr, h3, h3i])|(refine ag_true ?_ ?_;(focus (simp [go_sem, undef, hr, h3, h3i];done));simp [go_sem, hr, h3, h3i])|(refine ag_x ?_;simp [go_sem, undef, hr, h3, h3i])|intro _|apply And.intro|(apply Yh;clear Yh Y)));all_goals first|apply Hold.mk|omega|assumption|skip))
    (refine awp_if fun T F hT hF => ?_; simp [go_sem, h3, h3i]; refine hF ?_; clear hT hF T F)
    refine awp_exit ?_
    simp only [go_sem]
    rw [hke, List.take_length] at hR
    refine tl5 _ n (by omega) hn (fun q => ⟨by omega, hR q⟩) ?_
    (refine cov_of ?_ ?_ <;> simp [go_sem])
  ·have h2i : ¬ (m : Int) < 1000 := by omega
   have h1i : (i : Int) < N.length := by omega
   (refine awp_sr fun Y Yh => ?_; simp [go_sem, h1, h1i, h2, h2i]; ((repeat' (first|(refine ag_x ?_;simp [go_sem, h1, h1i, h2, h2i])|intro _|apply And.intro|(apply Yh;clear Yh Y)));all_goals first|apply Hold.mk|omega|assumption|skip))
   (refine awp_if fun T F hT hF => ?_; simp [go_sem, h1, h1i, h2, h2i]; refine hF ?_; clear hT hF T F)
   refine awp_exit ?_
   simp only [go_sem]
   refine tl1 _ m hm hnm (fun q => absurd q h2) ?_
   (refine cov_of ?_ ?_ <;> simp [go_sem])
 ·have h1i : ¬ (i : Int) < N.length := by omega
  have hie : i = N.length := by omega
  (refine awp_sr fun Y Yh => ?_; simp [go_sem, h1, h1i]; ((repeat' (first|(refine ag_false ?_ ?_ ?_;(focus (simp [go_sem, undef, h1, h1i];done));(focus (simp [go_sem];done));simp [go_sem, h1, h1i])|(refine ag_true ?_ ?_;(focus (simp [go_sem, undef, h1, h1i];done));simp [go_sem, h1, h1i])|(refine ag_x ?_;simp [go_sem, undef, h1, h1i])|intro _|apply And.intro|(apply Yh;clear Yh Y)));all_goals first|apply Hold.mk|omega|assumption|skip))
  (refine awp_if fun T F hT hF => ?_; simp [go_sem, h1, h1i]; refine hF ?_; clear hT hF T F)
  refine awp_exit ?_
  simp only [go_sem]
  rw [hie, List.take_length] at hT
  refine tl1 _ m hm hnm hT ?_
  (refine cov_of ?_ ?_ <;> simp [go_sem])
end Go.Proofs.YteekfnhhlcmcgaaGreatDoor
namespace Go.Proofs.YteekfnhhlcmcgaaGreatDoor
open Go.Eng Go.WideShapes Go.Wh Go.Ver Go.Lk
set_option maxRecDepth 100000
/-! the parameters with their sizes -/
theorem oz_int : OpensZ Tryz.prog 3 (fun n : Int => cI n) InR := opensZ_int Tryz.underlying3
theorem oz_str : OpensZ Tryz.prog 9 (fun s : List UInt8 => [dS s]) (fun s => s.length ≤ 140737488355328) :=
 (opensZ_str Tryz.underlying9).iso (fun s => s.data.toList) (fun s => by cases s; simp) (fun s h => by
  have h : s.data.size ≤ reachBytes := h
  rw [Array.length_toList]
  unfold reachBytes at h
  omega)
theorem oz_ints : OpensZ Tryz.prog 22 (fun l : List Int => [dIs l]) (fun l => l.length ≤ 9223372036854775807 ∧ ∀ x ∈ l, InR x) :=
 (opensZ_slice 1 Tryz.underlying22 (by kernel_rfl) (by decide) (fun _ => rfl) oz_int).iso (fun l => l) (fun _ => rfl) (fun l h => ⟨h.2.1, h.2.2⟩)
theorem oz_pick : OpensZ Tryz.prog 41 (fun x : Prs => cP x) Z1 := by
 have h := opensZ_struct (e := 2) Tryz.underlying41 rfl (by kernel_rfl) (opensZS_cons (n := 1) rfl (by kernel_rfl) oz_str (opensZS_cons (n := 1) rfl (by kernel_rfl) oz_str opensZS_nil))
 exact h.iso (fun x => (x.1, x.2.1)) (fun _ => rfl) (fun _ q => ⟨q.1, q.2.1⟩)
theorem oz_need : OpensZ Tryz.prog 114 (fun x : Prs => cP x) Z1 := by
 have h := opensZ_struct (e := 2) Tryz.underlying114 rfl (by kernel_rfl) (opensZS_cons (n := 1) rfl (by kernel_rfl) oz_str (opensZS_cons (n := 1) rfl (by kernel_rfl) oz_str opensZS_nil))
 exact h.iso (fun x => (x.1, x.2.1)) (fun _ => rfl) (fun _ q => ⟨q.1, q.2.1⟩)
theorem by83 : Tryz.prog.bytesOf 41 = 32 := by kernel_rfl
theorem by100 : Tryz.prog.bytesOf 114 = 32 := by kernel_rfl
theorem by43 : Tryz.prog.bytesOf 38 = 24 := by kernel_rfl
theorem reach_le {n k : Nat} (h : n * k ≤ reachBytes) (hk : 1 ≤ k) : n ≤ 140737488355328 := by
 have h1 : n * 1 ≤ n * k := Nat.mul_le_mul_left _ hk
 unfold reachBytes at h
 omega
theorem oz_picks : OpensZ Tryz.prog 34 (fun l : List Prs => [dPs l]) ZN :=
 (opensZ_slice 2 Tryz.underlying34 (by kernel_rfl) (by decide) (fun _ => rfl) oz_pick).iso (fun l => l) (fun _ => rfl) (fun l h => ⟨reach_le h.1 (by rw [by83]; decide), h.2.2⟩)
theorem oz_needs : OpensZ Tryz.prog 38 (fun l : List Prs => [dPs l]) ZN :=
 (opensZ_slice 2 Tryz.underlying38 (by kernel_rfl) (by decide) (fun _ => rfl) oz_need).iso (fun l => l) (fun _ => rfl) (fun l h => ⟨reach_le h.1 (by rw [by100]; decide), h.2.2⟩)
theorem oz_nds : OpensZ Tryz.prog 51 (fun l : List (List Prs) => [dNs l]) (fun l => l.length ≤ 140737488355328 ∧ ∀ r ∈ l, ZN r) :=
 (opensZ_slice 1 Tryz.underlying51 (by kernel_rfl) (by decide) (fun _ => rfl) oz_needs).iso (fun l => l) (fun _ => rfl) (fun l h => ⟨reach_le h.1 (by rw [by43]; decide), h.2.2⟩)
theorem oz_lock : OpensZ Tryz.prog 53 (fun L : Lck => [dPs L.1, dNs L.2.1, dPs L.2.2]) ZL := by
 have h := opensZ_struct (e := 3) Tryz.underlying53 rfl (by kernel_rfl) (opensZS_cons (n := 1) rfl (by kernel_rfl) oz_picks (opensZS_cons (n := 1) rfl (by kernel_rfl) oz_nds (opensZS_cons (n := 1) rfl (by kernel_rfl) oz_needs opensZS_nil)))
 exact h.iso (fun x => (x.1, x.2.1, x.2.2.1)) (fun _ => rfl) (fun _ q => ⟨q.1, q.2.1, q.2.2.1⟩)
theorem wrapZ {H : Type} {enc : TypeId × Value → H} {a : Assume} {C : Checked} {os : Os} {f : FuncId} {fn : Func} {s : ChangeSpec} {conds : List PathCond} {apart fresh handsOn again : Bool} {X : World → Array Value → Prop}
  (hX : ∀ (w w' : World) (args : Array Value), w.heap = w'.heap → X w args → X w' args)
  (own : ownKnob C.prog.godebug = none) (started : os.Started) (noInit : C.prog.inits.idxOf? f = none) (hfn : C.prog.funcs[f]? = some fn)
  (witness : ∃ (w : World) (tape : Tape) (i : Input), w.os = os ∧ (w.forCall tape i).Shaped C.prog ∧ i.vars = [] ∧ Input.okWide C.prog (w.forCall tape i) .any w.heap.size f i ∧
   ((s.pre enc C.prog fn conds apart (w.forCall tape i).memory i.args ∧ X (w.forCall tape i).memory i.args) ∧ sizedMet enc C.prog fn (OpenSpec.ofChange s) apart (w.forCall tape i).memory i.args) ∧ a.holds C.prog (lone (Frame.enter C.prog f i.args .normal) [] (w.forCall tape i)))
  (contract : ∀ (W : World) (base : Nat) (args : Array Value) (ds gs : List (DataW H)) (before : List MemPlace),
   (∀ (j : Nat) t v, fn.params[j]? = some t → args[j]? = some v → Value.okWide C.prog W .any base t v) →
   DataW.Whole enc C.prog fn.params.toList s.vars apart W args.toList ds gs before → sizedMet enc C.prog fn (OpenSpec.ofChange s) apart W args → X W args → W.ShapedOpen C.prog →
   Calls C.prog f args W fun e W' => ∃ v, e = .returned v ∧ s.post enc C.prog fn apart fresh handsOn again W args v W') :
  ReturnsInHanded a C os f .any (fun w args => (s.pre enc C.prog fn conds apart w args ∧ X w args) ∧ sizedMet enc C.prog fn (OpenSpec.ofChange s) apart w args) (s.post enc C.prog fn apart fresh handsOn again) := by
 refine returnsInHanded_of_calls own started noInit witness ?_
 intro w tape i _ hsh _ hok hpre hholds
 obtain ⟨_, _, _, fn', hfn', _, _, _, _, hval⟩ := hok
 have e : fn' = fn := Option.some.inj (hfn'.symm.trans hfn)
 subst e
 obtain ⟨⟨⟨ds, gs, before, hw, hc⟩, hx⟩, hp, dz, gz, bz, hwz, hlz⟩ := hpre
 have hw' := DataW.Whole.of_heap (w' := w.forCall tape i) (by rfl) hw
 have hwz' := DataW.Whole.of_heap (w' := w.forCall tape i) (by rfl) hwz
 refine (contract (w.forCall tape i) w.heap.size i.args ds gs before hval hw' ⟨hp, dz, gz, bz, hwz', hlz⟩ (hX _ _ _ (by rfl) hx) hsh).mono fun e W' ⟨v, he, hp⟩ => ?_
 subst he
 exact ChangeSpec.post_blind hp
end Go.Proofs.YteekfnhhlcmcgaaGreatDoor
