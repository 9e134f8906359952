/- Part of a proof: see the last text. -/
import Derived.Test.YtglncfhcgkihbaaGreatDoorWD
import Derived.Test.YtglncfhcgkihbaaGreatDoorWE
set_option linter.unusedVariables false
set_option linter.unusedSimpArgs false
namespace Go.Proofs.YtglncfhcgkihbaaGreatDoor
open Go.Eng Go.Wh
set_option maxRecDepth 20000
set_option linter.unusedSimpArgs false
set_option linter.unusedVariables false
attribute [local irreducible] AG CallA CallT AWp PCall ACall AgC
theorem sane_spec (DEC : PCall Tryz.prog 36 [dS [50, 47, 51], dI 2] fun r => r = .tup [dS [48, 46, 54, 55], dI 0]) : PCall Tryz.prog 11 [] fun r => r = dB true := by 
  refine pcall_of Tryz.func11 rfl rfl Tryz.ntmps11 (rs := [.tmp 0]) (tys := [4]) rfl rfl (by simp) ?_
  have DV : PCall Tryz.prog 24 [dS [45, 55], dS [50]] fun r => r = .tup [dS [45, 52], dS [49], dI 0] := by
    have h := Div_spec [45, 55] [50] (by decide) (by decide)
    have e : res3 [45, 55] [50] = .tup [dS [45, 52], dS [49], dI 0] := by
      unfold res3
      rw [if_pos (by decide), if_neg (by decide)]
      have e1 : fq (numV [45, 55]) (numV [50]) = numV [45, 52] := by decide
      have e2 : fr (numV [45, 55]) (numV [50]) = numV [49] := by decide
      rw [e1, e2, if_pos (num_dlen (by decide)), itoa_num (by decide), itoa_num (by decide)]
    rw [e] at h; exact h
  (refine awp_sr fun KK hKK => ?_; simp [go_sem]; ((repeat' (first|(refine ag_x ?_;simp [go_sem])|intro _|refine And.intro ?_ ?_|(apply hKK;clear hKK KK)));all_goals first|refine Hold.mk ?_|omega|with_reducible assumption|(simp only [InR] at *;omega)|skip))
  (refine awp_sr fun KK hKK => ?_; simp [go_sem]; ((repeat' (first|(refine ag_x ?_;simp [go_sem])|intro _|refine And.intro ?_ ?_|(apply hKK;clear hKK KK)));all_goals first|refine Hold.mk ?_|omega|with_reducible assumption|(simp only [InR] at *;omega)|skip))
  ((try refine CallT.toA ?_); refine callT_m (by first | exact .inl ⟨rfl, rfl⟩ | exact .inr rfl) (by simp [go_sem]) ?_; intro args ha; simp [go_sem] at ha; subst ha; refine ⟨_, DV, ?_⟩; rintro _ rfl; simp [go_sem]; ((repeat' (first|(refine ag_x ?_;simp [go_sem])|intro _|refine And.intro ?_ ?_|(apply hKK;clear hKK KK)));all_goals first|refine Hold.mk ?_|omega|with_reducible assumption|(simp only [InR] at *;omega)|skip))
  (refine awp_sr fun KK hKK => ?_; simp [go_sem]; ((repeat' (first|(refine ag_x ?_;simp [go_sem])|intro _|refine And.intro ?_ ?_|(apply hKK;clear hKK KK)));all_goals first|refine Hold.mk ?_|omega|with_reducible assumption|(simp only [InR] at *;omega)|skip))
  ((try refine CallT.toA ?_); refine callT_m (by first | exact .inl ⟨rfl, rfl⟩ | exact .inr rfl) (by simp [go_sem]) ?_; intro args ha; simp [go_sem] at ha; subst ha; refine ⟨_, base255, ?_⟩; rintro _ rfl; simp [go_sem]; ((repeat' (first|(refine ag_x ?_;simp [go_sem])|intro _|refine And.intro ?_ ?_|(apply hKK;clear hKK KK)));all_goals first|refine Hold.mk ?_|omega|with_reducible assumption|(simp only [InR] at *;omega)|skip))
  (refine awp_sr fun KK hKK => ?_; simp [go_sem]; ((repeat' (first|(refine ag_x ?_;simp [go_sem])|intro _|refine And.intro ?_ ?_|(apply hKK;clear hKK KK)));all_goals first|refine Hold.mk ?_|omega|with_reducible assumption|(simp only [InR] at *;omega)|skip))
  ((try refine CallT.toA ?_); refine callT_m (by first | exact .inl ⟨rfl, rfl⟩ | exact .inr rfl) (by simp [go_sem]) ?_; intro args ha; simp [go_sem] at ha; subst ha; refine ⟨_, DEC, ?_⟩; rintro _ rfl; simp [go_sem]; ((repeat' (first|(refine ag_x ?_;simp [go_sem])|intro _|refine And.intro ?_ ?_|(apply hKK;clear hKK KK)));all_goals first|refine Hold.mk ?_|omega|with_reducible assumption|(simp only [InR] at *;omega)|skip))
  (refine awp_sr fun KK hKK => ?_; simp [go_sem]; ((repeat' (first|(refine ag_x ?_;simp [go_sem])|intro _|refine And.intro ?_ ?_|(apply hKK;clear hKK KK)));all_goals first|refine Hold.mk ?_|omega|with_reducible assumption|(simp only [InR] at *;omega)|skip))
  (refine awp_ret ?_; simp [go_sem])
end Go.Proofs.YtglncfhcgkihbaaGreatDoor

namespace Go.Proofs.YtglncfhcgkihbaaGreatDoor
open Go.Eng Go.Wh
set_option maxRecDepth 20000
set_option linter.unusedSimpArgs false
set_option linter.unusedVariables false
attribute [local irreducible] AG CallA CallT AWp PCall ACall AgC
theorem itoa_chars (n : Int) : ∀ c ∈ Lib.itoa n, c = 45 ∨ isD c = true := fun c hc => by
  rw [itoa_abs, List.mem_append] at hc
  rcases hc with hc | hc
  · split at hc
    · rw [List.mem_singleton] at hc; exact .inl hc
    · simp at hc
  · exact .inr (decDigits_isD _ c hc)
theorem itoa_len21 {n : Int} (h0 : -9223372036854775808 ≤ n) (h1 : n ≤ 9223372036854775807) : (Lib.itoa n).length ≤ 100 := by
  rw [itoa_abs, List.length_append]
  have h2 : (Lib.decDigits n.natAbs).length ≤ 20 := by
    by_cases hz : n = 0
    · subst hz; have := dlen_zero; unfold dlen at this; omega
    · have e := dlen_dg hz
      unfold dlen at e
      rw [e]
      exact dg_len_le (B := 10) (by decide) (k := 20) (by rw [pow20]; omega)
  split <;> simp <;> omega
theorem app_mk' (a b : List UInt8) : (⟨a.toArray⟩ : ByteArray) ++ ⟨b.toArray⟩ = ⟨(a ++ b).toArray⟩ := by
  apply ByteArray.ext
  simp
def MadeI (m : Nat) (b : List UInt8) : Prop := (∀ c ∈ b, isD c = true) ∧ b.length ≤ m ∧ b.head? ≠ some 48
theorem made_ok {m : Nat} {b : List UInt8} (h : MadeI m b) (hb : b ≠ []) (hm : m ≤ 400) : (numOk b = true ∧ (body b).length ≤ m) ∧ (numOk (45 :: b) = true ∧ (body (45 :: b)).length ≤ m) := by
  obtain ⟨h1, h2, h3⟩ := h
  have hall : b.all isD = true := List.all_eq_true.2 h1
  have h45 : b.head? ≠ some 45 := fun e => by
    cases b with
    | nil => exact hb rfl
    | cons c t =>
      simp at e
      have := h1 c (by simp)
      rw [e] at this; exact absurd this (by decide)
  have e1 : body b = b := by unfold body; rw [if_neg h45]
  have e2 : body (45 :: b) = b := rfl
  refine ⟨⟨?_, by rw [e1]; exact h2⟩, ?_, by rw [e2]; exact h2⟩
  · unfold numOk; rw [e1]; simp [hb, hall, h3]; omega
  · unfold numOk; rw [e2]; simp [hb, hall, h3]; omega
set_option maxHeartbeats 4000000 in
theorem Made_spec (l : List Int) (m : Nat) (hl : ∀ n ∈ l, -9223372036854775808 ≤ n ∧ n ≤ 9223372036854775807) (hm0 : 1 ≤ m) (hm : m ≤ 400) : PCall Tryz.prog 12 [dIs l, dI m] fun r => ∃ x, r = dS x ∧ numOk x = true ∧ (body x).length ≤ m := by 
  refine pcall_of Tryz.func12 rfl rfl Tryz.ntmps12 (rs := [.tmp 4]) (tys := [9]) rfl rfl (by simp) ?_
  refine awp_len 0 rfl fun hlen => ?_
  simp [lensD] at hlen
  (refine awp_sr fun KK hKK => ?_; simp [go_sem]; ((repeat' (first|(refine ag_x ?_;simp [go_sem])|intro _|refine And.intro ?_ ?_|(apply hKK;clear hKK KK)));all_goals first|refine Hold.mk ?_|omega|with_reducible assumption|(simp only [InR] at *;omega)|skip))
  (refine awp_sr fun KK hKK => ?_; simp [go_sem]; ((repeat' (first|(refine ag_x ?_;simp [go_sem])|intro _|refine And.intro ?_ ?_|(apply hKK;clear hKK KK)));all_goals first|refine Hold.mk ?_|omega|with_reducible assumption|(simp only [InR] at *;omega)|skip))
  refine awp_nilslot 5 900000 5 1 rfl fun g5 => ?_
  simp only [go_sem]
  refine awp_seq_k fun K1 hK1 => ?_
  (refine awp_sr fun KK hKK => ?_; simp [go_sem]; ((repeat' (first|(refine ag_x ?_;simp [go_sem])|intro _|refine And.intro ?_ ?_|(apply hKK;clear hKK KK)));all_goals first|refine Hold.mk ?_|omega|with_reducible assumption|(simp only [InR] at *;omega)|skip))
  refine awp_block ?_
  refine awp_loop (σ := Nat × List UInt8 × Nat) (fun x => ⟨[(0, dIs l), (1, dI m), (5, .own 900000 x.2.2), (6, dI x.1)], [(900000, x.2.2, .row 5 1 (x.2.1.map cB))]⟩) (fun x => x.1 ≤ l.length ∧ MadeI m x.2.1 ∧ (x.2.1 ≠ [] → l ≠ [])) (fun x => l.length - x.1) (0, [], g5) ?_ ?_ ?_
  · (refine cov_of ?_ ?_ <;> simp [go_sem])
  · exact ⟨Nat.zero_le _, ⟨by simp, by simp, by simp⟩, by simp⟩
  rintro ⟨i, b, g⟩ ⟨hi, hM, hne⟩
  simp only at hi hM hne
  have hbl := hM.2.1
  refine awp_seq_k fun K2 hK2 => ?_
  (refine awp_sr fun KK hKK => ?_; simp [go_sem]; ((repeat' (first|(refine ag_x ?_;simp [go_sem])|intro _|refine And.intro ?_ ?_|(apply hKK;clear hKK KK)));all_goals first|refine Hold.mk ?_|omega|with_reducible assumption|(simp only [InR] at *;omega)|skip))
  (refine awp_if fun T F hT hF => ?_; simp [go_sem]; refine BR.intro (fun h3 => hT ?_) (fun h3 => hF ?_); all_goals clear hT hF T F; try simp at h3)
  · refine awp_skip ?_
    refine hK2 _ ?_; clear hK2
    obtain ⟨n, hn⟩ : ∃ n, l[i]? = some n := ⟨_, List.getElem?_eq_getElem h3.1⟩
    have hr := hl n (List.mem_of_getElem? hn)
    have hch := itoa_chars n
    have hlne : l ≠ [] := fun h => by rw [h] at hn; simp at hn
    have IT := itoa_spec n hr.1 hr.2
    have hsl := itoa_len21 hr.1 hr.2
    generalize Lib.itoa n = s at *
    refine awp_seq_k fun K4 hK4 => ?_
    refine awp_block ?_
    (refine awp_sr fun KK hKK => ?_; simp [go_sem, hn]; ((repeat' (first|(refine ag_x ?_;simp [go_sem, hn])|intro _|refine And.intro ?_ ?_|(apply hKK;clear hKK KK)));all_goals first|refine Hold.mk ?_|omega|with_reducible assumption|(simp only [InR] at *;omega)|skip))
    ((try refine CallT.toA ?_); refine callT_m (by first | exact .inl ⟨rfl, rfl⟩ | exact .inr rfl) (by simp [go_sem]) ?_; intro args ha; simp [go_sem] at ha; subst ha; refine ⟨_, IT, ?_⟩; rintro _ rfl; simp [go_sem]; ((repeat' (first|(refine ag_x ?_;simp [go_sem])|intro _|refine And.intro ?_ ?_|(apply hKK;clear hKK KK)));all_goals first|refine Hold.mk ?_|omega|with_reducible assumption|(simp only [InR] at *;omega)|skip))
    (refine awp_sr fun KK hKK => ?_; simp [go_sem]; ((repeat' (first|(refine ag_x ?_;simp [go_sem])|intro _|refine And.intro ?_ ?_|(apply hKK;clear hKK KK)));all_goals first|refine Hold.mk ?_|omega|with_reducible assumption|(simp only [InR] at *;omega)|skip))
    refine awp_block ?_
    refine awp_loop (σ := Nat × List UInt8 × Nat) (fun x => ⟨[(0, dIs l), (1, dI m), (5, .own 900000 x.2.2), (6, dI i), (7, dS s), (8, dI x.1)], [(900000, x.2.2, .row 5 1 (x.2.1.map cB))]⟩) (fun x => x.1 ≤ s.length ∧ MadeI m x.2.1) (fun x => s.length - x.1) (0, b, g) ?_ ?_ ?_
    · (refine cov_of ?_ ?_ <;> simp [go_sem])
    · exact ⟨Nat.zero_le _, hM⟩
    rintro ⟨k, b, g⟩ ⟨hk, hM⟩
    simp only at hk hM
    have hbl := hM.2.1
    refine awp_seq_k fun K5 hK5 => ?_
    (refine awp_sr fun KK hKK => ?_; simp [go_sem]; ((repeat' (first|(refine ag_x ?_;simp [go_sem])|intro _|refine And.intro ?_ ?_|(apply hKK;clear hKK KK)));all_goals first|refine Hold.mk ?_|omega|with_reducible assumption|(simp only [InR] at *;omega)|skip))
    (refine awp_if fun T F hT hF => ?_; simp [go_sem]; refine BR.intro (fun h6 => hT ?_) (fun h6 => hF ?_); all_goals clear hT hF T F; try simp at h6) 
    · refine awp_skip ?_
      refine hK5 _ ?_; clear hK5
      obtain ⟨c, hc⟩ : ∃ c, s[k]? = some c := ⟨_, List.getElem?_eq_getElem h6.1⟩
      have hcc := hch c (List.mem_of_getElem? hc)
      refine awp_seq_k fun K7 hK7 => ?_
      have tl7 : ∀ S' b' g', MadeI m b' → Cov S' ⟨[(0, dIs l), (1, dI m), (5, .own 900000 g'), (6, dI i), (7, dS s), (8, dI k)], [(900000, g', .row 5 1 (b'.map cB))]⟩ → K7 S' := fun S' b' g' hM' hS => by
        refine hK7 _ ?_; clear hK7
        refine awp_cov hS ?_; clear hS
        (refine awp_r fun KK hKK => ?_; simp [go_sem]; ((repeat' (first|(refine ag_x ?_;simp [go_sem])|intro _|refine And.intro ?_ ?_|(apply hKK;clear hKK KK)));all_goals first|refine Hold.mk ?_|omega|with_reducible assumption|(simp only [InR] at *;omega)|skip))
        refine ⟨(k + 1, b', g'), ?_, ⟨h6.1, hM'⟩, by simp only; omega⟩
        (refine cov_of ?_ ?_ <;> simp [go_sem])
      clear hK7
      refine awp_block ?_
      (refine awp_sr fun KK hKK => ?_; simp [go_sem, hc]; ((repeat' (first|(refine ag_x ?_;simp [go_sem, hc])|intro _|refine And.intro ?_ ?_|(apply hKK;clear hKK KK)));all_goals first|refine Hold.mk ?_|omega|with_reducible assumption|(simp only [InR] at *;omega)|skip))
      (refine awp_if fun T F hT hF => ?_; simp [go_sem]; refine BR.intro (fun h8 => hT ?_) (fun h8 => hF ?_); all_goals clear hT hF T F; try simp at h8) 
      · (refine awp_r fun KK hKK => ?_; simp [go_sem, hc]; ((repeat' (first|(refine ag_x ?_;simp [go_sem, hc])|intro _|refine And.intro ?_ ?_|(apply hKK;clear hKK KK)));all_goals first|refine Hold.mk ?_|omega|with_reducible assumption|(simp only [InR] at *;omega)|skip))
        rename_i g7
        refine tl7 _ (b ++ [c]) g7 ⟨?_, ?_, ?_⟩ ?_
        · intro x hx
          rw [List.mem_append, List.mem_singleton] at hx
          rcases hx with hx | rfl
          · exact hM.1 x hx
          · exact hcc.resolve_left fun h => h8.1 (by rw [h]; rfl)
        · rw [List.length_append, List.length_singleton]; omega
        · cases b with
          | nil =>
            intro h
            simp at h
            rcases h8.2 with q | q
            · simp at q
            · exact q (by rw [h]; rfl)
          | cons x t => exact hM.2.2
        · (refine cov_of ?_ ?_ <;> simp [go_sem])
      · refine awp_skip ?_
        refine tl7 _ b g hM ?_
        (refine cov_of ?_ ?_ <;> simp [go_sem])
    · refine awp_exit ?_
      simp only [go_sem]
      refine hK4 _ ?_; clear hK4
      (refine awp_r fun KK hKK => ?_; simp [go_sem]; ((repeat' (first|(refine ag_x ?_;simp [go_sem])|intro _|refine And.intro ?_ ?_|(apply hKK;clear hKK KK)));all_goals first|refine Hold.mk ?_|omega|with_reducible assumption|(simp only [InR] at *;omega)|skip))
      refine ⟨(i + 1, b, g), ?_, ⟨by simp only; omega, hM, fun _ => hlne⟩, by simp only; omega⟩
      (refine cov_of ?_ ?_ <;> simp [go_sem])
  · refine awp_exit ?_
    simp only [go_sem]
    refine hK1 _ ?_; clear hK1
    refine awp_seq_k fun K9 hK9 => ?_
    (refine awp_sr fun KK hKK => ?_; simp [go_sem]; ((repeat' (first|(refine ag_x ?_;simp [go_sem])|intro _|refine And.intro ?_ ?_|(apply hKK;clear hKK KK)));all_goals first|refine Hold.mk ?_|omega|with_reducible assumption|(simp only [InR] at *;omega)|skip))
    (refine awp_if fun T F hT hF => ?_; simp [go_sem]; refine BR.intro (fun h10 => hT ?_) (fun h10 => hF ?_); all_goals clear hT hF T F; try simp at h10) 
    · (refine awp_sr fun KK hKK => ?_; simp [go_sem]; ((repeat' (first|(refine ag_x ?_;simp [go_sem])|intro _|refine And.intro ?_ ?_|(apply hKK;clear hKK KK)));all_goals first|refine Hold.mk ?_|omega|with_reducible assumption|(simp only [InR] at *;omega)|skip))
      (refine awp_ret ?_; simp [go_sem])
      exact ⟨by decide, hm0⟩
    · refine awp_skip ?_
      refine hK9 _ ?_; clear hK9
      have hb0 : b ≠ [] := by simpa using h10
      obtain ⟨n, l', hl'⟩ : ∃ n l', l = n :: l' := by
        cases l with
        | nil => exact absurd rfl (hne hb0)
        | cons n l' => exact ⟨n, l', rfl⟩
      obtain ⟨o1, o2⟩ := made_ok hM hb0 hm
      subst hl'
      refine awp_seq_k fun K11 hK11 => ?_
      (refine awp_sr fun KK hKK => ?_; simp [go_sem]; ((repeat' (first|(refine ag_x ?_;simp [go_sem])|intro _|refine And.intro ?_ ?_|(apply hKK;clear hKK KK)));all_goals first|refine Hold.mk ?_|omega|with_reducible assumption|(simp only [InR] at *;omega)|skip))
      (refine awp_if fun T F hT hF => ?_; simp [go_sem]; refine BR.intro (fun h12 => hT ?_) (fun h12 => hF ?_); all_goals clear hT hF T F; try simp at h12) 
      · (refine awp_sr fun KK hKK => ?_; simp [go_sem]; ((repeat' (first|(refine ag_x ?_;simp [go_sem])|intro _|refine And.intro ?_ ?_|(apply hKK;clear hKK KK)));all_goals first|refine Hold.mk ?_|omega|with_reducible assumption|(simp only [InR] at *;omega)|skip))
        (refine awp_ret ?_; simp [go_sem])
        exact ⟨45 :: b, app_mk' [45] b, o2⟩
      · refine awp_skip ?_
        refine hK11 _ ?_; clear hK11
        (refine awp_sr fun KK hKK => ?_; simp [go_sem]; ((repeat' (first|(refine ag_x ?_;simp [go_sem])|intro _|refine And.intro ?_ ?_|(apply hKK;clear hKK KK)));all_goals first|refine Hold.mk ?_|omega|with_reducible assumption|(simp only [InR] at *;omega)|skip))
        (refine awp_ret ?_; simp [go_sem])
        exact o1
end Go.Proofs.YtglncfhcgkihbaaGreatDoor

namespace Go.Proofs.YtglncfhcgkihbaaGreatDoor
open Go.Eng Go.Wh
set_option maxRecDepth 20000
set_option linter.unusedSimpArgs false
set_option linter.unusedVariables false
attribute [local irreducible] AG CallA CallT AWp PCall ACall AgC
def bd (n : Int) (k : Nat) : Prop := n.natAbs < 10 ^ k
theorem bd_mono {n : Int} {a b : Nat} (h : bd n a) (hab : a ≤ b) : bd n b := Nat.lt_of_lt_of_le h (Nat.pow_le_pow_right (by decide) hab)
theorem bd_mul {m n : Int} {a b : Nat} (h : bd m a) (k : bd n b) : bd (m * n) (a + b) := by
  unfold bd at *
  rw [Int.natAbs_mul, Nat.pow_add]
  exact Nat.mul_lt_mul'' h k
theorem bd_add {m n : Int} {a : Nat} (h : bd m a) (k : bd n a) : bd (m + n) (a + 1) := by
  unfold bd at *
  have h1 : (m + n).natAbs ≤ m.natAbs + n.natAbs := Int.natAbs_add_le m n
  rw [Nat.pow_succ]
  generalize 10 ^ a = p at *
  omega
theorem bd_neg {n : Int} {a : Nat} (h : bd n a) : bd (-n) a := by unfold bd at *; rw [Int.natAbs_neg]; exact h
theorem bd_dlen {n : Int} {k : Nat} (h : bd n k) (hk : 1 ≤ k) : dlen n ≤ k := by
  by_cases hz : n = 0
  · subst hz; rw [dlen_zero]; exact hk
  · rw [dlen_dg hz]; exact dg_len_le (B := 10) (by decide) h
theorem dlen_bd (n : Int) : bd n (dlen n) := dlen_lt n
theorem ok_itoa {n : Int} (h : bd n 400) : numOk (Lib.itoa n) = true := by rw [numOk_itoa]; simpa using bd_dlen h (by decide)
theorem itoa_le {n : Int} (h : bd n 400) : (Lib.itoa n).length ≤ 1000000000 := by
  have := bd_dlen h (by decide)
  unfold dlen at this
  rw [itoa_abs, List.length_append]
  split <;> simp <;> omega
theorem res2_ok {m n : Int} {f : Int → Int → Int} (hm : bd m 400) (hn : bd n 400) (hf : bd (f m n) 400) : res2 (Lib.itoa m) (Lib.itoa n) f = .tup [dS (Lib.itoa (f m n)), dI 0] := by
  unfold res2
  rw [ok_itoa hm, ok_itoa hn, numV_itoa, numV_itoa, if_pos (by rfl), if_pos (bd_dlen hf (by decide))]
theorem AddI {m n : Int} (hm : bd m 400) (hn : bd n 400) (hf : bd (m + n) 400) : PCall Tryz.prog 21 [dS (Lib.itoa m), dS (Lib.itoa n)] fun r => r = .tup [dS (Lib.itoa (m + n)), dI 0] := by
  have h := Add_spec (Lib.itoa m) (Lib.itoa n) (itoa_le hm) (itoa_le hn)
  rw [res2_ok hm hn hf] at h; exact h
theorem SubI {m n : Int} (hm : bd m 400) (hn : bd n 400) (hf : bd (m - n) 400) : PCall Tryz.prog 52 [dS (Lib.itoa m), dS (Lib.itoa n)] fun r => r = .tup [dS (Lib.itoa (m - n)), dI 0] := by
  have h := Sub_spec (Lib.itoa m) (Lib.itoa n) (itoa_le hm) (itoa_le hn)
  rw [res2_ok hm hn hf] at h; exact h
theorem MulI' {m n : Int} (hm : bd m 400) (hn : bd n 400) (hf : bd (m * n) 400) : PCall Tryz.prog 20 [dS (Lib.itoa m), dS (Lib.itoa n)] fun r => r = .tup [dS (Lib.itoa (m * n)), dI 0] := by
  have h := Mul_spec (Lib.itoa m) (Lib.itoa n) (itoa_le hm) (itoa_le hn)
  rw [res2_ok hm hn hf] at h; exact h
def inr64 (l : List Int) : Prop := ∀ n ∈ l, -9223372036854775808 ≤ n ∧ n ≤ 9223372036854775807
theorem MadeI' (l : List Int) (m : Nat) (hl : inr64 l) (hm0 : 1 ≤ m) (hm : m ≤ 400) : PCall Tryz.prog 12 [dIs l, dI m] fun r => ∃ n, r = dS (Lib.itoa n) ∧ bd n m := by
  refine (Made_spec l m hl hm0 hm).mono ?_
  rintro r ⟨x, rfl, h1, h2⟩
  refine ⟨numV x, by rw [itoa_num h1], ?_⟩
  have e : dlen (numV x) = (body x).length := by
    have := body_itoa (numV x)
    rw [itoa_num h1] at this
    unfold dlen; rw [this]
  exact bd_mono (dlen_bd _) (by omega)
end Go.Proofs.YtglncfhcgkihbaaGreatDoor

namespace Go.Proofs.YtglncfhcgkihbaaGreatDoor
open Go.Eng Go.Wh
set_option maxRecDepth 20000
set_option linter.unusedSimpArgs false
set_option linter.unusedVariables false
attribute [local irreducible] AG CallA CallT AWp PCall ACall AgC
theorem bd_one : bd 1 1 := by unfold bd; decide
theorem bd_abs {m n : Int} {k : Nat} (h : m.natAbs ≤ n.natAbs) (hn : bd n k) : bd m k := Nat.lt_of_le_of_lt h hn
theorem DivI' {m n : Int} (hm : bd m 399) (hn : bd n 400) (h0 : n ≠ 0) : PCall Tryz.prog 24 [dS (Lib.itoa m), dS (Lib.itoa n)] fun r => r = .tup [dS (Lib.itoa (fq m n)), dS (Lib.itoa (fr m n)), dI 0] := by
  have hm' : bd m 400 := bd_mono hm (by decide)
  have h := Div_spec (Lib.itoa m) (Lib.itoa n) (itoa_le hm') (itoa_le hn)
  have hq : bd (fq m n) 400 := by
    have h1 := fq_abs m n
    have h2 := bd_add (m := (m.natAbs : Int)) (n := 1) (a := 399) (by unfold bd; rw [Int.natAbs_natCast]; exact hm) (bd_mono bd_one (by decide))
    exact bd_abs (by omega) h2
  have e : res3 (Lib.itoa m) (Lib.itoa n) = .tup [dS (Lib.itoa (fq m n)), dS (Lib.itoa (fr m n)), dI 0] := by
    unfold res3
    rw [ok_itoa hm', ok_itoa hn, numV_itoa, numV_itoa, if_pos (by rfl), if_neg h0, if_pos (bd_dlen hq (by decide))]
  rw [e] at h; exact h
theorem DivZ {m : Int} (hm : bd m 400) : PCall Tryz.prog 24 [dS (Lib.itoa m), dS [48]] fun r => r = .tup [dS [], dS [], dI 11] := by
  have h := Div_spec (Lib.itoa m) [48] (itoa_le hm) (by decide)
  have e : res3 (Lib.itoa m) [48] = .tup [dS [], dS [], dI 11] := by
    unfold res3
    rw [ok_itoa hm, show numOk [48] = true by decide, if_pos (by rfl), if_pos (by decide)]
  rw [e] at h; exact h
theorem CmpI {m n : Int} (hm : bd m 400) (hn : bd n 400) : PCall Tryz.prog 22 [dS (Lib.itoa m), dS (Lib.itoa n)] fun r => r = .tup [dI (cmpV m n), dI 0] := by
  have h := Compare_spec (Lib.itoa m) (Lib.itoa n) (itoa_le hm) (itoa_le hn)
  unfold resC at h
  rw [ok_itoa hm, ok_itoa hn, numV_itoa, numV_itoa, if_pos (by rfl)] at h; exact h
theorem itoa0 : Lib.itoa 0 = [48] := by rw [itoa_abs]; simp [Lib.decDigits]
theorem itoa_head (n : Int) : ∃ c t, Lib.itoa n = c :: t ∧ (c = 45 ↔ n < 0) := by
  rw [itoa_abs]
  by_cases h : n < 0
  · rw [if_pos h]; exact ⟨45, _, rfl, by simp [h]⟩
  · rw [if_neg h]
    cases hd : Lib.decDigits n.natAbs with
    | nil => exact absurd hd (decDigits_ne _)
    | cons c t =>
      refine ⟨c, t, rfl, ?_⟩
      have h2 := not_minus (u := n.natAbs)
      rw [hd] at h2
      simp at h2
      simp [h2, h]
end Go.Proofs.YtglncfhcgkihbaaGreatDoor

namespace Go.Proofs.YtglncfhcgkihbaaGreatDoor
open Go.Eng Go.Wh
set_option maxRecDepth 20000
theorem rat23 : ratV [50, 47, 51] = some (2, 3) := by decide
theorem dec23 : PCall Tryz.prog 36 [dS [50, 47, 51], dI 2] fun r => r = .tup [dS [48, 46, 54, 55], dI 0] := by
  have h := Decimal_ok [50, 47, 51] 2 (by decide) (by decide) rat23 (by decide) (sz_of_dlen (k := 45) (by unfold dlen; simp [Lib.decDigits])) (sz_of_dlen (k := 45) (by unfold dlen; simp [Lib.decDigits]))
  have e : decS 2 3 2 = [48, 46, 54, 55] := by
    unfold decS
    rw [show ((2 : Int).natAbs * 10 ^ 2 * 2 + (3 : Int).natAbs) / ((3 : Int).natAbs * 2) = 67 by decide]
    have e1 : Lib.decDigits 67 = [54, 55] := by
      rw [Lib.decDigits, dif_neg (by decide), show 67 / 10 = 6 by decide, Lib.decDigits, dif_pos (by decide)]; rfl
    rw [e1]
    rfl
  rw [e] at h; exact h
theorem sane_ok : PCall Tryz.prog 11 [] fun r => r = dB true := sane_spec dec23
end Go.Proofs.YtglncfhcgkihbaaGreatDoor
