/- Part of a proof: see the last text. -/
import Derived.Test.YtglncfhcgkihbaaDoorWD
import Derived.Test.YtglncfhcgkihbaaDoorWE
import Derived.Test.YtglncfhcgkihbaaDoorED
import Derived.Test.YtglncfhcgkihbaaDoorTie
import Derived.Test.YtglncfhcgkihbaaDoorCards
import Derived.Lay
import Derived.LaidMore
import Derived.SevenTiedAt
import Derived.LaidLaws
import Derived.Stop.LaidErr
import Derived.Lib.LaidTab
import Derived.Shelf.Vars
import Derived.Handed
set_option linter.unusedVariables false
set_option linter.unusedSimpArgs false
namespace Go.Proofs.YtglncfhcgkihbaaDoor
open Go.Eng Go.Wh
set_option maxRecDepth 20000
set_option linter.unusedSimpArgs false
set_option linter.unusedVariables false
attribute [local irreducible] AG CallA CallT AWp PCall ACall AgC
theorem sane_spec (DEC : PCall Tryd.prog 19 [dS [50, 47, 51], dI 2] fun r => r = .tup [dS [48, 46, 54, 55], dI 0]) : PCall Tryd.prog 9 [] fun r => r = dB true := by 
  refine pcall_of Tryd.func9 rfl rfl Tryd.ntmps9 (rs := [.tmp 0]) (tys := [4]) rfl rfl (by simp) ?_
  have DV : PCall Tryd.prog 10 [dS [45, 55], dS [50]] fun r => r = .tup [dS [45, 52], dS [49], dI 0] := by
    have h := Div_spec [45, 55] [50] (by decide) (by decide)
    have e : res3 [45, 55] [50] = .tup [dS [45, 52], dS [49], dI 0] := by
      unfold res3
      rw [if_pos (by decide), if_neg (by decide)]
      have e1 : fq (numV [45, 55]) (numV [50]) = numV [45, 52] := by decide
      have e2 : fr (numV [45, 55]) (numV [50]) = numV [49] := by decide
      rw [e1, e2, if_pos (num_dlen (by decide)), itoa_num (by decide), itoa_num (by decide)]
    rw [e] at h; exact h
  (refine awp_sr fun KK hKK => ?_; simp [go_sem]; ((repeat' (first|(refine ag_x ?_;simp [go_sem])|intro _|refine And.intro ?_ ?_|(apply hKK;clear hKK KK)));all_goals first|refine Hold.mk ?_|omega|with_reducible assumption|(simp only [InR] at *;omega)|skip))
  (refine awp_sr fun KK hKK => ?_; simp [go_sem]; ((repeat' (first|(refine ag_x ?_;simp [go_sem])|intro _|refine And.intro ?_ ?_|(apply hKK;clear hKK KK)));all_goals first|refine Hold.mk ?_|omega|with_reducible assumption|(simp only [InR] at *;omega)|skip))
  ((try refine CallT.toA ?_); refine callT_m (by first | exact .inl ⟨rfl, rfl⟩ | exact .inr rfl) (by simp [go_sem]) ?_; intro args ha; simp [go_sem] at ha; subst ha; refine ⟨_, DV, ?_⟩; rintro _ rfl; simp [go_sem]; ((repeat' (first|(refine ag_x ?_;simp [go_sem])|intro _|refine And.intro ?_ ?_|(apply hKK;clear hKK KK)));all_goals first|refine Hold.mk ?_|omega|with_reducible assumption|(simp only [InR] at *;omega)|skip))
  (refine awp_sr fun KK hKK => ?_; simp [go_sem]; ((repeat' (first|(refine ag_x ?_;simp [go_sem])|intro _|refine And.intro ?_ ?_|(apply hKK;clear hKK KK)));all_goals first|refine Hold.mk ?_|omega|with_reducible assumption|(simp only [InR] at *;omega)|skip))
  ((try refine CallT.toA ?_); refine callT_m (by first | exact .inl ⟨rfl, rfl⟩ | exact .inr rfl) (by simp [go_sem]) ?_; intro args ha; simp [go_sem] at ha; subst ha; refine ⟨_, base255, ?_⟩; rintro _ rfl; simp [go_sem]; ((repeat' (first|(refine ag_x ?_;simp [go_sem])|intro _|refine And.intro ?_ ?_|(apply hKK;clear hKK KK)));all_goals first|refine Hold.mk ?_|omega|with_reducible assumption|(simp only [InR] at *;omega)|skip))
  (refine awp_sr fun KK hKK => ?_; simp [go_sem]; ((repeat' (first|(refine ag_x ?_;simp [go_sem])|intro _|refine And.intro ?_ ?_|(apply hKK;clear hKK KK)));all_goals first|refine Hold.mk ?_|omega|with_reducible assumption|(simp only [InR] at *;omega)|skip))
  ((try refine CallT.toA ?_); refine callT_m (by first | exact .inl ⟨rfl, rfl⟩ | exact .inr rfl) (by simp [go_sem]) ?_; intro args ha; simp [go_sem] at ha; subst ha; refine ⟨_, DEC, ?_⟩; rintro _ rfl; simp [go_sem]; ((repeat' (first|(refine ag_x ?_;simp [go_sem])|intro _|refine And.intro ?_ ?_|(apply hKK;clear hKK KK)));all_goals first|refine Hold.mk ?_|omega|with_reducible assumption|(simp only [InR] at *;omega)|skip))
  (refine awp_sr fun KK hKK => ?_; simp [go_sem]; ((repeat' (first|(refine ag_x ?_;simp [go_sem])|intro _|refine And.intro ?_ ?_|(apply hKK;clear hKK KK)));all_goals first|refine Hold.mk ?_|omega|with_reducible assumption|(simp only [InR] at *;omega)|skip))
  (refine awp_ret ?_; simp [go_sem])
end Go.Proofs.YtglncfhcgkihbaaDoor

namespace Go.Proofs.YtglncfhcgkihbaaDoor
open Go.Eng Go.Wh
set_option maxRecDepth 20000
set_option linter.unusedSimpArgs false
set_option linter.unusedVariables false
attribute [local irreducible] AG CallA CallT AWp PCall ACall AgC
theorem itoa_chars (n : Int) : ∀ c ∈ Lib.itoa n, c = 45 ∨ isD c = true := fun c hc => by
  rw [itoa_abs, List.mem_append] at hc
  rcases hc with hc | hc
  · split at hc
    · rw [List.mem_singleton] at hc; exact .inl hc
    · simp at hc
  · exact .inr (decDigits_isD _ c hc)
theorem itoa_len21 {n : Int} (h0 : -9223372036854775808 ≤ n) (h1 : n ≤ 9223372036854775807) : (Lib.itoa n).length ≤ 100 := by
  rw [itoa_abs, List.length_append]
  have h2 : (Lib.decDigits n.natAbs).length ≤ 20 := by
    by_cases hz : n = 0
    · subst hz; have := dlen_zero; unfold dlen at this; omega
    · have e := dlen_dg hz
      unfold dlen at e
      rw [e]
      exact dg_len_le (B := 10) (by decide) (k := 20) (by rw [pow20]; omega)
  split <;> simp <;> omega
theorem app_mk' (a b : List UInt8) : (⟨a.toArray⟩ : ByteArray) ++ ⟨b.toArray⟩ = ⟨(a ++ b).toArray⟩ := by
  apply ByteArray.ext
  simp
def MadeI (m : Nat) (b : List UInt8) : Prop := (∀ c ∈ b, isD c = true) ∧ b.length ≤ m ∧ b.head? ≠ some 48
theorem made_ok {m : Nat} {b : List UInt8} (h : MadeI m b) (hb : b ≠ []) (hm : m ≤ 400) : (numOk b = true ∧ (body b).length ≤ m) ∧ (numOk (45 :: b) = true ∧ (body (45 :: b)).length ≤ m) := by
  obtain ⟨h1, h2, h3⟩ := h
  have hall : b.all isD = true := List.all_eq_true.2 h1
  have h45 : b.head? ≠ some 45 := fun e => by
    cases b with
    | nil => exact hb rfl
    | cons c t =>
      simp at e
      have := h1 c (by simp)
      rw [e] at this; exact absurd this (by decide)
  have e1 : body b = b := by unfold body; rw [if_neg h45]
  have e2 : body (45 :: b) = b := rfl
  refine ⟨⟨?_, by rw [e1]; exact h2⟩, ?_, by rw [e2]; exact h2⟩
  · unfold numOk; rw [e1]; simp [hb, hall, h3]; omega
  · unfold numOk; rw [e2]; simp [hb, hall, h3]; omega
set_option maxHeartbeats 4000000 in
theorem Made_spec (l : List Int) (m : Nat) (hl : ∀ n ∈ l, -9223372036854775808 ≤ n ∧ n ≤ 9223372036854775807) (hm0 : 1 ≤ m) (hm : m ≤ 400) : PCall Tryd.prog 5 [dIs l, dI m] fun r => ∃ x, r = dS x ∧ numOk x = true ∧ (body x).length ≤ m := by 
  refine pcall_of Tryd.func5 rfl rfl Tryd.ntmps5 (rs := [.tmp 4]) (tys := [9]) rfl rfl (by simp) ?_
  refine awp_len 0 rfl fun hlen => ?_
  simp [lensD] at hlen
  (refine awp_sr fun KK hKK => ?_; simp [go_sem]; ((repeat' (first|(refine ag_x ?_;simp [go_sem])|intro _|refine And.intro ?_ ?_|(apply hKK;clear hKK KK)));all_goals first|refine Hold.mk ?_|omega|with_reducible assumption|(simp only [InR] at *;omega)|skip))
  (refine awp_sr fun KK hKK => ?_; simp [go_sem]; ((repeat' (first|(refine ag_x ?_;simp [go_sem])|intro _|refine And.intro ?_ ?_|(apply hKK;clear hKK KK)));all_goals first|refine Hold.mk ?_|omega|with_reducible assumption|(simp only [InR] at *;omega)|skip))
  refine awp_nilslot 5 900000 5 1 rfl fun g5 => ?_
  simp only [go_sem]
  refine awp_seq_k fun K1 hK1 => ?_
  (refine awp_sr fun KK hKK => ?_; simp [go_sem]; ((repeat' (first|(refine ag_x ?_;simp [go_sem])|intro _|refine And.intro ?_ ?_|(apply hKK;clear hKK KK)));all_goals first|refine Hold.mk ?_|omega|with_reducible assumption|(simp only [InR] at *;omega)|skip))
  refine awp_block ?_
  refine awp_loop (σ := Nat × List UInt8 × Nat) (fun x => ⟨[(0, dIs l), (1, dI m), (5, .own 900000 x.2.2), (6, dI x.1)], [(900000, x.2.2, .row 5 1 (x.2.1.map cB))]⟩) (fun x => x.1 ≤ l.length ∧ MadeI m x.2.1 ∧ (x.2.1 ≠ [] → l ≠ [])) (fun x => l.length - x.1) (0, [], g5) ?_ ?_ ?_
  · (refine cov_of ?_ ?_ <;> simp [go_sem])
  · exact ⟨Nat.zero_le _, ⟨by simp, by simp, by simp⟩, by simp⟩
  rintro ⟨i, b, g⟩ ⟨hi, hM, hne⟩
  simp only at hi hM hne
  have hbl := hM.2.1
  refine awp_seq_k fun K2 hK2 => ?_
  (refine awp_sr fun KK hKK => ?_; simp [go_sem]; ((repeat' (first|(refine ag_x ?_;simp [go_sem])|intro _|refine And.intro ?_ ?_|(apply hKK;clear hKK KK)));all_goals first|refine Hold.mk ?_|omega|with_reducible assumption|(simp only [InR] at *;omega)|skip))
  (refine awp_if fun T F hT hF => ?_; simp [go_sem]; refine BR.intro (fun h3 => hT ?_) (fun h3 => hF ?_); all_goals clear hT hF T F; try simp at h3)
  · refine awp_skip ?_
    refine hK2 _ ?_; clear hK2
    obtain ⟨n, hn⟩ : ∃ n, l[i]? = some n := ⟨_, List.getElem?_eq_getElem h3.1⟩
    have hr := hl n (List.mem_of_getElem? hn)
    have hch := itoa_chars n
    have hlne : l ≠ [] := fun h => by rw [h] at hn; simp at hn
    have IT := itoa_spec n hr.1 hr.2
    have hsl := itoa_len21 hr.1 hr.2
    generalize Lib.itoa n = s at *
    refine awp_seq_k fun K4 hK4 => ?_
    refine awp_block ?_
    (refine awp_sr fun KK hKK => ?_; simp [go_sem, hn]; ((repeat' (first|(refine ag_x ?_;simp [go_sem, hn])|intro _|refine And.intro ?_ ?_|(apply hKK;clear hKK KK)));all_goals first|refine Hold.mk ?_|omega|with_reducible assumption|(simp only [InR] at *;omega)|skip))
    ((try refine CallT.toA ?_); refine callT_m (by first | exact .inl ⟨rfl, rfl⟩ | exact .inr rfl) (by simp [go_sem]) ?_; intro args ha; simp [go_sem] at ha; subst ha; refine ⟨_, IT, ?_⟩; rintro _ rfl; simp [go_sem]; ((repeat' (first|(refine ag_x ?_;simp [go_sem])|intro _|refine And.intro ?_ ?_|(apply hKK;clear hKK KK)));all_goals first|refine Hold.mk ?_|omega|with_reducible assumption|(simp only [InR] at *;omega)|skip))
    (refine awp_sr fun KK hKK => ?_; simp [go_sem]; ((repeat' (first|(refine ag_x ?_;simp [go_sem])|intro _|refine And.intro ?_ ?_|(apply hKK;clear hKK KK)));all_goals first|refine Hold.mk ?_|omega|with_reducible assumption|(simp only [InR] at *;omega)|skip))
    refine awp_block ?_
    refine awp_loop (σ := Nat × List UInt8 × Nat) (fun x => ⟨[(0, dIs l), (1, dI m), (5, .own 900000 x.2.2), (6, dI i), (7, dS s), (8, dI x.1)], [(900000, x.2.2, .row 5 1 (x.2.1.map cB))]⟩) (fun x => x.1 ≤ s.length ∧ MadeI m x.2.1) (fun x => s.length - x.1) (0, b, g) ?_ ?_ ?_
    · (refine cov_of ?_ ?_ <;> simp [go_sem])
    · exact ⟨Nat.zero_le _, hM⟩
    rintro ⟨k, b, g⟩ ⟨hk, hM⟩
    simp only at hk hM
    have hbl := hM.2.1
    refine awp_seq_k fun K5 hK5 => ?_
    (refine awp_sr fun KK hKK => ?_; simp [go_sem]; ((repeat' (first|(refine ag_x ?_;simp [go_sem])|intro _|refine And.intro ?_ ?_|(apply hKK;clear hKK KK)));all_goals first|refine Hold.mk ?_|omega|with_reducible assumption|(simp only [InR] at *;omega)|skip))
    (refine awp_if fun T F hT hF => ?_; simp [go_sem]; refine BR.intro (fun h6 => hT ?_) (fun h6 => hF ?_); all_goals clear hT hF T F; try simp at h6) 
    · refine awp_skip ?_
      refine hK5 _ ?_; clear hK5
      obtain ⟨c, hc⟩ : ∃ c, s[k]? = some c := ⟨_, List.getElem?_eq_getElem h6.1⟩
      have hcc := hch c (List.mem_of_getElem? hc)
      refine awp_seq_k fun K7 hK7 => ?_
      have tl7 : ∀ S' b' g', MadeI m b' → Cov S' ⟨[(0, dIs l), (1, dI m), (5, .own 900000 g'), (6, dI i), (7, dS s), (8, dI k)], [(900000, g', .row 5 1 (b'.map cB))]⟩ → K7 S' := fun S' b' g' hM' hS => by
        refine hK7 _ ?_; clear hK7
        refine awp_cov hS ?_; clear hS
        (refine awp_r fun KK hKK => ?_; simp [go_sem]; ((repeat' (first|(refine ag_x ?_;simp [go_sem])|intro _|refine And.intro ?_ ?_|(apply hKK;clear hKK KK)));all_goals first|refine Hold.mk ?_|omega|with_reducible assumption|(simp only [InR] at *;omega)|skip))
        refine ⟨(k + 1, b', g'), ?_, ⟨h6.1, hM'⟩, by simp only; omega⟩
        (refine cov_of ?_ ?_ <;> simp [go_sem])
      clear hK7
      refine awp_block ?_
      (refine awp_sr fun KK hKK => ?_; simp [go_sem, hc]; ((repeat' (first|(refine ag_x ?_;simp [go_sem, hc])|intro _|refine And.intro ?_ ?_|(apply hKK;clear hKK KK)));all_goals first|refine Hold.mk ?_|omega|with_reducible assumption|(simp only [InR] at *;omega)|skip))
      (refine awp_if fun T F hT hF => ?_; simp [go_sem]; refine BR.intro (fun h8 => hT ?_) (fun h8 => hF ?_); all_goals clear hT hF T F; try simp at h8) 
      · (refine awp_r fun KK hKK => ?_; simp [go_sem, hc]; ((repeat' (first|(refine ag_x ?_;simp [go_sem, hc])|intro _|refine And.intro ?_ ?_|(apply hKK;clear hKK KK)));all_goals first|refine Hold.mk ?_|omega|with_reducible assumption|(simp only [InR] at *;omega)|skip))
        rename_i g7
        refine tl7 _ (b ++ [c]) g7 ⟨?_, ?_, ?_⟩ ?_
        · intro x hx
          rw [List.mem_append, List.mem_singleton] at hx
          rcases hx with hx | rfl
          · exact hM.1 x hx
          · exact hcc.resolve_left fun h => h8.1 (by rw [h]; rfl)
        · rw [List.length_append, List.length_singleton]; omega
        · cases b with
          | nil =>
            intro h
            simp at h
            rcases h8.2 with q | q
            · simp at q
            · exact q (by rw [h]; rfl)
          | cons x t => exact hM.2.2
        · (refine cov_of ?_ ?_ <;> simp [go_sem])
      · refine awp_skip ?_
        refine tl7 _ b g hM ?_
        (refine cov_of ?_ ?_ <;> simp [go_sem])
    · refine awp_exit ?_
      simp only [go_sem]
      refine hK4 _ ?_; clear hK4
      (refine awp_r fun KK hKK => ?_; simp [go_sem]; ((repeat' (first|(refine ag_x ?_;simp [go_sem])|intro _|refine And.intro ?_ ?_|(apply hKK;clear hKK KK)));all_goals first|refine Hold.mk ?_|omega|with_reducible assumption|(simp only [InR] at *;omega)|skip))
      refine ⟨(i + 1, b, g), ?_, ⟨by simp only; omega, hM, fun _ => hlne⟩, by simp only; omega⟩
      (refine cov_of ?_ ?_ <;> simp [go_sem])
  · refine awp_exit ?_
    simp only [go_sem]
    refine hK1 _ ?_; clear hK1
    refine awp_seq_k fun K9 hK9 => ?_
    (refine awp_sr fun KK hKK => ?_; simp [go_sem]; ((repeat' (first|(refine ag_x ?_;simp [go_sem])|intro _|refine And.intro ?_ ?_|(apply hKK;clear hKK KK)));all_goals first|refine Hold.mk ?_|omega|with_reducible assumption|(simp only [InR] at *;omega)|skip))
    (refine awp_if fun T F hT hF => ?_; simp [go_sem]; refine BR.intro (fun h10 => hT ?_) (fun h10 => hF ?_); all_goals clear hT hF T F; try simp at h10) 
    · (refine awp_sr fun KK hKK => ?_; simp [go_sem]; ((repeat' (first|(refine ag_x ?_;simp [go_sem])|intro _|refine And.intro ?_ ?_|(apply hKK;clear hKK KK)));all_goals first|refine Hold.mk ?_|omega|with_reducible assumption|(simp only [InR] at *;omega)|skip))
      (refine awp_ret ?_; simp [go_sem])
      exact ⟨by decide, hm0⟩
    · refine awp_skip ?_
      refine hK9 _ ?_; clear hK9
      have hb0 : b ≠ [] := by simpa using h10
      obtain ⟨n, l', hl'⟩ : ∃ n l', l = n :: l' := by
        cases l with
        | nil => exact absurd rfl (hne hb0)
        | cons n l' => exact ⟨n, l', rfl⟩
      obtain ⟨o1, o2⟩ := made_ok hM hb0 hm
      subst hl'
      refine awp_seq_k fun K11 hK11 => ?_
      (refine awp_sr fun KK hKK => ?_; simp [go_sem]; ((repeat' (first|(refine ag_x ?_;simp [go_sem])|intro _|refine And.intro ?_ ?_|(apply hKK;clear hKK KK)));all_goals first|refine Hold.mk ?_|omega|with_reducible assumption|(simp only [InR] at *;omega)|skip))
      (refine awp_if fun T F hT hF => ?_; simp [go_sem]; refine BR.intro (fun h12 => hT ?_) (fun h12 => hF ?_); all_goals clear hT hF T F; try simp at h12) 
      · (refine awp_sr fun KK hKK => ?_; simp [go_sem]; ((repeat' (first|(refine ag_x ?_;simp [go_sem])|intro _|refine And.intro ?_ ?_|(apply hKK;clear hKK KK)));all_goals first|refine Hold.mk ?_|omega|with_reducible assumption|(simp only [InR] at *;omega)|skip))
        (refine awp_ret ?_; simp [go_sem])
        exact ⟨45 :: b, app_mk' [45] b, o2⟩
      · refine awp_skip ?_
        refine hK11 _ ?_; clear hK11
        (refine awp_sr fun KK hKK => ?_; simp [go_sem]; ((repeat' (first|(refine ag_x ?_;simp [go_sem])|intro _|refine And.intro ?_ ?_|(apply hKK;clear hKK KK)));all_goals first|refine Hold.mk ?_|omega|with_reducible assumption|(simp only [InR] at *;omega)|skip))
        (refine awp_ret ?_; simp [go_sem])
        exact o1
end Go.Proofs.YtglncfhcgkihbaaDoor

namespace Go.Proofs.YtglncfhcgkihbaaDoor
open Go.Eng Go.Wh
set_option maxRecDepth 20000
set_option linter.unusedSimpArgs false
set_option linter.unusedVariables false
attribute [local irreducible] AG CallA CallT AWp PCall ACall AgC
def bd (n : Int) (k : Nat) : Prop := n.natAbs < 10 ^ k
theorem bd_mono {n : Int} {a b : Nat} (h : bd n a) (hab : a ≤ b) : bd n b := Nat.lt_of_lt_of_le h (Nat.pow_le_pow_right (by decide) hab)
theorem bd_mul {m n : Int} {a b : Nat} (h : bd m a) (k : bd n b) : bd (m * n) (a + b) := by
  unfold bd at *
  rw [Int.natAbs_mul, Nat.pow_add]
  exact Nat.mul_lt_mul'' h k
theorem bd_add {m n : Int} {a : Nat} (h : bd m a) (k : bd n a) : bd (m + n) (a + 1) := by
  unfold bd at *
  have h1 : (m + n).natAbs ≤ m.natAbs + n.natAbs := Int.natAbs_add_le m n
  rw [Nat.pow_succ]
  generalize 10 ^ a = p at *
  omega
theorem bd_neg {n : Int} {a : Nat} (h : bd n a) : bd (-n) a := by unfold bd at *; rw [Int.natAbs_neg]; exact h
theorem bd_dlen {n : Int} {k : Nat} (h : bd n k) (hk : 1 ≤ k) : dlen n ≤ k := by
  by_cases hz : n = 0
  · subst hz; rw [dlen_zero]; exact hk
  · rw [dlen_dg hz]; exact dg_len_le (B := 10) (by decide) h
theorem dlen_bd (n : Int) : bd n (dlen n) := dlen_lt n
theorem ok_itoa {n : Int} (h : bd n 400) : numOk (Lib.itoa n) = true := by rw [numOk_itoa]; simpa using bd_dlen h (by decide)
theorem itoa_le {n : Int} (h : bd n 400) : (Lib.itoa n).length ≤ 1000000000 := by
  have := bd_dlen h (by decide)
  unfold dlen at this
  rw [itoa_abs, List.length_append]
  split <;> simp <;> omega
theorem res2_ok {m n : Int} {f : Int → Int → Int} (hm : bd m 400) (hn : bd n 400) (hf : bd (f m n) 400) : res2 (Lib.itoa m) (Lib.itoa n) f = .tup [dS (Lib.itoa (f m n)), dI 0] := by
  unfold res2
  rw [ok_itoa hm, ok_itoa hn, numV_itoa, numV_itoa, if_pos (by rfl), if_pos (bd_dlen hf (by decide))]
theorem AddI {m n : Int} (hm : bd m 400) (hn : bd n 400) (hf : bd (m + n) 400) : PCall Tryd.prog 6 [dS (Lib.itoa m), dS (Lib.itoa n)] fun r => r = .tup [dS (Lib.itoa (m + n)), dI 0] := by
  have h := Add_spec (Lib.itoa m) (Lib.itoa n) (itoa_le hm) (itoa_le hn)
  rw [res2_ok hm hn hf] at h; exact h
theorem SubI {m n : Int} (hm : bd m 400) (hn : bd n 400) (hf : bd (m - n) 400) : PCall Tryd.prog 7 [dS (Lib.itoa m), dS (Lib.itoa n)] fun r => r = .tup [dS (Lib.itoa (m - n)), dI 0] := by
  have h := Sub_spec (Lib.itoa m) (Lib.itoa n) (itoa_le hm) (itoa_le hn)
  rw [res2_ok hm hn hf] at h; exact h
theorem MulI' {m n : Int} (hm : bd m 400) (hn : bd n 400) (hf : bd (m * n) 400) : PCall Tryd.prog 8 [dS (Lib.itoa m), dS (Lib.itoa n)] fun r => r = .tup [dS (Lib.itoa (m * n)), dI 0] := by
  have h := Mul_spec (Lib.itoa m) (Lib.itoa n) (itoa_le hm) (itoa_le hn)
  rw [res2_ok hm hn hf] at h; exact h
def inr64 (l : List Int) : Prop := ∀ n ∈ l, -9223372036854775808 ≤ n ∧ n ≤ 9223372036854775807
theorem MadeI' (l : List Int) (m : Nat) (hl : inr64 l) (hm0 : 1 ≤ m) (hm : m ≤ 400) : PCall Tryd.prog 5 [dIs l, dI m] fun r => ∃ n, r = dS (Lib.itoa n) ∧ bd n m := by
  refine (Made_spec l m hl hm0 hm).mono ?_
  rintro r ⟨x, rfl, h1, h2⟩
  refine ⟨numV x, by rw [itoa_num h1], ?_⟩
  have e : dlen (numV x) = (body x).length := by
    have := body_itoa (numV x)
    rw [itoa_num h1] at this
    unfold dlen; rw [this]
  exact bd_mono (dlen_bd _) (by omega)
set_option maxHeartbeats 8000000 in
theorem laws_spec (SANE : PCall Tryd.prog 9 [] fun r => r = dB true) (A B C : List Int) (hA : inr64 A) (hB : inr64 B) (hC : inr64 C) : PCall Tryd.prog 3 [.agg [dIs A, dIs B, dIs C]] fun r => r = dB true := by 
  refine pcall_of Tryd.func3 rfl rfl Tryd.ntmps3 (rs := [.tmp 2]) (tys := [4]) rfl rfl (by simp) ?_
  have M1 : PCall Tryd.prog 5 [dIs A, dI 120] fun r => ∃ n, r = dS (Lib.itoa n) ∧ bd n 120 := MadeI' A 120 hA (by decide) (by decide)
  have M2 : PCall Tryd.prog 5 [dIs B, dI 120] fun r => ∃ n, r = dS (Lib.itoa n) ∧ bd n 120 := MadeI' B 120 hB (by decide) (by decide)
  have M3 : PCall Tryd.prog 5 [dIs C, dI 120] fun r => ∃ n, r = dS (Lib.itoa n) ∧ bd n 120 := MadeI' C 120 hC (by decide) (by decide)
  (refine awp_sr fun KK hKK => ?_; simp [go_sem]; ((repeat' (first|(refine ag_x ?_;simp [go_sem])|intro _|refine And.intro ?_ ?_|(apply hKK;clear hKK KK)));all_goals first|refine Hold.mk ?_|omega|with_reducible assumption|(simp only [InR] at *;omega)|skip))
  (refine awp_sr fun KK hKK => ?_; simp [go_sem]; ((repeat' (first|(refine ag_x ?_;simp [go_sem])|intro _|refine And.intro ?_ ?_|(apply hKK;clear hKK KK)));all_goals first|refine Hold.mk ?_|omega|with_reducible assumption|(simp only [InR] at *;omega)|skip))
  ((try refine CallT.toA ?_); refine callT_m (by first | exact .inl ⟨rfl, rfl⟩ | exact .inr rfl) (by simp [go_sem]) ?_; intro args ha; simp [go_sem] at ha; subst ha; refine ⟨_, M1, ?_⟩; rintro _ ⟨m, rfl, bm⟩; simp [go_sem]; ((repeat' (first|(refine ag_x ?_;simp [go_sem])|intro _|refine And.intro ?_ ?_|(apply hKK;clear hKK KK)));all_goals first|refine Hold.mk ?_|omega|with_reducible assumption|(simp only [InR] at *;omega)|skip))
  (refine awp_sr fun KK hKK => ?_; simp [go_sem]; ((repeat' (first|(refine ag_x ?_;simp [go_sem])|intro _|refine And.intro ?_ ?_|(apply hKK;clear hKK KK)));all_goals first|refine Hold.mk ?_|omega|with_reducible assumption|(simp only [InR] at *;omega)|skip))
  ((try refine CallT.toA ?_); refine callT_m (by first | exact .inl ⟨rfl, rfl⟩ | exact .inr rfl) (by simp [go_sem]) ?_; intro args ha; simp [go_sem] at ha; subst ha; refine ⟨_, M2, ?_⟩; rintro _ ⟨n, rfl, bn⟩; simp [go_sem]; ((repeat' (first|(refine ag_x ?_;simp [go_sem])|intro _|refine And.intro ?_ ?_|(apply hKK;clear hKK KK)));all_goals first|refine Hold.mk ?_|omega|with_reducible assumption|(simp only [InR] at *;omega)|skip))
  (refine awp_sr fun KK hKK => ?_; simp [go_sem]; ((repeat' (first|(refine ag_x ?_;simp [go_sem])|intro _|refine And.intro ?_ ?_|(apply hKK;clear hKK KK)));all_goals first|refine Hold.mk ?_|omega|with_reducible assumption|(simp only [InR] at *;omega)|skip))
  ((try refine CallT.toA ?_); refine callT_m (by first | exact .inl ⟨rfl, rfl⟩ | exact .inr rfl) (by simp [go_sem]) ?_; intro args ha; simp [go_sem] at ha; subst ha; refine ⟨_, M3, ?_⟩; rintro _ ⟨k, rfl, bk⟩; simp [go_sem]; ((repeat' (first|(refine ag_x ?_;simp [go_sem])|intro _|refine And.intro ?_ ?_|(apply hKK;clear hKK KK)));all_goals first|refine Hold.mk ?_|omega|with_reducible assumption|(simp only [InR] at *;omega)|skip))
  have b1 := bd_add bm bn
  have b2 := bd_mul bm bn
  have b3 := bd_mul b1 bk
  have b4 := bd_mul bm bk
  have b5 := bd_mul bn bk
  have F1 := AddI (bd_mono bm (by decide)) (bd_mono bn (by decide)) (bd_mono b1 (by decide))
  have F2 := AddI (m := n) (n := m) (bd_mono bn (by decide)) (bd_mono bm (by decide)) (by rw [Int.add_comm]; exact bd_mono b1 (by decide))
  have F3 := SubI (m := m + n) (n := n) (bd_mono b1 (by decide)) (bd_mono bn (by decide)) (by rw [Int.add_sub_cancel]; exact bd_mono bm (by decide))
  have F4 := MulI' (bd_mono bm (by decide)) (bd_mono bn (by decide)) (bd_mono b2 (by decide))
  have F5 := MulI' (m := n) (n := m) (bd_mono bn (by decide)) (bd_mono bm (by decide)) (by rw [Int.mul_comm]; exact bd_mono b2 (by decide))
  have F6 := MulI' (m := m + n) (n := k) (bd_mono b1 (by decide)) (bd_mono bk (by decide)) (bd_mono b3 (by decide))
  have F7 := MulI' (bd_mono bm (by decide)) (bd_mono bk (by decide)) (bd_mono b4 (by decide))
  have F8 := MulI' (bd_mono bn (by decide)) (bd_mono bk (by decide)) (bd_mono b5 (by decide))
  have F9 := AddI (m := m * k) (n := n * k) (bd_mono b4 (by decide)) (bd_mono b5 (by decide)) (by rw [← Int.add_mul]; exact bd_mono b3 (by decide))
  rw [Int.add_comm n m] at F2
  rw [Int.add_sub_cancel] at F3
  rw [Int.mul_comm n m] at F5
  rw [← Int.add_mul] at F9
  generalize Lib.itoa (m + n) = s1 at *
  generalize Lib.itoa (m * n) = s2 at *
  generalize Lib.itoa ((m + n) * k) = s3 at *
  generalize Lib.itoa (m * k) = s4 at *
  generalize Lib.itoa (n * k) = s5 at *
  generalize Lib.itoa m = a at *
  generalize Lib.itoa n = b at *
  generalize Lib.itoa k = c at *
  (refine awp_sr fun KK hKK => ?_; simp [go_sem]; ((repeat' (first|(refine ag_x ?_;simp [go_sem])|intro _|refine And.intro ?_ ?_|(apply hKK;clear hKK KK)));all_goals first|refine Hold.mk ?_|omega|with_reducible assumption|(simp only [InR] at *;omega)|skip))
  ((try refine CallT.toA ?_); refine callT_m (by first | exact .inl ⟨rfl, rfl⟩ | exact .inr rfl) (by simp [go_sem]) ?_; intro args ha; simp [go_sem] at ha; subst ha; refine ⟨_, F1, ?_⟩; rintro _ rfl; simp [go_sem]; ((repeat' (first|(refine ag_x ?_;simp [go_sem])|intro _|refine And.intro ?_ ?_|(apply hKK;clear hKK KK)));all_goals first|refine Hold.mk ?_|omega|with_reducible assumption|(simp only [InR] at *;omega)|skip))
  (refine awp_sr fun KK hKK => ?_; simp [go_sem]; ((repeat' (first|(refine ag_x ?_;simp [go_sem])|intro _|refine And.intro ?_ ?_|(apply hKK;clear hKK KK)));all_goals first|refine Hold.mk ?_|omega|with_reducible assumption|(simp only [InR] at *;omega)|skip))
  ((try refine CallT.toA ?_); refine callT_m (by first | exact .inl ⟨rfl, rfl⟩ | exact .inr rfl) (by simp [go_sem]) ?_; intro args ha; simp [go_sem] at ha; subst ha; refine ⟨_, F2, ?_⟩; rintro _ rfl; simp [go_sem]; ((repeat' (first|(refine ag_x ?_;simp [go_sem])|intro _|refine And.intro ?_ ?_|(apply hKK;clear hKK KK)));all_goals first|refine Hold.mk ?_|omega|with_reducible assumption|(simp only [InR] at *;omega)|skip))
  (refine awp_sr fun KK hKK => ?_; simp [go_sem]; ((repeat' (first|(refine ag_x ?_;simp [go_sem])|intro _|refine And.intro ?_ ?_|(apply hKK;clear hKK KK)));all_goals first|refine Hold.mk ?_|omega|with_reducible assumption|(simp only [InR] at *;omega)|skip))
  ((try refine CallT.toA ?_); refine callT_m (by first | exact .inl ⟨rfl, rfl⟩ | exact .inr rfl) (by simp [go_sem]) ?_; intro args ha; simp [go_sem] at ha; subst ha; refine ⟨_, F3, ?_⟩; rintro _ rfl; simp [go_sem]; ((repeat' (first|(refine ag_x ?_;simp [go_sem])|intro _|refine And.intro ?_ ?_|(apply hKK;clear hKK KK)));all_goals first|refine Hold.mk ?_|omega|with_reducible assumption|(simp only [InR] at *;omega)|skip))
  (refine awp_sr fun KK hKK => ?_; simp [go_sem]; ((repeat' (first|(refine ag_x ?_;simp [go_sem])|intro _|refine And.intro ?_ ?_|(apply hKK;clear hKK KK)));all_goals first|refine Hold.mk ?_|omega|with_reducible assumption|(simp only [InR] at *;omega)|skip))
  ((try refine CallT.toA ?_); refine callT_m (by first | exact .inl ⟨rfl, rfl⟩ | exact .inr rfl) (by simp [go_sem]) ?_; intro args ha; simp [go_sem] at ha; subst ha; refine ⟨_, F4, ?_⟩; rintro _ rfl; simp [go_sem]; ((repeat' (first|(refine ag_x ?_;simp [go_sem])|intro _|refine And.intro ?_ ?_|(apply hKK;clear hKK KK)));all_goals first|refine Hold.mk ?_|omega|with_reducible assumption|(simp only [InR] at *;omega)|skip))
  (refine awp_sr fun KK hKK => ?_; simp [go_sem]; ((repeat' (first|(refine ag_x ?_;simp [go_sem])|intro _|refine And.intro ?_ ?_|(apply hKK;clear hKK KK)));all_goals first|refine Hold.mk ?_|omega|with_reducible assumption|(simp only [InR] at *;omega)|skip))
  ((try refine CallT.toA ?_); refine callT_m (by first | exact .inl ⟨rfl, rfl⟩ | exact .inr rfl) (by simp [go_sem]) ?_; intro args ha; simp [go_sem] at ha; subst ha; refine ⟨_, F5, ?_⟩; rintro _ rfl; simp [go_sem]; ((repeat' (first|(refine ag_x ?_;simp [go_sem])|intro _|refine And.intro ?_ ?_|(apply hKK;clear hKK KK)));all_goals first|refine Hold.mk ?_|omega|with_reducible assumption|(simp only [InR] at *;omega)|skip))
  (refine awp_sr fun KK hKK => ?_; simp [go_sem]; ((repeat' (first|(refine ag_x ?_;simp [go_sem])|intro _|refine And.intro ?_ ?_|(apply hKK;clear hKK KK)));all_goals first|refine Hold.mk ?_|omega|with_reducible assumption|(simp only [InR] at *;omega)|skip))
  ((try refine CallT.toA ?_); refine callT_m (by first | exact .inl ⟨rfl, rfl⟩ | exact .inr rfl) (by simp [go_sem]) ?_; intro args ha; simp [go_sem] at ha; subst ha; refine ⟨_, F6, ?_⟩; rintro _ rfl; simp [go_sem]; ((repeat' (first|(refine ag_x ?_;simp [go_sem])|intro _|refine And.intro ?_ ?_|(apply hKK;clear hKK KK)));all_goals first|refine Hold.mk ?_|omega|with_reducible assumption|(simp only [InR] at *;omega)|skip))
  (refine awp_sr fun KK hKK => ?_; simp [go_sem]; ((repeat' (first|(refine ag_x ?_;simp [go_sem])|intro _|refine And.intro ?_ ?_|(apply hKK;clear hKK KK)));all_goals first|refine Hold.mk ?_|omega|with_reducible assumption|(simp only [InR] at *;omega)|skip))
  ((try refine CallT.toA ?_); refine callT_m (by first | exact .inl ⟨rfl, rfl⟩ | exact .inr rfl) (by simp [go_sem]) ?_; intro args ha; simp [go_sem] at ha; subst ha; refine ⟨_, F7, ?_⟩; rintro _ rfl; simp [go_sem]; ((repeat' (first|(refine ag_x ?_;simp [go_sem])|intro _|refine And.intro ?_ ?_|(apply hKK;clear hKK KK)));all_goals first|refine Hold.mk ?_|omega|with_reducible assumption|(simp only [InR] at *;omega)|skip))
  (refine awp_sr fun KK hKK => ?_; simp [go_sem]; ((repeat' (first|(refine ag_x ?_;simp [go_sem])|intro _|refine And.intro ?_ ?_|(apply hKK;clear hKK KK)));all_goals first|refine Hold.mk ?_|omega|with_reducible assumption|(simp only [InR] at *;omega)|skip))
  ((try refine CallT.toA ?_); refine callT_m (by first | exact .inl ⟨rfl, rfl⟩ | exact .inr rfl) (by simp [go_sem]) ?_; intro args ha; simp [go_sem] at ha; subst ha; refine ⟨_, F8, ?_⟩; rintro _ rfl; simp [go_sem]; ((repeat' (first|(refine ag_x ?_;simp [go_sem])|intro _|refine And.intro ?_ ?_|(apply hKK;clear hKK KK)));all_goals first|refine Hold.mk ?_|omega|with_reducible assumption|(simp only [InR] at *;omega)|skip))
  (refine awp_sr fun KK hKK => ?_; simp [go_sem]; ((repeat' (first|(refine ag_x ?_;simp [go_sem])|intro _|refine And.intro ?_ ?_|(apply hKK;clear hKK KK)));all_goals first|refine Hold.mk ?_|omega|with_reducible assumption|(simp only [InR] at *;omega)|skip))
  ((try refine CallT.toA ?_); refine callT_m (by first | exact .inl ⟨rfl, rfl⟩ | exact .inr rfl) (by simp [go_sem]) ?_; intro args ha; simp [go_sem] at ha; subst ha; refine ⟨_, F9, ?_⟩; rintro _ rfl; simp [go_sem]; ((repeat' (first|(refine ag_x ?_;simp [go_sem])|intro _|refine And.intro ?_ ?_|(apply hKK;clear hKK KK)));all_goals first|refine Hold.mk ?_|omega|with_reducible assumption|(simp only [InR] at *;omega)|skip))
  (refine awp_sr fun KK hKK => ?_; simp [go_sem]; ((repeat' (first|(refine ag_x ?_;simp [go_sem])|intro _|refine And.intro ?_ ?_|(apply hKK;clear hKK KK)));all_goals first|refine Hold.mk ?_|omega|with_reducible assumption|(simp only [InR] at *;omega)|skip))
  rename_i g
  refine awp_seq_k fun K1 hK1 => ?_
  (refine awp_sr fun KK hKK => ?_; simp [go_sem]; ((repeat' (first|(refine ag_x ?_;simp [go_sem])|intro _|refine And.intro ?_ ?_|(apply hKK;clear hKK KK)));all_goals first|refine Hold.mk ?_|omega|with_reducible assumption|(simp only [InR] at *;omega)|skip))
  obtain ⟨R, hR⟩ : ∃ R : List (List D), [cI 0, cI 0, cI 0, cI 0, cI 0, cI 0, cI 0, cI 0, cI 0] = R := ⟨_, rfl⟩
  have hRl : R.length = 9 := by rw [← hR]; rfl
  have hRi : ∀ i, i < 9 → R[i]? = some (cI 0) := fun i hi => by
    rw [← hR]
    match i, hi with
    | 0, _ => rfl
    | 1, _ => rfl
    | 2, _ => rfl
    | 3, _ => rfl
    | 4, _ => rfl
    | 5, _ => rfl
    | 6, _ => rfl
    | 7, _ => rfl
    | 8, _ => rfl
    | i + 9, h => omega
  refine awp_block ?_
  refine awp_loop (σ := Nat) (fun i => ⟨[(2, dB false), (3, dS a), (6, dS s1), (8, dS s1), (10, dS a), (12, dS s2), (14, dS s2), (16, dS s3), (22, dS s3), (24, .own 98 g), (25, dI i)], [(98, g, .row 26 1 R)]⟩) (fun i => i ≤ 9) (fun i => 9 - i) 0 ?_ ?_ ?_
  · rw [← hR]; (refine cov_of ?_ ?_ <;> simp [go_sem])
  · simp
  intro i hi
  refine awp_seq_k fun K2 hK2 => ?_
  (refine awp_sr fun KK hKK => ?_; simp [go_sem, hRl]; ((repeat' (first|(refine ag_x ?_;simp [go_sem, hRl])|intro _|refine And.intro ?_ ?_|(apply hKK;clear hKK KK)));all_goals first|refine Hold.mk ?_|omega|with_reducible assumption|(simp only [InR] at *;omega)|skip))
  (refine awp_if fun T F hT hF => ?_; simp [go_sem]; refine BR.intro (fun h3 => hT ?_) (fun h3 => hF ?_); all_goals clear hT hF T F; try simp at h3) 
  · refine awp_skip ?_
    refine hK2 _ ?_; clear hK2
    have hx := hRi i (by omega)
    refine awp_seq_k fun K4 hK4 => ?_
    refine awp_block ?_
    (refine awp_sr fun KK hKK => ?_; simp [go_sem, hx]; ((repeat' (first|(refine ag_x ?_;simp [go_sem, hx])|intro _|refine And.intro ?_ ?_|(apply hKK;clear hKK KK)));all_goals first|refine Hold.mk ?_|omega|with_reducible assumption|(simp only [InR] at *;omega)|skip))
    (refine awp_if fun T F hT hF => ?_; simp [go_sem]; refine hF ?_; clear hT hF T F)
    refine awp_skip ?_
    refine hK4 _ ?_; clear hK4
    (refine awp_r fun KK hKK => ?_; simp [go_sem]; ((repeat' (first|(refine ag_x ?_;simp [go_sem])|intro _|refine And.intro ?_ ?_|(apply hKK;clear hKK KK)));all_goals first|refine Hold.mk ?_|omega|with_reducible assumption|(simp only [InR] at *;omega)|skip))
    refine ⟨i + 1, ?_, by omega, by omega⟩
    (refine cov_of ?_ ?_ <;> simp [go_sem])
  · refine awp_exit ?_
    simp only [go_sem]
    refine hK1 _ ?_; clear hK1
    (refine awp_sr fun KK hKK => ?_; simp [go_sem]; ((repeat' (first|(refine ag_x ?_;simp [go_sem])|intro _|refine And.intro ?_ ?_|(apply hKK;clear hKK KK)));all_goals first|refine Hold.mk ?_|omega|with_reducible assumption|(simp only [InR] at *;omega)|skip))
    (refine agc_f (dB true) (by first | exact .inl ⟨rfl, rfl⟩ | exact .inr rfl) ?_ rfl ?_; (intro hc args ha; simp [go_sem] at ha; subst ha; exact SANE); simp [go_sem]; ((repeat' (first|(refine ag_x ?_;simp [go_sem])|intro _|refine And.intro ?_ ?_|(apply hKK;clear hKK KK)));all_goals first|refine Hold.mk ?_|omega|with_reducible assumption|(simp only [InR] at *;omega)|skip))
    (refine awp_ret ?_; simp [go_sem])
end Go.Proofs.YtglncfhcgkihbaaDoor

namespace Go.Proofs.YtglncfhcgkihbaaDoor
open Go.Eng Go.Wh
set_option maxRecDepth 20000
set_option linter.unusedSimpArgs false
set_option linter.unusedVariables false
attribute [local irreducible] AG CallA CallT AWp PCall ACall AgC
theorem bd_one : bd 1 1 := by unfold bd; decide
theorem bd_abs {m n : Int} {k : Nat} (h : m.natAbs ≤ n.natAbs) (hn : bd n k) : bd m k := Nat.lt_of_le_of_lt h hn
theorem DivI' {m n : Int} (hm : bd m 399) (hn : bd n 400) (h0 : n ≠ 0) : PCall Tryd.prog 10 [dS (Lib.itoa m), dS (Lib.itoa n)] fun r => r = .tup [dS (Lib.itoa (fq m n)), dS (Lib.itoa (fr m n)), dI 0] := by
  have hm' : bd m 400 := bd_mono hm (by decide)
  have h := Div_spec (Lib.itoa m) (Lib.itoa n) (itoa_le hm') (itoa_le hn)
  have hq : bd (fq m n) 400 := by
    have h1 := fq_abs m n
    have h2 := bd_add (m := (m.natAbs : Int)) (n := 1) (a := 399) (by unfold bd; rw [Int.natAbs_natCast]; exact hm) (bd_mono bd_one (by decide))
    exact bd_abs (by omega) h2
  have e : res3 (Lib.itoa m) (Lib.itoa n) = .tup [dS (Lib.itoa (fq m n)), dS (Lib.itoa (fr m n)), dI 0] := by
    unfold res3
    rw [ok_itoa hm', ok_itoa hn, numV_itoa, numV_itoa, if_pos (by rfl), if_neg h0, if_pos (bd_dlen hq (by decide))]
  rw [e] at h; exact h
theorem DivZ {m : Int} (hm : bd m 400) : PCall Tryd.prog 10 [dS (Lib.itoa m), dS [48]] fun r => r = .tup [dS [], dS [], dI 11] := by
  have h := Div_spec (Lib.itoa m) [48] (itoa_le hm) (by decide)
  have e : res3 (Lib.itoa m) [48] = .tup [dS [], dS [], dI 11] := by
    unfold res3
    rw [ok_itoa hm, show numOk [48] = true by decide, if_pos (by rfl), if_pos (by decide)]
  rw [e] at h; exact h
theorem CmpI {m n : Int} (hm : bd m 400) (hn : bd n 400) : PCall Tryd.prog 11 [dS (Lib.itoa m), dS (Lib.itoa n)] fun r => r = .tup [dI (cmpV m n), dI 0] := by
  have h := Compare_spec (Lib.itoa m) (Lib.itoa n) (itoa_le hm) (itoa_le hn)
  unfold resC at h
  rw [ok_itoa hm, ok_itoa hn, numV_itoa, numV_itoa, if_pos (by rfl)] at h; exact h
theorem itoa0 : Lib.itoa 0 = [48] := by rw [itoa_abs]; simp [Lib.decDigits]
theorem itoa_head (n : Int) : ∃ c t, Lib.itoa n = c :: t ∧ (c = 45 ↔ n < 0) := by
  rw [itoa_abs]
  by_cases h : n < 0
  · rw [if_pos h]; exact ⟨45, _, rfl, by simp [h]⟩
  · rw [if_neg h]
    cases hd : Lib.decDigits n.natAbs with
    | nil => exact absurd hd (decDigits_ne _)
    | cons c t =>
      refine ⟨c, t, rfl, ?_⟩
      have h2 := not_minus (u := n.natAbs)
      rw [hd] at h2
      simp at h2
      simp [h2, h]
set_option maxHeartbeats 8000000 in
theorem floor_spec (SANE : PCall Tryd.prog 9 [] fun r => r = dB true) (A B : List Int) (hA : inr64 A) (hB : inr64 B) : PCall Tryd.prog 4 [dIs A, dIs B] fun r => r = dB true := by 
  refine pcall_of Tryd.func4 rfl rfl Tryd.ntmps4 (rs := [.tmp 4]) (tys := [4]) rfl rfl (by simp) ?_
  have M1 : PCall Tryd.prog 5 [dIs A, dI 150] fun r => ∃ n, r = dS (Lib.itoa n) ∧ bd n 150 := MadeI' A 150 hA (by decide) (by decide)
  have M2 : PCall Tryd.prog 5 [dIs B, dI 80] fun r => ∃ n, r = dS (Lib.itoa n) ∧ bd n 80 := MadeI' B 80 hB (by decide) (by decide)
  (refine awp_sr fun KK hKK => ?_; simp [go_sem]; ((repeat' (first|(refine ag_x ?_;simp [go_sem])|intro _|refine And.intro ?_ ?_|(apply hKK;clear hKK KK)));all_goals first|refine Hold.mk ?_|omega|with_reducible assumption|(simp only [InR] at *;omega)|skip))
  (refine awp_sr fun KK hKK => ?_; simp [go_sem]; ((repeat' (first|(refine ag_x ?_;simp [go_sem])|intro _|refine And.intro ?_ ?_|(apply hKK;clear hKK KK)));all_goals first|refine Hold.mk ?_|omega|with_reducible assumption|(simp only [InR] at *;omega)|skip))
  ((try refine CallT.toA ?_); refine callT_m (by first | exact .inl ⟨rfl, rfl⟩ | exact .inr rfl) (by simp [go_sem]) ?_; intro args ha; simp [go_sem] at ha; subst ha; refine ⟨_, M1, ?_⟩; rintro _ ⟨m, rfl, bm⟩; simp [go_sem]; ((repeat' (first|(refine ag_x ?_;simp [go_sem])|intro _|refine And.intro ?_ ?_|(apply hKK;clear hKK KK)));all_goals first|refine Hold.mk ?_|omega|with_reducible assumption|(simp only [InR] at *;omega)|skip))
  (refine awp_sr fun KK hKK => ?_; simp [go_sem]; ((repeat' (first|(refine ag_x ?_;simp [go_sem])|intro _|refine And.intro ?_ ?_|(apply hKK;clear hKK KK)));all_goals first|refine Hold.mk ?_|omega|with_reducible assumption|(simp only [InR] at *;omega)|skip))
  ((try refine CallT.toA ?_); refine callT_m (by first | exact .inl ⟨rfl, rfl⟩ | exact .inr rfl) (by simp [go_sem]) ?_; intro args ha; simp [go_sem] at ha; subst ha; refine ⟨_, M2, ?_⟩; rintro _ ⟨n, rfl, bn⟩; simp [go_sem]; ((repeat' (first|(refine ag_x ?_;simp [go_sem])|intro _|refine And.intro ?_ ?_|(apply hKK;clear hKK KK)));all_goals first|refine Hold.mk ?_|omega|with_reducible assumption|(simp only [InR] at *;omega)|skip))
  by_cases hn : n = 0
  · subst hn
    rw [itoa0]
    have DZ := DivZ (bd_mono bm (by decide : 150 ≤ 400))
    generalize Lib.itoa m = a at *
    (refine awp_sr fun KK hKK => ?_; simp [go_sem]; ((repeat' (first|(refine ag_x ?_;simp [go_sem])|intro _|refine And.intro ?_ ?_|(apply hKK;clear hKK KK)));all_goals first|refine Hold.mk ?_|omega|with_reducible assumption|(simp only [InR] at *;omega)|skip))
    ((try refine CallT.toA ?_); refine callT_m (by first | exact .inl ⟨rfl, rfl⟩ | exact .inr rfl) (by simp [go_sem]) ?_; intro args ha; simp [go_sem] at ha; subst ha; refine ⟨_, DZ, ?_⟩; rintro _ rfl; simp [go_sem]; ((repeat' (first|(refine ag_x ?_;simp [go_sem])|intro _|refine And.intro ?_ ?_|(apply hKK;clear hKK KK)));all_goals first|refine Hold.mk ?_|omega|with_reducible assumption|(simp only [InR] at *;omega)|skip))
    refine awp_seq_k fun K1 hK1 => ?_
    (refine awp_sr fun KK hKK => ?_; simp [go_sem]; ((repeat' (first|(refine ag_x ?_;simp [go_sem])|intro _|refine And.intro ?_ ?_|(apply hKK;clear hKK KK)));all_goals first|refine Hold.mk ?_|omega|with_reducible assumption|(simp only [InR] at *;omega)|skip))
    (refine awp_if fun T F hT hF => ?_; simp [go_sem]; refine hT ?_; clear hT hF T F)
    (refine awp_sr fun KK hKK => ?_; simp [go_sem]; ((repeat' (first|(refine ag_x ?_;simp [go_sem])|intro _|refine And.intro ?_ ?_|(apply hKK;clear hKK KK)));all_goals first|refine Hold.mk ?_|omega|with_reducible assumption|(simp only [InR] at *;omega)|skip))
    (refine agc_f (dB true) (by first | exact .inl ⟨rfl, rfl⟩ | exact .inr rfl) ?_ rfl ?_; (intro hc args ha; simp [go_sem] at ha; subst ha; exact SANE); simp [go_sem]; ((repeat' (first|(refine ag_x ?_;simp [go_sem])|intro _|refine And.intro ?_ ?_|(apply hKK;clear hKK KK)));all_goals first|refine Hold.mk ?_|omega|with_reducible assumption|(simp only [InR] at *;omega)|skip))
    (refine awp_ret ?_; simp [go_sem])
  · have bq : bd (fq m n) 151 := by
      have h1 := fq_abs m n
      have h2 := bd_add (m := (m.natAbs : Int)) (n := 1) (a := 150) (by unfold bd; rw [Int.natAbs_natCast]; exact bm) (bd_mono bd_one (by decide))
      exact bd_abs (by omega) h2
    have bfr : bd (fr m n) 80 := bd_abs (Nat.le_of_lt (fr_abs hn)) bn
    have hb := fr_bound (a := m) hn
    have hqr := fq_fr m n
    have F1 := DivI' (bd_mono bm (by decide)) (bd_mono bn (by decide)) hn
    have bqn := bd_mul bq bn
    have F2 := MulI' (m := fq m n) (n := n) (bd_mono bq (by decide)) (bd_mono bn (by decide)) (bd_mono bqn (by decide))
    have F3 := AddI (m := fq m n * n) (n := fr m n) (bd_mono bqn (by decide)) (bd_mono bfr (by decide)) (by rw [hqr]; exact bd_mono bm (by decide))
    have F4 := CmpI (m := fr m n) (n := n) (bd_mono bfr (by decide)) (bd_mono bn (by decide))
    have F5 := CmpI (m := fr m n) (n := 0) (bd_mono bfr (by decide)) (bd_mono (show bd 0 1 by unfold bd; decide) (by decide))
    rw [hqr] at F3
    rw [itoa0] at F5
    obtain ⟨c, t, hct, hc⟩ := itoa_head n
    have hne : Lib.itoa n ≠ [48] := fun h => hn (by have := congrArg numV h; rw [numV_itoa] at this; rw [this]; decide)
    have hc4 : cmpV (fr m n) n = if n < 0 then 1 else -1 := by
      unfold cmpV sgn
      rcases Int.lt_or_gt_of_ne hn with h | h
      · have := hb.2 h; rw [if_pos h, if_neg (by omega), if_pos (by omega)]
      · have := hb.1 h; rw [if_pos (show fr m n - n < 0 by omega), if_neg (show ¬ n < 0 by omega)]
    have hc5 : (n < 0 → cmpV (fr m n) 0 ≤ 0) ∧ (¬ n < 0 → 0 ≤ cmpV (fr m n) 0) := by
      unfold cmpV sgn
      constructor
      · intro h; have := hb.2 h; split
        · decide
        · rw [if_neg (by omega)]; decide
      · intro h; have := hb.1 (by omega); rw [if_neg (by omega)]; split <;> decide
    rw [hct] at hne ⊢
    rw [hct] at F1 F2 F4
    generalize Lib.itoa (fq m n * n) = s1 at *
    generalize Lib.itoa (fq m n) = s2 at *
    generalize Lib.itoa (fr m n) = s3 at *
    generalize Lib.itoa m = a at *
    generalize cmpV (fr m n) n = x4 at *
    generalize cmpV (fr m n) 0 = x5 at *
    have hct2 : ¬ (c = 48 ∧ t = []) := fun h => hne (by rw [h.1, h.2])
    (refine awp_sr fun KK hKK => ?_; simp [go_sem]; ((repeat' (first|(refine ag_x ?_;simp [go_sem])|intro _|refine And.intro ?_ ?_|(apply hKK;clear hKK KK)));all_goals first|refine Hold.mk ?_|omega|with_reducible assumption|(simp only [InR] at *;omega)|skip))
    ((try refine CallT.toA ?_); refine callT_m (by first | exact .inl ⟨rfl, rfl⟩ | exact .inr rfl) (by simp [go_sem]) ?_; intro args ha; simp [go_sem] at ha; subst ha; refine ⟨_, F1, ?_⟩; rintro _ rfl; simp [go_sem]; ((repeat' (first|(refine ag_x ?_;simp [go_sem])|intro _|refine And.intro ?_ ?_|(apply hKK;clear hKK KK)));all_goals first|refine Hold.mk ?_|omega|with_reducible assumption|(simp only [InR] at *;omega)|skip))
    refine awp_seq_k fun K1 hK1 => ?_
    (refine awp_sr fun KK hKK => ?_; simp [go_sem]; ((repeat' (first|(refine ag_x ?_;simp [go_sem])|intro _|refine And.intro ?_ ?_|(apply hKK;clear hKK KK)));all_goals first|refine Hold.mk ?_|omega|with_reducible assumption|(simp only [InR] at *;omega)|skip))
    refine awp_if fun T F hT hF => ?_
    simp [go_sem]
    refine BR.intro (fun h => absurd h (by simpa using hct2)) (fun _ => hF ?_)
    clear hT hF T F
    refine awp_skip ?_
    refine hK1 _ ?_; clear hK1
    (refine awp_sr fun KK hKK => ?_; simp [go_sem]; ((repeat' (first|(refine ag_x ?_;simp [go_sem])|intro _|refine And.intro ?_ ?_|(apply hKK;clear hKK KK)));all_goals first|refine Hold.mk ?_|omega|with_reducible assumption|(simp only [InR] at *;omega)|skip))
    ((try refine CallT.toA ?_); refine callT_m (by first | exact .inl ⟨rfl, rfl⟩ | exact .inr rfl) (by simp [go_sem]) ?_; intro args ha; simp [go_sem] at ha; subst ha; refine ⟨_, F2, ?_⟩; rintro _ rfl; simp [go_sem]; ((repeat' (first|(refine ag_x ?_;simp [go_sem])|intro _|refine And.intro ?_ ?_|(apply hKK;clear hKK KK)));all_goals first|refine Hold.mk ?_|omega|with_reducible assumption|(simp only [InR] at *;omega)|skip))
    (refine awp_sr fun KK hKK => ?_; simp [go_sem]; ((repeat' (first|(refine ag_x ?_;simp [go_sem])|intro _|refine And.intro ?_ ?_|(apply hKK;clear hKK KK)));all_goals first|refine Hold.mk ?_|omega|with_reducible assumption|(simp only [InR] at *;omega)|skip))
    ((try refine CallT.toA ?_); refine callT_m (by first | exact .inl ⟨rfl, rfl⟩ | exact .inr rfl) (by simp [go_sem]) ?_; intro args ha; simp [go_sem] at ha; subst ha; refine ⟨_, F3, ?_⟩; rintro _ rfl; simp [go_sem]; ((repeat' (first|(refine ag_x ?_;simp [go_sem])|intro _|refine And.intro ?_ ?_|(apply hKK;clear hKK KK)));all_goals first|refine Hold.mk ?_|omega|with_reducible assumption|(simp only [InR] at *;omega)|skip))
    (refine awp_sr fun KK hKK => ?_; simp [go_sem]; ((repeat' (first|(refine ag_x ?_;simp [go_sem])|intro _|refine And.intro ?_ ?_|(apply hKK;clear hKK KK)));all_goals first|refine Hold.mk ?_|omega|with_reducible assumption|(simp only [InR] at *;omega)|skip))
    ((try refine CallT.toA ?_); refine callT_m (by first | exact .inl ⟨rfl, rfl⟩ | exact .inr rfl) (by simp [go_sem]) ?_; intro args ha; simp [go_sem] at ha; subst ha; refine ⟨_, F4, ?_⟩; rintro _ rfl; simp [go_sem]; ((repeat' (first|(refine ag_x ?_;simp [go_sem])|intro _|refine And.intro ?_ ?_|(apply hKK;clear hKK KK)));all_goals first|refine Hold.mk ?_|omega|with_reducible assumption|(simp only [InR] at *;omega)|skip))
    (refine awp_sr fun KK hKK => ?_; simp [go_sem]; ((repeat' (first|(refine ag_x ?_;simp [go_sem])|intro _|refine And.intro ?_ ?_|(apply hKK;clear hKK KK)));all_goals first|refine Hold.mk ?_|omega|with_reducible assumption|(simp only [InR] at *;omega)|skip))
    ((try refine CallT.toA ?_); refine callT_m (by first | exact .inl ⟨rfl, rfl⟩ | exact .inr rfl) (by simp [go_sem]) ?_; intro args ha; simp [go_sem] at ha; subst ha; refine ⟨_, F5, ?_⟩; rintro _ rfl; simp [go_sem]; ((repeat' (first|(refine ag_x ?_;simp [go_sem])|intro _|refine And.intro ?_ ?_|(apply hKK;clear hKK KK)));all_goals first|refine Hold.mk ?_|omega|with_reducible assumption|(simp only [InR] at *;omega)|skip))
    refine awp_seq_k fun K2 hK2 => ?_
    (refine awp_sr fun KK hKK => ?_; simp [go_sem]; ((repeat' (first|(refine ag_x ?_;simp [go_sem])|intro _|refine And.intro ?_ ?_|(apply hKK;clear hKK KK)));all_goals first|refine Hold.mk ?_|omega|with_reducible assumption|(simp only [InR] at *;omega)|skip))
    (refine awp_if fun T F hT hF => ?_; simp [go_sem]; refine hF ?_; clear hT hF T F)
    refine awp_skip ?_
    refine hK2 _ ?_; clear hK2
    refine awp_seq_k fun K3 hK3 => ?_
    (refine awp_sr fun KK hKK => ?_; simp [go_sem]; ((repeat' (first|(refine ag_x ?_;simp [go_sem])|intro _|refine And.intro ?_ ?_|(apply hKK;clear hKK KK)));all_goals first|refine Hold.mk ?_|omega|with_reducible assumption|(simp only [InR] at *;omega)|skip))
    have hc2 : ((c.toNat : Int) = 45) ↔ n < 0 := by
      rw [← hc]
      exact ⟨fun h => UInt8.toNat_inj.1 (by have : c.toNat = 45 := by exact_mod_cast h
                                            rw [this]; rfl), fun h => by rw [h]; rfl⟩
    (refine awp_if fun T F hT hF => ?_; simp [go_sem]; refine BR.intro (fun h6 => hT ?_) (fun h6 => hF ?_); all_goals clear hT hF T F; try simp at h6) 
    · have hn0 := hc2.1 h6
      rw [if_pos hn0] at hc4
      have hx5 := hc5.1 hn0
      subst hc4
      (refine awp_sr fun KK hKK => ?_; simp [go_sem]; ((repeat' (first|(refine ag_x ?_;simp [go_sem])|intro _|refine And.intro ?_ ?_|(apply hKK;clear hKK KK)));all_goals first|refine Hold.mk ?_|omega|with_reducible assumption|(simp only [InR] at *;omega)|skip))
      (refine agc_f (dB true) (by first | exact .inl ⟨rfl, rfl⟩ | exact .inr rfl) ?_ rfl ?_; (intro hc args ha; simp [go_sem] at ha; subst ha; exact SANE); simp [go_sem]; ((repeat' (first|(refine ag_x ?_;simp [go_sem])|intro _|refine And.intro ?_ ?_|(apply hKK;clear hKK KK)));all_goals first|refine Hold.mk ?_|omega|with_reducible assumption|(simp only [InR] at *;omega)|skip))
      (refine awp_ret ?_; simp [go_sem, hx5])
    · refine awp_skip ?_
      refine hK3 _ ?_; clear hK3
      have hn0 : ¬ n < 0 := fun h => h6 (hc2.2 h)
      rw [if_neg hn0] at hc4
      have hx5 := hc5.2 hn0
      subst hc4
      (refine awp_sr fun KK hKK => ?_; simp [go_sem]; ((repeat' (first|(refine ag_x ?_;simp [go_sem])|intro _|refine And.intro ?_ ?_|(apply hKK;clear hKK KK)));all_goals first|refine Hold.mk ?_|omega|with_reducible assumption|(simp only [InR] at *;omega)|skip))
      (refine agc_f (dB true) (by first | exact .inl ⟨rfl, rfl⟩ | exact .inr rfl) ?_ rfl ?_; (intro hc args ha; simp [go_sem] at ha; subst ha; exact SANE); simp [go_sem]; ((repeat' (first|(refine ag_x ?_;simp [go_sem])|intro _|refine And.intro ?_ ?_|(apply hKK;clear hKK KK)));all_goals first|refine Hold.mk ?_|omega|with_reducible assumption|(simp only [InR] at *;omega)|skip))
      (refine awp_ret ?_; simp [go_sem, hx5])
end Go.Proofs.YtglncfhcgkihbaaDoor

namespace Go.Proofs.YtglncfhcgkihbaaDoor
open Go.Eng Go.Wh
set_option maxRecDepth 20000
theorem rat23 : ratV [50, 47, 51] = some (2, 3) := by decide
theorem dec23 : PCall Tryd.prog 19 [dS [50, 47, 51], dI 2] fun r => r = .tup [dS [48, 46, 54, 55], dI 0] := by
  have h := Decimal_ok [50, 47, 51] 2 (by decide) (by decide) rat23 (by decide) (sz_of_dlen (k := 45) (by unfold dlen; simp [Lib.decDigits])) (sz_of_dlen (k := 45) (by unfold dlen; simp [Lib.decDigits]))
  have e : decS 2 3 2 = [48, 46, 54, 55] := by
    unfold decS
    rw [show ((2 : Int).natAbs * 10 ^ 2 * 2 + (3 : Int).natAbs) / ((3 : Int).natAbs * 2) = 67 by decide]
    have e1 : Lib.decDigits 67 = [54, 55] := by
      rw [Lib.decDigits, dif_neg (by decide), show 67 / 10 = 6 by decide, Lib.decDigits, dif_pos (by decide)]; rfl
    rw [e1]
    rfl
  rw [e] at h; exact h
theorem sane_ok : PCall Tryd.prog 9 [] fun r => r = dB true := sane_spec dec23
theorem laws_ok (A B C : List Int) (hA : inr64 A) (hB : inr64 B) (hC : inr64 C) : PCall Tryd.prog 3 [.agg [dIs A, dIs B, dIs C]] fun r => r = dB true := laws_spec sane_ok A B C hA hB hC
theorem floor_ok (A B : List Int) (hA : inr64 A) (hB : inr64 B) : PCall Tryd.prog 4 [dIs A, dIs B] fun r => r = dB true := floor_spec sane_ok A B hA hB
end Go.Proofs.YtglncfhcgkihbaaDoor

namespace Go.Proofs.YtglncfhcgkihbaaDoor
open Go.Eng Go.WideShapes Go.Wh
set_option maxRecDepth 100000
theorem own : ownKnob Tryd.prog.godebug = none := by kernel_rfl
theorem laidOut : laidOutB Tryd.prog = true := by kernel_rfl

/-! the types of the laws' parameters -/
theorem op_int : Opens Tryd.prog 3 (fun n : Int => cI n) InR := opens_int Tryd.underlying3
theorem op_ints : Opens Tryd.prog 22 (fun l : List Int => [dIs l]) (fun l => l.length ≤ maxLen ∧ ∀ x ∈ l, InR x) := opens_slice 1 Tryd.underlying22 (by kernel_rfl) (by decide) (fun _ => rfl) op_int
theorem op_tri : Opens Tryd.prog 24 (fun x : List Int × List Int × List Int => [dIs x.1, dIs x.2.1, dIs x.2.2]) (fun x => (∀ n ∈ x.1, InR n) ∧ (∀ n ∈ x.2.1, InR n) ∧ ∀ n ∈ x.2.2, InR n) := by
  have h := opens_struct (e := 3) Tryd.underlying24 rfl (by kernel_rfl) (opensS_cons (n := 1) rfl (by kernel_rfl) op_ints (opensS_cons (n := 1) rfl (by kernel_rfl) op_ints (opensS_cons (n := 1) rfl (by kernel_rfl) op_ints opensS_nil)))
  exact h.iso (fun x => ⟨x.1, x.2.1, x.2.2.1⟩) (fun _ => rfl) (fun _ q => ⟨q.1.2, q.2.1.2, q.2.2.1.2⟩)
theorem ov_tri : OpensV Tryd.prog 24 (fun x : List Int × List Int × List Int => .agg [dIs x.1, dIs x.2.1, dIs x.2.2]) (fun x => (∀ n ∈ x.1, InR n) ∧ (∀ n ∈ x.2.1, InR n) ∧ ∀ n ∈ x.2.2, InR n) := opensV_agg Tryd.underlying24 op_tri
theorem ov_ints : OpensV Tryd.prog 22 (fun l : List Int => dIs l) (fun l => l.length ≤ maxLen ∧ ∀ x ∈ l, InR x) := opensV_cell (by rw [Tryd.underlying22]; rfl) op_ints
theorem inr64_of {l : List Int} (h : ∀ x ∈ l, InR x) : inr64 l := fun n hn => h n hn

/-! what is listed of the package-level variables -/
theorem pow_data : (Rows.laid_internal_strconv_uint64pow10 : DataW Unit) = Lib.tabData .u64 Lib.pow10Tab := by kernel_rfl
theorem globOk_of {W : World} (hL : laidMetH Tryd.prog Rows.wholeLawsRow.laid W) (hsh : W.ShapedOpen Tryd.prog) : GlobOk Tryd.prog noCtx W := by
  have hlt : ∀ b v, W.cell? ⟨b, 0, none⟩ = some v → b < W.heap.size := fun b v h => cell_lt h
  rw [MakeChecks.laidMetH_plain _ _ _ (by kernel_rfl)] at hL
  have h2 := laidMet.tail (laidMet.tail hL)
  have hp : Lib.TabIs Tryd.prog W "internal/strconv.uint64pow10" .u64 Lib.pow10Tab := by
    have h2' : laidMet Tryd.prog (("internal/strconv.uint64pow10", (Rows.laid_internal_strconv_uint64pow10 : DataW Unit)) :: Rows.wholeLawsRow.laid.tail.tail.tail) W := h2
    rw [pow_data] at h2'
    exact Lib.tabIs_of_head gn_pow (by kernel_rfl) (t := 119) (e := 102) (n := 20) (by kernel_rfl) (by kernel_rfl) (by kernel_rfl) (by kernel_rfl) h2'
  obtain ⟨m, hm⟩ := cell_of_shapedOpen_int (g := 1) (t := 3) (zero := #[.int .i64 0]) hsh (by decide +kernel) (by kernel_rfl) rfl (by kernel_rfl) (by kernel_rfl) Tryd.underlying3
  refine ⟨⟨hp, ⟨m, hm⟩⟩, fun b hb => ⟨(fun ⟨s, g, u, h, _⟩ => by cases h), ?_⟩⟩
  have hb' : b = 0 ∨ b = 1 := by
    have : b ∈ [0, 1] := hb
    simpa using this
  rcases hb' with rfl | rfl
  · exact hlt _ _ (hp.cell gn_pow 0 (by decide))
  · exact hlt _ _ hm
/-- the wrap for a row that lists variables, the world's shape handed over -/
theorem wrap {H : Type} {enc : TypeId × Value → H} {a : Assume} {C : Checked} {os : Os} {f : FuncId} {fn : Func} {s : ChangeSpec} {conds : List PathCond} {apart fresh handsOn again : Bool} {X : World → Array Value → Prop}
    (hX : ∀ (w w' : World) (args : Array Value), w.heap = w'.heap → X w args → X w' args)
    (own : ownKnob C.prog.godebug = none) (started : os.Started) (noInit : C.prog.inits.idxOf? f = none) (hfn : C.prog.funcs[f]? = some fn)
    (witness : ∃ (w : World) (tape : Tape) (i : Input), w.os = os ∧ (w.forCall tape i).Shaped C.prog ∧ i.vars = [] ∧ Input.okWide C.prog (w.forCall tape i) .any w.heap.size f i ∧
      ((s.pre enc C.prog fn conds apart (w.forCall tape i).memory i.args ∧ X (w.forCall tape i).memory i.args) ∧ sizedMet enc C.prog fn (OpenSpec.ofChange s) apart (w.forCall tape i).memory i.args) ∧ a.holds C.prog (lone (Frame.enter C.prog f i.args .normal) [] (w.forCall tape i)))
    (contract : ∀ (W : World) (base : Nat) (args : Array Value) (ds gs : List (DataW H)) (before : List MemPlace),
      (∀ (j : Nat) t v, fn.params[j]? = some t → args[j]? = some v → Value.okWide C.prog W .any base t v) →
      DataW.Whole enc C.prog fn.params.toList s.vars apart W args.toList ds gs before → X W args → W.ShapedOpen C.prog →
      Calls C.prog f args W fun e W' => ∃ v, e = .returned v ∧ s.post enc C.prog fn apart fresh handsOn again W args v W') :
    ReturnsInHanded a C os f .any (fun w args => (s.pre enc C.prog fn conds apart w args ∧ X w args) ∧ sizedMet enc C.prog fn (OpenSpec.ofChange s) apart w args) (s.post enc C.prog fn apart fresh handsOn again) := by
  refine returnsInHanded_of_calls own started noInit witness ?_
  intro w tape i _ hsh _ hok hpre hholds
  obtain ⟨_, _, _, fn', hfn', _, _, _, _, hval⟩ := hok
  have e : fn' = fn := Option.some.inj (hfn'.symm.trans hfn)
  subst e
  obtain ⟨⟨⟨ds, gs, before, hw, hc⟩, hx⟩, hz⟩ := hpre
  have hw' := DataW.Whole.of_heap (w' := w.forCall tape i) (by rfl) hw
  refine (contract (w.forCall tape i) w.heap.size i.args ds gs before hval hw' (hX _ _ _ (by rfl) hx) hsh).mono fun e W' ⟨v, he, hp⟩ => ?_
  subst he
  exact ChangeSpec.post_blind hp
end Go.Proofs.YtglncfhcgkihbaaDoor
