/- Part of a proof: see the last text. -/
import Derived.Test.YtglncfhcgkihbaaGreatDoorF00
import Derived.Test.YtglncfhcgkihbaaGreatDoorF01
import Derived.Test.YtglncfhcgkihbaaGreatDoorF02
set_option linter.unusedVariables false
set_option linter.unusedSimpArgs false
namespace Go.Proofs.YtglncfhcgkihbaaGreatDoor
open Go.Eng Go.Wh
set_option maxRecDepth 20000
set_option linter.unusedSimpArgs false
set_option linter.unusedVariables false
attribute [local irreducible] AG CallA CallT AWp PCall ACall AgC
/-- the digits of a number, the sign taken off -/
def okB (s : List UInt8) : Bool := decide (s ≠ []) && decide (s.length ≤ 400) && !(decide (1 < s.length) && decide (s.head? = some 48)) && s.all isD
theorem numOk_minus (d : UInt8) (t : List UInt8) : numOk (45 :: d :: t) = if d = 48 then false else okB (d :: t) := by
  unfold numOk okB
  rw [show body (45 :: d :: t) = d :: t from rfl]
  by_cases h : d = 48 <;> simp [h]
theorem numOk_plain {s : List UInt8} (h : s.head? ≠ some 45) : numOk s = okB s := by
  have hb : body s = s := by unfold body; rw [if_neg h]
  unfold numOk okB
  rw [hb]
  congr 1
  congr 1
  cases s with
  | nil => rfl
  | cons c t =>
    by_cases hc : c = 48
    · subst hc
      cases t with
      | nil => rfl
      | cons d t => simp
    · simp [hc]
theorem isD_iff (c : UInt8) : isD c = true ↔ 48 ≤ (c.toNat : Int) ∧ (c.toNat : Int) ≤ 57 := by
  unfold isD; simp; omega
set_option maxHeartbeats 4000000 in
theorem rvalid_spec (a : List UInt8) (hl : a.length ≤ 1000000000) : PCall Tryz.prog 56 [dS a] fun r => r = dB (numOk a) := by 
  refine pcall_of Tryz.func56 rfl rfl Tryz.ntmps56 (rs := [.tmp 2]) (tys := [4]) rfl rfl (by simp) ?_
  (refine awp_sr fun KK hKK => ?_; simp [go_sem]; ((repeat' (first|(refine ag_x ?_;simp [go_sem])|intro _|refine And.intro ?_ ?_|(apply hKK;clear hKK KK)));all_goals first|refine Hold.mk ?_|omega|with_reducible assumption|(simp only [InR] at *;omega)|skip))
  (refine awp_sr fun KK hKK => ?_; simp [go_sem]; ((repeat' (first|(refine ag_x ?_;simp [go_sem])|intro _|refine And.intro ?_ ?_|(apply hKK;clear hKK KK)));all_goals first|refine Hold.mk ?_|omega|with_reducible assumption|(simp only [InR] at *;omega)|skip))
  refine awp_seq_k fun K1 hK1 => ?_
  have tl1 : ∀ S' s, s.length ≤ 1000000000 → okB s = numOk a → Cov S' ⟨[(3, dS s)], []⟩ → K1 S' := fun S' s hsl hok hS => by
    refine hK1 _ ?_; clear hK1
    refine awp_cov hS ?_; clear hS
    rw [← hok]
    refine awp_seq_k fun K2 hK2 => ?_
    cases s with
    | nil =>
      (refine awp_sr fun KK hKK => ?_; simp [go_sem]; ((repeat' (first|(refine ag_false (by simp [go_sem, undef]) (by simp [go_sem]) ?_;simp [go_sem])|intro _|refine And.intro ?_ ?_|(apply hKK;clear hKK KK)));all_goals first|refine Hold.mk ?_|omega|with_reducible assumption|(simp only [InR] at *;omega)|skip))
      (refine awp_if fun T F hT hF => ?_; simp [go_sem]; refine hT ?_; clear hT hF T F)
      (refine awp_sr fun KK hKK => ?_; simp [go_sem]; ((repeat' (first|(refine ag_x ?_;simp [go_sem])|intro _|refine And.intro ?_ ?_|(apply hKK;clear hKK KK)));all_goals first|refine Hold.mk ?_|omega|with_reducible assumption|(simp only [InR] at *;omega)|skip))
      (refine awp_ret ?_; simp [go_sem, okB])
    | cons c t =>
      have hc48 : (c.toNat : Int) = 48 ↔ c = 48 := ⟨fun h => UInt8.toNat_inj.1 (by simpa using (by exact_mod_cast h : c.toNat = 48)), fun h => by rw [h]; rfl⟩
      (refine awp_sr fun KK hKK => ?_; simp [go_sem]; ((repeat' (first|(refine ag_x ?_;simp [go_sem])|intro _|refine And.intro ?_ ?_|(apply hKK;clear hKK KK)));all_goals first|refine Hold.mk ?_|omega|with_reducible assumption|(simp only [InR] at *;omega)|skip))
      (refine awp_if fun T F hT hF => ?_; simp [go_sem]; refine BR.intro (fun h3 => hT ?_) (fun h3 => hF ?_); all_goals clear hT hF T F; try simp at h3) 
      · (refine awp_sr fun KK hKK => ?_; simp [go_sem]; ((repeat' (first|(refine ag_x ?_;simp [go_sem])|intro _|refine And.intro ?_ ?_|(apply hKK;clear hKK KK)));all_goals first|refine Hold.mk ?_|omega|with_reducible assumption|(simp only [InR] at *;omega)|skip))
        (refine awp_ret ?_; simp [go_sem])
        unfold okB
        rcases h3 with h3 | h3
        · have : ¬ ((c :: t).length ≤ 400) := by simp; omega
          simp only [this, decide_false, Bool.and_false, Bool.false_and]
        · have h1 : 1 < (c :: t).length := by simp; omega
          have h2 : (c :: t).head? = some 48 := by rw [List.head?_cons, hc48.1 (by omega)]
          simp only [h1, h2, decide_true, Bool.and_true, Bool.not_true, Bool.and_false, Bool.false_and]
      · refine awp_skip ?_
        refine hK2 _ ?_; clear hK2
        have e : okB (c :: t) = (c :: t).all isD := by
          unfold okB
          have h1 : (c :: t).length ≤ 400 := by simp; omega
          have h2 : ¬ (1 < (c :: t).length ∧ (c :: t).head? = some 48) := fun h => by
            have h4 : c = 48 := by simpa using h.2
            have h5 := h.1
            simp at h5
            have := hc48.2 h4
            omega
          have h3 : (decide (1 < (c :: t).length) && decide ((c :: t).head? = some 48)) = false := by simpa using h2
          simp only [h1, h3, ne_eq, reduceCtorEq, not_false_eq_true, decide_true, Bool.and_true, Bool.not_false, Bool.true_and]
        rw [e]
        generalize (c :: t) = s at *
        clear e
        refine awp_seq_k fun K4 hK4 => ?_
        (refine awp_sr fun KK hKK => ?_; simp [go_sem]; ((repeat' (first|(refine ag_x ?_;simp [go_sem])|intro _|refine And.intro ?_ ?_|(apply hKK;clear hKK KK)));all_goals first|refine Hold.mk ?_|omega|with_reducible assumption|(simp only [InR] at *;omega)|skip))
        refine awp_block ?_
        refine awp_loop (σ := Nat) (fun i => ⟨[(3, dS s), (4, dI i)], []⟩) (fun i => i ≤ s.length ∧ (s.take i).all isD = true) (fun i => s.length - i) 0 ?_ ?_ ?_
        · (refine cov_of ?_ ?_ <;> simp [go_sem])
        · simp
        rintro i ⟨hi, ha⟩
        refine awp_seq_k fun K5 hK5 => ?_
        (refine awp_sr fun KK hKK => ?_; simp [go_sem]; ((repeat' (first|(refine ag_x ?_;simp [go_sem])|intro _|refine And.intro ?_ ?_|(apply hKK;clear hKK KK)));all_goals first|refine Hold.mk ?_|omega|with_reducible assumption|(simp only [InR] at *;omega)|skip))
        (refine awp_if fun T F hT hF => ?_; simp [go_sem]; refine BR.intro (fun h6 => hT ?_) (fun h6 => hF ?_); all_goals clear hT hF T F; try simp at h6) 
        · refine awp_skip ?_
          refine hK5 _ ?_; clear hK5
          obtain ⟨d, hd⟩ : ∃ d, s[i]? = some d := ⟨_, List.getElem?_eq_getElem h6⟩
          refine awp_seq_k fun K7 hK7 => ?_
          refine awp_block ?_
          (refine awp_sr fun KK hKK => ?_; simp [go_sem, hd]; ((repeat' (first|(refine ag_x ?_;simp [go_sem, hd])|intro _|refine And.intro ?_ ?_|(apply hKK;clear hKK KK)));all_goals first|refine Hold.mk ?_|omega|with_reducible assumption|(simp only [InR] at *;omega)|skip))
          (refine awp_if fun T F hT hF => ?_; simp [go_sem]; refine BR.intro (fun h8 => hT ?_) (fun h8 => hF ?_); all_goals clear hT hF T F; try simp at h8) 
          · (refine awp_sr fun KK hKK => ?_; simp [go_sem]; ((repeat' (first|(refine ag_x ?_;simp [go_sem])|intro _|refine And.intro ?_ ?_|(apply hKK;clear hKK KK)));all_goals first|refine Hold.mk ?_|omega|with_reducible assumption|(simp only [InR] at *;omega)|skip))
            (refine awp_ret ?_; simp [go_sem])
            have hnd : ¬ isD d = true := fun h => by have := (isD_iff d).1 h; omega
            exact ⟨d, List.mem_of_getElem? hd, by simpa using hnd⟩
          · refine awp_skip ?_
            refine hK7 _ ?_; clear hK7
            (refine awp_r fun KK hKK => ?_; simp [go_sem]; ((repeat' (first|(refine ag_x ?_;simp [go_sem])|intro _|refine And.intro ?_ ?_|(apply hKK;clear hKK KK)));all_goals first|refine Hold.mk ?_|omega|with_reducible assumption|(simp only [InR] at *;omega)|skip))
            refine ⟨i + 1, ?_, ⟨h6, ?_⟩, by omega⟩
            · (refine cov_of ?_ ?_ <;> simp [go_sem])
            · rw [List.take_add_one, hd, List.all_append, ha]
              have : isD d = true := (isD_iff d).2 (by omega)
              simp [this]
        · refine awp_exit ?_
          simp only [go_sem]
          refine hK4 _ ?_; clear hK4
          have : i = s.length := by omega
          subst this
          rw [List.take_length] at ha
          (refine awp_sr fun KK hKK => ?_; simp [go_sem]; ((repeat' (first|(refine ag_x ?_;simp [go_sem])|intro _|refine And.intro ?_ ?_|(apply hKK;clear hKK KK)));all_goals first|refine Hold.mk ?_|omega|with_reducible assumption|(simp only [InR] at *;omega)|skip))
          (refine awp_ret ?_; simp [go_sem])
          exact fun x hx => List.all_eq_true.1 ha x hx
  clear hK1
  cases a with
  | nil =>
    (refine awp_sr fun KK hKK => ?_; simp [go_sem]; ((repeat' (first|(refine ag_false (by simp [go_sem, undef]) (by simp [go_sem]) ?_;simp [go_sem])|intro _|refine And.intro ?_ ?_|(apply hKK;clear hKK KK)));all_goals first|refine Hold.mk ?_|omega|with_reducible assumption|(simp only [InR] at *;omega)|skip))
    (refine awp_if fun T F hT hF => ?_; simp [go_sem]; refine hF ?_; clear hT hF T F)
    refine awp_skip ?_
    refine tl1 _ [] (by simp) rfl ?_
    (refine cov_of ?_ ?_ <;> simp [go_sem])
  | cons c t =>
    have hc45 : (c.toNat : Int) = 45 ↔ c = 45 := ⟨fun h => UInt8.toNat_inj.1 (by simpa using (by exact_mod_cast h : c.toNat = 45)), fun h => by rw [h]; rfl⟩
    (refine awp_sr fun KK hKK => ?_; simp [go_sem]; ((repeat' (first|(refine ag_x ?_;simp [go_sem])|intro _|refine And.intro ?_ ?_|(apply hKK;clear hKK KK)));all_goals first|refine Hold.mk ?_|omega|with_reducible assumption|(simp only [InR] at *;omega)|skip))
    (refine awp_if fun T F hT hF => ?_; simp [go_sem]; refine BR.intro (fun h9 => hT ?_) (fun h9 => hF ?_); all_goals clear hT hF T F; try simp at h9) 
    · have hc : c = 45 := hc45.1 (by omega)
      subst hc
      cases t with
      | nil => simp at h9
      | cons d t =>
        have hd48 : (d.toNat : Int) = 48 ↔ d = 48 := ⟨fun h => UInt8.toNat_inj.1 (by simpa using (by exact_mod_cast h : d.toNat = 48)), fun h => by rw [h]; rfl⟩
        rw [numOk_minus] at tl1 ⊢
        (refine awp_sr fun KK hKK => ?_; simp [go_sem]; ((repeat' (first|(refine ag_x ?_;simp [go_sem])|intro _|refine And.intro ?_ ?_|(apply hKK;clear hKK KK)));all_goals first|refine Hold.mk ?_|omega|with_reducible assumption|(simp only [InR] at *;omega)|skip))
        (refine awp_sr fun KK hKK => ?_; simp [go_sem]; ((repeat' (first|(refine ag_x ?_;simp [go_sem])|intro _|refine And.intro ?_ ?_|(apply hKK;clear hKK KK)));all_goals first|refine Hold.mk ?_|omega|with_reducible assumption|(simp only [InR] at *;omega)|skip))
        (refine awp_if fun T F hT hF => ?_; simp [go_sem]; refine BR.intro (fun h10 => hT ?_) (fun h10 => hF ?_); all_goals clear hT hF T F; try simp at h10) 
        · rw [if_pos (hd48.1 (by omega))]
          (refine awp_sr fun KK hKK => ?_; simp [go_sem]; ((repeat' (first|(refine ag_x ?_;simp [go_sem])|intro _|refine And.intro ?_ ?_|(apply hKK;clear hKK KK)));all_goals first|refine Hold.mk ?_|omega|with_reducible assumption|(simp only [InR] at *;omega)|skip))
          (refine awp_ret ?_; simp [go_sem])
        · have hne : d ≠ 48 := fun h => h10 (by have := hd48.2 h; first | exact h | omega)
          rw [if_neg hne] at tl1
          refine awp_skip ?_
          refine tl1 _ (d :: t) (by simp only [List.length_cons] at *; omega) rfl ?_
          (refine cov_of ?_ ?_ <;> simp [go_sem])
          rw [Lib.extract_mk]
          simp
          rw [List.take_of_length_le (by simp; omega)]
    · refine awp_skip ?_
      refine tl1 _ (c :: t) hl ?_ ?_
      · by_cases hc : c = 45
        · subst hc
          cases t with
          | nil => decide
          | cons d t => exfalso; simp at h9; omega
        · exact (numOk_plain (by simpa using hc)).symm
      · (refine cov_of ?_ ?_ <;> simp [go_sem])
theorem long_spec' (l : List (List UInt8)) (hl : l.length ≤ 1000000) : PCall Tryz.prog 10 [dSs l] fun r => r = dB (l.any fun s => decide (3000 < s.length)) := by 
  refine pcall_of Tryz.func10 rfl rfl Tryz.ntmps10 (rs := [.tmp 2]) (tys := [4]) rfl rfl (by simp) ?_
  (refine awp_sr fun KK hKK => ?_; simp [go_sem]; ((repeat' (first|(refine ag_x ?_;simp [go_sem])|intro _|refine And.intro ?_ ?_|(apply hKK;clear hKK KK)));all_goals first|refine Hold.mk ?_|omega|with_reducible assumption|(simp only [InR] at *;omega)|skip))
  refine awp_seq_k fun K1 hK1 => ?_
  (refine awp_sr fun KK hKK => ?_; simp [go_sem]; ((repeat' (first|(refine ag_x ?_;simp [go_sem])|intro _|refine And.intro ?_ ?_|(apply hKK;clear hKK KK)));all_goals first|refine Hold.mk ?_|omega|with_reducible assumption|(simp only [InR] at *;omega)|skip))
  refine awp_block ?_
  refine awp_loop (σ := Nat) (fun i => ⟨[(0, dSs l), (3, dI i)], []⟩) (fun i => i ≤ l.length ∧ (l.take i).any (fun s => decide (3000 < s.length)) = false) (fun i => l.length - i) 0 ?_ ?_ ?_
  · (refine cov_of ?_ ?_ <;> simp [go_sem])
  · simp
  rintro i ⟨hi, ha⟩
  refine awp_seq_k fun K2 hK2 => ?_
  (refine awp_sr fun KK hKK => ?_; simp [go_sem]; ((repeat' (first|(refine ag_x ?_;simp [go_sem])|intro _|refine And.intro ?_ ?_|(apply hKK;clear hKK KK)));all_goals first|refine Hold.mk ?_|omega|with_reducible assumption|(simp only [InR] at *;omega)|skip))
  (refine awp_if fun T F hT hF => ?_; simp [go_sem]; refine BR.intro (fun h3 => hT ?_) (fun h3 => hF ?_); all_goals clear hT hF T F; try simp at h3) 
  · refine awp_skip ?_
    refine hK2 _ ?_; clear hK2
    obtain ⟨x, hx⟩ : ∃ x, l[i]? = some x := ⟨_, List.getElem?_eq_getElem h3⟩
    refine awp_seq_k fun K4 hK4 => ?_
    refine awp_block ?_
    (refine awp_sr fun KK hKK => ?_; simp [go_sem, hx]; ((repeat' (first|(refine ag_x ?_;simp [go_sem, hx])|intro _|refine And.intro ?_ ?_|(apply hKK;clear hKK KK)));all_goals first|refine Hold.mk ?_|omega|with_reducible assumption|(simp only [InR] at *;omega)|skip))
    (refine awp_if fun T F hT hF => ?_; simp [go_sem]; refine BR.intro (fun h5 => hT ?_) (fun h5 => hF ?_); all_goals clear hT hF T F; try simp at h5) 
    · (refine awp_sr fun KK hKK => ?_; simp [go_sem]; ((repeat' (first|(refine ag_x ?_;simp [go_sem])|intro _|refine And.intro ?_ ?_|(apply hKK;clear hKK KK)));all_goals first|refine Hold.mk ?_|omega|with_reducible assumption|(simp only [InR] at *;omega)|skip))
      (refine awp_ret ?_; simp [go_sem])
      exact ⟨x, List.mem_of_getElem? hx, by omega⟩
    · refine awp_skip ?_
      refine hK4 _ ?_; clear hK4
      (refine awp_r fun KK hKK => ?_; simp [go_sem]; ((repeat' (first|(refine ag_x ?_;simp [go_sem])|intro _|refine And.intro ?_ ?_|(apply hKK;clear hKK KK)));all_goals first|refine Hold.mk ?_|omega|with_reducible assumption|(simp only [InR] at *;omega)|skip))
      refine ⟨i + 1, ?_, ⟨h3, take_any ha hx (by simp; omega)⟩, by omega⟩
      (refine cov_of ?_ ?_ <;> simp [go_sem])
  · refine awp_exit ?_
    simp only [go_sem]
    refine hK1 _ ?_; clear hK1
    have : i = l.length := by omega
    subst this
    rw [List.take_length] at ha
    (refine awp_sr fun KK hKK => ?_; simp [go_sem]; ((repeat' (first|(refine ag_x ?_;simp [go_sem])|intro _|refine And.intro ?_ ?_|(apply hKK;clear hKK KK)));all_goals first|refine Hold.mk ?_|omega|with_reducible assumption|(simp only [InR] at *;omega)|skip))
    (refine awp_ret ?_; simp [go_sem])
    intro x hx
    have := List.any_eq_false.1 ha x hx
    simp at this; omega
theorem itoa_len {n : Int} {k : Nat} (h : bd n k) (hk : 1 ≤ k) : (Lib.itoa n).length ≤ k + 1 := by
  have := bd_dlen h hk
  unfold dlen at this
  rw [itoa_abs, List.length_append]
  split <;> simp <;> omega
end Go.Proofs.YtglncfhcgkihbaaGreatDoor
