/- Part of a proof: see the last text. -/
import Derived.Lib.ItoaNum
set_option linter.unusedVariables false
set_option linter.unusedSimpArgs false
namespace Go.Wh
/-! digits, the least first -/
def val (B : Int) : List Int → Int
  | [] => 0
  | d :: l => d + B * val B l
/-! without zeros at the top -/
/-! comparing -/
end Go.Wh

namespace Go.Wh
/-! adding -/
/-! taking away -/
/-! the size of a list against its value -/
end Go.Wh

set_option linter.unusedVariables false
set_option linter.unusedSimpArgs false
namespace Go.Wh
/-! multiplying, digit by digit, the carry at once -/
/-! multiplying, the carry behind -/
/-! dividing, from the top -/
end Go.Wh

set_option linter.unusedVariables false
set_option linter.unusedSimpArgs false
namespace Go.Wh
open Go.Lib
/-! decimal numerals -/
def dgt (c : UInt8) : Nat := c.toNat - 48
def isD (c : UInt8) : Bool := decide (48 ≤ c.toNat) && decide (c.toNat ≤ 57)
def decVal (s : List UInt8) : Nat := s.foldl (fun n c => n * 10 + dgt c) 0
theorem fold_shift : ∀ (s : List UInt8) (a : Nat), s.foldl (fun n c => n * 10 + dgt c) a = a * 10 ^ s.length + decVal s
  | [], a => by simp [decVal]
  | c :: s, a => by
    have h1 := fold_shift s (a * 10 + dgt c)
    have h2 := fold_shift s (0 * 10 + dgt c)
    simp only [decVal, List.foldl_cons, List.length_cons] at h1 h2 ⊢
    rw [h1, h2, Nat.pow_succ]
    grind
theorem decVal_app (a b : List UInt8) : decVal (a ++ b) = decVal a * 10 ^ b.length + decVal b := by
  unfold decVal
  rw [List.foldl_append]
  exact fold_shift b _
theorem decVal_snoc (a : List UInt8) (c : UInt8) : decVal (a ++ [c]) = decVal a * 10 + dgt c := by
  rw [decVal_app]; simp [decVal]
theorem ofNat_dgt {k : Nat} (h : k < 10) : dgt (UInt8.ofNat (48 + k)) = k := by
  have : (UInt8.ofNat (48 + k)).toNat = 48 + k := by simp [UInt8.toNat_ofNat']; omega
  unfold dgt; omega
theorem dgt_back {c : UInt8} (h : isD c = true) : UInt8.ofNat (48 + dgt c) = c := by
  simp [isD] at h
  apply UInt8.toNat_inj.1
  have : (UInt8.ofNat (48 + dgt c)).toNat = 48 + dgt c := by simp [UInt8.toNat_ofNat', dgt]; omega
  rw [this]; unfold dgt; omega
theorem dgt_lt {c : UInt8} (h : isD c = true) : dgt c < 10 := by simp [isD] at h; unfold dgt; omega
theorem isD_ofNat {k : Nat} (h : k < 10) : isD (UInt8.ofNat (48 + k)) = true := by
  have : (UInt8.ofNat (48 + k)).toNat = 48 + k := by simp [UInt8.toNat_ofNat']; omega
  simp [isD, this]; omega
theorem snoc_ind {α : Type} {p : List α → Prop} (h0 : p []) (hs : ∀ t c, p t → p (t ++ [c])) (s : List α) : p s := by
  have : ∀ (r : List α), p r.reverse := by
    intro r
    induction r with
    | nil => exact h0
    | cons c t ih => rw [List.reverse_cons]; exact hs _ _ ih
  have h := this s.reverse
  rwa [List.reverse_reverse] at h
theorem head_app {α : Type} {a b : List α} (h : a ≠ []) : (a ++ b).head? = a.head? := by
  cases a with
  | nil => exact absurd rfl h
  | cons c r => rfl
theorem decVal_lt : ∀ {s : List UInt8}, (∀ c ∈ s, isD c = true) → decVal s < 10 ^ s.length := by
  intro s
  induction s using snoc_ind with
  | h0 => simp [decVal]
  | hs t c ih =>
    intro h
    have h1 := ih (fun x hx => h x (by simp [hx]))
    have h2 := dgt_lt (h c (by simp))
    rw [decVal_snoc, List.length_append, List.length_singleton, Nat.pow_succ]
    omega
theorem dec_dec : ∀ u, decVal (decDigits u) = u := by
  intro u
  induction u using Nat.strongRecOn with
  | _ u ih =>
    rw [decDigits]
    split
    · rename_i h; simp only [decVal, List.foldl_cons, List.foldl_nil]; rw [ofNat_dgt h]; omega
    · rename_i h
      rw [decVal_snoc, ih _ (by omega), ofNat_dgt (by omega)]
      omega
theorem decDigits_isD : ∀ u, ∀ c ∈ decDigits u, isD c = true := by
  intro u
  induction u using Nat.strongRecOn with
  | _ u ih =>
    rw [decDigits]
    split
    · rename_i h; intro c hc; rw [List.mem_singleton] at hc; subst hc; exact isD_ofNat h
    · rename_i h
      intro c hc
      rw [List.mem_append, List.mem_singleton] at hc
      rcases hc with hc | rfl
      · exact ih _ (by omega) c hc
      · exact isD_ofNat (by omega)
theorem decDigits_ne (u : Nat) : decDigits u ≠ [] := by rw [decDigits]; split <;> simp
theorem decDigits_head : ∀ u, u ≠ 0 → (decDigits u).head? ≠ some 48 := by
  intro u
  induction u using Nat.strongRecOn with
  | _ u ih =>
    intro h0
    rw [decDigits]
    split
    · rename_i h
      simp only [List.head?_cons, ne_eq, Option.some.injEq]
      intro e
      have := congrArg dgt e
      rw [ofNat_dgt h] at this
      have : dgt 48 = 0 := by decide
      omega
    · rename_i h
      rw [head_app (decDigits_ne _)]
      exact ih _ (by omega) (by omega)
theorem decVal_pos : ∀ {s : List UInt8}, s ≠ [] → s.head? ≠ some 48 → (∀ c ∈ s, isD c = true) → 0 < decVal s
  | [], h, _, _ => absurd rfl h
  | c :: s, _, h, hd => by
    have e : decVal (c :: s) = dgt c * 10 ^ s.length + decVal s := by
      have := fold_shift s (0 * 10 + dgt c)
      simpa [decVal] using this
    rw [e]
    have h1 := hd c (by simp)
    have : dgt c ≠ 0 := fun h0 => h (by
      have := dgt_back h1
      rw [h0] at this
      simp [← this])
    have hp : 0 < 10 ^ s.length := Nat.pos_of_ne_zero (by simp)
    have := Nat.mul_pos (Nat.pos_of_ne_zero this) hp
    omega
theorem dec_back : ∀ {s : List UInt8}, s ≠ [] → (s.head? ≠ some 48 ∨ s = [48]) → (∀ c ∈ s, isD c = true) → decDigits (decVal s) = s := by
  intro s
  induction s using snoc_ind with
  | h0 => intro h; exact absurd rfl h
  | hs t c ih =>
    intro _ hh hd
    have hc := hd c (by simp)
    by_cases ht : t = []
    · subst ht
      simp only [List.nil_append]
      have e : decVal [c] = dgt c := by simp [decVal]
      rw [e, decDigits, dif_pos (dgt_lt hc), dgt_back hc]
    · have h48 : t.head? ≠ some 48 := by
        rcases hh with h | h
        · rwa [head_app ht] at h
        · exfalso
          have q1 := congrArg List.length h
          have q2 := List.length_pos_iff.2 ht
          rw [List.length_append] at q1
          simp only [List.length_singleton] at q1
          omega
      have hdt : ∀ x ∈ t, isD x = true := fun x hx => hd x (by simp [hx])
      have hpos := decVal_pos ht h48 hdt
      have hlt := dgt_lt hc
      rw [decVal_snoc, decDigits, dif_neg (by omega)]
      rw [show (decVal t * 10 + dgt c) / 10 = decVal t by omega, show (decVal t * 10 + dgt c) % 10 = dgt c by omega, dgt_back hc, ih ht (.inl h48) hdt]

/-! digits with zeros ahead -/
/-! numbers as strings -/
def body (a : List UInt8) : List UInt8 := if a.head? = some 45 then a.tail else a
end Go.Wh
