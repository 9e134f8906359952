/- Part of a proof: see the last text. -/
import Derived.Test.YtglncfhcgkihbaaGreatDoorF00
set_option linter.unusedVariables false
set_option linter.unusedSimpArgs false
namespace Go.Proofs.YtglncfhcgkihbaaGreatDoor
open Go.Eng Go.Wh
set_option maxRecDepth 20000
set_option linter.unusedSimpArgs false
set_option linter.unusedVariables false
attribute [local irreducible] AG CallA CallT AWp PCall ACall AgC
def mkC (m : Nat) (b : List UInt8) (c : UInt8) : List UInt8 := if b.length < m ∧ c ≠ 45 ∧ (b ≠ [] ∨ c ≠ 48) then b ++ [c] else b
def mkS (m : Nat) (b : List UInt8) (n : Int) : List UInt8 := (Lib.itoa n).foldl (mkC m) b
def madeB (l : List Int) (m : Nat) : List UInt8 := l.foldl (mkS m) []
def madeV (l : List Int) (m : Nat) : List UInt8 := if madeB l m = [] then [48] else if l.headD 0 < 0 then 45 :: madeB l m else madeB l m
theorem mkC_full {m : Nat} {b : List UInt8} (h : ¬ b.length < m) (c : UInt8) : mkC m b c = b := by unfold mkC; rw [if_neg (fun q => h q.1)]
theorem fold_full {m : Nat} : ∀ (s : List UInt8) {b : List UInt8}, ¬ b.length < m → s.foldl (mkC m) b = b
  | [], _, _ => rfl
  | c :: s, b, h => by rw [List.foldl_cons, mkC_full h]; exact fold_full s h
theorem folds_full {m : Nat} : ∀ (l : List Int) {b : List UInt8}, ¬ b.length < m → l.foldl (mkS m) b = b
  | [], _, _ => rfl
  | n :: l, b, h => by rw [List.foldl_cons, show mkS m b n = b from fold_full _ h]; exact folds_full l h
theorem mkC_made {m : Nat} {b : List UInt8} (h : MadeI m b) {c : UInt8} (hc : c = 45 ∨ isD c = true) : MadeI m (mkC m b c) := by
  unfold mkC
  split
  · rename_i q
    refine ⟨fun x hx => ?_, by rw [List.length_append]; simp; omega, ?_⟩
    · rw [List.mem_append, List.mem_singleton] at hx
      rcases hx with hx | rfl
      · exact h.1 x hx
      · exact hc.resolve_left q.2.1
    · cases b with
      | nil =>
        intro h2
        simp at h2
        rcases q.2.2 with q | q
        · exact q rfl
        · exact q h2
      | cons x t => exact h.2.2
  · exact h
theorem fold_made {m : Nat} : ∀ (s : List UInt8), (∀ c ∈ s, c = 45 ∨ isD c = true) → ∀ {b : List UInt8}, MadeI m b → MadeI m (s.foldl (mkC m) b)
  | [], _, _, h => h
  | c :: s, hs, b, h => by rw [List.foldl_cons]; exact fold_made s (fun x hx => hs x (by simp [hx])) (mkC_made h (hs c (by simp)))
theorem folds_made {m : Nat} : ∀ (l : List Int) {b : List UInt8}, MadeI m b → MadeI m (l.foldl (mkS m) b)
  | [], _, h => h
  | n :: l, b, h => by rw [List.foldl_cons]; exact folds_made l (fold_made _ (itoa_chars n) h)
theorem madeB_ok (l : List Int) (m : Nat) : MadeI m (madeB l m) := folds_made l ⟨by simp, by simp, by simp⟩
theorem madeV_ok (l : List Int) {m : Nat} (hm0 : 1 ≤ m) (hm : m ≤ 400) : numOk (madeV l m) = true ∧ (body (madeV l m)).length ≤ m := by
  unfold madeV
  split
  · exact ⟨by decide, hm0⟩
  · rename_i h
    obtain ⟨o1, o2⟩ := made_ok (madeB_ok l m) h hm
    split
    · exact o2
    · exact o1
def madeN (l : List Int) (m : Nat) : Int := numV (madeV l m)
theorem bd_madeN (l : List Int) {m : Nat} (hm0 : 1 ≤ m) (hm : m ≤ 400) : bd (madeN l m) m := by
  obtain ⟨h1, h2⟩ := madeV_ok l hm0 hm
  have e : dlen (madeN l m) = (body (madeV l m)).length := by
    have := body_itoa (numV (madeV l m))
    rw [itoa_num h1] at this
    unfold dlen madeN; rw [this]
  exact bd_mono (dlen_bd _) (by omega)
set_option maxHeartbeats 4000000 in
theorem MadeV_spec (l : List Int) (m : Nat) (hl : ∀ n ∈ l, -9223372036854775808 ≤ n ∧ n ≤ 9223372036854775807) (hm : m ≤ 400) : PCall Tryz.prog 12 [dIs l, dI m] fun r => r = dS (madeV l m) := by 
  refine pcall_of Tryz.func12 rfl rfl Tryz.ntmps12 (rs := [.tmp 4]) (tys := [9]) rfl rfl (by simp) ?_
  refine awp_len 0 rfl fun hlen => ?_
  simp [lensD] at hlen
  (refine awp_sr fun KK hKK => ?_; simp [go_sem]; ((repeat' (first|(refine ag_x ?_;simp [go_sem])|intro _|refine And.intro ?_ ?_|(apply hKK;clear hKK KK)));all_goals first|refine Hold.mk ?_|omega|with_reducible assumption|(simp only [InR] at *;omega)|skip))
  (refine awp_sr fun KK hKK => ?_; simp [go_sem]; ((repeat' (first|(refine ag_x ?_;simp [go_sem])|intro _|refine And.intro ?_ ?_|(apply hKK;clear hKK KK)));all_goals first|refine Hold.mk ?_|omega|with_reducible assumption|(simp only [InR] at *;omega)|skip))
  refine awp_nilslot 5 900000 5 1 rfl fun g5 => ?_
  simp only [go_sem]
  refine awp_seq_k fun K1 hK1 => ?_
  (refine awp_sr fun KK hKK => ?_; simp [go_sem]; ((repeat' (first|(refine ag_x ?_;simp [go_sem])|intro _|refine And.intro ?_ ?_|(apply hKK;clear hKK KK)));all_goals first|refine Hold.mk ?_|omega|with_reducible assumption|(simp only [InR] at *;omega)|skip))
  refine awp_block ?_
  refine awp_loop (σ := Nat × List UInt8 × Nat) (fun x => ⟨[(0, dIs l), (1, dI m), (5, .own 900000 x.2.2), (6, dI x.1)], [(900000, x.2.2, .row 5 1 (x.2.1.map cB))]⟩) (fun x => x.1 ≤ l.length ∧ x.2.1 = (l.take x.1).foldl (mkS m) [] ∧ x.2.1.length ≤ m) (fun x => l.length - x.1) (0, [], g5) ?_ ?_ ?_
  · (refine cov_of ?_ ?_ <;> simp [go_sem])
  · exact ⟨Nat.zero_le _, rfl, Nat.zero_le _⟩
  rintro ⟨i, b, g⟩ ⟨hi, hb, hbl⟩
  simp only at hi hb hbl
  refine awp_seq_k fun K2 hK2 => ?_
  (refine awp_sr fun KK hKK => ?_; simp [go_sem]; ((repeat' (first|(refine ag_x ?_;simp [go_sem])|intro _|refine And.intro ?_ ?_|(apply hKK;clear hKK KK)));all_goals first|refine Hold.mk ?_|omega|with_reducible assumption|(simp only [InR] at *;omega)|skip))
  (refine awp_if fun T F hT hF => ?_; simp [go_sem]; refine BR.intro (fun h3 => hT ?_) (fun h3 => hF ?_); all_goals clear hT hF T F; try simp at h3)
  · refine awp_skip ?_
    refine hK2 _ ?_; clear hK2
    obtain ⟨n, hn⟩ : ∃ n, l[i]? = some n := ⟨_, List.getElem?_eq_getElem h3.1⟩
    have hr := hl n (List.mem_of_getElem? hn)
    have IT := itoa_spec n hr.1 hr.2
    have hsl := itoa_len21 hr.1 hr.2
    have hst : mkS m b n = (l.take (i + 1)).foldl (mkS m) [] := by rw [List.take_add_one, hn, List.foldl_append, ← hb]; rfl
    have hmk : mkS m b n = (Lib.itoa n).foldl (mkC m) b := rfl
    rw [hst] at hmk
    have hb2 : ((l.take (i + 1)).foldl (mkS m) []).length ≤ m := by
      have := (folds_made (m := m) (l.take (i + 1)) (b := []) ⟨by simp, by simp, by simp⟩).2.1
      exact this
    generalize Lib.itoa n = s at *
    refine awp_seq_k fun K4 hK4 => ?_
    refine awp_block ?_
    (refine awp_sr fun KK hKK => ?_; simp [go_sem, hn]; ((repeat' (first|(refine ag_x ?_;simp [go_sem, hn])|intro _|refine And.intro ?_ ?_|(apply hKK;clear hKK KK)));all_goals first|refine Hold.mk ?_|omega|with_reducible assumption|(simp only [InR] at *;omega)|skip))
    ((try refine CallT.toA ?_); refine callT_m (by first | exact .inl ⟨rfl, rfl⟩ | exact .inr rfl) (by simp [go_sem]) ?_; intro args ha; simp [go_sem] at ha; subst ha; refine ⟨_, IT, ?_⟩; rintro _ rfl; simp [go_sem]; ((repeat' (first|(refine ag_x ?_;simp [go_sem])|intro _|refine And.intro ?_ ?_|(apply hKK;clear hKK KK)));all_goals first|refine Hold.mk ?_|omega|with_reducible assumption|(simp only [InR] at *;omega)|skip))
    (refine awp_sr fun KK hKK => ?_; simp [go_sem]; ((repeat' (first|(refine ag_x ?_;simp [go_sem])|intro _|refine And.intro ?_ ?_|(apply hKK;clear hKK KK)));all_goals first|refine Hold.mk ?_|omega|with_reducible assumption|(simp only [InR] at *;omega)|skip))
    refine awp_block ?_
    refine awp_loop (σ := Nat × List UInt8 × Nat) (fun x => ⟨[(0, dIs l), (1, dI m), (5, .own 900000 x.2.2), (6, dI i), (7, dS s), (8, dI x.1)], [(900000, x.2.2, .row 5 1 (x.2.1.map cB))]⟩) (fun x => x.1 ≤ s.length ∧ x.2.1.length ≤ m ∧ (s.drop x.1).foldl (mkC m) x.2.1 = (l.take (i + 1)).foldl (mkS m) []) (fun x => s.length - x.1) (0, b, g) ?_ ?_ ?_
    · (refine cov_of ?_ ?_ <;> simp [go_sem])
    · exact ⟨Nat.zero_le _, hbl, by rw [List.drop_zero]; exact hmk.symm⟩
    clear hbl hb
    rintro ⟨k, b, g⟩ ⟨hk, hbl, hM⟩
    simp only at hk hbl hM
    refine awp_seq_k fun K5 hK5 => ?_
    (refine awp_sr fun KK hKK => ?_; simp [go_sem]; ((repeat' (first|(refine ag_x ?_;simp [go_sem])|intro _|refine And.intro ?_ ?_|(apply hKK;clear hKK KK)));all_goals first|refine Hold.mk ?_|omega|with_reducible assumption|(simp only [InR] at *;omega)|skip))
    (refine awp_if fun T F hT hF => ?_; simp [go_sem]; refine BR.intro (fun h6 => hT ?_) (fun h6 => hF ?_); all_goals clear hT hF T F; try simp at h6) 
    · refine awp_skip ?_
      refine hK5 _ ?_; clear hK5
      obtain ⟨c, hc⟩ : ∃ c, s[k]? = some c := ⟨_, List.getElem?_eq_getElem h6.1⟩
      obtain ⟨hlt, he⟩ := List.getElem?_eq_some_iff.1 hc
      rw [List.drop_eq_getElem_cons hlt, he, List.foldl_cons] at hM
      have c45 : (c.toNat : Int) = 45 ↔ c = 45 := u45 c
      have c48 : (c.toNat : Int) = 48 ↔ c = 48 := ⟨fun h => UInt8.toNat_inj.1 (by simpa using (by exact_mod_cast h : c.toNat = 48)), fun h => by rw [h]; rfl⟩
      refine awp_seq_k fun K7 hK7 => ?_
      have tl7 : ∀ S' g', (mkC m b c).length ≤ m → Cov S' ⟨[(0, dIs l), (1, dI m), (5, .own 900000 g'), (6, dI i), (7, dS s), (8, dI k)], [(900000, g', .row 5 1 ((mkC m b c).map cB))]⟩ → K7 S' := fun S' g' hl' hS => by
        refine hK7 _ ?_; clear hK7
        refine awp_cov hS ?_; clear hS
        generalize mkC m b c = b' at *
        (refine awp_r fun KK hKK => ?_; simp [go_sem]; ((repeat' (first|(refine ag_x ?_;simp [go_sem])|intro _|refine And.intro ?_ ?_|(apply hKK;clear hKK KK)));all_goals first|refine Hold.mk ?_|omega|with_reducible assumption|(simp only [InR] at *;omega)|skip))
        refine ⟨(k + 1, b', g'), ?_, ⟨h6.1, hl', hM⟩, by simp only; omega⟩
        (refine cov_of ?_ ?_ <;> simp [go_sem])
      clear hK7
      refine awp_block ?_
      (refine awp_sr fun KK hKK => ?_; simp [go_sem, hc]; ((repeat' (first|(refine ag_x ?_;simp [go_sem, hc])|intro _|refine And.intro ?_ ?_|(apply hKK;clear hKK KK)));all_goals first|refine Hold.mk ?_|omega|with_reducible assumption|(simp only [InR] at *;omega)|skip))
      (refine awp_if fun T F hT hF => ?_; simp [go_sem]; refine BR.intro (fun h8 => hT ?_) (fun h8 => hF ?_); all_goals clear hT hF T F; try simp at h8) 
      · have e : mkC m b c = b ++ [c] := by
          unfold mkC
          rw [if_pos]
          refine ⟨by omega, fun h => h8.1 (c45.2 h), ?_⟩
          rcases h8.2 with q | q
          · exact .inl (List.length_pos_iff.1 (by simpa using q))
          · exact .inr fun h => q (c48.2 h)
        rw [e] at tl7
        (refine awp_r fun KK hKK => ?_; simp [go_sem, hc]; ((repeat' (first|(refine ag_x ?_;simp [go_sem, hc])|intro _|refine And.intro ?_ ?_|(apply hKK;clear hKK KK)));all_goals first|refine Hold.mk ?_|omega|with_reducible assumption|(simp only [InR] at *;omega)|skip))
        rename_i g7
        refine tl7 _ g7 (by rw [List.length_append]; simp; omega) ?_
        (refine cov_of ?_ ?_ <;> simp [go_sem])
      · have e : mkC m b c = b := by
          unfold mkC
          rw [if_neg]
          rintro ⟨q1, q2, q3⟩
          have h9 := h8 (fun h => q2 (c45.1 h))
          rcases q3 with q | q
          · have := List.length_pos_iff.2 q
            simp_all
          · exact q (c48.1 h9.2)
        rw [e] at tl7
        refine awp_skip ?_
        refine tl7 _ g hbl ?_
        (refine cov_of ?_ ?_ <;> simp [go_sem])
    · refine awp_exit ?_
      simp only [go_sem]
      refine hK4 _ ?_; clear hK4
      have hbe : b = (l.take (i + 1)).foldl (mkS m) [] := by
        rcases Nat.lt_or_ge k s.length with h9 | h9
        · rw [← hM, fold_full _ (by omega)]
        · rw [← hM, List.drop_of_length_le h9]; rfl
      (refine awp_r fun KK hKK => ?_; simp [go_sem]; ((repeat' (first|(refine ag_x ?_;simp [go_sem])|intro _|refine And.intro ?_ ?_|(apply hKK;clear hKK KK)));all_goals first|refine Hold.mk ?_|omega|with_reducible assumption|(simp only [InR] at *;omega)|skip))
      refine ⟨(i + 1, b, g), ?_, ⟨by simp only; omega, hbe, hbl⟩, by simp only; omega⟩
      (refine cov_of ?_ ?_ <;> simp [go_sem])
  · refine awp_exit ?_
    simp only [go_sem]
    refine hK1 _ ?_; clear hK1
    have hbe : b = madeB l m := by
      unfold madeB
      rcases Nat.lt_or_ge i l.length with h9 | h9
      · conv => rhs; rw [← List.take_append_drop i l]
        rw [List.foldl_append, ← hb, folds_full _ (by omega)]
      · rw [hb, List.take_of_length_le h9]
    unfold madeV
    rw [← hbe]
    refine awp_seq_k fun K9 hK9 => ?_
    (refine awp_sr fun KK hKK => ?_; simp [go_sem]; ((repeat' (first|(refine ag_x ?_;simp [go_sem])|intro _|refine And.intro ?_ ?_|(apply hKK;clear hKK KK)));all_goals first|refine Hold.mk ?_|omega|with_reducible assumption|(simp only [InR] at *;omega)|skip))
    (refine awp_if fun T F hT hF => ?_; simp [go_sem]; refine BR.intro (fun h10 => hT ?_) (fun h10 => hF ?_); all_goals clear hT hF T F; try simp at h10) 
    · have hb0 : b = [] := by simpa using h10
      (refine awp_sr fun KK hKK => ?_; simp [go_sem]; ((repeat' (first|(refine ag_x ?_;simp [go_sem])|intro _|refine And.intro ?_ ?_|(apply hKK;clear hKK KK)));all_goals first|refine Hold.mk ?_|omega|with_reducible assumption|(simp only [InR] at *;omega)|skip))
      (refine awp_ret ?_; simp [go_sem, hb0])
    · refine awp_skip ?_
      refine hK9 _ ?_; clear hK9
      have hb0 : b ≠ [] := by simpa using h10
      obtain ⟨n, l', hl'⟩ : ∃ n l', l = n :: l' := by
        cases l with
        | nil => exact absurd (by rw [hbe]; rfl) hb0
        | cons n l' => exact ⟨n, l', rfl⟩
      subst hl'
      refine awp_seq_k fun K11 hK11 => ?_
      (refine awp_sr fun KK hKK => ?_; simp [go_sem]; ((repeat' (first|(refine ag_x ?_;simp [go_sem])|intro _|refine And.intro ?_ ?_|(apply hKK;clear hKK KK)));all_goals first|refine Hold.mk ?_|omega|with_reducible assumption|(simp only [InR] at *;omega)|skip))
      (refine awp_if fun T F hT hF => ?_; simp [go_sem]; refine BR.intro (fun h12 => hT ?_) (fun h12 => hF ?_); all_goals clear hT hF T F; try simp at h12) 
      · (refine awp_sr fun KK hKK => ?_; simp [go_sem]; ((repeat' (first|(refine ag_x ?_;simp [go_sem])|intro _|refine And.intro ?_ ?_|(apply hKK;clear hKK KK)));all_goals first|refine Hold.mk ?_|omega|with_reducible assumption|(simp only [InR] at *;omega)|skip))
        (refine awp_ret ?_; simp [go_sem, hb0, h12])
        exact app_mk [45] b
      · refine awp_skip ?_
        refine hK11 _ ?_; clear hK11
        (refine awp_sr fun KK hKK => ?_; simp [go_sem]; ((repeat' (first|(refine ag_x ?_;simp [go_sem])|intro _|refine And.intro ?_ ?_|(apply hKK;clear hKK KK)));all_goals first|refine Hold.mk ?_|omega|with_reducible assumption|(simp only [InR] at *;omega)|skip))
        (refine awp_ret ?_; simp [go_sem, hb0])
        omega
theorem MadeF (l : List Int) (m : Nat) (hl : inr64 l) (hm0 : 1 ≤ m) (hm : m ≤ 400) : PCall Tryz.prog 12 [dIs l, dI m] fun r => r = dS (Lib.itoa (madeN l m)) := by
  have h := MadeV_spec l m hl hm
  have e : Lib.itoa (madeN l m) = madeV l m := itoa_num (madeV_ok l hm0 hm).1
  rw [← e] at h; exact h
end Go.Proofs.YtglncfhcgkihbaaGreatDoor
