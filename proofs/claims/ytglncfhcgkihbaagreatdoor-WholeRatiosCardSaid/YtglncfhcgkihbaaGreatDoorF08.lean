/- Part of a proof: see the last text. -/
import Derived.Test.YtglncfhcgkihbaaGreatDoorF00
import Derived.Test.YtglncfhcgkihbaaGreatDoorF01
import Derived.Test.YtglncfhcgkihbaaGreatDoorF02
import Derived.Test.YtglncfhcgkihbaaGreatDoorF03
import Derived.Test.YtglncfhcgkihbaaGreatDoorF04
import Derived.Test.YtglncfhcgkihbaaGreatDoorF05
import Derived.Test.YtglncfhcgkihbaaGreatDoorF06
import Derived.Test.YtglncfhcgkihbaaGreatDoorF07
set_option linter.unusedVariables false
set_option linter.unusedSimpArgs false
namespace Go.Proofs.YtglncfhcgkihbaaGreatDoor
open Go.Eng Go.Wh
set_option maxRecDepth 20000
set_option linter.unusedSimpArgs false
set_option linter.unusedVariables false
attribute [local irreducible] AG CallA CallT AWp PCall ACall AgC
set_option maxHeartbeats 8000000 in
theorem rparts_spec (A B : Nat) (hB : B ≠ 0) (hlA : (dg 10 A).length ≤ 900000) (hlB : (dg 10 B).length ≤ 900000) : PCall Tryz.prog 97 [dIs (dg 10 A), dIs (dg 10 B)] fun r => r = .tup [dIs (dg 10 (A / B)), dIs (dg 10 (A % B))] := by 
  refine pcall_of Tryz.func97 rfl rfl Tryz.ntmps97 (rs := [.tmp 4, .tmp 5]) (tys := [22, 22]) rfl rfl (by simp) ?_
  generalize ha' : dg 10 A = a at hlA
  have ha : digs 10 a := ha' ▸ dgT A
  have hva : val 10 a = A := ha' ▸ vT A
  have hB0 : (0 : Int) < B := by omega
  (refine awp_sr fun KK hKK => ?_; simp [go_sem]; ((repeat' (first|(refine ag_x ?_;simp [go_sem])|intro _|refine And.intro ?_ ?_|(apply hKK;clear hKK KK)));all_goals first|refine Hold.mk ?_|omega|with_reducible assumption|(simp only [InR] at *;omega)|skip))
  (refine awp_sr fun KK hKK => ?_; simp [go_sem]; ((repeat' (first|(refine ag_x ?_;simp [go_sem])|intro _|refine And.intro ?_ ?_|(apply hKK;clear hKK KK)));all_goals first|refine Hold.mk ?_|omega|with_reducible assumption|(simp only [InR] at *;omega)|skip))
  rename_i g
  (refine awp_sr fun KK hKK => ?_; simp [go_sem]; ((repeat' (first|(refine ag_x ?_;simp [go_sem])|intro _|refine And.intro ?_ ?_|(apply hKK;clear hKK KK)));all_goals first|refine Hold.mk ?_|omega|with_reducible assumption|(simp only [InR] at *;omega)|skip))
  refine awp_nilsl 7 1 rfl ?_
  simp only [go_sem]
  refine awp_seq_k fun K1 hK1 => ?_
  (refine awp_sr fun KK hKK => ?_; simp [go_sem]; ((repeat' (first|(refine ag_x ?_;simp [go_sem])|intro _|refine And.intro ?_ ?_|(apply hKK;clear hKK KK)));all_goals first|refine Hold.mk ?_|omega|with_reducible assumption|(simp only [InR] at *;omega)|skip))
  refine awp_block ?_
  refine awp_loop (σ := Nat × List Int × Nat) (fun x => ⟨[(0, dIs a), (1, dIs (dg 10 B)), (6, .own 11 g), (7, dIs (dg 10 x.2.2)), (8, dI ((x.1 : Int) - 1))], [(11, g, .row 3 1 (x.2.1.map cI))]⟩) (fun x => x.1 ≤ a.length ∧ DivI 10 a B x.1 x.2.1 x.2.2 ∧ ∀ k, k < x.1 → x.2.1.getD k 0 = 0) (fun x => x.1) (a.length, List.replicate a.length 0, 0) ?_ ?_ ?_
  · (refine cov_of ?_ ?_ <;> simp [go_sem, dg_zero])
  · exact ⟨Nat.le_refl _, div_init (by decide) a hB0, fun k hk => by simp [List.getD, List.getElem?_replicate]; split <;> rfl⟩
  rintro ⟨j, q, R⟩ ⟨hj, hp, hz⟩
  simp only at hj hp hz
  refine awp_seq_k fun K2 hK2 => ?_
  (refine awp_sr fun KK hKK => ?_; simp [go_sem]; ((repeat' (first|(refine ag_x ?_;simp [go_sem])|intro _|refine And.intro ?_ ?_|(apply hKK;clear hKK KK)));all_goals first|refine Hold.mk ?_|omega|with_reducible assumption|(simp only [InR] at *;omega)|skip))
  (refine awp_if fun T F hT hF => ?_; simp [go_sem]; refine BR.intro (fun h3 => hT ?_) (fun h3 => hF ?_); all_goals clear hT hF T F; try simp at h3) 
  · refine awp_skip ?_
    refine hK2 _ ?_; clear hK2
    obtain ⟨i, rfl⟩ : ∃ i, j = i + 1 := ⟨j - 1, by omega⟩
    obtain ⟨x, hax⟩ : ∃ x, a[i]? = some x := ⟨_, List.getElem?_eq_getElem (by omega)⟩
    have qx := dT ha hax
    have hrr := hp.2.2.1
    have hql := hp.1
    obtain ⟨hst, n12, n3, n4⟩ := div_step (B := 10) (by decide) hB0 ha (by omega) hp
    rw [getD_in hax] at hst n12 n3 n4
    obtain ⟨X, hX⟩ : ∃ X : Nat, (R : Int) * 10 + x = X := ⟨((R : Int) * 10 + x).toNat, by omega⟩
    rw [hX] at hst n12 n3 n4
    have hlR : (dg 10 R).length ≤ 900000 := Nat.le_trans (dgT_le (by omega)) hlB
    have hlX : (dg 10 X).length ≤ 900001 := by
      refine Nat.le_trans (dg_len_le (B := 10) (by decide) (k := (dg 10 B).length + 1) ?_) (by omega)
      have h1 := dg_lt (B := 10) (by decide) B
      rw [Nat.pow_succ]; omega
    have hXB : X / B < 10 := by have := n4; rw [← Int.natCast_ediv] at this; omega
    refine awp_seq_k fun K4 hK4 => ?_
    refine awp_block ?_
    (refine awp_sr fun KK hKK => ?_; simp [go_sem, hax]; ((repeat' (first|(refine ag_x ?_;simp [go_sem, hax])|intro _|refine And.intro ?_ ?_|(apply hKK;clear hKK KK)));all_goals first|refine Hold.mk ?_|omega|with_reducible assumption|(simp only [InR] at *;omega)|skip))
    ((try refine CallT.toA ?_); refine callT_z (by first | exact .inl ⟨rfl, rfl⟩ | exact .inr rfl) rfl (by simp [go_sem]) (by simp [go_sem]) ?_; intro args ha; simp [go_sem] at ha; subst ha; refine ⟨_, (trimmed_spec (x :: dg 10 R)), ?_⟩; rintro _ rfl; simp [go_sem]; ((repeat' (first|(refine ag_x ?_;simp [go_sem])|intro _|refine And.intro ?_ ?_|(apply hKK;clear hKK KK)));all_goals first|refine Hold.mk ?_|omega|with_reducible assumption|(simp only [InR] at *;omega)|skip))
    have et : trimL (x :: dg 10 R) = dg 10 X := trimT (digs_cons.2 ⟨qx, dgT R⟩) (by simp only [val, vT]; omega)
    rw [et]
    refine awp_block ?_
    have hq0 : q[i]? = some 0 := by rw [at_of_lt (by omega), hz i (by omega)]
    refine awp_loop (σ := Nat × Nat) (fun s => ⟨[(0, dIs a), (1, dIs (dg 10 B)), (6, .own 11 g), (7, dIs (dg 10 s.1)), (8, dI i)], [(11, g, .row 3 1 ((q.set i (s.2 : Int)).map cI))]⟩) (fun s => X = s.1 + s.2 * B) (fun s => s.1) (X, 0) ?_ ?_ ?_
    · have e : q.set i ((0 : Nat) : Int) = q := by
        refine List.ext_getElem? fun k => ?_
        by_cases hk : i = k
        · subst hk; rw [List.getElem?_set_self (by omega), hq0]; rfl
        · rw [List.getElem?_set_ne hk]
      rw [e]
      (refine cov_of ?_ ?_ <;> simp [go_sem])
    · simp
    rintro ⟨S, c⟩ hS
    simp only at hS
    have hSX : S ≤ X := by omega
    have hlS : (dg 10 S).length ≤ 900001 := Nat.le_trans (dgT_le hSX) hlX
    refine awp_seq_k fun K5 hK5 => ?_
    (refine awp_sr fun KK hKK => ?_; simp [go_sem]; ((repeat' (first|(refine ag_x ?_;simp [go_sem])|intro _|refine And.intro ?_ ?_|(apply hKK;clear hKK KK)));all_goals first|refine Hold.mk ?_|omega|with_reducible assumption|(simp only [InR] at *;omega)|skip))
    ((try refine CallT.toA ?_); refine callT_m (by first | exact .inl ⟨rfl, rfl⟩ | exact .inr rfl) (by simp [go_sem]) ?_; intro args ha; simp [go_sem] at ha; subst ha; refine ⟨_, (sizes_spec _ _), ?_⟩; rintro _ rfl; simp [go_sem]; ((repeat' (first|(refine ag_x ?_;simp [go_sem])|intro _|refine And.intro ?_ ?_|(apply hKK;clear hKK KK)));all_goals first|refine Hold.mk ?_|omega|with_reducible assumption|(simp only [InR] at *;omega)|skip))
    (refine awp_if fun T F hT hF => ?_; simp [go_sem]; refine BR.intro (fun h6 => hT ?_) (fun h6 => hF ?_); all_goals clear hT hF T F; try simp at h6) 
    · rw [sgn_ge] at h6
      refine awp_skip ?_
      refine hK5 _ ?_; clear hK5
      have hc10 : c < 10 := by
        refine Decidable.byContradiction fun hc => ?_
        have h1 : 10 * B ≤ c * B := Nat.mul_le_mul_right _ (by omega)
        have h2 : X < B * 10 := by omega
        omega
      refine awp_block ?_
      have hqc : ((q.map cI).set i (cI c))[i]? = some (cI c) := by rw [List.getElem?_set_self (by simp; omega)]
      (refine awp_sr fun KK hKK => ?_; simp [go_sem]; ((repeat' (first|(refine ag_x ?_;simp [go_sem])|intro _|refine And.intro ?_ ?_|(apply hKK;clear hKK KK)));all_goals first|refine Hold.mk ?_|omega|with_reducible assumption|(simp only [InR] at *;omega)|skip))
      ((try refine CallT.toA ?_); refine callT_m (by first | exact .inl ⟨rfl, rfl⟩ | exact .inr rfl) (by simp [go_sem]) ?_; intro args ha; simp [go_sem] at ha; subst ha; refine ⟨_, (rminus_spec _ _ h6 (by omega)), ?_⟩; rintro _ rfl; simp [go_sem]; ((repeat' (first|(refine ag_x ?_;simp [go_sem])|intro _|refine And.intro ?_ ?_|(apply hKK;clear hKK KK)));all_goals first|refine Hold.mk ?_|omega|with_reducible assumption|(simp only [InR] at *;omega)|skip))
      (refine awp_r fun KK hKK => ?_; simp [go_sem, hqc]; ((repeat' (first|(refine ag_x ?_;simp [go_sem, hqc])|intro _|refine And.intro ?_ ?_|(apply hKK;clear hKK KK)));all_goals first|refine Hold.mk ?_|omega|with_reducible assumption|(simp only [InR] at *;omega)|skip))
      refine ⟨(S - B, c + 1), ?_, ?_, ?_⟩
      · (refine cov_of ?_ ?_ <;> simp [go_sem, List.map_set, List.set_set])
      · simp only; rw [Nat.add_mul]; omega
      · simp only; omega
    · have h6 : S < B := by
        rcases Nat.lt_or_ge S B with h | h
        · exact h
        · have := (sgn_ge S B).2 h; omega
      obtain ⟨e1, e2⟩ := count_done (by omega) hS h6
      refine awp_exit ?_
      simp only [go_sem]
      refine hK4 _ ?_; clear hK4
      rw [← Int.natCast_ediv, ← Int.natCast_emod, e1, e2] at hst
      (refine awp_r fun KK hKK => ?_; simp [go_sem]; ((repeat' (first|(refine ag_x ?_;simp [go_sem])|intro _|refine And.intro ?_ ?_|(apply hKK;clear hKK KK)));all_goals first|refine Hold.mk ?_|omega|with_reducible assumption|(simp only [InR] at *;omega)|skip))
      refine ⟨(i, q.set i (c : Int), S), ?_, ⟨by simp only; omega, hst, ?_⟩, by simp only; omega⟩
      · (refine cov_of ?_ ?_ <;> simp [go_sem, List.map_set])
      · intro k hk
        simp only at hk ⊢
        rw [set_getD_ne (by omega)]; exact hz k (by omega)
  · refine awp_exit ?_
    simp only [go_sem]
    refine hK1 _ ?_; clear hK1
    have hj0 : j = 0 := by omega
    subst hj0
    obtain ⟨d1, d2, d3⟩ := div_done (by decide) hB0 hp
    (refine awp_sr fun KK hKK => ?_; simp [go_sem]; ((repeat' (first|(refine ag_x ?_;simp [go_sem])|intro _|refine And.intro ?_ ?_|(apply hKK;clear hKK KK)));all_goals first|refine Hold.mk ?_|omega|with_reducible assumption|(simp only [InR] at *;omega)|skip))
    ((try refine CallT.toA ?_); refine callT_z (by first | exact .inl ⟨rfl, rfl⟩ | exact .inr rfl) rfl (by simp [go_sem]) (by simp [go_sem]) ?_; intro args ha; simp [go_sem] at ha; subst ha; refine ⟨_, (trimmed_spec q), ?_⟩; rintro _ rfl; simp [go_sem]; ((repeat' (first|(refine ag_x ?_;simp [go_sem])|intro _|refine And.intro ?_ ?_|(apply hKK;clear hKK KK)));all_goals first|refine Hold.mk ?_|omega|with_reducible assumption|(simp only [InR] at *;omega)|skip))
    (refine awp_ret ?_; simp [go_sem])
    have e1 : trimL q = dg 10 (A / B) := trimT d1 (by rw [d2, hva]; rfl)
    have e2 : R = A % B := by rw [hva] at d3; exact_mod_cast d3
    rw [e1, e2]
    exact ⟨rfl, rfl⟩
theorem dgT_one : dg 10 1 = [1] := by rw [dg_pos (by decide) (by decide), show (1 : Nat) / 10 = 0 by decide, dg_zero]; rfl
theorem szT_abs_le {m n : Int} (h : m.natAbs ≤ n.natAbs) : sz 10 m ≤ sz 10 n := sz_mono (by decide) h
end Go.Proofs.YtglncfhcgkihbaaGreatDoor
