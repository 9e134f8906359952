/- Part of a proof: see the last text. -/
import Derived.Test.YtglncfhcgkihbaaGreatDoorWC
set_option linter.unusedVariables false
set_option linter.unusedSimpArgs false
namespace Go.Proofs.YtglncfhcgkihbaaGreatDoor
open Go.Eng Go.Wh
set_option maxRecDepth 20000
set_option linter.unusedSimpArgs false
set_option linter.unusedVariables false
attribute [local irreducible] AG CallA CallT AWp PCall ACall AgC
def chars36 : List UInt8 := [48, 49, 50, 51, 52, 53, 54, 55, 56, 57, 97, 98, 99, 100, 101, 102, 103, 104, 105, 106, 107, 108, 109, 110, 111, 112, 113, 114, 115, 116, 117, 118, 119, 120, 121, 122]
def baseL (b : Nat) (m : Nat) : List UInt8 := if h : m = 0 ∨ b < 2 then [] else baseL b (m / b) ++ [chars36.getD (m % b) 0]
termination_by m
decreasing_by exact Nat.div_lt_self (by omega) (by omega)
theorem base_zero (b : Nat) : baseL b 0 = [] := by rw [baseL]; simp
theorem base_pos {b m : Nat} (hb : 2 ≤ b) (hm : m ≠ 0) : baseL b m = baseL b (m / b) ++ [chars36.getD (m % b) 0] := by
  rw [baseL, dif_neg (by omega)]
theorem two_step {m b k M : Nat} (hb : 2 ≤ b) (h : m * 2 ^ k ≤ M) : m / b * 2 ^ (k + 1) ≤ M := by
  have h1 : m / b * 2 ≤ m := Nat.le_trans (Nat.mul_le_mul_left _ hb) (Nat.div_mul_le_self m b)
  calc m / b * 2 ^ (k + 1) = m / b * 2 * 2 ^ k := by rw [Nat.pow_succ, Nat.mul_assoc, Nat.mul_comm (2 ^ k) 2, ← Nat.mul_assoc]
    _ ≤ m * 2 ^ k := Nat.mul_le_mul_right _ h1
    _ ≤ M := h
theorem two_lt {m k M : Nat} (hm : 0 < m) (h : m * 2 ^ k ≤ M) (hM : ∀ k, 2 ^ k ≤ M → k < 100000) : k < 100000 := by
  have h1 : 1 * 2 ^ k ≤ m * 2 ^ k := Nat.mul_le_mul_right _ hm
  rw [Nat.one_mul] at h1
  exact hM k (Nat.le_trans h1 h)
theorem inBase_spec (M b : Nat) (hb : 2 ≤ b) (hb2 : b ≤ 36) (hM : ∀ k, 2 ^ k ≤ M → k < 100000) (hsz : (dg U M).length ≤ 100000) : PCall Tryz.prog 77 [dIs (dg U M), dI b] fun r => r = dS (baseL b M) := by 
  refine pcall_of Tryz.func77 rfl rfl Tryz.ntmps77 (rs := [.tmp 4]) (tys := [9]) rfl rfl (by simp) ?_
  (refine awp_sr fun KK hKK => ?_; simp [go_sem]; ((repeat' (first|(refine ag_x ?_;simp [go_sem])|intro _|refine And.intro ?_ ?_|(apply hKK;clear hKK KK)));all_goals first|refine Hold.mk ?_|omega|with_reducible assumption|(simp only [InR] at *;omega)|skip))
  (refine awp_sr fun KK hKK => ?_; simp [go_sem]; ((repeat' (first|(refine ag_x ?_;simp [go_sem])|intro _|refine And.intro ?_ ?_|(apply hKK;clear hKK KK)));all_goals first|refine Hold.mk ?_|omega|with_reducible assumption|(simp only [InR] at *;omega)|skip))
  refine awp_nilslot 5 900000 5 1 rfl fun g5 => ?_
  simp only [go_sem]
  refine awp_seq_k fun K1 hK1 => ?_
  refine awp_block ?_
  refine awp_loop (σ := Nat × List UInt8 × Nat) (fun x => ⟨[(0, dIs (dg U x.1)), (1, dI b), (5, .own 900000 x.2.2)], [(900000, x.2.2, .row 5 1 (x.2.1.map cB))]⟩) (fun x => x.1 ≤ M ∧ x.1 * 2 ^ x.2.1.length ≤ M ∧ x.2.1.length ≤ 100000 ∧ baseL b x.1 ++ x.2.1.reverse = baseL b M) (fun x => x.1) (M, [], g5) ?_ ?_ ?_
  · (refine cov_of ?_ ?_ <;> simp [go_sem])
  · exact ⟨Nat.le_refl _, by simp, by simp, by simp⟩
  rintro ⟨m, out, g⟩ ⟨hm, h2, hol, hbl⟩
  simp only at hm h2 hol hbl
  refine awp_seq_k fun K2 hK2 => ?_
  (refine awp_sr fun KK hKK => ?_; simp [go_sem]; ((repeat' (first|(refine ag_x ?_;simp [go_sem])|intro _|refine And.intro ?_ ?_|(apply hKK;clear hKK KK)));all_goals first|refine Hold.mk ?_|omega|with_reducible assumption|(simp only [InR] at *;omega)|skip))
  (refine awp_if fun T F hT hF => ?_; simp [go_sem]; refine BR.intro (fun h3 => hT ?_) (fun h3 => hF ?_); all_goals clear hT hF T F; try simp at h3) 
  · refine awp_skip ?_
    refine hK2 _ ?_; clear hK2
    have hm0 : m ≠ 0 := fun h => by rw [h, dg_zero] at h3; simp at h3
    have hlt := two_lt (Nat.pos_of_ne_zero hm0) h2 hM
    have S1 : PCall Tryz.prog 94 [dIs (dg U m), dI b] fun r => r = .tup [dIs (dg U (m / b)), dI ((m % b : Nat) : Int)] := by
      have := short_spec (dg U m) b (dgU _) (Nat.le_trans (dg_le hm) (by omega)) (by omega) (by omega)
      rw [vU, ← Int.natCast_ediv, Int.toNat_natCast, ← Int.natCast_emod] at this
      exact this
    have hk : m % b < 36 := Nat.lt_of_lt_of_le (Nat.mod_lt _ (by omega)) hb2
    have hc : chars36[m % b]? = some (chars36.getD (m % b) 0) := by
      rw [List.getD_eq_getElem?_getD, List.getElem?_eq_getElem (show m % b < chars36.length from hk)]; rfl
    have hst := base_pos hb hm0
    have h2' := two_step hb h2
    have hdm : m / b < m := Nat.div_lt_self (by omega) (by omega)
    generalize m / b = md at *
    generalize hkk : m % b = k at *
    generalize chars36.getD k 0 = c at *
    unfold chars36 at hc
    refine awp_block ?_
    (refine awp_sr fun KK hKK => ?_; simp [go_sem]; ((repeat' (first|(refine ag_x ?_;simp [go_sem])|intro _|refine And.intro ?_ ?_|(apply hKK;clear hKK KK)));all_goals first|refine Hold.mk ?_|omega|with_reducible assumption|(simp only [InR] at *;omega)|skip))
    (refine awp_sr fun KK hKK => ?_; simp [go_sem]; ((repeat' (first|(refine ag_x ?_;simp [go_sem])|intro _|refine And.intro ?_ ?_|(apply hKK;clear hKK KK)));all_goals first|refine Hold.mk ?_|omega|with_reducible assumption|(simp only [InR] at *;omega)|skip))
    ((try refine CallT.toA ?_); refine callT_m (by first | exact .inl ⟨rfl, rfl⟩ | exact .inr rfl) (by simp [go_sem]) ?_; intro args ha; simp [go_sem] at ha; subst ha; refine ⟨_, S1, ?_⟩; rintro _ rfl; simp [go_sem]; ((repeat' (first|(refine ag_x ?_;simp [go_sem])|intro _|refine And.intro ?_ ?_|(apply hKK;clear hKK KK)));all_goals first|refine Hold.mk ?_|omega|with_reducible assumption|(simp only [InR] at *;omega)|skip))
    (refine awp_r fun KK hKK => ?_; simp [go_sem, hc]; ((repeat' (first|(refine ag_x ?_;simp [go_sem, hc])|intro _|refine And.intro ?_ ?_|(apply hKK;clear hKK KK)));all_goals first|refine Hold.mk ?_|omega|with_reducible assumption|(simp only [InR] at *;omega)|skip))
    rename_i g7
    refine ⟨(md, out ++ [c], g7), ?_, ⟨by simp only; omega, ?_, ?_, ?_⟩, by simp only; omega⟩
    · (refine cov_of ?_ ?_ <;> simp [go_sem])
    · simp only; rw [List.length_append]; exact h2'
    · simp only; rw [List.length_append]; simp; omega
    · simp only; rw [List.reverse_append, ← hbl, hst]; simp
  · refine awp_exit ?_
    simp only [go_sem]
    refine hK1 _ ?_; clear hK1
    have hm0 : m = 0 := by
      refine (dg_nil (B := U) (by decide)).1 (by simpa using h3)
    subst hm0
    rw [base_zero, List.nil_append] at hbl
    have R := reverse_spec g out (by omega)
    rw [hbl] at R
    (refine awp_sr fun KK hKK => ?_; simp [go_sem]; ((repeat' (first|(refine ag_x ?_;simp [go_sem])|intro _|refine And.intro ?_ ?_|(apply hKK;clear hKK KK)));all_goals first|refine Hold.mk ?_|omega|with_reducible assumption|(simp only [InR] at *;omega)|skip))
    (refine callA_l [900000] (by first | exact .inl ⟨rfl, rfl⟩ | exact .inr rfl) (by simp [go_sem]) ?_; intro args ha; simp [go_sem] at ha; subst ha; refine ⟨_, _, R, (by simp [go_sem]), ?_⟩; rintro ps r hps ⟨rfl, rfl⟩; simp [go_sem]; ((repeat' (first|(refine ag_x ?_;simp [go_sem])|intro _|refine And.intro ?_ ?_|(apply hKK;clear hKK KK)));all_goals first|refine Hold.mk ?_|omega|with_reducible assumption|(simp only [InR] at *;omega)|skip))
    (refine awp_sr fun KK hKK => ?_; simp [go_sem]; ((repeat' (first|(refine ag_x ?_;simp [go_sem])|intro _|refine And.intro ?_ ?_|(apply hKK;clear hKK KK)));all_goals first|refine Hold.mk ?_|omega|with_reducible assumption|(simp only [InR] at *;omega)|skip))
    (refine awp_ret ?_; simp [go_sem])
/-- Base at one number -/
theorem base255 : PCall Tryz.prog 35 [dS [50, 53, 53], dI 16] fun r => r = .tup [dS [102, 102], dI 0] := by 
  refine pcall_of Tryz.func35 rfl rfl Tryz.ntmps35 (rs := [.tmp 4, .tmp 5]) (tys := [9, 31]) rfl rfl (by simp) ?_
  have hok : numOk [50, 53, 53] = true := by decide
  have v := valid_spec [50, 53, 53] (by decide)
  rw [hok] at v
  have r1 := readOk_spec hok
  rw [show numV [50, 53, 53] = 255 by decide] at r1
  have hL : dg U (255 : Int).natAbs = [255] := by
    show dg U 255 = _
    rw [dg_pos (by decide) (by decide), show (255 : Nat) / U = 0 by decide, dg_zero]; rfl
  have e : dBig 255 = .agg [dB false, .sl 1 [cI 255]] := by
    show D.agg [_, D.sl 1 ((dg U (255 : Int).natAbs).map cI)] = _
    rw [hL]; rfl
  rw [e] at r1
  have b1 := inBase_spec 255 16 (by decide) (by decide) (fun k hk => Nat.lt_trans ((Nat.pow_lt_pow_iff_right (by decide : 1 < 2)).1 (Nat.lt_of_le_of_lt hk (by decide : 255 < 2 ^ 8))) (by decide : 8 < 100000)) (by rw [show dg U 255 = [255] from hL]; decide)
  rw [show dg U 255 = [255] from hL] at b1
  have hb : baseL 16 255 = [102, 102] := by
    rw [base_pos (by decide) (by decide), base_pos (by decide) (by decide), show 255 / 16 / 16 = 0 by decide, base_zero]; rfl
  rw [hb] at b1
  have b1 : PCall Tryz.prog 77 [.sl 1 [cI 255], dI 16] fun r => r = dS [102, 102] := b1
  (refine awp_sr fun KK hKK => ?_; simp [go_sem]; ((repeat' (first|(refine ag_x ?_;simp [go_sem])|intro _|refine And.intro ?_ ?_|(apply hKK;clear hKK KK)));all_goals first|refine Hold.mk ?_|omega|with_reducible assumption|(simp only [InR] at *;omega)|skip))
  refine awp_seq_k fun K1 hK1 => ?_
  (refine awp_sr fun KK hKK => ?_; simp [go_sem]; ((repeat' (first|(refine ag_x ?_;simp [go_sem])|intro _|refine And.intro ?_ ?_|(apply hKK;clear hKK KK)));all_goals first|refine Hold.mk ?_|omega|with_reducible assumption|(simp only [InR] at *;omega)|skip))
  ((try refine CallT.toA ?_); refine callT_m (by first | exact .inl ⟨rfl, rfl⟩ | exact .inr rfl) (by simp [go_sem]) ?_; intro args ha; simp [go_sem] at ha; subst ha; refine ⟨_, v, ?_⟩; rintro _ rfl; simp [go_sem]; ((repeat' (first|(refine ag_x ?_;simp [go_sem])|intro _|refine And.intro ?_ ?_|(apply hKK;clear hKK KK)));all_goals first|refine Hold.mk ?_|omega|with_reducible assumption|(simp only [InR] at *;omega)|skip))
  (refine awp_if fun T F hT hF => ?_; simp [go_sem]; refine hF ?_; clear hT hF T F)
  refine awp_skip ?_
  refine hK1 _ ?_; clear hK1
  (refine awp_sr fun KK hKK => ?_; simp [go_sem]; ((repeat' (first|(refine ag_x ?_;simp [go_sem])|intro _|refine And.intro ?_ ?_|(apply hKK;clear hKK KK)));all_goals first|refine Hold.mk ?_|omega|with_reducible assumption|(simp only [InR] at *;omega)|skip))
  ((try refine CallT.toA ?_); refine callT_m (by first | exact .inl ⟨rfl, rfl⟩ | exact .inr rfl) (by simp [go_sem]) ?_; intro args ha; simp [go_sem] at ha; subst ha; refine ⟨_, r1, ?_⟩; rintro _ rfl; simp [go_sem]; ((repeat' (first|(refine ag_x ?_;simp [go_sem])|intro _|refine And.intro ?_ ?_|(apply hKK;clear hKK KK)));all_goals first|refine Hold.mk ?_|omega|with_reducible assumption|(simp only [InR] at *;omega)|skip))
  refine awp_seq_k fun K3 hK3 => ?_
  (refine awp_sr fun KK hKK => ?_; simp [go_sem]; ((repeat' (first|(refine ag_x ?_;simp [go_sem])|intro _|refine And.intro ?_ ?_|(apply hKK;clear hKK KK)));all_goals first|refine Hold.mk ?_|omega|with_reducible assumption|(simp only [InR] at *;omega)|skip))
  (refine awp_if fun T F hT hF => ?_; simp [go_sem]; refine hF ?_; clear hT hF T F)
  refine awp_skip ?_
  refine hK3 _ ?_; clear hK3
  (refine awp_sr fun KK hKK => ?_; simp [go_sem]; ((repeat' (first|(refine ag_x ?_;simp [go_sem])|intro _|refine And.intro ?_ ?_|(apply hKK;clear hKK KK)));all_goals first|refine Hold.mk ?_|omega|with_reducible assumption|(simp only [InR] at *;omega)|skip))
  ((try refine CallT.toA ?_); refine callT_m (by first | exact .inl ⟨rfl, rfl⟩ | exact .inr rfl) (by simp [go_sem]) ?_; intro args ha; simp [go_sem] at ha; subst ha; refine ⟨_, b1, ?_⟩; rintro _ rfl; simp [go_sem]; ((repeat' (first|(refine ag_x ?_;simp [go_sem])|intro _|refine And.intro ?_ ?_|(apply hKK;clear hKK KK)));all_goals first|refine Hold.mk ?_|omega|with_reducible assumption|(simp only [InR] at *;omega)|skip))
  refine awp_seq_k fun K5 hK5 => ?_
  (refine awp_sr fun KK hKK => ?_; simp [go_sem]; ((repeat' (first|(refine ag_x ?_;simp [go_sem])|intro _|refine And.intro ?_ ?_|(apply hKK;clear hKK KK)));all_goals first|refine Hold.mk ?_|omega|with_reducible assumption|(simp only [InR] at *;omega)|skip))
  (refine awp_if fun T F hT hF => ?_; simp [go_sem]; refine hF ?_; clear hT hF T F)
  refine awp_skip ?_
  refine hK5 _ ?_; clear hK5
  (refine awp_sr fun KK hKK => ?_; simp [go_sem]; ((repeat' (first|(refine ag_x ?_;simp [go_sem])|intro _|refine And.intro ?_ ?_|(apply hKK;clear hKK KK)));all_goals first|refine Hold.mk ?_|omega|with_reducible assumption|(simp only [InR] at *;omega)|skip))
  (refine awp_ret ?_; simp [go_sem])
end Go.Proofs.YtglncfhcgkihbaaGreatDoor

namespace Go.Proofs.YtglncfhcgkihbaaGreatDoor
open Go.Eng Go.Wh
set_option maxRecDepth 20000
set_option linter.unusedSimpArgs false
set_option linter.unusedVariables false
attribute [local irreducible] AG CallA CallT AWp PCall ACall AgC
theorem dBigN (n : Nat) : dBig (n : Int) = .agg [dB false, dIs (dg U n)] := by
  simp
theorem divN (x y : Nat) (hy : y ≠ 0) (hx : (dg U x).length ≤ 900000) (hyl : (dg U y).length ≤ 900000) :
    PCall Tryz.prog 49 [.agg [dB false, dIs (dg U x)], .agg [dB false, dIs (dg U y)]] fun r => r = .tup [.agg [dB false, dIs (dg U (x / y))], .agg [dB false, dIs (dg U (x % y))]] := by
  have h := div_spec x y (by omega) (by unfold sz; rw [Int.natAbs_natCast]; exact hx) (by unfold sz; rw [Int.natAbs_natCast]; exact hyl)
  obtain ⟨e1, e2⟩ := fr_pos (a := (x : Int)) (b := (y : Int)) (by omega) (by omega)
  rw [e1, e2, ← Int.natCast_ediv, ← Int.natCast_emod, dBigN, dBigN, dBigN, dBigN] at h
  exact h
theorem gcd_spec (a b : Int) (ha : sz U a ≤ 900000) (hb : sz U b ≤ 900000) : PCall Tryz.prog 66 [dBig a, dBig b] fun r => r = .agg [dB false, dIs (dg U (Nat.gcd a.natAbs b.natAbs))] := by 
  refine pcall_of Tryz.func66 rfl rfl Tryz.ntmps66 (rs := [.cell 4 58]) (tys := [58]) rfl rfl (by simp) ?_
  have ha : (dg U a.natAbs).length ≤ 900000 := ha
  have hb : (dg U b.natAbs).length ≤ 900000 := hb
  (refine awp_sr fun KK hKK => ?_; simp [go_sem]; ((repeat' (first|(refine ag_x ?_;simp [go_sem])|intro _|refine And.intro ?_ ?_|(apply hKK;clear hKK KK)));all_goals first|refine Hold.mk ?_|omega|with_reducible assumption|(simp only [InR] at *;omega)|skip))
  rename_i g2 g3 g4
  (refine awp_sr fun KK hKK => ?_; simp [go_sem]; ((repeat' (first|(refine ag_x ?_;simp [go_sem])|intro _|refine And.intro ?_ ?_|(apply hKK;clear hKK KK)));all_goals first|refine Hold.mk ?_|omega|with_reducible assumption|(simp only [InR] at *;omega)|skip))
  refine awp_seq_k fun K1 hK1 => ?_
  refine awp_block ?_
  refine awp_loop (σ := Nat × Nat) (fun x => ⟨[(2, .ptr 2 g2 0), (3, .ptr 3 g3 0), (4, .ptr 4 g4 0)], [(2, g2, .box [dB false, dIs (dg U x.1)]), (3, g3, .box [dB false, dIs (dg U x.2)]), (4, g4, .box [dB false, .v (.slice none 0 0)])]⟩) (fun x => Nat.gcd x.1 x.2 = Nat.gcd a.natAbs b.natAbs ∧ (dg U x.1).length ≤ 900000 ∧ (dg U x.2).length ≤ 900000) (fun x => x.2) (a.natAbs, b.natAbs) ?_ ?_ ?_
  · (refine cov_of ?_ ?_ <;> simp [go_sem])
  · exact ⟨rfl, ha, hb⟩
  rintro ⟨x, y⟩ ⟨hg, hx, hy⟩
  simp only at hg hx hy
  refine awp_seq_k fun K2 hK2 => ?_
  (refine awp_sr fun KK hKK => ?_; simp [go_sem]; ((repeat' (first|(refine ag_x ?_;simp [go_sem])|intro _|refine And.intro ?_ ?_|(apply hKK;clear hKK KK)));all_goals first|refine Hold.mk ?_|omega|with_reducible assumption|(simp only [InR] at *;omega)|skip))
  (refine awp_if fun T F hT hF => ?_; simp [go_sem]; refine BR.intro (fun h3 => hT ?_) (fun h3 => hF ?_); all_goals clear hT hF T F; try simp at h3) 
  · refine awp_skip ?_
    refine hK2 _ ?_; clear hK2
    have hy0 : y ≠ 0 := fun h => by rw [h, dg_zero] at h3; simp at h3
    have dv := divN x y hy0 hx hy
    have hlt := Nat.mod_lt x (Nat.pos_of_ne_zero hy0)
    have hgn : Nat.gcd y (x % y) = Nat.gcd x y := by rw [Nat.gcd_comm x y, Nat.gcd_rec y x, Nat.gcd_comm]
    have hlm : (dg U (x % y)).length ≤ 900000 := Nat.le_trans (dg_le (Nat.le_of_lt hlt)) hy
    generalize x / y = q at *
    generalize x % y = r at *
    refine awp_block ?_
    (refine awp_sr fun KK hKK => ?_; simp [go_sem]; ((repeat' (first|(refine ag_x ?_;simp [go_sem])|intro _|refine And.intro ?_ ?_|(apply hKK;clear hKK KK)));all_goals first|refine Hold.mk ?_|omega|with_reducible assumption|(simp only [InR] at *;omega)|skip))
    ((try refine CallT.toA ?_); refine callT_m (by first | exact .inl ⟨rfl, rfl⟩ | exact .inr rfl) (by simp [go_sem]) ?_; intro args ha; simp [go_sem] at ha; subst ha; refine ⟨_, dv, ?_⟩; rintro _ rfl; simp [go_sem]; ((repeat' (first|(refine ag_x ?_;simp [go_sem])|intro _|refine And.intro ?_ ?_|(apply hKK;clear hKK KK)));all_goals first|refine Hold.mk ?_|omega|with_reducible assumption|(simp only [InR] at *;omega)|skip))
    ((refine awp_d (.two 0 (.two 1 (.one 2 (.one 3 (.nil))) 2 (.qs [1] (.one 3 (.nil)))) 1 (.qs [0] (.one 2 (.one 3 (.nil))))) (by kernel_rfl) ?_ ?_ ?_ ?_); (kernel_rfl); (exact (by decide +kernel)); (kernel_rfl); intro KK hKK; ((repeat' (first|(refine ag_x ?_;simp [go_sem])|refine adr_nil ?_|refine adr_two ?_ ?_|refine adr_kq ?_ ?_|refine adr_three ?_ ?_ ?_|refine adr_four ?_ ?_ ?_ ?_|refine adr_kp2 ?_ ?_|refine adr_kp3 ?_ ?_ ?_|((first|refine adr_qs fun KK hKK=>?_|refine adr_y fun KK hKK=>?_);simp [go_sem])|intro _|refine And.intro ?_ ?_|(apply hKK;clear hKK KK)));all_goals first|refine Hold.mk ?_|omega|with_reducible assumption|(simp only [InR] at *;omega)|skip))
    all_goals (refine ⟨(y, r), ?_, ⟨by rw [hgn]; exact hg, hy, hlm⟩, by simp only; omega⟩; (refine cov_of ?_ ?_ <;> simp [go_sem]))
  · refine awp_exit ?_
    simp only [go_sem]
    refine hK1 _ ?_; clear hK1
    have hy0 : y = 0 := (dg_nil (B := U) (by decide)).1 (by simpa using h3)
    subst hy0
    rw [Nat.gcd_zero_right] at hg
    rw [← hg]
    (refine awp_sr fun KK hKK => ?_; simp [go_sem]; ((repeat' (first|(refine ag_x ?_;simp [go_sem])|intro _|refine And.intro ?_ ?_|(apply hKK;clear hKK KK)));all_goals first|refine Hold.mk ?_|omega|with_reducible assumption|(simp only [InR] at *;omega)|skip))
    (refine awp_ret ?_; simp [go_sem])
end Go.Proofs.YtglncfhcgkihbaaGreatDoor

namespace Go.Proofs.YtglncfhcgkihbaaGreatDoor
open Go.Eng Go.Wh
set_option maxRecDepth 20000
set_option linter.unusedSimpArgs false
set_option linter.unusedVariables false
attribute [local irreducible] AG CallA CallT AWp PCall ACall AgC
theorem pow20 : (10 : Nat) ^ 20 = 100000000000000000000 := by decide
theorem of_spec (n : Int) (h0 : -9223372036854775808 ≤ n) (h1 : n ≤ 9223372036854775807) : PCall Tryz.prog 40 [dI n] fun r => r = dBig n := by 
  have hrd : PCall Tryz.prog 39 [dS (Lib.itoa n)] fun r => r = dBig n := by
    have h := read_spec (Lib.itoa n) (by rw [body_itoa]; exact decDigits_isD _) (by
      rw [body_itoa]
      by_cases hz : n = 0
      · subst hz; have := dlen_zero; unfold dlen at this; omega
      · have e := dlen_dg hz
        unfold dlen at e
        rw [e]
        exact Nat.le_trans (dg_len_le (B := 10) (by decide) (k := 20) (by rw [pow20]; omega)) (by omega))
    rw [numV_itoa] at h; exact h
  have hOf : PCall Tryz.prog 31 [dI n] fun r => r = dS (Lib.itoa n) := by
    refine pcall_of Tryz.func31 rfl rfl Tryz.ntmps31 (rs := [.tmp 2]) (tys := [9]) rfl rfl (by simp) ?_
    (refine awp_sr fun KK hKK => ?_; simp [go_sem]; ((repeat' (first|(refine ag_x ?_;simp [go_sem])|intro _|refine And.intro ?_ ?_|(apply hKK;clear hKK KK)));all_goals first|refine Hold.mk ?_|omega|with_reducible assumption|(simp only [InR] at *;omega)|skip))
    (refine awp_sr fun KK hKK => ?_; simp [go_sem]; ((repeat' (first|(refine ag_x ?_;simp [go_sem])|intro _|refine And.intro ?_ ?_|(apply hKK;clear hKK KK)));all_goals first|refine Hold.mk ?_|omega|with_reducible assumption|(simp only [InR] at *;omega)|skip))
    ((try refine CallT.toA ?_); refine callT_m (by first | exact .inl ⟨rfl, rfl⟩ | exact .inr rfl) (by simp [go_sem]) ?_; intro args ha; simp [go_sem] at ha; subst ha; refine ⟨_, (itoa_spec n h0 h1), ?_⟩; rintro _ rfl; simp [go_sem]; ((repeat' (first|(refine ag_x ?_;simp [go_sem])|intro _|refine And.intro ?_ ?_|(apply hKK;clear hKK KK)));all_goals first|refine Hold.mk ?_|omega|with_reducible assumption|(simp only [InR] at *;omega)|skip))
    (refine awp_ret ?_; simp [go_sem])
  refine pcall_of Tryz.func40 rfl rfl Tryz.ntmps40 (rs := [.cell 2 58]) (tys := [58]) rfl rfl (by simp) ?_
  (refine awp_sr fun KK hKK => ?_; simp [go_sem]; ((repeat' (first|(refine ag_x ?_;simp [go_sem])|intro _|refine And.intro ?_ ?_|(apply hKK;clear hKK KK)));all_goals first|refine Hold.mk ?_|omega|with_reducible assumption|(simp only [InR] at *;omega)|skip))
  (refine awp_sr fun KK hKK => ?_; simp [go_sem]; ((repeat' (first|(refine ag_x ?_;simp [go_sem])|intro _|refine And.intro ?_ ?_|(apply hKK;clear hKK KK)));all_goals first|refine Hold.mk ?_|omega|with_reducible assumption|(simp only [InR] at *;omega)|skip))
  ((try refine CallT.toA ?_); refine callT_m (by first | exact .inl ⟨rfl, rfl⟩ | exact .inr rfl) (by simp [go_sem]) ?_; intro args ha; simp [go_sem] at ha; subst ha; refine ⟨_, hOf, ?_⟩; rintro _ rfl; simp [go_sem]; ((repeat' (first|(refine ag_x ?_;simp [go_sem])|intro _|refine And.intro ?_ ?_|(apply hKK;clear hKK KK)));all_goals first|refine Hold.mk ?_|omega|with_reducible assumption|(simp only [InR] at *;omega)|skip))
  ((try refine CallT.toA ?_); refine callT_m (by first | exact .inl ⟨rfl, rfl⟩ | exact .inr rfl) (by simp [go_sem]) ?_; intro args ha; simp [go_sem] at ha; subst ha; refine ⟨_, hrd, ?_⟩; rintro _ rfl; simp [go_sem]; ((repeat' (first|(refine ag_x ?_;simp [go_sem])|intro _|refine And.intro ?_ ?_|(apply hKK;clear hKK KK)));all_goals first|refine Hold.mk ?_|omega|with_reducible assumption|(simp only [InR] at *;omega)|skip))
  (refine awp_ret ?_; simp [go_sem])
@[go_sem] abbrev dRat (p q : Int) : D := .agg [dB (decide (p < 0)), dIs (dg U p.natAbs), dB (decide (q < 0)), dIs (dg U q.natAbs)]
def ratV (s : List UInt8) : Option (Int × Int) :=
  if numOk (Lib.cut s [47]).1 then
    if (Lib.cut s [47]).2.2 then
      if numOk (Lib.cut s [47]).2.1 && !(decide ((Lib.cut s [47]).2.1.head? = some 45) || decide ((Lib.cut s [47]).2.1 = [48]) || decide ((Lib.cut s [47]).2.1 = [49])) && (Nat.gcd (numV (Lib.cut s [47]).1).natAbs (numV (Lib.cut s [47]).2.1).natAbs == 1) then
        some (numV (Lib.cut s [47]).1, numV (Lib.cut s [47]).2.1)
      else none
    else some (numV (Lib.cut s [47]).1, 1)
  else none
theorem cut_len (s p : List UInt8) : (Lib.cut s p).1.length ≤ s.length ∧ (Lib.cut s p).2.1.length ≤ s.length := by
  unfold Lib.cut
  split
  · simp only [List.length_take, List.length_drop]; omega
  · simp
theorem itoa_one (n : Nat) : Lib.itoa (n : Int) = [49] ↔ n = 1 := by
  constructor
  · intro h
    have h2 := congrArg numV h
    rw [numV_itoa] at h2
    have : numV [49] = 1 := by decide
    omega
  · rintro rfl; rw [itoa_abs]; simp [Lib.decDigits]
set_option maxHeartbeats 4000000 in
theorem readRatio_spec (s : List UInt8) (hl : s.length ≤ 1000000000) : PCall Tryz.prog 78 [dS s] fun r => ∃ x1 x2 x3 x4, r = .tup [.agg [x1, x2, x3, x4], dB (ratV s).isSome] ∧ ∀ p, ratV s = some p → .agg [x1, x2, x3, x4] = dRat p.1 p.2 := by 
  refine pcall_of Tryz.func78 rfl rfl Tryz.ntmps78 (rs := [.cell 2 76, .tmp 3]) (tys := [76, 4]) rfl rfl (by simp) ?_
  obtain ⟨hc1, hc2⟩ := cut_len s [47]
  have hcut := cut_spec s [47] (by omega)
  unfold ratV
  generalize (Lib.cut s [47]).1 = num at *
  generalize (Lib.cut s [47]).2.1 = den at *
  generalize (Lib.cut s [47]).2.2 = isR at *
  have v1 := valid_spec num (by omega)
  have v2 := valid_spec den (by omega)
  (refine awp_sr fun KK hKK => ?_; simp [go_sem]; ((repeat' (first|(refine ag_x ?_;simp [go_sem])|intro _|refine And.intro ?_ ?_|(apply hKK;clear hKK KK)));all_goals first|refine Hold.mk ?_|omega|with_reducible assumption|(simp only [InR] at *;omega)|skip))
  rename_i g2
  (refine awp_sr fun KK hKK => ?_; simp [go_sem]; ((repeat' (first|(refine ag_x ?_;simp [go_sem])|intro _|refine And.intro ?_ ?_|(apply hKK;clear hKK KK)));all_goals first|refine Hold.mk ?_|omega|with_reducible assumption|(simp only [InR] at *;omega)|skip))
  ((try refine CallT.toA ?_); refine callT_m (by first | exact .inl ⟨rfl, rfl⟩ | exact .inr rfl) (by simp [go_sem]) ?_; intro args ha; simp [go_sem] at ha; subst ha; refine ⟨_, hcut, ?_⟩; rintro _ rfl; simp [go_sem]; ((repeat' (first|(refine ag_x ?_;simp [go_sem])|intro _|refine And.intro ?_ ?_|(apply hKK;clear hKK KK)));all_goals first|refine Hold.mk ?_|omega|with_reducible assumption|(simp only [InR] at *;omega)|skip))
  refine awp_seq_k fun K1 hK1 => ?_
  (refine awp_sr fun KK hKK => ?_; simp [go_sem]; ((repeat' (first|(refine ag_x ?_;simp [go_sem])|intro _|refine And.intro ?_ ?_|(apply hKK;clear hKK KK)));all_goals first|refine Hold.mk ?_|omega|with_reducible assumption|(simp only [InR] at *;omega)|skip))
  ((try refine CallT.toA ?_); refine callT_m (by first | exact .inl ⟨rfl, rfl⟩ | exact .inr rfl) (by simp [go_sem]) ?_; intro args ha; simp [go_sem] at ha; subst ha; refine ⟨_, v1, ?_⟩; rintro _ rfl; simp [go_sem]; ((repeat' (first|(refine ag_x ?_;simp [go_sem])|intro _|refine And.intro ?_ ?_|(apply hKK;clear hKK KK)));all_goals first|refine Hold.mk ?_|omega|with_reducible assumption|(simp only [InR] at *;omega)|skip))
  cases hn : numOk num with
  | false =>
    rw [hn] at v1
    (refine awp_if fun T F hT hF => ?_; simp [go_sem]; refine hT ?_; clear hT hF T F)
    (refine awp_sr fun KK hKK => ?_; simp [go_sem]; ((repeat' (first|(refine ag_x ?_;simp [go_sem])|intro _|refine And.intro ?_ ?_|(apply hKK;clear hKK KK)));all_goals first|refine Hold.mk ?_|omega|with_reducible assumption|(simp only [InR] at *;omega)|skip))
    (refine awp_ret ?_; simp [go_sem])
  | true =>
    (refine awp_if fun T F hT hF => ?_; simp [go_sem]; refine hF ?_; clear hT hF T F)
    refine awp_skip ?_
    refine hK1 _ ?_; clear hK1
    have r1 := readOk_spec hn
    refine awp_seq_k fun K3 hK3 => ?_
    (refine awp_sr fun KK hKK => ?_; simp [go_sem]; ((repeat' (first|(refine ag_x ?_;simp [go_sem])|intro _|refine And.intro ?_ ?_|(apply hKK;clear hKK KK)));all_goals first|refine Hold.mk ?_|omega|with_reducible assumption|(simp only [InR] at *;omega)|skip))
    cases isR with
    | false =>
      (refine awp_if fun T F hT hF => ?_; simp [go_sem]; refine hT ?_; clear hT hF T F)
      (refine awp_sr fun KK hKK => ?_; simp [go_sem]; ((repeat' (first|(refine ag_x ?_;simp [go_sem])|intro _|refine And.intro ?_ ?_|(apply hKK;clear hKK KK)));all_goals first|refine Hold.mk ?_|omega|with_reducible assumption|(simp only [InR] at *;omega)|skip))
      ((try refine CallT.toA ?_); refine callT_m (by first | exact .inl ⟨rfl, rfl⟩ | exact .inr rfl) (by simp [go_sem]) ?_; intro args ha; simp [go_sem] at ha; subst ha; refine ⟨_, r1, ?_⟩; rintro _ rfl; simp [go_sem]; ((repeat' (first|(refine ag_x ?_;simp [go_sem])|intro _|refine And.intro ?_ ?_|(apply hKK;clear hKK KK)));all_goals first|refine Hold.mk ?_|omega|with_reducible assumption|(simp only [InR] at *;omega)|skip))
      ((try refine CallT.toA ?_); refine callT_m (by first | exact .inl ⟨rfl, rfl⟩ | exact .inr rfl) (by simp [go_sem]) ?_; intro args ha; simp [go_sem] at ha; subst ha; refine ⟨_, (of_spec 1 (by omega) (by omega)), ?_⟩; rintro _ rfl; simp [go_sem]; ((repeat' (first|(refine ag_x ?_;simp [go_sem])|intro _|refine And.intro ?_ ?_|(apply hKK;clear hKK KK)));all_goals first|refine Hold.mk ?_|omega|with_reducible assumption|(simp only [InR] at *;omega)|skip))
      (refine awp_ret ?_; simp [go_sem])
      exact ⟨_, _, _, _, ⟨⟨rfl, rfl, rfl, rfl⟩, hn⟩, fun _ => ⟨rfl, rfl, rfl, rfl⟩⟩
    | true =>
      (refine awp_if fun T F hT hF => ?_; simp [go_sem]; refine hF ?_; clear hT hF T F)
      refine awp_skip ?_
      refine hK3 _ ?_; clear hK3
      refine awp_seq_k fun K5 hK5 => ?_
      cases hd : numOk den with
      | false =>
        rw [hd] at v2
        refine awp_sr fun KK hKK => ?_
        simp [go_sem]
        ((try refine CallT.toA ?_); refine callT_m (by first | exact .inl ⟨rfl, rfl⟩ | exact .inr rfl) (by simp [go_sem]) ?_; intro args ha; simp [go_sem] at ha; subst ha; refine ⟨_, v2, ?_⟩; rintro _ rfl; simp [go_sem]; ((repeat' (first|(refine ag_false (by simp [go_sem, undef]) (by simp [go_sem]) ?_;simp [go_sem])|intro _|refine And.intro ?_ ?_|(apply hKK;clear hKK KK)));all_goals first|refine Hold.mk ?_|omega|with_reducible assumption|(simp only [InR] at *;omega)|skip))
        (refine awp_if fun T F hT hF => ?_; simp [go_sem]; refine hT ?_; clear hT hF T F)
        (refine awp_sr fun KK hKK => ?_; simp [go_sem]; ((repeat' (first|(refine ag_x ?_;simp [go_sem])|intro _|refine And.intro ?_ ?_|(apply hKK;clear hKK KK)));all_goals first|refine Hold.mk ?_|omega|with_reducible assumption|(simp only [InR] at *;omega)|skip))
        (refine awp_ret ?_; simp [go_sem])
      | true =>
        rw [hd] at v2
        have r2 := readOk_spec hd
        have hgs := gcd_spec (numV num) (numV den) (by have := sz_numOk hn; omega) (by have := sz_numOk hd; omega)
        obtain ⟨G, hG⟩ : ∃ G, Nat.gcd (numV num).natAbs (numV den).natAbs = G := ⟨_, rfl⟩
        have hGl : (dg U G).length ≤ 1000000 := by
          have h1 := sz_numOk hd
          have h2 := sz_numOk hn
          by_cases h0 : (numV den).natAbs = 0
          · rw [h0, Nat.gcd_zero_right] at hG; rw [← hG]; exact Nat.le_trans h2 (by omega)
          · exact Nat.le_trans (dg_le (by rw [← hG]; exact Nat.gcd_le_right _ (Nat.pos_of_ne_zero h0))) (Nat.le_trans h1 (by omega))
        have tx := text_spec (G : Int) (by unfold sz; rw [Int.natAbs_natCast]; exact hGl)
        have hi1 := itoa_one G
        rw [dBigN] at tx
        rw [hG] at hgs ⊢
        obtain ⟨c, d', hden⟩ : ∃ c d', den = c :: d' := by
          cases den with
          | nil => cases hd
          | cons c d' => exact ⟨c, d', rfl⟩
        subst hden
        have hc45 : decide ((c.toNat : Int) = 45) = decide (c = 45) := decide_eq_decide.2 ⟨fun h => UInt8.toNat_inj.1 (by simpa using (by exact_mod_cast h : c.toNat = 45)), fun h => by rw [h]; rfl⟩
        generalize numV num = m at *
        generalize numV (c :: d') = n at *
        generalize Lib.itoa (G : Int) = tg at *
        (refine awp_sr fun KK hKK => ?_; simp [go_sem]; ((repeat' (first|(refine ag_x ?_;simp [go_sem])|intro _|refine And.intro ?_ ?_|(apply hKK;clear hKK KK)));all_goals first|refine Hold.mk ?_|omega|with_reducible assumption|(simp only [InR] at *;omega)|skip))
        ((try refine CallT.toA ?_); refine callT_m (by first | exact .inl ⟨rfl, rfl⟩ | exact .inr rfl) (by simp [go_sem]) ?_; intro args ha; simp [go_sem] at ha; subst ha; refine ⟨_, v2, ?_⟩; rintro _ rfl; simp [go_sem, hc45]; ((repeat' (first|(refine ag_x ?_;simp [go_sem, hc45])|intro _|refine And.intro ?_ ?_|(apply hKK;clear hKK KK)));all_goals first|refine Hold.mk ?_|omega|with_reducible assumption|(simp only [InR] at *;omega)|skip))
        · exact absurd ‹c = 45› ‹¬c = 45›
        · by_cases h : c = 48
          · exact .inr (‹c = 48 → ¬d' = []› h)
          · exact .inl h
        (refine awp_if fun T F hT hF => ?_; simp [go_sem]; refine BR.intro (fun h6 => hT ?_) (fun h6 => hF ?_); all_goals clear hT hF T F; try simp at h6) 
        · (refine awp_sr fun KK hKK => ?_; simp [go_sem]; ((repeat' (first|(refine ag_x ?_;simp [go_sem])|intro _|refine And.intro ?_ ?_|(apply hKK;clear hKK KK)));all_goals first|refine Hold.mk ?_|omega|with_reducible assumption|(simp only [InR] at *;omega)|skip))
          (refine awp_ret ?_; simp [go_sem])
          have hf : ¬ c = 45 → (¬c = 48 ∨ ¬d' = []) → (¬c = 49 ∨ ¬d' = []) → False := by
            rcases h6 with (h | ⟨h, h'⟩) | ⟨h, h'⟩ <;> simp [h] <;> simp_all
          exact ⟨_, _, _, _, ⟨⟨rfl, rfl, rfl, rfl⟩, fun _ q1 q2 q3 => (hf q1 q2 q3).elim⟩, fun _ _ _ q1 q2 q3 => (hf q1 q2 q3).elim⟩
        · refine awp_skip ?_
          refine hK5 _ ?_; clear hK5
          (refine awp_sr fun KK hKK => ?_; simp [go_sem]; ((repeat' (first|(refine ag_x ?_;simp [go_sem])|intro _|refine And.intro ?_ ?_|(apply hKK;clear hKK KK)));all_goals first|refine Hold.mk ?_|omega|with_reducible assumption|(simp only [InR] at *;omega)|skip))
          ((try refine CallT.toA ?_); refine callT_m (by first | exact .inl ⟨rfl, rfl⟩ | exact .inr rfl) (by simp [go_sem]) ?_; intro args ha; simp [go_sem] at ha; subst ha; refine ⟨_, r1, ?_⟩; rintro _ rfl; simp [go_sem]; ((repeat' (first|(refine ag_x ?_;simp [go_sem])|intro _|refine And.intro ?_ ?_|(apply hKK;clear hKK KK)));all_goals first|refine Hold.mk ?_|omega|with_reducible assumption|(simp only [InR] at *;omega)|skip))
          ((try refine CallT.toA ?_); refine callT_m (by first | exact .inl ⟨rfl, rfl⟩ | exact .inr rfl) (by simp [go_sem]) ?_; intro args ha; simp [go_sem] at ha; subst ha; refine ⟨_, r2, ?_⟩; rintro _ rfl; simp [go_sem]; ((repeat' (first|(refine ag_x ?_;simp [go_sem])|intro _|refine And.intro ?_ ?_|(apply hKK;clear hKK KK)));all_goals first|refine Hold.mk ?_|omega|with_reducible assumption|(simp only [InR] at *;omega)|skip))
          ((refine awp_dr (.qs [1, 3, 0, 2, 4] (.kp 5 (.kp 6 (.qs [7] (.one 8 (.qs [9] (.nil))))))) (by kernel_rfl) ?_ ?_ ?_ ?_); (kernel_rfl); (exact (by decide +kernel)); (kernel_rfl); intro KK hKK; ((repeat' (first|(refine ag_x ?_;simp [go_sem])|refine adr_nil ?_|refine adr_two ?_ ?_|refine adr_kq ?_ ?_|refine adr_three ?_ ?_ ?_|refine adr_four ?_ ?_ ?_ ?_|refine adr_kp2 ?_ ?_|refine adr_kp3 ?_ ?_ ?_|((first|refine adr_qs fun KK hKK=>?_|refine adr_y fun KK hKK=>?_);simp [go_sem])|intro _|refine And.intro ?_ ?_|(apply hKK;clear hKK KK)));all_goals first|refine Hold.mk ?_|omega|with_reducible assumption|(simp only [InR] at *;omega)|skip))
          ((try refine CallT.toA ?_); refine callT_m (by first | exact .inl ⟨rfl, rfl⟩ | exact .inr rfl) (by simp [go_sem]) ?_; intro args ha; simp [go_sem] at ha; subst ha; refine ⟨_, hgs, ?_⟩; rintro _ rfl; simp [go_sem]; ((repeat' (first|(refine ag_x ?_;simp [go_sem])|refine adr_nil ?_|refine adr_two ?_ ?_|refine adr_kq ?_ ?_|refine adr_three ?_ ?_ ?_|refine adr_four ?_ ?_ ?_ ?_|refine adr_kp2 ?_ ?_|refine adr_kp3 ?_ ?_ ?_|((first|refine adr_qs fun KK hKK=>?_|refine adr_y fun KK hKK=>?_);simp [go_sem])|intro _|refine And.intro ?_ ?_|(apply hKK;clear hKK KK)));all_goals first|refine Hold.mk ?_|omega|with_reducible assumption|(simp only [InR] at *;omega)|skip))
          ((try refine CallT.toA ?_); refine callT_m (by first | exact .inl ⟨rfl, rfl⟩ | exact .inr rfl) (by simp [go_sem]) ?_; intro args ha; simp [go_sem] at ha; subst ha; refine ⟨_, tx, ?_⟩; rintro _ rfl; simp [go_sem]; ((repeat' (first|(refine ag_x ?_;simp [go_sem])|refine adr_nil ?_|refine adr_two ?_ ?_|refine adr_kq ?_ ?_|refine adr_three ?_ ?_ ?_|refine adr_four ?_ ?_ ?_ ?_|refine adr_kp2 ?_ ?_|refine adr_kp3 ?_ ?_ ?_|((first|refine adr_qs fun KK hKK=>?_|refine adr_y fun KK hKK=>?_);simp [go_sem])|intro _|refine And.intro ?_ ?_|(apply hKK;clear hKK KK)));all_goals first|refine Hold.mk ?_|omega|with_reducible assumption|(simp only [InR] at *;omega)|skip))
          (refine awp_ret ?_; simp [go_sem])
          have q2 : ¬c = 48 ∨ ¬d' = [] := by
            by_cases h : c = 48
            · exact .inr (h6.1.2 h)
            · exact .inl h
          have q3 : ¬c = 49 ∨ ¬d' = [] := by
            by_cases h : c = 49
            · exact .inr (h6.2 h)
            · exact .inl h
          refine ⟨_, _, _, _, ⟨⟨rfl, rfl, rfl, rfl⟩, ?_⟩, ?_⟩
          · rw [if_pos hn]
            by_cases hG1 : m.natAbs.gcd n.natAbs = 1
            · rw [if_pos ⟨⟨hd, ⟨h6.1.1, q2⟩, q3⟩, hG1⟩, hi1.2 (by omega)]; rfl
            · rw [if_neg (fun h => hG1 h.2)]
              have : ¬ tg = [49] := fun h => hG1 (by have := hi1.1 h; omega)
              simpa using this
          · rintro a b - - - - - - rfl rfl
            exact ⟨rfl, rfl, rfl, rfl⟩
end Go.Proofs.YtglncfhcgkihbaaGreatDoor
