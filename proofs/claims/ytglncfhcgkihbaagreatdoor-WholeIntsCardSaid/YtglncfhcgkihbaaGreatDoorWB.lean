/- Part of a proof: see the last text. -/
import Derived.Test.YtglncfhcgkihbaaGreatDoorWA
import Derived.Test.YtglncfhcgkihbaaGreatDoorSA
import Derived.Lib.FrozenHead2
import Derived.Shelf.RegionOpenPlain
import Derived.Test.YtglncfhcgkihbaaGreatDoorED
import Derived.Lib.ConvBytes
import Derived.Sort.Grow
set_option linter.unusedVariables false
set_option linter.unusedSimpArgs false
namespace Go.Proofs.YtglncfhcgkihbaaGreatDoor
open Go.Eng Go.Wh
set_option maxRecDepth 20000
set_option linter.unusedSimpArgs false
set_option linter.unusedVariables false
attribute [local irreducible] AG CallA CallT AWp PCall ACall AgC
theorem mul_as (sa sb : Bool) {a b : List Int} (ha : digs (U : Int) a) (hb : digs (U : Int) b) (hla : a.length ≤ 1000000) (hlb : b.length ≤ 1000000) {n : Int} (h : sg (sa != sb) (val U a * val U b) = n) :
    PCall Tryz.prog 41 [.agg [dB sa, dIs a], .agg [dB sb, dIs b]] fun r => r = dBig n := by
  subst h; exact mulL_spec sa sb ha hb hla hlb
theorem digs1 {x : Int} (h0 : 0 ≤ x) (h1 : x < 1000000000) : digs (U : Int) [x] := fun d hd => by
  simp at hd; subst hd; exact ⟨h0, h1⟩
theorem val1 (x : Int) : val U [x] = x := by simp [val]
theorem sgn_le (a b : Int) : (sgn (a - b) ≤ 0) ↔ a ≤ b := by
  unfold sgn
  split
  · simp; omega
  · split <;> simp <;> omega
theorem bnd_mul {X B k : Nat} (h : (X : Int) < B * 1000000000) (h1 : B < U ^ k) : X < U ^ (k + 1) := by
  rw [Nat.pow_succ]
  have h2 : B * 1000000000 ≤ U ^ k * 1000000000 := Nat.mul_le_mul_right _ (Nat.le_of_lt h1)
  have h3 : X < B * 1000000000 := by omega
  exact Nat.lt_of_lt_of_le h3 h2
set_option maxHeartbeats 8000000 in
theorem parts_spec (A B : Nat) (hB : B ≠ 0) (hlA : (dg U A).length ≤ 900000) (hlB : (dg U B).length ≤ 900000) : PCall Tryz.prog 96 [dIs (dg U A), dIs (dg U B)] fun r => r = .tup [dIs (dg U (A / B)), dIs (dg U (A % B))] := by 
  refine pcall_of Tryz.func96 rfl rfl Tryz.ntmps96 (rs := [.tmp 4, .tmp 5]) (tys := [22, 22]) rfl rfl (by simp) ?_
  generalize ha' : dg U A = a at hlA
  have ha : digs (U : Int) a := ha' ▸ dgU A
  have hva : val U a = A := ha' ▸ vU A
  have hB0 : (0 : Int) < B := by omega
  (refine awp_sr fun KK hKK => ?_; simp [go_sem]; ((repeat' (first|(refine ag_x ?_;simp [go_sem])|intro _|refine And.intro ?_ ?_|(apply hKK;clear hKK KK)));all_goals first|refine Hold.mk ?_|omega|with_reducible assumption|(simp only [InR] at *;omega)|skip))
  refine awp_nilsl 5 1 rfl ?_
  simp only [go_sem]
  (refine awp_sr fun KK hKK => ?_; simp [go_sem]; ((repeat' (first|(refine ag_x ?_;simp [go_sem])|intro _|refine And.intro ?_ ?_|(apply hKK;clear hKK KK)));all_goals first|refine Hold.mk ?_|omega|with_reducible assumption|(simp only [InR] at *;omega)|skip))
  rename_i g
  refine awp_seq_k fun K1 hK1 => ?_
  (refine awp_sr fun KK hKK => ?_; simp [go_sem]; ((repeat' (first|(refine ag_x ?_;simp [go_sem])|intro _|refine And.intro ?_ ?_|(apply hKK;clear hKK KK)));all_goals first|refine Hold.mk ?_|omega|with_reducible assumption|(simp only [InR] at *;omega)|skip))
  refine awp_block ?_
  refine awp_loop (σ := Nat × List Int × Nat) (fun x => ⟨[(0, dIs a), (1, dIs (dg U B)), (4, .own 12 g), (5, dIs (dg U x.2.2)), (6, dI ((x.1 : Int) - 1))], [(12, g, .row 3 1 (x.2.1.map cI))]⟩) (fun x => x.1 ≤ a.length ∧ DivI U a B x.1 x.2.1 x.2.2) (fun x => x.1) (a.length, List.replicate a.length 0, 0) ?_ ?_ ?_
  · (refine cov_of ?_ ?_ <;> simp [go_sem, dg_zero])
  · exact ⟨Nat.le_refl _, div_init (by decide) a hB0⟩
  rintro ⟨j, q, R⟩ ⟨hj, hp⟩
  simp only at hj hp
  refine awp_seq_k fun K2 hK2 => ?_
  (refine awp_sr fun KK hKK => ?_; simp [go_sem]; ((repeat' (first|(refine ag_x ?_;simp [go_sem])|intro _|refine And.intro ?_ ?_|(apply hKK;clear hKK KK)));all_goals first|refine Hold.mk ?_|omega|with_reducible assumption|(simp only [InR] at *;omega)|skip))
  (refine awp_if fun T F hT hF => ?_; simp [go_sem]; refine BR.intro (fun h3 => hT ?_) (fun h3 => hF ?_); all_goals clear hT hF T F; try simp at h3) 
  · refine awp_skip ?_
    refine hK2 _ ?_; clear hK2
    obtain ⟨i, rfl⟩ : ∃ i, j = i + 1 := ⟨j - 1, by omega⟩
    obtain ⟨x, hax⟩ : ∃ x, a[i]? = some x := ⟨_, List.getElem?_eq_getElem (by omega)⟩
    have qx := dU ha hax
    have hrr := hp.2.2.1
    have hql := hp.1
    obtain ⟨hst, n12, n3, n4⟩ := div_step (B := (U : Int)) (by decide) hB0 ha (by omega) hp
    rw [getD_in hax] at hst n12 n3 n4
    have n12 : 0 ≤ (R : Int) * 1000000000 + x ∧ (R : Int) * 1000000000 + x < B * 1000000000 := n12
    have hst : DivI U a B i (q.set i (((R : Int) * 1000000000 + x) / B)) (((R : Int) * 1000000000 + x) % B) := hst
    have n4 : ((R : Int) * 1000000000 + x) / B < 1000000000 := n4
    have n3 : 0 ≤ ((R : Int) * 1000000000 + x) / B := n3
    obtain ⟨X, hX⟩ : ∃ X : Nat, (R : Int) * 1000000000 + x = X := ⟨((R : Int) * 1000000000 + x).toNat, by omega⟩
    rw [hX] at hst n12 n3 n4
    have hlX : (dg U X).length ≤ 900001 := by
      refine Nat.le_trans (dg_len_le (B := U) (by decide) (k := (dg U B).length + 1) ?_) (by omega)
      exact bnd_mul n12.2 (dg_lt (B := U) (by decide) B)
    have hlR : (dg U R).length ≤ 900000 := Nat.le_trans (dg_le (by omega)) hlB
    obtain ⟨z, hqz⟩ : ∃ z, q[i]? = some z := ⟨_, List.getElem?_eq_getElem (by omega)⟩
    refine awp_seq_k fun K4 hK4 => ?_
    refine awp_block ?_
    (refine awp_sr fun KK hKK => ?_; simp [go_sem, hax]; ((repeat' (first|(refine ag_x ?_;simp [go_sem, hax])|intro _|refine And.intro ?_ ?_|(apply hKK;clear hKK KK)));all_goals first|refine Hold.mk ?_|omega|with_reducible assumption|(simp only [InR] at *;omega)|skip))
    ((try refine CallT.toA ?_); refine callT_z (by first | exact .inl ⟨rfl, rfl⟩ | exact .inr rfl) rfl (by simp [go_sem]) (by simp [go_sem]) ?_; intro args ha; simp [go_sem] at ha; subst ha; refine ⟨_, (trim_spec (x :: dg U R)), ?_⟩; rintro _ rfl; simp [go_sem]; ((repeat' (first|(refine ag_x ?_;simp [go_sem])|intro _|refine And.intro ?_ ?_|(apply hKK;clear hKK KK)));all_goals first|refine Hold.mk ?_|omega|with_reducible assumption|(simp only [InR] at *;omega)|skip))
    have et : trimL (x :: dg U R) = dg U X := trimU (digs_cons.2 ⟨qx, dgU R⟩) (by simp only [val, vU]; have : (U : Int) = 1000000000 := rfl; rw [this]; omega)
    rw [et]
    (refine awp_sr fun KK hKK => ?_; simp [go_sem]; ((repeat' (first|(refine ag_x ?_;simp [go_sem])|intro _|refine And.intro ?_ ?_|(apply hKK;clear hKK KK)));all_goals first|refine Hold.mk ?_|omega|with_reducible assumption|(simp only [InR] at *;omega)|skip))
    refine awp_seq_k fun K5 hK5 => ?_
    refine awp_block ?_
    refine awp_loop (σ := Int × Int) (fun s => ⟨[(0, dIs a), (1, dIs (dg U B)), (4, .own 12 g), (5, dIs (dg U X)), (6, dI i), (7, dI s.1), (8, dI s.2)], [(12, g, .row 3 1 (q.map cI))]⟩) (fun s => 0 ≤ s.1 ∧ s.1 < s.2 ∧ s.2 ≤ 1000000000 ∧ B * s.1 ≤ X ∧ X < B * s.2) (fun s => (s.2 - s.1).toNat) (0, 1000000000) ?_ ?_ ?_
    · (refine cov_of ?_ ?_ <;> simp [go_sem])
    · exact ⟨by simp, by simp, by simp, by simp, by simpa using n12.2⟩
    rintro ⟨lo, hi⟩ ⟨l0, l1, l2, l3, l4⟩
    simp only at l0 l1 l2 l3 l4
    refine awp_seq_k fun K6 hK6 => ?_
    (refine awp_sr fun KK hKK => ?_; simp [go_sem]; ((repeat' (first|(refine ag_x ?_;simp [go_sem])|intro _|refine And.intro ?_ ?_|(apply hKK;clear hKK KK)));all_goals first|refine Hold.mk ?_|omega|with_reducible assumption|(simp only [InR] at *;omega)|skip))
    (refine awp_if fun T F hT hF => ?_; simp [go_sem]; refine BR.intro (fun h7 => hT ?_) (fun h7 => hF ?_); all_goals clear hT hF T F; try simp at h7) 
    · refine awp_skip ?_
      refine hK6 _ ?_; clear hK6
      refine awp_block ?_
      obtain ⟨m1, m2, m3, m4, m5, m6⟩ := div_mod_of (B := 2) (n := lo + hi) (by decide) (by omega)
      (refine awp_sr fun KK hKK => ?_; simp [go_sem, m2]; ((repeat' (first|(refine ag_x ?_;simp [go_sem, m2])|intro _|refine And.intro ?_ ?_|(apply hKK;clear hKK KK)));all_goals first|refine Hold.mk ?_|omega|with_reducible assumption|(simp only [InR] at *;omega)|skip))
      generalize hm : (lo + hi) / 2 = mid at *
      have b1 : lo < mid := by omega
      have b2 : mid < hi := by omega
      have p0 : (0 : Int) ≤ B * mid := Int.mul_nonneg (by omega) (by omega)
      (refine awp_sr fun KK hKK => ?_; simp [go_sem]; ((repeat' (first|(refine ag_x ?_;simp [go_sem])|intro _|refine And.intro ?_ ?_|(apply hKK;clear hKK KK)));all_goals first|refine Hold.mk ?_|omega|with_reducible assumption|(simp only [InR] at *;omega)|skip))
      obtain ⟨M, hM⟩ : ∃ M : Nat, (B : Int) * mid = M := ⟨((B : Int) * mid).toNat, by omega⟩
      have hsg : sg (false != false) (val U (dg U B) * val U [mid]) = (M : Int) := by
        rw [vU, val1, hM]; rfl
      ((try refine CallT.toA ?_); refine callT_z (by first | exact .inl ⟨rfl, rfl⟩ | exact .inr rfl) rfl (by simp [go_sem]) (by simp [go_sem]) ?_; intro args ha; simp [go_sem] at ha; subst ha; refine ⟨_, (mul_as false false (dgU B) (digs1 (x := mid) (by omega) (by omega)) (by omega) (by simp) hsg), ?_⟩; rintro _ rfl; simp [go_sem]; ((repeat' (first|(refine ag_x ?_;simp [go_sem])|intro _|refine And.intro ?_ ?_|(apply hKK;clear hKK KK)));all_goals first|refine Hold.mk ?_|omega|with_reducible assumption|(simp only [InR] at *;omega)|skip))
      ((try refine CallT.toA ?_); refine callT_m (by first | exact .inl ⟨rfl, rfl⟩ | exact .inr rfl) (by simp [go_sem]) ?_; intro args ha; simp [go_sem] at ha; subst ha; refine ⟨_, (trim_spec _), ?_⟩; rintro _ rfl; simp [go_sem]; ((repeat' (first|(refine ag_x ?_;simp [go_sem])|intro _|refine And.intro ?_ ?_|(apply hKK;clear hKK KK)));all_goals first|refine Hold.mk ?_|omega|with_reducible assumption|(simp only [InR] at *;omega)|skip))
      rw [dg_trim (B := U) (by decide)]
      ((try refine CallT.toA ?_); refine callT_m (by first | exact .inl ⟨rfl, rfl⟩ | exact .inr rfl) (by simp [go_sem]) ?_; intro args ha; simp [go_sem] at ha; subst ha; refine ⟨_, (size_spec _ _), ?_⟩; rintro _ rfl; simp [go_sem]; ((repeat' (first|(refine ag_x ?_;simp [go_sem])|intro _|refine And.intro ?_ ?_|(apply hKK;clear hKK KK)));all_goals first|refine Hold.mk ?_|omega|with_reducible assumption|(simp only [InR] at *;omega)|skip))
      (refine awp_if fun T F hT hF => ?_; simp [go_sem]; refine BR.intro (fun h8 => hT ?_) (fun h8 => hF ?_); all_goals clear hT hF T F; try simp at h8)
      · rw [sgn_le] at h8
        (refine awp_r fun KK hKK => ?_; simp [go_sem]; ((repeat' (first|(refine ag_x ?_;simp [go_sem])|intro _|refine And.intro ?_ ?_|(apply hKK;clear hKK KK)));all_goals first|refine Hold.mk ?_|omega|with_reducible assumption|(simp only [InR] at *;omega)|skip))
        refine ⟨(mid, hi), ?_, ⟨by simp only; omega, by simp only; omega, by simp only; omega, by simp only; omega, by simp only; omega⟩, by simp only; omega⟩
        (refine cov_of ?_ ?_ <;> simp [go_sem])
      · have h8 : ¬ ((M : Int) ≤ X) := fun h => by have := (sgn_le _ _).2 h; omega
        (refine awp_r fun KK hKK => ?_; simp [go_sem]; ((repeat' (first|(refine ag_x ?_;simp [go_sem])|intro _|refine And.intro ?_ ?_|(apply hKK;clear hKK KK)));all_goals first|refine Hold.mk ?_|omega|with_reducible assumption|(simp only [InR] at *;omega)|skip))
        refine ⟨(lo, mid), ?_, ⟨by simp only; omega, by simp only; omega, by simp only; omega, by simp only; omega, by simp only; omega⟩, by simp only; omega⟩
        (refine cov_of ?_ ?_ <;> simp [go_sem])
    · refine awp_exit ?_
      simp only [go_sem]
      refine hK5 _ ?_; clear hK5
      obtain rfl : hi = lo + 1 := by omega
      have hlo : (X : Int) / B = lo := by
        rw [Int.mul_add, Int.mul_one] at l4
        have := Int.ediv_emod_unique (a := X) (b := B) (r := X - B * lo) (q := lo) hB0
        exact (this.2 ⟨by omega, by omega, by omega⟩).1
      have hmo : (X : Int) % B = X - B * lo := by
        have := Int.mul_ediv_add_emod X B
        rw [hlo] at this; omega
      rw [hlo, hmo] at hst
      have p0 : (0 : Int) ≤ B * lo := Int.mul_nonneg (by omega) (by omega)
      obtain ⟨M, hM⟩ : ∃ M : Nat, (B : Int) * lo = M := ⟨((B : Int) * lo).toNat, by omega⟩
      have hsg : sg (false != decide (lo < 0)) (val U (dg U B) * val U (dg U lo.natAbs)) = (M : Int) := by
        rw [vU, vU, decide_eq_false (by omega), show ((lo.natAbs : Nat) : Int) = lo by omega, hM]; rfl
      rw [hM] at hst
      (refine awp_sr fun KK hKK => ?_; simp [go_sem, hqz]; ((repeat' (first|(refine ag_x ?_;simp [go_sem, hqz])|intro _|refine And.intro ?_ ?_|(apply hKK;clear hKK KK)));all_goals first|refine Hold.mk ?_|omega|with_reducible assumption|(simp only [InR] at *;omega)|skip))
      (refine awp_r fun KK hKK => ?_; simp [go_sem]; ((repeat' (first|(refine ag_x ?_;simp [go_sem])|intro _|refine And.intro ?_ ?_|(apply hKK;clear hKK KK)));all_goals first|refine Hold.mk ?_|omega|with_reducible assumption|(simp only [InR] at *;omega)|skip))
      ((try refine CallT.toA ?_); refine callT_z (by first | exact .inl ⟨rfl, rfl⟩ | exact .inr rfl) rfl (by simp [go_sem]) (by simp [go_sem]) ?_; intro args ha; simp [go_sem] at ha; subst ha; refine ⟨_, (fit_as false (digs1 (x := lo) (by omega) (by omega)) (n := lo) (by rw [val1]; rfl)), ?_⟩; rintro _ rfl; simp [go_sem]; ((repeat' (first|(refine ag_x ?_;simp [go_sem])|intro _|refine And.intro ?_ ?_|(apply hKK;clear hKK KK)));all_goals first|refine Hold.mk ?_|omega|with_reducible assumption|(simp only [InR] at *;omega)|skip))
      ((try refine CallT.toA ?_); refine callT_m (by first | exact .inl ⟨rfl, rfl⟩ | exact .inr rfl) (by simp [go_sem]) ?_; intro args ha; simp [go_sem] at ha; subst ha; refine ⟨_, (mul_as false (decide (lo < 0)) (dgU B) (dgU lo.natAbs) (by omega) (Nat.le_trans (dg_len_le (B := U) (k := 1) (by decide) (by have : (U : Nat) ^ 1 = 1000000000 := rfl; omega)) (by omega)) hsg), ?_⟩; rintro _ rfl; simp [go_sem]; ((repeat' (first|(refine ag_x ?_;simp [go_sem])|intro _|refine And.intro ?_ ?_|(apply hKK;clear hKK KK)));all_goals first|refine Hold.mk ?_|omega|with_reducible assumption|(simp only [InR] at *;omega)|skip))
      have hMX : M ≤ X := by omega
      ((try refine CallT.toA ?_); refine callT_m (by first | exact .inl ⟨rfl, rfl⟩ | exact .inr rfl) (by simp [go_sem]) ?_; intro args ha; simp [go_sem] at ha; subst ha; refine ⟨_, (less_spec (dgU X) (dgU M) (by omega) (dg_le hMX) (by rw [vU, vU]; omega)), ?_⟩; rintro _ ⟨l, rfl, hl, hv⟩; simp [go_sem]; ((repeat' (first|(refine ag_x ?_;simp [go_sem])|intro _|refine And.intro ?_ ?_|(apply hKK;clear hKK KK)));all_goals first|refine Hold.mk ?_|omega|with_reducible assumption|(simp only [InR] at *;omega)|skip))
      rw [vU, vU] at hv
      ((try refine CallT.toA ?_); refine callT_m (by first | exact .inl ⟨rfl, rfl⟩ | exact .inr rfl) (by simp [go_sem]) ?_; intro args ha; simp [go_sem] at ha; subst ha; refine ⟨_, (trim_spec _), ?_⟩; rintro _ rfl; simp [go_sem]; ((repeat' (first|(refine ag_x ?_;simp [go_sem])|intro _|refine And.intro ?_ ?_|(apply hKK;clear hKK KK)));all_goals first|refine Hold.mk ?_|omega|with_reducible assumption|(simp only [InR] at *;omega)|skip))
      have et2 : trimL l = dg U (X - M) := trimU hl (by omega)
      rw [et2]
      refine hK4 _ ?_; clear hK4
      (refine awp_r fun KK hKK => ?_; simp [go_sem]; ((repeat' (first|(refine ag_x ?_;simp [go_sem])|intro _|refine And.intro ?_ ?_|(apply hKK;clear hKK KK)));all_goals first|refine Hold.mk ?_|omega|with_reducible assumption|(simp only [InR] at *;omega)|skip))
      have hst : DivI U a B i (q.set i lo) ((X - M : Nat) : Int) := by rw [Int.ofNat_sub hMX]; exact hst
      refine ⟨(i, q.set i lo, X - M), ?_, ⟨by simp only; omega, hst⟩, by simp only; omega⟩
      (refine cov_of ?_ ?_ <;> simp [go_sem, List.map_set])
  · refine awp_exit ?_
    simp only [go_sem]
    refine hK1 _ ?_; clear hK1
    have hj0 : j = 0 := by omega
    subst hj0
    obtain ⟨d1, d2, d3⟩ := div_done (by decide) hB0 hp
    (refine awp_sr fun KK hKK => ?_; simp [go_sem]; ((repeat' (first|(refine ag_x ?_;simp [go_sem])|intro _|refine And.intro ?_ ?_|(apply hKK;clear hKK KK)));all_goals first|refine Hold.mk ?_|omega|with_reducible assumption|(simp only [InR] at *;omega)|skip))
    ((try refine CallT.toA ?_); refine callT_z (by first | exact .inl ⟨rfl, rfl⟩ | exact .inr rfl) rfl (by simp [go_sem]) (by simp [go_sem]) ?_; intro args ha; simp [go_sem] at ha; subst ha; refine ⟨_, (trim_spec _), ?_⟩; rintro _ rfl; simp [go_sem]; ((repeat' (first|(refine ag_x ?_;simp [go_sem])|intro _|refine And.intro ?_ ?_|(apply hKK;clear hKK KK)));all_goals first|refine Hold.mk ?_|omega|with_reducible assumption|(simp only [InR] at *;omega)|skip))
    (refine awp_ret ?_; simp [go_sem])
    have e1 : trimL q = dg U (A / B) := trimU d1 (by rw [d2, hva]; rfl)
    have e2 : R = A % B := by rw [hva] at d3; exact_mod_cast d3
    rw [e1, e2]
    exact ⟨rfl, rfl⟩
end Go.Proofs.YtglncfhcgkihbaaGreatDoor

namespace Go.Proofs.YtglncfhcgkihbaaGreatDoor
open Go.Eng Go.Wh
set_option maxRecDepth 20000
set_option linter.unusedSimpArgs false
set_option linter.unusedVariables false
attribute [local irreducible] AG CallA CallT AWp PCall ACall AgC
theorem dg_one : dg U 1 = [1] := by rw [dg_pos (by decide) (by decide), show (1 : Nat) / U = 0 by decide, dg_zero]; rfl
theorem add_m1 (m : Int) (hm : sz U m ≤ 1000000) : PCall Tryz.prog 63 [dBig m, .agg [dB true, .sl 1 [cI 1]]] fun r => r = dBig (m - 1) := by
  have h := add_spec m (-1) hm (by show (dg U 1).length ≤ _; rw [dg_one]; simp)
  have e : dBig (-1) = .agg [dB true, .sl 1 [cI 1]] := by
    show D.agg [_, D.sl 1 ((dg U 1).map cI)] = _
    rw [dg_one]; rfl
  rw [e] at h
  exact h
/-- a number of one digit -/
theorem dg_single {n : Nat} (h : (dg U n).length = 1) : 0 < n ∧ n < 1000000000 ∧ dg U n = [(n : Int)] := by
  have h0 : n ≠ 0 := by rintro rfl; rw [dg_zero] at h; simp at h
  have h1 := dg_lt (B := U) (by decide) n
  rw [h] at h1
  have h1 : n < 1000000000 := h1
  refine ⟨by omega, h1, ?_⟩
  rw [dg_pos (by decide) h0, Nat.mod_eq_of_lt h1, Nat.div_eq_of_lt h1, dg_zero]
theorem sz_abs_le {m n : Int} (h : m.natAbs ≤ n.natAbs) : sz U m ≤ sz U n := sz_mono (by decide) h
set_option maxHeartbeats 8000000 in
theorem div_spec (a b : Int) (hb : b ≠ 0) (hla : sz U a ≤ 900000) (hlb : sz U b ≤ 900000) : PCall Tryz.prog 49 [dBig a, dBig b] fun r => r = .tup [dBig (fq a b), dBig (fr a b)] := by 
  refine pcall_of Tryz.func49 rfl rfl Tryz.ntmps49 (rs := [.cell 4 58, .cell 5 58]) (tys := [58, 58]) rfl rfl (by simp) ?_
  have hb0 : b.natAbs ≠ 0 := by omega
  obtain ⟨T, hT⟩ : ∃ T, a.tdiv b = T := ⟨_, rfl⟩
  obtain ⟨M, hM⟩ : ∃ M, a.tmod b = M := ⟨_, rfl⟩
  have hTs : sz U T ≤ 1000000 := by
    have : sz U T ≤ sz U a := sz_abs_le (by rw [← hT, tdiv_abs]; exact Nat.div_le_self _ _)
    omega
  have hMs : sz U M ≤ 1000000 := by
    have : sz U M ≤ sz U a := sz_abs_le (by rw [← hM, tmod_abs]; exact Nat.mod_le _ _)
    omega
  have F1 : PCall Tryz.prog 83 [dB (decide (a < 0) != decide (b < 0)), dIs (dg U (a.natAbs / b.natAbs))] fun r => r = dBig T := fit_as _ (dgU _) (by rw [vU, ← hT, tdiv_sg])
  have F2 : PCall Tryz.prog 83 [dB (decide (a < 0)), dIs (dg U (a.natAbs % b.natAbs))] fun r => r = dBig M := fit_as _ (dgU _) (by rw [vU, ← hM, tmod_sg])
  have hlen : (0 < (dg U (a.natAbs % b.natAbs)).length) ↔ M ≠ 0 := by
    rw [List.length_pos_iff, ne_eq, dg_nil (B := U) (by decide), ← tmod_abs, hM]; omega
  have hq : fq a b = if M ≠ 0 ∧ (decide (a < 0) != decide (b < 0)) then T - 1 else T := by unfold fq; rw [hT, hM]
  have hr : fr a b = if M ≠ 0 ∧ (decide (a < 0) != decide (b < 0)) then M + b else M := by unfold fr; rw [hM]
  (refine awp_sr fun KK hKK => ?_; simp [go_sem]; ((repeat' (first|(refine ag_x ?_;simp [go_sem])|intro _|refine And.intro ?_ ?_|(apply hKK;clear hKK KK)));all_goals first|refine Hold.mk ?_|omega|with_reducible assumption|(simp only [InR] at *;omega)|skip))
  rename_i g2 g3 g4 g5
  (refine awp_sr fun KK hKK => ?_; simp [go_sem]; ((repeat' (first|(refine ag_x ?_;simp [go_sem])|intro _|refine And.intro ?_ ?_|(apply hKK;clear hKK KK)));all_goals first|refine Hold.mk ?_|omega|with_reducible assumption|(simp only [InR] at *;omega)|skip))
  refine awp_seq_k fun K1 hK1 => ?_
  have tl1 : ∀ S', Cov S' ⟨[(2, .ptr 2 g2 0), (3, .ptr 3 g3 0), (4, .ptr 4 g4 0), (5, .ptr 5 g5 0), (6, dIs (dg U (a.natAbs / b.natAbs))), (7, dIs (dg U (a.natAbs % b.natAbs)))], [(2, g2, .box [dB (decide (a < 0)), dIs (dg U a.natAbs)]), (3, g3, .box [dB (decide (b < 0)), dIs (dg U b.natAbs)]), (4, g4, .box [dB false, .v (.slice none 0 0)]), (5, g5, .box [dB false, .v (.slice none 0 0)])]⟩ → K1 S' := fun S' hS => by
    refine hK1 _ ?_; clear hK1
    refine awp_cov hS ?_; clear hS
    refine awp_seq_k fun K7 hK7 => ?_
    have tl7 : ∀ S' g9 g10, Cov S' ⟨[(2, .ptr 2 g2 0), (3, .ptr 3 g3 0), (4, .ptr 4 g4 0), (5, .ptr 5 g5 0), (7, dIs (dg U (a.natAbs % b.natAbs))), (9, .ptr 9 g9 0), (10, .ptr 10 g10 0)], [(9, g9, .box [dB (decide (T < 0)), dIs (dg U T.natAbs)]), (10, g10, .box [dB (decide (M < 0)), dIs (dg U M.natAbs)]), (2, g2, .box [dB (decide (a < 0)), dIs (dg U a.natAbs)]), (3, g3, .box [dB (decide (b < 0)), dIs (dg U b.natAbs)]), (4, g4, .box [dB false, .v (.slice none 0 0)]), (5, g5, .box [dB false, .v (.slice none 0 0)])]⟩ → K7 S' := fun S' g9 g10 hS => by
      refine hK7 _ ?_; clear hK7
      refine awp_cov hS ?_; clear hS
      refine awp_seq_k fun K2 hK2 => ?_
      have tl2 : ∀ S', Cov S' ⟨[(4, .ptr 4 g4 0), (5, .ptr 5 g5 0), (9, .ptr 9 g9 0), (10, .ptr 10 g10 0)], [(9, g9, .box [dB (decide (fq a b < 0)), dIs (dg U (fq a b).natAbs)]), (10, g10, .box [dB (decide (fr a b < 0)), dIs (dg U (fr a b).natAbs)]), (4, g4, .box [dB false, .v (.slice none 0 0)]), (5, g5, .box [dB false, .v (.slice none 0 0)])]⟩ → K2 S' := fun S' hS => by
        refine hK2 _ ?_; clear hK2
        refine awp_cov hS ?_; clear hS
        ((refine awp_dr (.two 0 (.two 1 (.one 2 (.one 3 (.nil))) 2 (.qs [1] (.one 3 (.nil)))) 1 (.qs [0] (.one 2 (.one 3 (.nil))))) (by kernel_rfl) ?_ ?_ ?_ ?_); (kernel_rfl); (exact (by decide +kernel)); (kernel_rfl); intro KK hKK; ((repeat' (first|(refine ag_x ?_;simp [go_sem])|refine adr_nil ?_|refine adr_two ?_ ?_|refine adr_kq ?_ ?_|refine adr_three ?_ ?_ ?_|refine adr_four ?_ ?_ ?_ ?_|refine adr_kp2 ?_ ?_|refine adr_kp3 ?_ ?_ ?_|((first|refine adr_qs fun KK hKK=>?_|refine adr_y fun KK hKK=>?_);simp [go_sem])|intro _|refine And.intro ?_ ?_|(apply hKK;clear hKK KK)));all_goals first|refine Hold.mk ?_|omega|with_reducible assumption|(simp only [InR] at *;omega)|skip))
        all_goals (refine awp_ret ?_; simp [go_sem])
      clear hK2
      (refine awp_sr fun KK hKK => ?_; simp [go_sem]; ((repeat' (first|(refine ag_x ?_;simp [go_sem])|intro _|refine And.intro ?_ ?_|(apply hKK;clear hKK KK)));all_goals first|refine Hold.mk ?_|omega|with_reducible assumption|(simp only [InR] at *;omega)|skip))
      (refine awp_if fun T F hT hF => ?_; simp [go_sem]; refine BR.intro (fun h3 => hT ?_) (fun h3 => hF ?_); all_goals clear hT hF T F; try simp at h3) 
      · have hc : M ≠ 0 ∧ (decide (a < 0) != decide (b < 0)) = true := ⟨hlen.1 h3.1, by simpa using h3.2⟩
        rw [if_pos hc] at hq hr
        (refine awp_sr fun KK hKK => ?_; simp [go_sem]; ((repeat' (first|(refine ag_x ?_;simp [go_sem])|intro _|refine And.intro ?_ ?_|(apply hKK;clear hKK KK)));all_goals first|refine Hold.mk ?_|omega|with_reducible assumption|(simp only [InR] at *;omega)|skip))
        ((try refine CallT.toA ?_); refine callT_z (by first | exact .inl ⟨rfl, rfl⟩ | exact .inr rfl) rfl (by simp [go_sem]) (by simp [go_sem]) ?_; intro args ha; simp [go_sem] at ha; subst ha; refine ⟨_, (add_m1 T hTs), ?_⟩; rintro _ rfl; simp [go_sem]; ((repeat' (first|(refine ag_x ?_;simp [go_sem])|intro _|refine And.intro ?_ ?_|(apply hKK;clear hKK KK)));all_goals first|refine Hold.mk ?_|omega|with_reducible assumption|(simp only [InR] at *;omega)|skip))
        (refine awp_r fun KK hKK => ?_; simp [go_sem]; ((repeat' (first|(refine ag_x ?_;simp [go_sem])|intro _|refine And.intro ?_ ?_|(apply hKK;clear hKK KK)));all_goals first|refine Hold.mk ?_|omega|with_reducible assumption|(simp only [InR] at *;omega)|skip))
        ((try refine CallT.toA ?_); refine callT_m (by first | exact .inl ⟨rfl, rfl⟩ | exact .inr rfl) (by simp [go_sem]) ?_; intro args ha; simp [go_sem] at ha; subst ha; refine ⟨_, (add_spec M b hMs (by omega)), ?_⟩; rintro _ rfl; simp [go_sem]; ((repeat' (first|(refine ag_x ?_;simp [go_sem])|intro _|refine And.intro ?_ ?_|(apply hKK;clear hKK KK)));all_goals first|refine Hold.mk ?_|omega|with_reducible assumption|(simp only [InR] at *;omega)|skip))
        refine tl2 _ ?_
        rw [hq, hr]
        (refine cov_of ?_ ?_ <;> simp [go_sem])
      · refine awp_skip ?_
        refine tl2 _ ?_
        have hc : ¬ (M ≠ 0 ∧ (decide (a < 0) != decide (b < 0)) = true) := fun h => by
          have := h3 (hlen.2 h.1)
          simp [this] at h
        rw [if_neg hc] at hq hr
        rw [hq, hr]
        (refine cov_of ?_ ?_ <;> simp [go_sem])
    clear hK7
    ((refine awp_d (.qs [0, 2, 5, 7, 9, 1, 3, 4, 8] (.kp3 6 (.kp3 10 (.kp2 11 (.kp 12 (.one 13 (.one 14 (.nil)))) 12 (.kp 11 (.one 13 (.one 14 (.nil))))) 11 (.kp2 10 (.kp 12 (.one 13 (.one 14 (.nil)))) 12 (.kp 10 (.one 13 (.one 14 (.nil))))) 12 (.kp2 10 (.kp 11 (.one 13 (.one 14 (.nil)))) 11 (.kp 10 (.one 13 (.one 14 (.nil)))))) 11 (.kp2 6 (.kp2 10 (.kp 12 (.one 13 (.one 14 (.nil)))) 12 (.kp 10 (.one 13 (.one 14 (.nil))))) 12 (.kp 6 (.kp 10 (.one 13 (.one 14 (.nil)))))) 12 (.kp2 6 (.kp2 10 (.kp 11 (.one 13 (.one 14 (.nil)))) 11 (.kp 10 (.one 13 (.one 14 (.nil))))) 11 (.kp 6 (.kp 10 (.one 13 (.one 14 (.nil)))))))) (by kernel_rfl) ?_ ?_ ?_ ?_); (kernel_rfl); (exact (by decide +kernel)); (kernel_rfl); intro KK hKK; ((repeat' (first|(refine ag_x ?_;simp [go_sem])|refine adr_nil ?_|refine adr_two ?_ ?_|refine adr_kq ?_ ?_|refine adr_three ?_ ?_ ?_|refine adr_four ?_ ?_ ?_ ?_|refine adr_kp2 ?_ ?_|refine adr_kp3 ?_ ?_ ?_|((first|refine adr_qs fun KK hKK=>?_|refine adr_y fun KK hKK=>?_);simp [go_sem])|intro _|refine And.intro ?_ ?_|(apply hKK;clear hKK KK)));all_goals first|refine Hold.mk ?_|omega|with_reducible assumption|(simp only [InR] at *;omega)|skip))
    all_goals (repeat' (first | ((try refine CallT.toA ?_); refine callT_m (by first | exact .inl ⟨rfl, rfl⟩ | exact .inr rfl) (by simp [go_sem]) ?_; intro args ha; simp [go_sem] at ha; subst ha; refine ⟨_, F1, ?_⟩; rintro _ rfl; simp [go_sem]; ((repeat' (first|(refine ag_x ?_;simp [go_sem])|refine adr_nil ?_|refine adr_two ?_ ?_|refine adr_kq ?_ ?_|refine adr_three ?_ ?_ ?_|refine adr_four ?_ ?_ ?_ ?_|refine adr_kp2 ?_ ?_|refine adr_kp3 ?_ ?_ ?_|((first|refine adr_qs fun KK hKK=>?_|refine adr_y fun KK hKK=>?_);simp [go_sem])|intro _|refine And.intro ?_ ?_|(apply hKK;clear hKK KK)));all_goals first|refine Hold.mk ?_|omega|with_reducible assumption|(simp only [InR] at *;omega)|skip)) | ((try refine CallT.toA ?_); refine callT_m (by first | exact .inl ⟨rfl, rfl⟩ | exact .inr rfl) (by simp [go_sem]) ?_; intro args ha; simp [go_sem] at ha; subst ha; refine ⟨_, F2, ?_⟩; rintro _ rfl; simp [go_sem]; ((repeat' (first|(refine ag_x ?_;simp [go_sem])|refine adr_nil ?_|refine adr_two ?_ ?_|refine adr_kq ?_ ?_|refine adr_three ?_ ?_ ?_|refine adr_four ?_ ?_ ?_ ?_|refine adr_kp2 ?_ ?_|refine adr_kp3 ?_ ?_ ?_|((first|refine adr_qs fun KK hKK=>?_|refine adr_y fun KK hKK=>?_);simp [go_sem])|intro _|refine And.intro ?_ ?_|(apply hKK;clear hKK KK)));all_goals first|refine Hold.mk ?_|omega|with_reducible assumption|(simp only [InR] at *;omega)|skip))))
    all_goals (rename_i ga gb; first | (refine tl7 _ ga gb ?_; (refine cov_of ?_ ?_ <;> simp [go_sem]); done) | (refine tl7 _ gb ga ?_; (refine cov_of ?_ ?_ <;> simp [go_sem]); done))
  clear hK1
  (refine awp_sr fun KK hKK => ?_; simp [go_sem]; ((repeat' (first|(refine ag_x ?_;simp [go_sem])|intro _|refine And.intro ?_ ?_|(apply hKK;clear hKK KK)));all_goals first|refine Hold.mk ?_|omega|with_reducible assumption|(simp only [InR] at *;omega)|skip))
  (refine awp_if fun T F hT hF => ?_; simp [go_sem]; refine BR.intro (fun h4 => hT ?_) (fun h4 => hF ?_); all_goals clear hT hF T F; try simp at h4) 
  · obtain ⟨q0, q1, q2⟩ := dg_single (n := b.natAbs) (by omega)
    have hb1 : (dg U b.natAbs)[0]? = some (b.natAbs : Int) := by rw [q2]; rfl
    have S1 : PCall Tryz.prog 94 [dIs (dg U a.natAbs), dI b.natAbs] fun r => r = .tup [dIs (dg U (a.natAbs / b.natAbs)), dI ((a.natAbs % b.natAbs : Nat) : Int)] := by
      have := short_spec (dg U a.natAbs) b.natAbs (dgU _) (Nat.le_trans hla (by omega)) (by omega) (by omega)
      rw [vU, ← Int.natCast_ediv, Int.toNat_natCast, ← Int.natCast_emod] at this
      exact this
    have hm1 := Nat.mod_lt a.natAbs q0
    obtain ⟨m, hm⟩ : ∃ m, a.natAbs % b.natAbs = m := ⟨_, rfl⟩
    obtain ⟨q, hq'⟩ : ∃ q, a.natAbs / b.natAbs = q := ⟨_, rfl⟩
    rw [hm, hq'] at S1 tl1
    rw [hm] at hm1
    obtain ⟨bb, hbb⟩ : ∃ bb, b.natAbs = bb := ⟨_, rfl⟩
    rw [hbb] at hb1 S1 hm1 tl1 q1
    have et : trimL [(m : Int)] = dg U m := trimU (digs1 (by omega) (by omega)) (val1 _)
    rw [hbb]
    (refine awp_sr fun KK hKK => ?_; simp [go_sem]; ((repeat' (first|(refine ag_x ?_;simp [go_sem])|intro _|refine And.intro ?_ ?_|(apply hKK;clear hKK KK)));all_goals first|refine Hold.mk ?_|omega|with_reducible assumption|(simp only [InR] at *;omega)|skip))
    ((refine awp_dr (.qs [0, 2, 1, 3, 4, 5] (.one 6 (.qs [7, 8, 9, 10, 11] (.nil)))) (by kernel_rfl) ?_ ?_ ?_ ?_); (kernel_rfl); (exact (by decide +kernel)); (kernel_rfl); intro KK hKK; ((repeat' (first|(refine ag_x ?_;simp [go_sem, hb1])|refine adr_nil ?_|refine adr_two ?_ ?_|refine adr_kq ?_ ?_|refine adr_three ?_ ?_ ?_|refine adr_four ?_ ?_ ?_ ?_|refine adr_kp2 ?_ ?_|refine adr_kp3 ?_ ?_ ?_|((first|refine adr_qs fun KK hKK=>?_|refine adr_y fun KK hKK=>?_);simp [go_sem, hb1])|intro _|refine And.intro ?_ ?_|(apply hKK;clear hKK KK)));all_goals first|refine Hold.mk ?_|omega|with_reducible assumption|(simp only [InR] at *;omega)|skip))
    ((try refine CallT.toA ?_); refine callT_m (by first | exact .inl ⟨rfl, rfl⟩ | exact .inr rfl) (by simp [go_sem]) ?_; intro args ha; simp [go_sem] at ha; subst ha; refine ⟨_, S1, ?_⟩; rintro _ rfl; simp [go_sem]; ((repeat' (first|(refine ag_x ?_;simp [go_sem])|refine adr_nil ?_|refine adr_two ?_ ?_|refine adr_kq ?_ ?_|refine adr_three ?_ ?_ ?_|refine adr_four ?_ ?_ ?_ ?_|refine adr_kp2 ?_ ?_|refine adr_kp3 ?_ ?_ ?_|((first|refine adr_qs fun KK hKK=>?_|refine adr_y fun KK hKK=>?_);simp [go_sem])|intro _|refine And.intro ?_ ?_|(apply hKK;clear hKK KK)));all_goals first|refine Hold.mk ?_|omega|with_reducible assumption|(simp only [InR] at *;omega)|skip))
    (refine awp_r fun KK hKK => ?_; simp [go_sem]; ((repeat' (first|(refine ag_x ?_;simp [go_sem])|intro _|refine And.intro ?_ ?_|(apply hKK;clear hKK KK)));all_goals first|refine Hold.mk ?_|omega|with_reducible assumption|(simp only [InR] at *;omega)|skip))
    ((try refine CallT.toA ?_); refine callT_z (by first | exact .inl ⟨rfl, rfl⟩ | exact .inr rfl) rfl (by simp [go_sem]) (by simp [go_sem]) ?_; intro args ha; simp [go_sem] at ha; subst ha; refine ⟨_, (trim_spec [(m : Int)]), ?_⟩; rintro _ rfl; simp [go_sem]; ((repeat' (first|(refine ag_x ?_;simp [go_sem])|intro _|refine And.intro ?_ ?_|(apply hKK;clear hKK KK)));all_goals first|refine Hold.mk ?_|omega|with_reducible assumption|(simp only [InR] at *;omega)|skip))
    rw [et]
    refine tl1 _ ?_
    (refine cov_of ?_ ?_ <;> simp [go_sem])
  · (refine awp_r fun KK hKK => ?_; simp [go_sem]; ((repeat' (first|(refine ag_x ?_;simp [go_sem])|intro _|refine And.intro ?_ ?_|(apply hKK;clear hKK KK)));all_goals first|refine Hold.mk ?_|omega|with_reducible assumption|(simp only [InR] at *;omega)|skip))
    ((try refine CallT.toA ?_); refine callT_m (by first | exact .inl ⟨rfl, rfl⟩ | exact .inr rfl) (by simp [go_sem]) ?_; intro args ha; simp [go_sem] at ha; subst ha; refine ⟨_, (parts_spec _ _ hb0 hla hlb), ?_⟩; rintro _ rfl; simp [go_sem]; ((repeat' (first|(refine ag_x ?_;simp [go_sem])|intro _|refine And.intro ?_ ?_|(apply hKK;clear hKK KK)));all_goals first|refine Hold.mk ?_|omega|with_reducible assumption|(simp only [InR] at *;omega)|skip))
    refine tl1 _ ?_
    (refine cov_of ?_ ?_ <;> simp [go_sem])
end Go.Proofs.YtglncfhcgkihbaaGreatDoor

set_option linter.unusedVariables false
namespace Go.Proofs.YtglncfhcgkihbaaGreatDoor
open Go.RowKit

theorem bX : Builder.Extra Tryz.prog Tryz.lays169_ren := Tryz.Builder_Extra_169
set_option maxHeartbeats 1000000 in
set_option maxRecDepth 100000 in
theorem cc_used (b : Nat) (w : World) (h0 : w.cell? ⟨b, 0, none⟩ = some (.pointer (some ⟨b, 0, none⟩))) :
    Calls Tryz.prog 130 #[.pointer (some ⟨b, 0, none⟩)] w fun e w' => e = .returned (.tuple #[]) ∧ w' = w := by
  obtain ⟨j, hj, _⟩ := Option.map_eq_some_iff.1 bX.sizeBuilder
  go_enter Tryz.func130, Tryz.ntmps130
  go_wp2
  rw [Lib.run_neq_ptr_same w _ Tryz.underlying95 hj]
  go_wp2
  go_end0
  exact ⟨rfl, rfl⟩
set_option maxHeartbeats 1000000 in
set_option maxRecDepth 100000 in
theorem cc_fresh (b : Nat) (w : World) (h0 : w.cell? ⟨b, 0, none⟩ = some (.pointer none)) (hsh : w.shape? b = some (97, 2)) (hfz : w.frozen? ⟨b, 0, none⟩ = false) :
    Calls Tryz.prog 130 #[.pointer (some ⟨b, 0, none⟩)] w fun e w' => e = .returned (.tuple #[]) ∧ w' = w.setCell ⟨b, 0, none⟩ (.pointer (some ⟨b, 0, none⟩)) := by
  obtain ⟨j, hj, hjs⟩ := Option.map_eq_some_iff.1 bX.sizeBuilder
  go_enter Tryz.func130, Tryz.ntmps130
  go_wp2
  rw [Lib.run_to_unsafe w ⟨b, 0, none⟩ Tryz.underlying95 Tryz.underlying156 hj (by rw [hjs]; decide) hsh (Nat.zero_lt_succ 1)]
  simp only [Result.andThen]
  rw [Oper.upon_value]
  go_wp2
  rw [run_callFunc_extern Tryz.func152 (by kernel_rfl) (by kernel_rfl) (by kernel_rfl) (e := Extern.AbiNoEscape.same) (by kernel_rfl)]
  rw [Lib.run_noEscape]
  simp only [Result.andThen]
  rw [Oper.upon_value]
  go_wp2
  rw [Lib.run_from_unsafe w ⟨b, 0, none⟩ Tryz.underlying156 Tryz.underlying95 hj hsh bX.liesBuilder]
  simp only [Result.andThen]
  rw [Oper.upon_value]
  go_wp2
  go_end0
  exact ⟨rfl, rfl⟩

section
variable {P : Program} {w : World}
/-- the append of a string to the row of a builder: the row stays where it was, or is new -/
theorem app_exact (t u e : TypeId) (i : TypeInfo) (ht : P.underlying t = some (.slice e)) (hu : P.underlying u = some .string) (hi : P.info? e = some i) (hz : i.zero = some (.int .u8 0))
    (hsize : i.size = 1) (hby : i.bytes = 1) (v : Value) (n : Nat) (xs : List Value) (hown : w.ownsRowF 0 e 1 v n xs) (s : ByteArray) (h63 : n + s.size ≤ maxLen) (hbytes : n + s.size ≤ 140737488355328) :
    ∃ v' w', (∀ ty, (Builtin.append_ #[t, u] ty #[v, .string s]).run P w = .ok v' w') ∧ w'.ownsRowF 0 e 1 v' (n + s.size) (xs ++ Lib.strCells s) ∧ w.grownBy w' v.ownBlock ∧
      (v'.ownBlock = v.ownBlock ∨ ∀ k, v'.ownBlock = some k → w.heap.size ≤ k) := by
  obtain ⟨v', w', h1, h2, h3, _⟩ := Lib.run_append_own_stringF (P := P) w 0 t u t e i ht hu hi hz hsize hby v n xs hown s h63 hbytes (Nat.zero_le _)
  refine ⟨v', w', fun _ => h1, h2, h3, ?_⟩
  have hsmall : n + s.size ≤ 9223372036854775807 := by simp only [maxLen] at h63; omega
  rcases hown.2 with ⟨rfl, rfl⟩ | ⟨g, cap, cur, fz, rfl, hbg, hg, hfz, hnc, hcm, hcs, htake⟩
  · obtain ⟨v2, w2, q1, q2, _, _⟩ := Lib.run_append_own_string (P := P) w w.heap.size t u t e i ht hu hi hz hsize hby (.slice none 0 0) 0 xs ⟨hown.1, .inl ⟨rfl, rfl⟩⟩ s h63 hbytes (Nat.le_refl _)
    rw [h1] at q1
    injection q1 with q1 q1'
    subst q1 q1'
    refine .inr fun k hk => ?_
    rcases q2.2 with ⟨hv, _⟩ | ⟨g, cap, cur, hv, hb, _⟩
    · rw [hv] at hk; cases hk
    · rw [hv] at hk
      simp only [Value.ownBlock, Option.some.injEq] at hk
      omega
  · have hxl : xs.length = n := by simpa using hown.1
    by_cases hroom : n + s.size ≤ cap
    · have hr := Lib.run_append_room_stringF (P := P) w t u t e i ht hu hi hsize g n cap cur fz hg (by simpa using hfz) s hroom (by omega)
      rw [h1] at hr
      injection hr with q1 q1'
      subst q1
      exact .inl rfl
    · have holds : ∀ j u, xs[j]? = some u → w.cell? ((⟨g, 0, none⟩ : Addr).add j) = some u := hown.cells (g := g) rfl
      have hr := Lib.run_append_grow_string (P := P) w t u t e i (.int .u8 0) ht hu hi hz ⟨g, 0, none⟩ n cap xs (by rw [hsize]; simpa using hxl) holds s (by omega) (by omega) (by rw [hby]; exact growslice_fits (by omega) (by omega))
      rw [h1] at hr
      injection hr with q1 q1'
      subst q1
      refine .inr fun k hk => ?_
      simp [Value.ownBlock] at hk
      omega
/-- the append of one byte's row to the row of a builder -/
theorem app_byte (t e : TypeId) (i : TypeInfo) (ht : P.underlying t = some (.slice e)) (hi : P.info? e = some i) (hz : i.zero = some (.int .u8 0))
    (hsize : i.size = 1) (hby : i.bytes = 1) (v : Value) (n : Nat) (xs : List Value) (hown : w.ownsRowF 0 e 1 v n xs) (a : Addr) (x : Value) (hx : w.cell? a = some x) (hx1 : x.oneCell' = true)
    (h63 : n + 1 ≤ maxLen) (hbytes : n + 1 ≤ 140737488355328) :
    ∃ v' w', (∀ ty, (Builtin.append_ #[t, t] ty #[v, .slice (some a) 1 1]).run P w = .ok v' w') ∧ w'.ownsRowF 0 e 1 v' (n + 1) (xs ++ [x]) ∧ w.grownBy w' v.ownBlock ∧
      (v'.ownBlock = v.ownBlock ∨ ∀ k, v'.ownBlock = some k → w.heap.size ≤ k) := by
  have hnews : ∀ j u, [x][j]? = some u → w.cell? (a.add j) = some u := fun j u hj => by
    match j, hj with
    | 0, hj => simp at hj; subst hj; simpa [Addr.add] using hx
  have hone : ∀ u ∈ [x], u.oneCell' = true := fun u hu => by simp at hu; subst hu; exact hx1
  obtain ⟨v', w', h1, h2, h3, _⟩ := run_append_ownF (P := P) (w := w) 0 t 0 e i (.int .u8 0) 1 1 ht hi hz hsize hby rfl (by decide) v n xs hown a 1 1 [x] rfl hnews hone h63 (by omega) (Nat.zero_le _)
  have hsmall : n + 1 ≤ 9223372036854775807 := by simp only [maxLen] at h63; omega
  refine ⟨v', w', fun _ => h1, h2, h3, ?_⟩
  rcases hown.2 with ⟨rfl, rfl⟩ | ⟨g, cap, cur, fz, rfl, hbg, hg, hfz, hnc, hcm, hcs, htake⟩
  · obtain ⟨v2, w2, q1, q2, _, _⟩ := run_append_ownF (P := P) (w := w) w.heap.size t 0 e i (.int .u8 0) 1 1 ht hi hz hsize hby rfl (by decide) (.slice none 0 0) 0 xs ⟨hown.1, .inl ⟨rfl, rfl⟩⟩ a 1 1 [x] rfl hnews hone h63 (by omega) (Nat.le_refl _)
    rw [h1] at q1
    injection q1 with q1 q1'
    subst q1 q1'
    refine .inr fun k hk => ?_
    rcases q2.2 with ⟨hv, _⟩ | ⟨g, cap, cur, fz, hv, hb, _⟩
    · rw [hv] at hk; cases hk
    · rw [hv] at hk
      simp only [Value.ownBlock, Option.some.injEq] at hk
      omega
  · have hxl : xs.length = n := by simpa using hown.1
    by_cases hroom : n + 1 ≤ cap
    · have hr := run_append_roomF (P := P) w t 0 e i ht hi g n cap cur fz hg (by rw [hsize]; exact hfz) a 1 1 [x] (by rw [hsize]; rfl) hnews hone hroom (by rw [hsize, hcs]; simp; omega)
      rw [h1] at hr
      injection hr with q1 q1'
      subst q1
      exact .inl rfl
    · have holds : ∀ j u, xs[j]? = some u → w.cell? ((⟨g, 0, none⟩ : Addr).add j) = some u := hown.cells (g := g) rfl
      have hr := run_append_grow (P := P) (w := w) t 0 e i (.int .u8 0) ht hi hz ⟨g, 0, none⟩ n cap xs (by rw [hsize]; simpa using hxl) holds a 1 1 [x] (by rw [hsize]; rfl) hnews (by omega) (by omega) (by rw [hby]; exact growslice_fits (by omega) (by omega))
      rw [h1] at hr
      injection hr with q1 q1'
      subst q1
      refine .inr fun k hk => ?_
      simp [Value.ownBlock] at hk
      omega
theorem wpList_byte {ops : Array Oper} {rest : List Oper} {o : Oper} {a : Act} {w : World} {Q : Exit → Act → World → Prop} (hgd : o.guard = none) (sl y : Operand) (t e : TypeId)
    (ho : o.op = .call { callee := .builtin .append, args := #[sl, y], argTypes := #[t, t] }) (i : TypeInfo) (ht : P.underlying t = some (.slice e)) (hi : P.info? e = some i) (hz : i.zero = some (.int .u8 0))
    (hsize : i.size = 1) (hby : i.bytes = 1) (v : Value) (n : Nat) (xs : List Value) (hs : a.eval sl = v) (hown : w.ownsRowF 0 e 1 v n xs) (ad : Addr) (x : Value) (hx : a.eval y = .slice (some ad) 1 1) (hc : w.cell? ad = some x) (hx1 : x.oneCell' = true)
    (h63 : n + 1 ≤ maxLen) (hbytes : n + 1 ≤ 140737488355328)
    (h : ∀ v' w', w'.ownsRowF 0 e 1 v' (n + 1) (xs ++ [x]) → w.grownBy w' v.ownBlock → (v'.ownBlock = v.ownBlock ∨ ∀ k, v'.ownBlock = some k → w.heap.size ≤ k) → wpList P ops Q rest (a.put o.dst v') w') : wpList P ops Q (o :: rest) a w := by
  obtain ⟨v', w', h1, h2, h3, h4⟩ := app_byte (P := P) (w := w) t e i ht hi hz hsize hby v n xs hown ad x hc hx1 h63 hbytes
  refine wpList_plain hgd fun K hK => ?_
  unfold Oper.wp execOp
  simp only [ho, resolve, invoke, builtin, Sem.run_bind, Sem.run_pure, Result.andThen_ok, List.map_toArray, List.map_cons, List.map_nil, hs, hx, h1]
  exact hK _ _ (h v' w' h2 h3 h4)
theorem wpList_app {ops : Array Oper} {rest : List Oper} {o : Oper} {a : Act} {Q : Exit → Act → World → Prop} (hgd : o.guard = none) (sl x : Operand) (t u : TypeId)
    (ho : o.op = .call { callee := .builtin .append, args := #[sl, x], argTypes := #[t, u] }) (v : Value) (hs : a.eval sl = v) (s : ByteArray) (hx : a.eval x = .string s)
    {v' : Value} {w' : World} (hr : ∀ ty, (Builtin.append_ #[t, u] ty #[v, .string s]).run P w = .ok v' w') (h : wpList P ops Q rest (a.put o.dst v') w') : wpList P ops Q (o :: rest) a w := by
  refine wpList_plain hgd fun K hK => ?_
  unfold Oper.wp execOp
  simp only [ho, resolve, invoke, builtin, Sem.run_bind, Sem.run_pure, Result.andThen_ok, List.map_toArray, List.map_cons, List.map_nil, hs, hx, hr]
  exact hK _ _ h
end
set_option maxHeartbeats 2000000 in
set_option maxRecDepth 100000 in
/-- WriteString turns nothing but the builder and its row -/
theorem ws_calls (b : Nat) (p v : Value) (l : List UInt8) (s : ByteArray) (w : World) (hb : w.heap[b]? = some (.cells #[p, v] 97 (0, 0))) (hp : p = .pointer none ∨ p = .pointer (some ⟨b, 0, none⟩))
    (hown : w.ownsRowF 0 5 1 v l.length (Lib.byteCells l)) (hne : v.ownBlock ≠ some b) (hlen : l.length + s.size ≤ 140737488355328) :
    Calls Tryz.prog 85 #[.pointer (some ⟨b, 0, none⟩), .string s] w fun e w' => e = .returned (.tuple #[.int .i64 s.size, .nilIface]) ∧
      ∃ v', w'.heap[b]? = some (.cells #[.pointer (some ⟨b, 0, none⟩), v'] 97 (0, 0)) ∧ w'.ownsRowF 0 5 1 v' (l.length + s.size) (Lib.byteCells l ++ Lib.strCells s) ∧
        (v'.ownBlock = v.ownBlock ∨ ∀ k, v'.ownBlock = some k → w.heap.size ≤ k) ∧ v'.ownBlock ≠ some b ∧
        w'.os = w.os ∧ w'.tape = w.tape ∧ w'.output = w.output ∧ w.heap.size ≤ w'.heap.size ∧ ∀ k, k < w.heap.size → k ≠ b → v.ownBlock ≠ some k → w'.heap[k]? = w.heap[k]? := by
  obtain ⟨i0, hi, hz0, hz1, hz2⟩ := info_parts bX.infoByte
  have hlt : b < w.heap.size := by
    rcases Nat.lt_or_ge b w.heap.size with h' | h'
    · exact h'
    · simp [Array.getElem?_eq_none h'] at hb
  have hcc : Calls Tryz.prog 130 #[.pointer (some ⟨b, 0, none⟩)] w fun e w' => e = .returned (.tuple #[]) ∧ w'.heap[b]? = some (.cells #[.pointer (some ⟨b, 0, none⟩), v] 97 (0, 0)) ∧ w'.os = w.os ∧ w'.tape = w.tape ∧ w'.output = w.output ∧ w'.heap.size = w.heap.size ∧
      ∀ k, k ≠ b → w'.heap[k]? = w.heap[k]? := by
    rcases hp with rfl | rfl
    · refine (cc_fresh b w (by rw [Lib.cell_of_heap hb]; rfl) (by simp [World.shape?, hb]) (Lib.frozen_of_heap hb 0)).mono ?_
      rintro e w' ⟨rfl, rfl⟩
      exact ⟨rfl, heap_setCell_same _ _ _ _ _ _ hb, rfl, rfl, rfl, by simp, fun k hk => heap_setCell_other _ _ _ _ hk⟩
    · refine (cc_used b w (by rw [Lib.cell_of_heap hb]; rfl)).mono ?_
      rintro e w' ⟨rfl, rfl⟩
      exact ⟨rfl, hb, rfl, rfl, rfl, rfl, fun _ _ => rfl⟩
  go_enter Tryz.func85, Tryz.ntmps85
  go_wp2_with (go_at_call 130; refine hcc.mono ?_)
  rintro e w1 ⟨rfl, hbk, ho1, ho2, ho3, hs1, hk1⟩
  have hown1 : w1.ownsRowF 0 5 1 v l.length (Lib.byteCells l) :=
    hown.kept (row := some b) ⟨ho1, ho2, ho3, by omega, fun k _ hk => hk1 k (fun e => hk (by simp [e]))⟩ (Or.inr hne)
  have c0 : w1.cell? ⟨b, 0, none⟩ = some (.pointer (some ⟨b, 0, none⟩)) := by rw [Lib.cell_of_heap hbk]; rfl
  have c1 : w1.cell? ⟨b, 1, none⟩ = some v := by rw [Lib.cell_of_heap hbk]; rfl
  obtain ⟨v', w2, hrun, hown', hgrow, hat⟩ := app_exact (P := Tryz.prog) (w := w1) 55 9 5 i0 Tryz.underlying55 Tryz.underlying9 hi hz0 hz1 hz2 v l.length _ hown1 s (by unfold maxLen; omega) hlen
  have hlt1 : b < w1.heap.size := by omega
  have hb2 : w2.heap[b]? = some (.cells #[.pointer (some ⟨b, 0, none⟩), v] 97 (0, 0)) := by
    rw [hgrow.block b hlt1 (fun e => hne e.symm)]
    exact hbk
  have d0 : w2.cell? ⟨b, 0, none⟩ = some (.pointer (some ⟨b, 0, none⟩)) := by rw [Lib.cell_of_heap hb2]; rfl
  have d1 : w2.cell? ⟨b, 1, none⟩ = some v := by rw [Lib.cell_of_heap hb2]; rfl
  have f1 : w2.frozen? ⟨b, 1, none⟩ = false := Lib.frozen_of_heap hb2 1
  have hne' : v'.ownBlock ≠ some b := by
    rcases hat with h | h
    · rw [h]; exact hne
    · intro e; have := h b e; omega
  obtain ⟨ao, n', cap, rfl⟩ : ∃ ao n' cap, v' = .slice ao n' cap := by
    rcases hown'.2 with ⟨hv, _⟩ | ⟨g, cap, cur, fz, hv, _⟩
    · exact ⟨_, _, _, hv⟩
    · exact ⟨_, _, _, hv⟩
  go_wp2_with (at_builtin; refine wpList_app rfl _ _ 55 9 rfl _ rfl s rfl hrun ?_)
  go_ret2
  refine ⟨rfl, _, heap_setCell_same _ _ _ _ _ _ hb2, ?_, ?_, hne', hgrow.os.trans ho1, hgrow.tape.trans ho2, hgrow.output.trans ho3, ?_, ?_⟩
  · exact hown'.kept (row := some b) ⟨rfl, rfl, rfl, by simp, fun k _ hk => heap_setCell_other _ _ _ _ (fun e => hk (by simp [e]))⟩ (Or.inr hne')
  · rcases hat with h | h
    · exact .inl h
    · exact .inr fun k hk => by have := h k hk; omega
  · have := hgrow.size; simp; omega
  · intro k hk hkb hkv
    rw [heap_setCell_other _ _ _ _ hkb, hgrow.block k (by omega) (fun e => hkv e.symm), hk1 k hkb]

set_option maxHeartbeats 2000000 in
set_option maxRecDepth 100000 in
/-- WriteByte turns nothing but the builder and its row -/
theorem wb_calls (b : Nat) (p v : Value) (l : List UInt8) (c : Int) (w : World) (hb : w.heap[b]? = some (.cells #[p, v] 97 (0, 0))) (hp : p = .pointer none ∨ p = .pointer (some ⟨b, 0, none⟩))
    (hown : w.ownsRowF 0 5 1 v l.length (Lib.byteCells l)) (hne : v.ownBlock ≠ some b) (hlen : l.length + 1 ≤ 140737488355328) :
    Calls Tryz.prog 84 #[.pointer (some ⟨b, 0, none⟩), .int .u8 c] w fun e w' => e = .returned .nilIface ∧
      ∃ v', w'.heap[b]? = some (.cells #[.pointer (some ⟨b, 0, none⟩), v'] 97 (0, 0)) ∧ w'.ownsRowF 0 5 1 v' (l.length + 1) (Lib.byteCells l ++ [.int .u8 c]) ∧
        (v'.ownBlock = v.ownBlock ∨ ∀ k, v'.ownBlock = some k → w.heap.size ≤ k) ∧ v'.ownBlock ≠ some b ∧
        w'.os = w.os ∧ w'.tape = w.tape ∧ w'.output = w.output ∧ w.heap.size ≤ w'.heap.size ∧ ∀ k, k < w.heap.size → k ≠ b → v.ownBlock ≠ some k → w'.heap[k]? = w.heap[k]? := by
  obtain ⟨i0, hi, hz0, hz1, hz2⟩ := info_parts bX.infoByte
  have hlt : b < w.heap.size := by
    rcases Nat.lt_or_ge b w.heap.size with h' | h'
    · exact h'
    · simp [Array.getElem?_eq_none h'] at hb
  have hcc : Calls Tryz.prog 130 #[.pointer (some ⟨b, 0, none⟩)] w fun e w' => e = .returned (.tuple #[]) ∧ w'.heap[b]? = some (.cells #[.pointer (some ⟨b, 0, none⟩), v] 97 (0, 0)) ∧ w'.os = w.os ∧ w'.tape = w.tape ∧ w'.output = w.output ∧ w'.heap.size = w.heap.size ∧
      ∀ k, k ≠ b → w'.heap[k]? = w.heap[k]? := by
    rcases hp with rfl | rfl
    · refine (cc_fresh b w (by rw [Lib.cell_of_heap hb]; rfl) (by simp [World.shape?, hb]) (Lib.frozen_of_heap hb 0)).mono ?_
      rintro e w' ⟨rfl, rfl⟩
      exact ⟨rfl, heap_setCell_same _ _ _ _ _ _ hb, rfl, rfl, rfl, by simp, fun k hk => heap_setCell_other _ _ _ _ hk⟩
    · refine (cc_used b w (by rw [Lib.cell_of_heap hb]; rfl)).mono ?_
      rintro e w' ⟨rfl, rfl⟩
      exact ⟨rfl, hb, rfl, rfl, rfl, rfl, fun _ _ => rfl⟩
  go_enter Tryz.func84, Tryz.ntmps84
  go_wp2_with (go_at_call 130; refine hcc.mono ?_)
  rintro e w1 ⟨rfl, hbk, ho1, ho2, ho3, hs1, hk1⟩
  have hown1 : w1.ownsRowF 0 5 1 v l.length (Lib.byteCells l) :=
    hown.kept (row := some b) ⟨ho1, ho2, ho3, by omega, fun k _ hk => hk1 k (fun e => hk (by simp [e]))⟩ (Or.inr hne)
  have c0 : w1.cell? ⟨b, 0, none⟩ = some (.pointer (some ⟨b, 0, none⟩)) := by rw [Lib.cell_of_heap hbk]; rfl
  have c1 : w1.cell? ⟨b, 1, none⟩ = some v := by rw [Lib.cell_of_heap hbk]; rfl
  have hlt1 : b < w1.heap.size := by omega
  go_wp2_with (at_builtin; go_loud (refine wpList_byte rfl _ _ 55 5 rfl i0 Tryz.underlying55 hi hz0 hz1 hz2 v l.length _ rfl (hown1.alloc _) ⟨w.heap.size, 0, none⟩ (.int .u8 c) rfl ?c1 rfl ?c2 hlen ?_))
  case c1 => rw [← hs1]; simp
  case c2 => unfold maxLen; omega
  intro v' w2 hown' hgrow hat
  have hb2 : w2.heap[b]? = some (.cells #[.pointer (some ⟨b, 0, none⟩), v] 97 (0, 0)) := by
    rw [hgrow.block b (by simp; omega) (fun e => hne e.symm), Lib.alloc_old w1 _ b hlt1]
    exact hbk
  have d0 : w2.cell? ⟨b, 0, none⟩ = some (.pointer (some ⟨b, 0, none⟩)) := by rw [Lib.cell_of_heap hb2]; rfl
  have d1 : w2.cell? ⟨b, 1, none⟩ = some v := by rw [Lib.cell_of_heap hb2]; rfl
  have f1 : w2.frozen? ⟨b, 1, none⟩ = false := Lib.frozen_of_heap hb2 1
  have hne' : v'.ownBlock ≠ some b := by
    rcases hat with h | h
    · rw [h]; exact hne
    · intro e; have := h b e; omega
  obtain ⟨ao, n', cap, rfl⟩ : ∃ ao n' cap, v' = .slice ao n' cap := by
    rcases hown'.2 with ⟨hv, _⟩ | ⟨g, cap, cur, fz, hv, _⟩
    · exact ⟨_, _, _, hv⟩
    · exact ⟨_, _, _, hv⟩
  go_wp2
  go_ret
  refine ⟨rfl, _, heap_setCell_same _ _ _ _ _ _ hb2, ?_, ?_, hne', hgrow.os.trans ho1, hgrow.tape.trans ho2, hgrow.output.trans ho3, ?_, ?_⟩
  · exact hown'.kept (row := some b) ⟨rfl, rfl, rfl, by simp, fun k _ hk => heap_setCell_other _ _ _ _ (fun e => hk (by simp [e]))⟩ (Or.inr hne')
  · rcases hat with h | h
    · exact .inl h
    · exact .inr fun k hk => by have := h k hk; omega
  · have := hgrow.size; simp at this ⊢; omega
  · intro k hk hkb hkv
    rw [heap_setCell_other _ _ _ _ hkb, hgrow.block k (by simp; omega) (fun e => hkv e.symm), Lib.alloc_old w1 _ k (by omega), hk1 k hkb]
theorem freeze_other (w : World) (ad : Addr) (m k : Nat) (h : k ≠ ad.block) : (w.freeze ad m).heap[k]? = w.heap[k]? := by
  unfold World.freeze
  by_cases hm : m = 0
  · simp [hm]
  · rw [if_neg hm]
    simp only [Array.getElem?_modify]
    rw [if_neg (fun e => h e.symm)]
theorem freeze_rest (w : World) (ad : Addr) (m : Nat) : (w.freeze ad m).heap.size = w.heap.size ∧ (w.freeze ad m).os = w.os ∧ (w.freeze ad m).tape = w.tape ∧ (w.freeze ad m).output = w.output := by
  unfold World.freeze
  by_cases hm : m = 0
  · simp [hm]
  · rw [if_neg hm]
    exact ⟨by simp, rfl, rfl, rfl⟩
set_option maxHeartbeats 2000000 in
set_option maxRecDepth 100000 in
/-- String of a Builder that holds a byte: its row's head is frozen, no more -/
theorem str_calls (b : Nat) (p v : Value) (l : List UInt8) (w : World) (hbk : w.heap[b]? = some (.cells #[p, v] 97 (0, 0))) (hown : w.ownsRowF 0 5 1 v l.length (Lib.byteCells l)) (hne : v.ownBlock ≠ some b) (h0 : l ≠ []) :
    Calls Tryz.prog 87 #[.pointer (some ⟨b, 0, none⟩)] w fun e w' => e = .returned (.string ⟨l.toArray⟩) ∧ w'.heap[b]? = some (.cells #[p, v] 97 (0, 0)) ∧ w'.ownsRowF 0 5 1 v l.length (Lib.byteCells l) ∧
      w'.os = w.os ∧ w'.tape = w.tape ∧ w'.output = w.output ∧ w.heap.size ≤ w'.heap.size ∧ ∀ k, k ≠ b → v.ownBlock ≠ some k → w'.heap[k]? = w.heap[k]? := by
  have hl0 : l.length ≠ 0 := by simpa using h0
  obtain ⟨g, cap, cur, fz, rfl, hbg, hg, hfz, hnc, hcm, hcs, htake⟩ : ∃ g cap cur fz, v = .slice (some ⟨g, 0, none⟩) l.length cap ∧ 0 ≤ g ∧ w.heap[g]? = some (.cells cur 5 fz) ∧ fz.2 ≤ l.length * 1 ∧ l.length ≤ cap ∧ cap ≤ maxLen ∧ cur.size = cap * 1 ∧ cur.toList.take (l.length * 1) = Lib.byteCells l := by
    rcases hown.2 with ⟨_, hz⟩ | ⟨g, cap, cur, fz, hv, r⟩
    · exact absurd hz hl0
    · exact ⟨g, cap, cur, fz, hv, r⟩
  have hgb : g ≠ b := fun e => hne (by simp [Value.ownBlock, e])
  have c1 : w.drew.cell? ⟨b, 1, none⟩ = some (.slice (some ⟨g, 0, none⟩) l.length cap) := by
    have : w.drew.heap[b]? = some (.cells #[p, .slice (some ⟨g, 0, none⟩) l.length cap] 97 (0, 0)) := hbk
    rw [Lib.cell_of_heap this]; rfl
  have hSD : (Builtin.unsafeSliceData_ #[55] 132 #[.slice (some ⟨g, 0, none⟩) l.length cap]).run Tryz.prog w.drew = .ok (.pointer (some ⟨g, 0, none⟩)) w.drew :=
    Lib.run_unsafeSliceData_row _ _ _ _ _ _ (by omega)
  have hUS : (Builtin.unsafeString_ #[132, 3] 9 #[.pointer (some ⟨g, 0, none⟩), .int .i64 l.length]).run Tryz.prog w.drew = .ok (.string ⟨l.toArray⟩) (w.drew.freeze ⟨g, 0, none⟩ l.length) := by
    refine Lib.run_unsafeString_row w.drew 132 3 9 5 Tryz.underlying132 bX.cellsByte g cur.size (by have hg' : w.drew.heap[g]? = some (.cells cur 5 fz) := hg; simp [World.shape?, hg']) l h0 (by omega) (by unfold maxLen at hcm; omega) ?_
    intro j x hx
    have := hown.cells (g := g) rfl j (.int .u8 x.toNat) (by simp [Lib.byteCells, hx])
    exact this
  have hA : Lib.BuilderAtF 97 5 0 b p (Lib.byteCells l) w.drew := ⟨Nat.zero_le _, _, hbk, by rw [Lib.byteCells_length]; exact hown, hne⟩
  have hF := hA.froze (g := g) (cap := cap) (by rw [Lib.byteCells_length]; exact c1)
  rw [Lib.byteCells_length] at hF
  obtain ⟨_, v', hb', hown', _⟩ := hF
  rw [Lib.byteCells_length] at hown'
  have hb2 : (w.drew.freeze ⟨g, 0, none⟩ l.length).heap[b]? = some (.cells #[p, .slice (some ⟨g, 0, none⟩) l.length cap] 97 (0, 0)) := (freeze_other _ _ _ _ (fun e => hgb e.symm)).trans hbk
  have hv : v' = .slice (some ⟨g, 0, none⟩) l.length cap := by
    rw [hb2] at hb'
    simp at hb'
    exact hb'.symm
  subst hv
  obtain ⟨f1, f2, f3, f4⟩ := freeze_rest w.drew ⟨g, 0, none⟩ l.length
  have hend : ∀ k, k ≠ b → (Value.slice (some ⟨g, 0, none⟩) l.length cap).ownBlock ≠ some k → (w.drew.freeze ⟨g, 0, none⟩ l.length).heap[k]? = w.heap[k]? :=
    fun k _ hk => freeze_other _ _ _ _ (fun e => hk (by simp [Value.ownBlock, e]))
  have mixed := Tryz.lays169.mixed
  go_enter Tryz.func87, Tryz.ntmps87
  go_wp2
  go_region_o
  all_goals (go_wp2; go_ret; exact ⟨rfl, hb2, hown', f2, f3, f4, Nat.le_of_eq f1.symm, hend⟩)
end Go.Proofs.YtglncfhcgkihbaaGreatDoor

set_option linter.unusedVariables false
namespace Go.Proofs.YtglncfhcgkihbaaGreatDoor
open Go.Eng Go.Wh
set_option maxRecDepth 20000

theorem strCells_eq (s : List UInt8) : Lib.strCells ⟨s.toArray⟩ = Lib.byteCells s := by
  simp [Lib.strCells, Lib.byteCells]
/-- WriteString -/
theorem ws_spec (nb nr gb gr : Nat) (l s : List UInt8) (h1 : 900000 ≤ nb) (h2 : 900000 ≤ nr) (hd : nb ≠ nr) (hlen : l.length + s.length ≤ 140737488355328) :
    ACall Tryz.prog 85 [.ptr nb gb 0, dS s] [(nb, (gb, .bld 97 nr gr)), (nr, (gr, .brow 5 l))] [nb, nr] fun ps r => ∃ gr', ps = [(gb, .bld 97 nr gr'), (gr', .brow 5 (l ++ s))] ∧ r = .tup [dI s.length, .v .nilIface] := by
  refine acall_bld (xs := [.string ⟨s.toArray⟩]) (x := .tuple #[.int .i64 s.length, .nilIface]) ⟨_, Tryz.func85, rfl, rfl⟩ h1 h2 hd (fun C w => ?_) fun b p v w _ hb hp hown hne => ?_
  · refine .tup _ _ rfl fun j c u hc hu => ?_
    match j, hc, hu with
    | 0, hc, hu => simp at hc hu; subst hc hu; exact .v _
    | 1, hc, hu => simp at hc hu; subst hc hu; exact .v _
    | j + 2, hc, hu => simp at hc
  · refine (ws_calls b p v l ⟨s.toArray⟩ w hb hp hown hne (by simpa [ByteArray.size] using hlen)).mono ?_
    rintro e w' ⟨he, v', q1, q2, q3, q4, q5, q6, q7, q8, q9⟩
    refine ⟨by simpa [ByteArray.size] using he, _, v', q1, .inr rfl, ?_, q3, q4, q5, q6, q7, q8, q9⟩
    rw [strCells_eq] at q2
    simpa [ByteArray.size, Lib.byteCells] using q2
/-- WriteByte -/
theorem wb_spec (nb nr gb gr : Nat) (l : List UInt8) (c : UInt8) (h1 : 900000 ≤ nb) (h2 : 900000 ≤ nr) (hd : nb ≠ nr) (hlen : l.length + 1 ≤ 140737488355328) :
    ACall Tryz.prog 84 [.ptr nb gb 0, .v (.int .u8 c.toNat)] [(nb, (gb, .bld 97 nr gr)), (nr, (gr, .brow 5 l))] [nb, nr] fun ps r => ∃ gr', ps = [(gb, .bld 97 nr gr'), (gr', .brow 5 (l ++ [c]))] ∧ r = .v .nilIface := by
  refine acall_bld (xs := [.int .u8 c.toNat]) (x := .nilIface) ⟨_, Tryz.func84, rfl, rfl⟩ h1 h2 hd (fun C w => .v _) fun b p v w _ hb hp hown hne => ?_
  refine (wb_calls b p v l c.toNat w hb hp hown hne hlen).mono ?_
  rintro e w' ⟨he, v', q1, q2, q3, q4, q5, q6, q7, q8, q9⟩
  refine ⟨he, _, v', q1, .inr rfl, ?_, q3, q4, q5, q6, q7, q8, q9⟩
  simpa [Lib.byteCells] using q2
/-- String, of a Builder that holds a byte -/
theorem str_spec (nb nr gb gr : Nat) (l : List UInt8) (h1 : 900000 ≤ nb) (h2 : 900000 ≤ nr) (hd : nb ≠ nr) (h0 : l ≠ []) :
    ACall Tryz.prog 87 [.ptr nb gb 0] [(nb, (gb, .bld 97 nr gr)), (nr, (gr, .brow 5 l))] [nb, nr] fun ps r => ∃ gr', ps = [(gb, .bld 97 nr gr'), (gr', .brow 5 l)] ∧ r = dS l := by
  refine acall_bld (xs := []) (x := .string ⟨l.toArray⟩) ⟨_, Tryz.func87, rfl, rfl⟩ h1 h2 hd (fun C w => .v _) fun b p v w _ hb hp hown hne => ?_
  refine (str_calls b p v l w hb hown hne h0).mono ?_
  rintro e w' ⟨he, q1, q2, q3, q4, q5, q6, q7⟩
  exact ⟨he, p, v, q1, hp, q2, .inl rfl, hne, q3, q4, q5, q6, fun k _ => q7 k⟩
end Go.Proofs.YtglncfhcgkihbaaGreatDoor

set_option linter.unusedVariables false
namespace Go.Proofs.YtglncfhcgkihbaaGreatDoor
open Go.Eng Go.RowKit Go.Sort Go.Wh
set_option maxRecDepth 20000
attribute [local irreducible] AG CallA CallT AWp PCall ACall AgC

theorem below_gd (w : World) (k : Nat) (os : Array Obj) : Below w.heap.size w (grow (w.drewN k) os) := by
  have e : (w.drewN k).heap = w.heap := rfl
  refine ⟨rfl, rfl, rfl, by simp [grow, e], fun j hj => ?_⟩
  simp only [grow, e]
  rw [Array.getElem?_append_left hj]
theorem itoa_spec (n : Int) (h0 : -9223372036854775808 ≤ n) (h1 : n ≤ 9223372036854775807) : PCall Tryz.prog 37 [dI n] fun r => r = dS (Lib.itoa n) := by
  refine pcall_below ⟨_, Tryz.func37, rfl, rfl⟩ fun C w us hc hg hr => ?_
  have hg : glOk w := hg
  obtain rfl := repL_v (us := [.int .i64 n]) hr
  refine (Tryz.strconv_Itoa n h0 h1 w hg.1).mono ?_
  rintro e w' ⟨rfl, k, os, rfl⟩
  exact ⟨_, _, rfl, rfl, .v _, below_gd w k os⟩
theorem trimP_spec (s p : List UInt8) : PCall Tryz.prog 81 [dS s, dS p] fun r => r = dS (Lib.trimPrefix s p) :=
  pcall_ext (P := Tryz.prog) (f := 81) (us := [.string ⟨s.toArray⟩, .string ⟨p.toArray⟩]) (x := .string ⟨(Lib.trimPrefix s p).toArray⟩) ⟨_, Tryz.func81, rfl, rfl⟩ (fun w => by
    simpa using Tryz.strings_TrimPrefix ⟨s.toArray⟩ ⟨p.toArray⟩ w)
theorem cutP_spec (s p : List UInt8) : PCall Tryz.prog 82 [dS s, dS p] fun r => r = .tup [dS (Lib.trimPrefix s p), dB (Lib.hasPrefix s p)] := by
  refine pcall_below ⟨_, Tryz.func82, rfl, rfl⟩ fun C w us hc hg hr => ?_
  obtain rfl := repL_v (us := [.string ⟨s.toArray⟩, .string ⟨p.toArray⟩]) hr
  refine (Tryz.strings_CutPrefix ⟨s.toArray⟩ ⟨p.toArray⟩ w).mono ?_
  rintro e w' ⟨rfl, rfl⟩
  exact ⟨_, _, rfl, rfl, rep_tup2 (.v _) (.v _), Below.refl _ _⟩
theorem rep_tup3 {C : Ctx} {w : World} {a b c : D} {x y z : Value} (h1 : Rep C w a x) (h2 : Rep C w b y) (h3 : Rep C w c z) : Rep C w (.tup [a, b, c]) (.tuple #[x, y, z]) := by
  refine .tup _ _ rfl fun j c u hc hu => ?_
  match j, hc, hu with
  | 0, hc, hu => simp at hc hu; subst hc hu; exact h1
  | 1, hc, hu => simp at hc hu; subst hc hu; exact h2
  | 2, hc, hu => simp at hc hu; subst hc hu; exact h3
  | j + 3, hc, hu => simp at hc
theorem cut_spec (s p : List UInt8) (hl : s.length < 4294967281) : PCall Tryz.prog 119 [dS s, dS p] fun r => r = .tup [dS (Lib.cut s p).1, dS (Lib.cut s p).2.1, dB (Lib.cut s p).2.2] := by
  refine pcall_below ⟨_, Tryz.func119, rfl, rfl⟩ fun C w us hc hg hr => ?_
  have hg : glOk w := hg
  obtain rfl := repL_v (us := [.string ⟨s.toArray⟩, .string ⟨p.toArray⟩]) hr
  obtain ⟨m, hm⟩ := hg.2
  refine (Tryz.strings_Cut ⟨s.toArray⟩ ⟨p.toArray⟩ m w (by simpa [ByteArray.size] using hl) hm).mono ?_
  rintro e w' ⟨rfl, n, rfl⟩
  exact ⟨_, _, rfl, rfl, rep_tup3 (.v _) (.v _) (.v _), ⟨rfl, rfl, rfl, Nat.le_refl _, fun _ _ => rfl⟩⟩
theorem rep_spec (s : List UInt8) (c : Nat) (hc : c ≤ 9223372036854775807) (hl : s.length * c ≤ 140737488355328) : PCall Tryz.prog 62 [dS s, dI c] fun r => r = dS (Lib.repeatL s c) := by
  refine pcall_below ⟨_, Tryz.func62, rfl, rfl⟩ fun C w us hc' hg hr => ?_
  obtain rfl := repL_v (us := [.string ⟨s.toArray⟩, .int .i64 c]) hr
  refine (Tryz.strings_Repeat ⟨s.toArray⟩ c w hc (by simpa [ByteArray.size] using hl)).mono ?_
  rintro e w' ⟨rfl, hb⟩
  exact ⟨_, _, rfl, rfl, .v _, hb⟩
end Go.Proofs.YtglncfhcgkihbaaGreatDoor
