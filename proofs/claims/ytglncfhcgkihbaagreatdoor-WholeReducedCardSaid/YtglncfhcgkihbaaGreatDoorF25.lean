/- Part of a proof: see the last text. -/
import Derived.Test.YtglncfhcgkihbaaGreatDoorF00
import Derived.Test.YtglncfhcgkihbaaGreatDoorF01
import Derived.Test.YtglncfhcgkihbaaGreatDoorF03
import Derived.Test.YtglncfhcgkihbaaGreatDoorF09
import Derived.Test.YtglncfhcgkihbaaGreatDoorF17
import Derived.Test.YtglncfhcgkihbaaGreatDoorF18
set_option linter.unusedVariables false
set_option linter.unusedSimpArgs false
namespace Go.Proofs.YtglncfhcgkihbaaGreatDoor
open Go.Eng Go.Wh
set_option maxRecDepth 20000
set_option linter.unusedSimpArgs false
set_option linter.unusedVariables false
attribute [local irreducible] AG CallA CallT AWp PCall ACall AgC
theorem textR_ok {p q : Int} (hp : dlen p ≤ 400) (hq : dlen q ≤ 400) : textR p q = .tup [dS (ratS p q), dI 0] := by
  unfold textR ratS
  rw [if_neg (by omega)]
  split <;> rfl
theorem cut_app {a b : List UInt8} (h : (47 : UInt8) ∉ a) : Lib.cut (a ++ 47 :: b) [47] = (a, b, true) := by
  have hi : Lib.index (a ++ 47 :: b) [47] = a.length := Lib.index_first (by simp) (by unfold Lib.occAt; simp) fun j hj => by
    unfold Lib.occAt
    rw [List.drop_append_of_le_length (by omega)]
    cases hd : a.drop j with
    | nil => have := List.drop_eq_nil_iff.1 hd; omega
    | cons c t =>
      have hc : c ∈ a := List.mem_of_mem_drop (by rw [hd]; simp : c ∈ a.drop j)
      simp only [List.cons_append, List.isPrefixOf_cons_cons_self, List.isPrefixOf]
      have : ((47 : UInt8) == c) = false := by
        rw [beq_eq_false_iff_ne]; rintro rfl; exact h hc
      simp [this]
  unfold Lib.cut
  rw [hi, if_pos (by omega)]
  simp
theorem ratV_ratS {p q : Int} (hp : dlen p ≤ 400) (hq : dlen q ≤ 400) (hq0 : 0 < q) (hg : Nat.gcd p.natAbs q.natAbs = 1) : ratV (ratS p q) = some (p, q) := by
  have op : numOk (Lib.itoa p) = true := by rw [numOk_itoa]; simpa using hp
  have oq : numOk (Lib.itoa q) = true := by rw [numOk_itoa]; simpa using hq
  unfold ratS
  split
  · rename_i h1
    rw [ratV_num op, numV_itoa, h1]
  · rename_i h1
    unfold ratV
    rw [cut_app (numOk_no47 op)]
    have h2 : Lib.itoa q ≠ [48] := fun h => by have := (num0 oq).1 h; rw [numV_itoa] at this; omega
    have h3 : Lib.itoa q ≠ [49] := fun h => h1 ((itoa_one' q (by omega)).1 h)
    have h4 := itoa_head45 (q := q) (by omega)
    simp [op, oq, h2, h3, h4, numV_itoa, hg]
theorem gcd_red {a b : Int} (hb : b ≠ 0) : Nat.gcd (redN a b).natAbs (redD a b).natAbs = 1 := by
  unfold redN redD
  rw [sg_abs _ (Int.natCast_nonneg _), Int.toNat_natCast, Int.natAbs_natCast]
  exact Nat.gcd_div_gcd_div_gcd_of_pos_right (by omega)
theorem redD_pos {a b : Int} (hb : b ≠ 0) : 0 < redD a b := by
  have h1 := redD_nonneg a b
  have h2 := redD_ne (a := a) hb
  omega
/-- a rational in lowest terms is itself -/
theorem red_self {p q : Int} (hq : 0 < q) (hg : Nat.gcd p.natAbs q.natAbs = 1) : redN p q = p ∧ redD p q = q := by
  unfold redN redD
  rw [hg, Nat.div_one, Nat.div_one, decide_eq_false (by omega : ¬ q < 0)]
  refine ⟨?_, by omega⟩
  have := sg_self p
  simpa using this
theorem red_times {m d : Int} (hd : 0 < d) : redN (m * d) d = m ∧ redD (m * d) d = 1 := by
  have hg : Nat.gcd (m * d).natAbs d.natAbs = d.natAbs := by
    rw [Int.natAbs_mul]; exact Nat.gcd_eq_right (Nat.dvd_mul_left _ _)
  unfold redN redD
  rw [hg, Int.natAbs_mul, Nat.mul_div_cancel _ (by omega), Nat.div_self (by omega), decide_eq_false (by omega : ¬ d < 0)]
  refine ⟨?_, rfl⟩
  have e : decide (m * d < 0) = decide (m < 0) := by
    refine decide_eq_decide.2 ⟨fun h => ?_, fun h => Int.mul_neg_of_neg_of_pos h hd⟩
    refine Decidable.byContradiction fun hh => ?_
    have := Int.mul_nonneg (show 0 ≤ m by omega) (show 0 ≤ d by omega)
    omega
  rw [e]
  have := sg_self m
  simpa using this
theorem red_mul (m n : Int) (hn : n ≠ 0) : redN m n * n = m * redD m n := by
  obtain ⟨G, hG⟩ : ∃ G, Nat.gcd m.natAbs n.natAbs = G := ⟨_, rfl⟩
  have h1 : G ∣ m.natAbs := hG ▸ Nat.gcd_dvd_left _ _
  have h2 : G ∣ n.natAbs := hG ▸ Nat.gcd_dvd_right _ _
  have hG0 : 0 < G := hG ▸ Nat.gcd_pos_of_pos_right _ (by omega)
  unfold redN redD
  rw [hG]
  obtain ⟨x, hx⟩ := h1
  obtain ⟨y, hy⟩ := h2
  rw [hx, hy, Nat.mul_div_cancel_left _ hG0, Nat.mul_div_cancel_left _ hG0]
  have e1 : (m.natAbs : Int) = G * x := by rw [hx]; exact Int.natCast_mul G x
  have e2 : (n.natAbs : Int) = G * y := by rw [hy]; exact Int.natCast_mul G y
  have hm : m = if m < 0 then -(G * x : Int) else (G * x : Int) := by split <;> omega
  have hn' : n = if n < 0 then -(G * y : Int) else (G * y : Int) := by split <;> omega
  by_cases c1 : m < 0 <;> by_cases c2 : n < 0
  · rw [if_pos c1] at hm
    rw [if_pos c2] at hn'
    simp only [c1, c2, decide_true, bne_self_eq_false, sg, Bool.false_eq_true, if_false]
    rw [hm, hn']; grind
  · rw [if_pos c1] at hm
    rw [if_neg c2] at hn'
    simp only [c1, c2, decide_true, decide_false, Bool.true_bne, Bool.not_false, sg, if_true]
    rw [hm, hn']; grind
  · rw [if_neg c1] at hm
    rw [if_pos c2] at hn'
    simp only [c1, c2, decide_true, decide_false, Bool.false_bne, sg, if_true]
    rw [hm, hn']; grind
  · rw [if_neg c1] at hm
    rw [if_neg c2] at hn'
    simp only [c1, c2, decide_false, bne_self_eq_false, sg, Bool.false_eq_true, if_false]
    rw [hm, hn']; grind
theorem dlen_abs_le {m n : Int} {k : Nat} (h : m.natAbs ≤ n.natAbs) (hn : bd n k) (hk : 1 ≤ k) : dlen m ≤ k := bd_dlen (bd_abs h hn) hk
theorem RatioI {m n : Int} (hm : bd m 400) (hn : bd n 400) (h0 : n ≠ 0) : PCall Tryz.prog 25 [dS (Lib.itoa m), dS (Lib.itoa n)] fun r => r = .tup [dS (ratS (redN m n) (redD m n)), dI 0] := by
  have h := Ratio_spec (Lib.itoa m) (Lib.itoa n) (itoa_le hm) (itoa_le hn)
  have e : resQ (Lib.itoa m) (Lib.itoa n) = .tup [dS (ratS (redN m n) (redD m n)), dI 0] := by
    unfold resQ
    rw [ok_itoa hm, ok_itoa hn, numV_itoa, numV_itoa, if_pos (by rfl), if_neg h0, textR_ok (dlen_abs_le (redN_abs m n) hm (by decide)) (dlen_abs_le (redD_abs m n) hn (by decide))]
  rw [e] at h; exact h
theorem RatioZ {m : Int} (hm : bd m 400) : PCall Tryz.prog 25 [dS (Lib.itoa m), dS [48]] fun r => r = .tup [dS [], dI 11] := by
  have h := Ratio_spec (Lib.itoa m) [48] (itoa_le hm) (by decide)
  have e : resQ (Lib.itoa m) [48] = .tup [dS [], dI 11] := by
    unfold resQ
    rw [ok_itoa hm, show numOk [48] = true by decide, if_pos (by rfl), if_pos (by decide)]
  rw [e] at h; exact h
theorem ratV_itoa {n : Int} (hn : bd n 400) : ratV (Lib.itoa n) = some (n, 1) := by rw [ratV_num (ok_itoa hn), numV_itoa]
set_option maxHeartbeats 4000000 in
theorem law_reduced (X Y : List Int) (hX : inr64 X) (hY : inr64 Y) : PCall Tryz.prog 8 [dIs X, dIs Y] fun r => r = dB true := by 
  refine pcall_of Tryz.func8 rfl rfl Tryz.ntmps8 (rs := [.tmp 4]) (tys := [4]) rfl rfl (by simp) ?_
  have M1 := MadeF X 60 hX (by decide) (by decide)
  have M2 := MadeF Y 60 hY (by decide) (by decide)
  have bm := bd_madeN X (m := 60) (by decide) (by decide)
  have bn := bd_madeN Y (m := 60) (by decide) (by decide)
  generalize madeN X 60 = m at *
  generalize madeN Y 60 = n at *
  (refine awp_sr fun KK hKK => ?_; simp [go_sem]; ((repeat' (first|(refine ag_x ?_;simp [go_sem])|intro _|refine And.intro ?_ ?_|(apply hKK;clear hKK KK)));all_goals first|refine Hold.mk ?_|omega|with_reducible assumption|(simp only [InR] at *;omega)|skip))
  (refine awp_sr fun KK hKK => ?_; simp [go_sem]; ((repeat' (first|(refine ag_x ?_;simp [go_sem])|intro _|refine And.intro ?_ ?_|(apply hKK;clear hKK KK)));all_goals first|refine Hold.mk ?_|omega|with_reducible assumption|(simp only [InR] at *;omega)|skip))
  ((try refine CallT.toA ?_); refine callT_m (by first | exact .inl ⟨rfl, rfl⟩ | exact .inr rfl) (by simp [go_sem]) ?_; intro args ha; simp [go_sem] at ha; subst ha; refine ⟨_, M1, ?_⟩; rintro _ rfl; simp [go_sem]; ((repeat' (first|(refine ag_x ?_;simp [go_sem])|intro _|refine And.intro ?_ ?_|(apply hKK;clear hKK KK)));all_goals first|refine Hold.mk ?_|omega|with_reducible assumption|(simp only [InR] at *;omega)|skip))
  (refine awp_sr fun KK hKK => ?_; simp [go_sem]; ((repeat' (first|(refine ag_x ?_;simp [go_sem])|intro _|refine And.intro ?_ ?_|(apply hKK;clear hKK KK)));all_goals first|refine Hold.mk ?_|omega|with_reducible assumption|(simp only [InR] at *;omega)|skip))
  ((try refine CallT.toA ?_); refine callT_m (by first | exact .inl ⟨rfl, rfl⟩ | exact .inr rfl) (by simp [go_sem]) ?_; intro args ha; simp [go_sem] at ha; subst ha; refine ⟨_, M2, ?_⟩; rintro _ rfl; simp [go_sem]; ((repeat' (first|(refine ag_x ?_;simp [go_sem])|intro _|refine And.intro ?_ ?_|(apply hKK;clear hKK KK)));all_goals first|refine Hold.mk ?_|omega|with_reducible assumption|(simp only [InR] at *;omega)|skip))
  by_cases hn : n = 0
  · subst hn
    rw [itoa0]
    have RZ := RatioZ (bd_mono bm (by decide : 60 ≤ 400))
    generalize Lib.itoa m = a at *
    (refine awp_sr fun KK hKK => ?_; simp [go_sem]; ((repeat' (first|(refine ag_x ?_;simp [go_sem])|intro _|refine And.intro ?_ ?_|(apply hKK;clear hKK KK)));all_goals first|refine Hold.mk ?_|omega|with_reducible assumption|(simp only [InR] at *;omega)|skip))
    ((try refine CallT.toA ?_); refine callT_m (by first | exact .inl ⟨rfl, rfl⟩ | exact .inr rfl) (by simp [go_sem]) ?_; intro args ha; simp [go_sem] at ha; subst ha; refine ⟨_, RZ, ?_⟩; rintro _ rfl; simp [go_sem]; ((repeat' (first|(refine ag_x ?_;simp [go_sem])|intro _|refine And.intro ?_ ?_|(apply hKK;clear hKK KK)));all_goals first|refine Hold.mk ?_|omega|with_reducible assumption|(simp only [InR] at *;omega)|skip))
    refine awp_seq_k fun K1 hK1 => ?_
    (refine awp_sr fun KK hKK => ?_; simp [go_sem]; ((repeat' (first|(refine ag_x ?_;simp [go_sem])|intro _|refine And.intro ?_ ?_|(apply hKK;clear hKK KK)));all_goals first|refine Hold.mk ?_|omega|with_reducible assumption|(simp only [InR] at *;omega)|skip))
    (refine awp_if fun T F hT hF => ?_; simp [go_sem]; refine hT ?_; clear hT hF T F)
    (refine awp_sr fun KK hKK => ?_; simp [go_sem]; ((repeat' (first|(refine ag_x ?_;simp [go_sem])|intro _|refine And.intro ?_ ?_|(apply hKK;clear hKK KK)));all_goals first|refine Hold.mk ?_|omega|with_reducible assumption|(simp only [InR] at *;omega)|skip))
    (refine agc_f (dB true) (by first | exact .inl ⟨rfl, rfl⟩ | exact .inr rfl) ?_ rfl ?_; (intro hc args ha; simp [go_sem] at ha; subst ha; exact sane_ok); simp [go_sem]; ((repeat' (first|(refine ag_x ?_;simp [go_sem])|intro _|refine And.intro ?_ ?_|(apply hKK;clear hKK KK)));all_goals first|refine Hold.mk ?_|omega|with_reducible assumption|(simp only [InR] at *;omega)|skip))
    (refine awp_ret ?_; simp [go_sem])
  · have R1 := RatioI (bd_mono bm (by decide : 60 ≤ 400)) (bd_mono bn (by decide : 60 ≤ 400)) hn
    have l1 := dlen_abs_le (redN_abs m n) bm (by decide)
    have l2 := dlen_abs_le (redD_abs m n) bn (by decide)
    have hD := redD_pos (a := m) hn
    have hg := gcd_red (a := m) hn
    have hmul := red_mul m n hn
    have hlen := ratS_len (p := redN m n) (q := redD m n) (by omega) (by omega)
    have hrv := ratV_ratS (by omega) (by omega) hD hg
    have hm400 := bd_mono bm (by decide : 60 ≤ 400)
    have hn400 := bd_mono bn (by decide : 60 ≤ 400)
    have A1 := RatioMul_spec (ratS (redN m n) (redD m n)) (Lib.itoa n) (by omega) (itoa_le hn400)
    have e1 : resRA (fun p q r s => p * r) (fun p q r s => q * s) (ratS (redN m n) (redD m n)) (Lib.itoa n) = .tup [dS (Lib.itoa m), dI 0] := by
      unfold resRA
      rw [hrv, ratV_itoa hn400]
      simp only
      rw [hmul, Int.mul_one]
      obtain ⟨q1, q2⟩ := red_times (m := m) hD
      rw [q1, q2, textR_ok (bd_dlen hm400 (by decide)) dlen_one]
      unfold ratS; rw [if_pos rfl]
    rw [e1] at A1
    have A2 := RatioCmp_spec (Lib.itoa m) (Lib.itoa m) (itoa_le hm400) (itoa_le hm400)
    have e2 : resRC (Lib.itoa m) (Lib.itoa m) = .tup [dI 0, dI 0] := by
      unfold resRC
      rw [ratV_itoa hm400]
      simp only
      unfold cmpV
      rw [Int.sub_self]; rfl
    rw [e2] at A2
    have A3 := RatioAdd_spec (ratS (redN m n) (redD m n)) [48] (by omega) (by decide)
    have e3 : resRA (fun p q r s => p * s + r * q) (fun p q r s => q * s) (ratS (redN m n) (redD m n)) [48] = .tup [dS (ratS (redN m n) (redD m n)), dI 0] := by
      unfold resRA
      rw [hrv, show ratV [48] = some (0, 1) by decide]
      simp only
      rw [Int.mul_one, Int.mul_one, Int.zero_mul, Int.add_zero]
      obtain ⟨q1, q2⟩ := red_self hD hg
      rw [q1, q2, textR_ok (by omega) (by omega)]
    rw [e3] at A3
    have hne : (Lib.itoa n == [48]) = false := beq_eq_false_iff_ne.2 fun h => hn (by have := congrArg numV h; rw [numV_itoa] at this; rw [this]; decide)
    generalize ratS (redN m n) (redD m n) = p at *
    generalize Lib.itoa m = a at *
    generalize Lib.itoa n = b at *
    (refine awp_sr fun KK hKK => ?_; simp [go_sem]; ((repeat' (first|(refine ag_x ?_;simp [go_sem])|intro _|refine And.intro ?_ ?_|(apply hKK;clear hKK KK)));all_goals first|refine Hold.mk ?_|omega|with_reducible assumption|(simp only [InR] at *;omega)|skip))
    ((try refine CallT.toA ?_); refine callT_m (by first | exact .inl ⟨rfl, rfl⟩ | exact .inr rfl) (by simp [go_sem]) ?_; intro args ha; simp [go_sem] at ha; subst ha; refine ⟨_, R1, ?_⟩; rintro _ rfl; simp [go_sem]; ((repeat' (first|(refine ag_x ?_;simp [go_sem])|intro _|refine And.intro ?_ ?_|(apply hKK;clear hKK KK)));all_goals first|refine Hold.mk ?_|omega|with_reducible assumption|(simp only [InR] at *;omega)|skip))
    refine awp_seq_k fun K1 hK1 => ?_
    (refine awp_sr fun KK hKK => ?_; simp [go_sem]; ((repeat' (first|(refine ag_x ?_;simp [go_sem])|intro _|refine And.intro ?_ ?_|(apply hKK;clear hKK KK)));all_goals first|refine Hold.mk ?_|omega|with_reducible assumption|(simp only [InR] at *;omega)|skip))
    (refine awp_if fun T F hT hF => ?_; simp [go_sem, hne]; refine hF ?_; clear hT hF T F)
    refine awp_skip ?_
    refine hK1 _ ?_; clear hK1
    (refine awp_sr fun KK hKK => ?_; simp [go_sem]; ((repeat' (first|(refine ag_x ?_;simp [go_sem])|intro _|refine And.intro ?_ ?_|(apply hKK;clear hKK KK)));all_goals first|refine Hold.mk ?_|omega|with_reducible assumption|(simp only [InR] at *;omega)|skip))
    ((try refine CallT.toA ?_); refine callT_m (by first | exact .inl ⟨rfl, rfl⟩ | exact .inr rfl) (by simp [go_sem]) ?_; intro args ha; simp [go_sem] at ha; subst ha; refine ⟨_, A1, ?_⟩; rintro _ rfl; simp [go_sem]; ((repeat' (first|(refine ag_x ?_;simp [go_sem])|intro _|refine And.intro ?_ ?_|(apply hKK;clear hKK KK)));all_goals first|refine Hold.mk ?_|omega|with_reducible assumption|(simp only [InR] at *;omega)|skip))
    (refine awp_sr fun KK hKK => ?_; simp [go_sem]; ((repeat' (first|(refine ag_x ?_;simp [go_sem])|intro _|refine And.intro ?_ ?_|(apply hKK;clear hKK KK)));all_goals first|refine Hold.mk ?_|omega|with_reducible assumption|(simp only [InR] at *;omega)|skip))
    ((try refine CallT.toA ?_); refine callT_m (by first | exact .inl ⟨rfl, rfl⟩ | exact .inr rfl) (by simp [go_sem]) ?_; intro args ha; simp [go_sem] at ha; subst ha; refine ⟨_, A2, ?_⟩; rintro _ rfl; simp [go_sem]; ((repeat' (first|(refine ag_x ?_;simp [go_sem])|intro _|refine And.intro ?_ ?_|(apply hKK;clear hKK KK)));all_goals first|refine Hold.mk ?_|omega|with_reducible assumption|(simp only [InR] at *;omega)|skip))
    (refine awp_sr fun KK hKK => ?_; simp [go_sem]; ((repeat' (first|(refine ag_x ?_;simp [go_sem])|intro _|refine And.intro ?_ ?_|(apply hKK;clear hKK KK)));all_goals first|refine Hold.mk ?_|omega|with_reducible assumption|(simp only [InR] at *;omega)|skip))
    ((try refine CallT.toA ?_); refine callT_m (by first | exact .inl ⟨rfl, rfl⟩ | exact .inr rfl) (by simp [go_sem]) ?_; intro args ha; simp [go_sem] at ha; subst ha; refine ⟨_, A3, ?_⟩; rintro _ rfl; simp [go_sem]; ((repeat' (first|(refine ag_x ?_;simp [go_sem])|intro _|refine And.intro ?_ ?_|(apply hKK;clear hKK KK)));all_goals first|refine Hold.mk ?_|omega|with_reducible assumption|(simp only [InR] at *;omega)|skip))
    (refine awp_sr fun KK hKK => ?_; simp [go_sem]; ((repeat' (first|(refine ag_x ?_;simp [go_sem])|intro _|refine And.intro ?_ ?_|(apply hKK;clear hKK KK)));all_goals first|refine Hold.mk ?_|omega|with_reducible assumption|(simp only [InR] at *;omega)|skip))
    (refine agc_f (dB true) (by first | exact .inl ⟨rfl, rfl⟩ | exact .inr rfl) ?_ rfl ?_; (intro hc args ha; simp [go_sem] at ha; subst ha; exact sane_ok); simp [go_sem]; ((repeat' (first|(refine ag_x ?_;simp [go_sem])|intro _|refine And.intro ?_ ?_|(apply hKK;clear hKK KK)));all_goals first|refine Hold.mk ?_|omega|with_reducible assumption|(simp only [InR] at *;omega)|skip))
    (refine awp_ret ?_; simp [go_sem])
end Go.Proofs.YtglncfhcgkihbaaGreatDoor
