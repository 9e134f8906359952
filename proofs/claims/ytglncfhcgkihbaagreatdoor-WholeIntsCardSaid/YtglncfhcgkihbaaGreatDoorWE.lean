/- Part of a proof: see the last text. -/
import Derived.Test.YtglncfhcgkihbaaGreatDoorWD
set_option linter.unusedVariables false
set_option linter.unusedSimpArgs false
namespace Go.Proofs.YtglncfhcgkihbaaGreatDoor
open Go.Eng Go.Wh
set_option maxRecDepth 20000
set_option linter.unusedSimpArgs false
set_option linter.unusedVariables false
attribute [local irreducible] AG CallA CallT AWp PCall ACall AgC
@[go_sem] abbrev nB (n : Nat) : D := .agg [dB false, dIs (dg U n)]
theorem szN (n : Nat) : sz U (n : Int) = (dg U n).length := by unfold sz; rw [Int.natAbs_natCast]
theorem mulN (x y : Nat) (hx : (dg U x).length ≤ 1000000) (hy : (dg U y).length ≤ 1000000) : PCall Tryz.prog 41 [nB x, nB y] fun r => r = nB (x * y) := by
  have h := mul_as false false (dgU x) (dgU y) hx hy (n := ((x * y : Nat) : Int)) (by rw [vU, vU, ← Int.natCast_mul]; rfl)
  rw [dBigN] at h; exact h
theorem addN (x y : Nat) (hx : (dg U x).length ≤ 1000000) (hy : (dg U y).length ≤ 1000000) : PCall Tryz.prog 63 [nB x, nB y] fun r => r = nB (x + y) := by
  have h := add_spec x y (by rw [szN]; exact hx) (by rw [szN]; exact hy)
  rw [← Int.natCast_add, dBigN, dBigN, dBigN] at h; exact h
theorem ofN (n : Nat) (h : n ≤ 1000000) : PCall Tryz.prog 40 [dI n] fun r => r = nB n := by
  have h := of_spec n (by omega) (by omega)
  rw [dBigN] at h; exact h
theorem textN (n : Nat) (h : (dg U n).length ≤ 1000000) : PCall Tryz.prog 43 [nB n] fun r => r = dS (Lib.decDigits n) := by
  have h := text_spec n (by rw [szN]; exact h)
  rw [dBigN, itoa_abs, if_neg (by omega), Int.natAbs_natCast] at h; exact h
theorem app_mk (a b : List UInt8) : (⟨a.toArray⟩ : ByteArray) ++ ⟨b.toArray⟩ = ⟨(a ++ b).toArray⟩ := by
  apply ByteArray.ext
  simp
theorem repDec : ∀ k, decVal (Lib.repeatL [48] k) = 0
  | 0 => rfl
  | k + 1 => by
    have ih := repDec k
    show decVal ([48] ++ Lib.repeatL [48] k) = 0
    rw [decVal_app, ih, show decVal [48] = 0 from rfl]; simp
theorem rep_isD : ∀ k, ∀ c ∈ Lib.repeatL [48] k, isD c = true
  | 0, c, h => by simp [Lib.repeatL] at h
  | k + 1, c, h => by
    have h : c ∈ [48] ++ Lib.repeatL [48] k := h
    rw [List.mem_append] at h
    rcases h with h | h
    · rw [List.mem_singleton] at h; rw [h]; rfl
    · exact rep_isD k c h
theorem rep_len (k : Nat) : (Lib.repeatL [48] k).length = k := by rw [Lib.repeatL_length]; simp
theorem tenN (k : Nat) (hk : k ≤ 1000) : PCall Tryz.prog 39 [dS (49 :: Lib.repeatL [48] k)] fun r => r = nB (10 ^ k) := by
  have hb : body (49 :: Lib.repeatL [48] k) = 49 :: Lib.repeatL [48] k := by unfold body; rw [if_neg (by simp)]
  have h := read_spec (49 :: Lib.repeatL [48] k) (by
    rw [hb]; intro c hc
    rcases List.mem_cons.1 hc with rfl | hc
    · rfl
    · exact rep_isD k c hc) (by rw [hb, List.length_cons, rep_len]; omega)
  have e : numV (49 :: Lib.repeatL [48] k) = ((10 ^ k : Nat) : Int) := by
    unfold numV
    rw [if_neg (by simp), hb]
    show ((decVal ([49] ++ Lib.repeatL [48] k) : Nat) : Int) = _
    rw [decVal_app, repDec, rep_len]
    show (((1 * 10 ^ k + 0 : Nat)) : Int) = _
    rw [Nat.one_mul, Nat.add_zero]
  rw [e, dBigN] at h; exact h
/-- the digits of a part, dotted -/
def dot1 (k : Nat) (s : List UInt8) : List UInt8 := if s.length ≤ k then Lib.repeatL [48] (k + 1 - s.length) ++ s else s
def dot2 (k : Nat) (s : List UInt8) : List UInt8 := if 0 < k then s.take (s.length - k) ++ [46] ++ s.drop (s.length - k) else s
def dot3 (b : Bool) (s : List UInt8) : List UInt8 := if b = true ∧ Lib.trimS s [48, 46] ≠ [] then 45 :: s else s
def decS (p q : Int) (k : Nat) : List UInt8 := dot3 (decide (p < 0)) (dot2 k (dot1 k (Lib.decDigits ((p.natAbs * 10 ^ k * 2 + q.natAbs) / (q.natAbs * 2)))))
theorem len_mul {x y a b : Nat} (hx : (dg U x).length ≤ a) (hy : (dg U y).length ≤ b) : (dg U (x * y)).length ≤ a + b := by
  have h := sz_mul (B := U) (by decide) (x : Int) (y : Int)
  rw [← Int.natCast_mul, szN, szN, szN] at h; omega
theorem len_add {x y a b : Nat} (hx : (dg U x).length ≤ a) (hy : (dg U y).length ≤ b) : (dg U (x + y)).length ≤ a + b + 1 := by
  have h := sz_add (B := U) (by decide) (x : Int) (y : Int)
  rw [← Int.natCast_add, szN, szN, szN] at h; omega
set_option maxHeartbeats 16000000 in
theorem Decimal_ok (s : List UInt8) (k : Nat) (hl : s.length ≤ 1000000000) (hk : k ≤ 100) {p q : Int} (hr : ratV s = some (p, q)) (hq : 0 < q) (hp45 : sz U p ≤ 45) (hq45 : sz U q ≤ 45) : PCall Tryz.prog 36 [dS s, dI k] fun r => r = .tup [dS (decS p q k), dI 0] := by 
  refine pcall_of Tryz.func36 rfl rfl Tryz.ntmps36 (rs := [.tmp 4, .tmp 5]) (tys := [9, 31]) rfl rfl (by simp) ?_
  have R0 : PCall Tryz.prog 78 [dS s] fun r => r = .tup [.agg [dB (decide (p < 0)), dIs (dg U p.natAbs), dB (decide (q < 0)), dIs (dg U q.natAbs)], dB true] := by
    refine (readRatio_spec s hl).mono ?_
    rintro r ⟨x1, x2, x3, x4, rfl, h⟩
    rw [h _ hr, hr]; rfl
  unfold decS
  obtain ⟨bl, hbl⟩ : ∃ bl, decide (p < 0) = bl := ⟨_, rfl⟩
  obtain ⟨P, hP⟩ : ∃ P, p.natAbs = P := ⟨_, rfl⟩
  obtain ⟨Q, hQ⟩ : ∃ Q, q.natAbs = Q := ⟨_, rfl⟩
  have hq0 : decide (q < 0) = false := by simp; omega
  have hQ0 : Q ≠ 0 := by omega
  have hPl : (dg U P).length ≤ 45 := by rw [← hP]; exact hp45
  have hQl : (dg U Q).length ≤ 45 := by rw [← hQ]; exact hq45
  rw [hbl, hP, hQ, hq0] at R0
  rw [hbl, hP, hQ]
  have M1 : PCall Tryz.prog 40 [dI 2] fun r => r = nB 2 := ofN 2 (by decide)
  have h10 : (dg U (10 ^ k)).length ≤ 12 := dg_len_le (B := U) (by decide) (k := 12) (Nat.lt_of_le_of_lt (Nat.pow_le_pow_right (by decide) hk) (by decide))
  have h2 : (dg U 2).length ≤ 1 := dg_len_le (B := U) (by decide) (k := 1) (by decide)
  have T0 := tenN k (by omega)
  have M2 := mulN P (10 ^ k) (by omega) (by omega)
  have l2 := len_mul hPl h10
  generalize 10 ^ k = T at *
  generalize P * T = X1 at *
  have M3 := mulN X1 2 (by omega) (by omega)
  have l3 := len_mul l2 h2
  have M5 := mulN Q 2 (by omega) (by omega)
  have l5 := len_mul hQl h2
  have hQ2 : Q * 2 ≠ 0 := by omega
  generalize X1 * 2 = X2 at *
  have M4 := addN X2 Q (by omega) (by omega)
  have l4 := len_add l3 hQl
  generalize X2 + Q = X3 at *
  generalize Q * 2 = X4 at *
  have M6 := divN X3 X4 hQ2 (by omega) (by omega)
  have l6 : (dg U (X3 / X4)).length ≤ 105 := Nat.le_trans (dg_le (Nat.div_le_self _ _)) (by omega)
  generalize X3 / X4 = X5 at *
  generalize X3 % X4 = X6 at *
  have M7 := textN X5 (by omega)
  have hd5 : (Lib.decDigits X5).length ≤ 1000 := by
    have h := sz_dlen (X5 : Int)
    rw [szN] at h
    unfold dlen at h
    rw [Int.natAbs_natCast] at h
    omega
  generalize Lib.decDigits X5 = t at *
  have hrl := rep_len k
  have RP := rep_spec [48] k (by omega) (by simp; omega)
  generalize Lib.repeatL [48] k = rk at *
  (refine awp_sr fun KK hKK => ?_; simp [go_sem]; ((repeat' (first|(refine ag_x ?_;simp [go_sem])|intro _|refine And.intro ?_ ?_|(apply hKK;clear hKK KK)));all_goals first|refine Hold.mk ?_|omega|with_reducible assumption|(simp only [InR] at *;omega)|skip))
  (refine awp_sr fun KK hKK => ?_; simp [go_sem]; ((repeat' (first|(refine ag_x ?_;simp [go_sem])|intro _|refine And.intro ?_ ?_|(apply hKK;clear hKK KK)));all_goals first|refine Hold.mk ?_|omega|with_reducible assumption|(simp only [InR] at *;omega)|skip))
  ((try refine CallT.toA ?_); refine callT_m (by first | exact .inl ⟨rfl, rfl⟩ | exact .inr rfl) (by simp [go_sem]) ?_; intro args ha; simp [go_sem] at ha; subst ha; refine ⟨_, R0, ?_⟩; rintro _ rfl; simp [go_sem]; ((repeat' (first|(refine ag_x ?_;simp [go_sem])|intro _|refine And.intro ?_ ?_|(apply hKK;clear hKK KK)));all_goals first|refine Hold.mk ?_|omega|with_reducible assumption|(simp only [InR] at *;omega)|skip))
  rename_i g6
  refine awp_seq_k fun K1 hK1 => ?_
  (refine awp_sr fun KK hKK => ?_; simp [go_sem]; ((repeat' (first|(refine ag_x ?_;simp [go_sem])|intro _|refine And.intro ?_ ?_|(apply hKK;clear hKK KK)));all_goals first|refine Hold.mk ?_|omega|with_reducible assumption|(simp only [InR] at *;omega)|skip))
  have hk0 : decide ((k : Int) < 0) = false := by simp
  have hk1 : decide (100 < (k : Int)) = false := by simp; omega
  (refine awp_if fun T F hT hF => ?_; simp [go_sem, hk0, hk1]; refine hF ?_; clear hT hF T F)
  refine awp_skip ?_
  refine hK1 _ ?_; clear hK1
  (refine awp_sr fun KK hKK => ?_; simp [go_sem]; ((repeat' (first|(refine ag_x ?_;simp [go_sem])|intro _|refine And.intro ?_ ?_|(apply hKK;clear hKK KK)));all_goals first|refine Hold.mk ?_|omega|with_reducible assumption|(simp only [InR] at *;omega)|skip))
  (refine awp_sr fun KK hKK => ?_; simp [go_sem]; ((repeat' (first|(refine ag_x ?_;simp [go_sem])|intro _|refine And.intro ?_ ?_|(apply hKK;clear hKK KK)));all_goals first|refine Hold.mk ?_|omega|with_reducible assumption|(simp only [InR] at *;omega)|skip))
  refine awp_seq_k fun K6 hK6 => ?_
  have tl6 : ∀ S' g9, Cov S' ⟨[(1, dI k), (6, .ptr 6 g6 0), (8, dB bl), (9, .ptr 9 g9 0)], [(6, g6, .box [dB false, dIs (dg U P), dB false, dIs (dg U Q)]), (9, g9, .box [dB false, dIs (dg U X1)])]⟩ → K6 S' := fun S' g9 hS => by
    refine hK6 _ ?_; clear hK6
    refine awp_cov hS ?_; clear hS
    refine awp_seq_k fun K7 hK7 => ?_
    have tl7 : ∀ S' g10, Cov S' ⟨[(1, dI k), (8, dB bl), (10, .ptr 10 g10 0)], [(10, g10, .box [dB false, dIs (dg U X5)])]⟩ → K7 S' := fun S' g10 hS => by
      refine hK7 _ ?_; clear hK7
      refine awp_cov hS ?_; clear hS
      (refine awp_sr fun KK hKK => ?_; simp [go_sem]; ((repeat' (first|(refine ag_x ?_;simp [go_sem])|intro _|refine And.intro ?_ ?_|(apply hKK;clear hKK KK)));all_goals first|refine Hold.mk ?_|omega|with_reducible assumption|(simp only [InR] at *;omega)|skip))
      ((try refine CallT.toA ?_); refine callT_m (by first | exact .inl ⟨rfl, rfl⟩ | exact .inr rfl) (by simp [go_sem]) ?_; intro args ha; simp [go_sem] at ha; subst ha; refine ⟨_, M7, ?_⟩; rintro _ rfl; simp [go_sem]; ((repeat' (first|(refine ag_x ?_;simp [go_sem])|intro _|refine And.intro ?_ ?_|(apply hKK;clear hKK KK)));all_goals first|refine Hold.mk ?_|omega|with_reducible assumption|(simp only [InR] at *;omega)|skip))
      refine awp_seq_k fun K3 hK3 => ?_
      have tl3 : ∀ S', Cov S' ⟨[(1, dI k), (8, dB bl), (12, dS (dot1 k t))], []⟩ → K3 S' := fun S' hS => by
        refine hK3 _ ?_; clear hK3
        refine awp_cov hS ?_; clear hS
        have hd1l : (dot1 k t).length ≤ 2000 := by
          unfold dot1; split
          · rw [List.length_append, rep_len]; omega
          · omega
        have hd1k : k < (dot1 k t).length := by
          unfold dot1; split
          · rw [List.length_append, rep_len]; omega
          · omega
        generalize dot1 k t = u at *
        refine awp_seq_k fun K4 hK4 => ?_
        have tl4 : ∀ S', Cov S' ⟨[(8, dB bl), (12, dS (dot2 k u))], []⟩ → K4 S' := fun S' hS => by
          refine hK4 _ ?_; clear hK4
          refine awp_cov hS ?_; clear hS
          have hd2l : (dot2 k u).length ≤ 3000 := by
            unfold dot2; split
            · simp; omega
            · omega
          generalize dot2 k u = v at *
          refine awp_seq_k fun K5 hK5 => ?_
          have tl5 : ∀ S', Cov S' ⟨[(12, dS (dot3 bl v))], []⟩ → K5 S' := fun S' hS => by
            refine hK5 _ ?_; clear hK5
            refine awp_cov hS ?_; clear hS
            (refine awp_sr fun KK hKK => ?_; simp [go_sem]; ((repeat' (first|(refine ag_x ?_;simp [go_sem])|intro _|refine And.intro ?_ ?_|(apply hKK;clear hKK KK)));all_goals first|refine Hold.mk ?_|omega|with_reducible assumption|(simp only [InR] at *;omega)|skip))
            (refine awp_ret ?_; simp [go_sem])
          clear hK5
          cases bl with
          | false =>
            (refine awp_sr fun KK hKK => ?_; simp [go_sem]; ((repeat' (first|(refine ag_false (by simp [go_sem, undef]) (by simp [go_sem]) ?_;simp [go_sem])|intro _|refine And.intro ?_ ?_|(apply hKK;clear hKK KK)));all_goals first|refine Hold.mk ?_|omega|with_reducible assumption|(simp only [InR] at *;omega)|skip))
            (refine awp_if fun T F hT hF => ?_; simp [go_sem]; refine hF ?_; clear hT hF T F)
            refine awp_skip ?_
            refine tl5 _ ?_
            (refine cov_of ?_ ?_ <;> simp [go_sem, dot3])
          | true =>
            have TR := trimS_spec v [48, 46] (by omega) (by decide) (by decide)
            have e3 : dot3 true v = if Lib.trimS v [48, 46] ≠ [] then 45 :: v else v := by simp [dot3]
            generalize Lib.trimS v [48, 46] = tr at *
            (refine awp_sr fun KK hKK => ?_; simp [go_sem]; ((repeat' (first|(refine ag_x ?_;simp [go_sem])|intro _|refine And.intro ?_ ?_|(apply hKK;clear hKK KK)));all_goals first|refine Hold.mk ?_|omega|with_reducible assumption|(simp only [InR] at *;omega)|skip))
            (refine agc_f (dS tr) (by first | exact .inl ⟨rfl, rfl⟩ | exact .inr rfl) ?_ rfl ?_; (intro hc args ha; simp [go_sem] at ha; subst ha; exact TR); simp [go_sem]; ((repeat' (first|(refine ag_x ?_;simp [go_sem])|intro _|refine And.intro ?_ ?_|(apply hKK;clear hKK KK)));all_goals first|refine Hold.mk ?_|omega|with_reducible assumption|(simp only [InR] at *;omega)|skip))
            (refine awp_if fun T F hT hF => ?_; simp [go_sem]; refine BR.intro (fun h6 => hT ?_) (fun h6 => hF ?_); all_goals clear hT hF T F; try simp at h6) 
            · (refine awp_r fun KK hKK => ?_; simp [go_sem]; ((repeat' (first|(refine ag_x ?_;simp [go_sem])|intro _|refine And.intro ?_ ?_|(apply hKK;clear hKK KK)));all_goals first|refine Hold.mk ?_|omega|with_reducible assumption|(simp only [InR] at *;omega)|skip))
              refine tl5 _ ?_
              rw [e3, if_pos (by simpa using h6)]
              (refine cov_of ?_ ?_ <;> simp [go_sem])
              exact app_mk [45] v
            · refine awp_skip ?_
              refine tl5 _ ?_
              rw [e3, if_neg (by simpa using h6)]
              (refine cov_of ?_ ?_ <;> simp [go_sem])
        clear hK4
        (refine awp_sr fun KK hKK => ?_; simp [go_sem]; ((repeat' (first|(refine ag_x ?_;simp [go_sem])|intro _|refine And.intro ?_ ?_|(apply hKK;clear hKK KK)));all_goals first|refine Hold.mk ?_|omega|with_reducible assumption|(simp only [InR] at *;omega)|skip))
        (refine awp_if fun T F hT hF => ?_; simp [go_sem]; refine BR.intro (fun h7 => hT ?_) (fun h7 => hF ?_); all_goals clear hT hF T F; try simp at h7) 
        · ((refine awp_d (.qs [0, 1, 2, 3, 4, 5, 6, 7, 8, 9, 10, 11, 12, 13, 14] (.nil)) (by kernel_rfl) ?_ ?_ ?_ ?_); (kernel_rfl); (exact (by decide +kernel)); (kernel_rfl); intro KK hKK; ((repeat' (first|(refine ag_x ?_;simp [go_sem])|refine adr_nil ?_|refine adr_two ?_ ?_|refine adr_kq ?_ ?_|refine adr_three ?_ ?_ ?_|refine adr_four ?_ ?_ ?_ ?_|refine adr_kp2 ?_ ?_|refine adr_kp3 ?_ ?_ ?_|((first|refine adr_qs fun KK hKK=>?_|refine adr_y fun KK hKK=>?_);simp [go_sem])|intro _|refine And.intro ?_ ?_|(apply hKK;clear hKK KK)));all_goals first|refine Hold.mk ?_|omega|with_reducible assumption|(simp only [InR] at *;omega)|skip))
          refine tl4 _ ?_
          unfold dot2
          rw [if_pos (by omega)]
          (refine cov_of ?_ ?_ <;> simp [go_sem])
          have e5 : List.take (u.length - (u.length - k)) (List.drop (u.length - k) u) = List.drop (u.length - k) u := List.take_of_length_le (by rw [List.length_drop]; exact Nat.le_refl _)
          rw [Lib.extract_mk, Lib.extract_mk, e5, List.drop_zero, Nat.sub_zero, show (⟨#[46]⟩ : ByteArray) = ⟨[46].toArray⟩ from rfl, app_mk, app_mk]
          try simp
        · refine awp_skip ?_
          refine tl4 _ ?_
          unfold dot2
          rw [if_neg (by omega)]
          (refine cov_of ?_ ?_ <;> simp [go_sem])
      clear hK3
      (refine awp_sr fun KK hKK => ?_; simp [go_sem]; ((repeat' (first|(refine ag_x ?_;simp [go_sem])|intro _|refine And.intro ?_ ?_|(apply hKK;clear hKK KK)));all_goals first|refine Hold.mk ?_|omega|with_reducible assumption|(simp only [InR] at *;omega)|skip))
      (refine awp_if fun T F hT hF => ?_; simp [go_sem]; refine BR.intro (fun h8 => hT ?_) (fun h8 => hF ?_); all_goals clear hT hF T F; try simp at h8) 
      · obtain ⟨z, hz⟩ : ∃ z, k + 1 - t.length = z := ⟨_, rfl⟩
        have RZ := rep_spec [48] z (by omega) (by simp; omega)
        have e1 : dot1 k t = Lib.repeatL [48] z ++ t := by unfold dot1; rw [if_pos (by omega), hz]
        have ez : (k : Int) + 1 - (t.length : Int) = (z : Int) := by omega
        have hzl := rep_len z
        generalize Lib.repeatL [48] z = rz at *
        (refine awp_r fun KK hKK => ?_; simp [go_sem, ez]; ((repeat' (first|(refine ag_x ?_;simp [go_sem, ez])|intro _|refine And.intro ?_ ?_|(apply hKK;clear hKK KK)));all_goals first|refine Hold.mk ?_|omega|with_reducible assumption|(simp only [InR] at *;omega)|skip))
        ((try refine CallT.toA ?_); refine callT_m (by first | exact .inl ⟨rfl, rfl⟩ | exact .inr rfl) (by simp [go_sem]) ?_; intro args ha; simp [go_sem] at ha; subst ha; refine ⟨_, RZ, ?_⟩; rintro _ rfl; simp [go_sem]; ((repeat' (first|(refine ag_x ?_;simp [go_sem])|intro _|refine And.intro ?_ ?_|(apply hKK;clear hKK KK)));all_goals first|refine Hold.mk ?_|omega|with_reducible assumption|(simp only [InR] at *;omega)|skip))
        refine tl3 _ ?_
        rw [e1]
        (refine cov_of ?_ ?_ <;> simp [go_sem])
        exact app_mk rz t
      · refine awp_skip ?_
        refine tl3 _ ?_
        have e1 : dot1 k t = t := by unfold dot1; rw [if_neg (by omega)]
        rw [e1]
        (refine cov_of ?_ ?_ <;> simp [go_sem])
    clear hK7
    ((refine awp_d (.qs [3, 6, 0, 4, 7] (.kp3 1 (.kp3 2 (.kp3 5 (.kp3 8 (.kp3 9 (.kp3 10 (.qs [11, 12, 13] (.kp2 14 (.kp 15 (.one 16 (.one 17 (.nil)))) 15 (.kp 14 (.one 16 (.one 17 (.nil)))))) 14 (.kp2 10 (.qs [11, 12, 13] (.kp 15 (.one 16 (.one 17 (.nil))))) 15 (.kp 10 (.qs [11, 12, 13] (.one 16 (.one 17 (.nil)))))) 15 (.kp2 10 (.qs [11, 12, 13] (.kp 14 (.one 16 (.one 17 (.nil))))) 14 (.kp 10 (.qs [11, 12, 13] (.one 16 (.one 17 (.nil))))))) 14 (.kp2 9 (.kp2 10 (.qs [11, 12, 13] (.kp 15 (.one 16 (.one 17 (.nil))))) 15 (.kp 10 (.qs [11, 12, 13] (.one 16 (.one 17 (.nil)))))) 15 (.kp 9 (.kp 10 (.qs [11, 12, 13] (.one 16 (.one 17 (.nil))))))) 15 (.kp2 9 (.kp2 10 (.qs [11, 12, 13] (.kp 14 (.one 16 (.one 17 (.nil))))) 14 (.kp 10 (.qs [11, 12, 13] (.one 16 (.one 17 (.nil)))))) 14 (.kp 9 (.kp 10 (.qs [11, 12, 13] (.one 16 (.one 17 (.nil)))))))) 14 (.kp2 8 (.kp2 9 (.kp2 10 (.qs [11, 12, 13] (.kp 15 (.one 16 (.one 17 (.nil))))) 15 (.kp 10 (.qs [11, 12, 13] (.one 16 (.one 17 (.nil)))))) 15 (.kp 9 (.kp 10 (.qs [11, 12, 13] (.one 16 (.one 17 (.nil))))))) 15 (.kp 8 (.kp 9 (.kp 10 (.qs [11, 12, 13] (.one 16 (.one 17 (.nil)))))))) 15 (.kp2 8 (.kp2 9 (.kp2 10 (.qs [11, 12, 13] (.kp 14 (.one 16 (.one 17 (.nil))))) 14 (.kp 10 (.qs [11, 12, 13] (.one 16 (.one 17 (.nil)))))) 14 (.kp 9 (.kp 10 (.qs [11, 12, 13] (.one 16 (.one 17 (.nil))))))) 14 (.kp 8 (.kp 9 (.kp 10 (.qs [11, 12, 13] (.one 16 (.one 17 (.nil))))))))) 14 (.kp2 5 (.kp2 8 (.kp2 9 (.kp2 10 (.qs [11, 12, 13] (.kp 15 (.one 16 (.one 17 (.nil))))) 15 (.kp 10 (.qs [11, 12, 13] (.one 16 (.one 17 (.nil)))))) 15 (.kp 9 (.kp 10 (.qs [11, 12, 13] (.one 16 (.one 17 (.nil))))))) 15 (.kp 8 (.kp 9 (.kp 10 (.qs [11, 12, 13] (.one 16 (.one 17 (.nil)))))))) 15 (.kp 5 (.kp 8 (.kp 9 (.kp 10 (.qs [11, 12, 13] (.one 16 (.one 17 (.nil))))))))) 15 (.kp2 5 (.kp2 8 (.kp2 9 (.kp2 10 (.qs [11, 12, 13] (.kp 14 (.one 16 (.one 17 (.nil))))) 14 (.kp 10 (.qs [11, 12, 13] (.one 16 (.one 17 (.nil)))))) 14 (.kp 9 (.kp 10 (.qs [11, 12, 13] (.one 16 (.one 17 (.nil))))))) 14 (.kp 8 (.kp 9 (.kp 10 (.qs [11, 12, 13] (.one 16 (.one 17 (.nil)))))))) 14 (.kp 5 (.kp 8 (.kp 9 (.kp 10 (.qs [11, 12, 13] (.one 16 (.one 17 (.nil)))))))))) 14 (.kp2 2 (.kp2 5 (.kp2 8 (.kp2 9 (.kp2 10 (.qs [11, 12, 13] (.kp 15 (.one 16 (.one 17 (.nil))))) 15 (.kp 10 (.qs [11, 12, 13] (.one 16 (.one 17 (.nil)))))) 15 (.kp 9 (.kp 10 (.qs [11, 12, 13] (.one 16 (.one 17 (.nil))))))) 15 (.kp 8 (.kp 9 (.kp 10 (.qs [11, 12, 13] (.one 16 (.one 17 (.nil)))))))) 15 (.kp 5 (.kp 8 (.kp 9 (.kp 10 (.qs [11, 12, 13] (.one 16 (.one 17 (.nil))))))))) 15 (.kp 2 (.kp 5 (.kp 8 (.kp 9 (.kp 10 (.qs [11, 12, 13] (.one 16 (.one 17 (.nil)))))))))) 15 (.kp2 2 (.kp2 5 (.kp2 8 (.kp2 9 (.kp2 10 (.qs [11, 12, 13] (.kp 14 (.one 16 (.one 17 (.nil))))) 14 (.kp 10 (.qs [11, 12, 13] (.one 16 (.one 17 (.nil)))))) 14 (.kp 9 (.kp 10 (.qs [11, 12, 13] (.one 16 (.one 17 (.nil))))))) 14 (.kp 8 (.kp 9 (.kp 10 (.qs [11, 12, 13] (.one 16 (.one 17 (.nil)))))))) 14 (.kp 5 (.kp 8 (.kp 9 (.kp 10 (.qs [11, 12, 13] (.one 16 (.one 17 (.nil))))))))) 14 (.kp 2 (.kp 5 (.kp 8 (.kp 9 (.kp 10 (.qs [11, 12, 13] (.one 16 (.one 17 (.nil))))))))))) 14 (.kp2 1 (.kp2 2 (.kp2 5 (.kp2 8 (.kp2 9 (.kp2 10 (.qs [11, 12, 13] (.kp 15 (.one 16 (.one 17 (.nil))))) 15 (.kp 10 (.qs [11, 12, 13] (.one 16 (.one 17 (.nil)))))) 15 (.kp 9 (.kp 10 (.qs [11, 12, 13] (.one 16 (.one 17 (.nil))))))) 15 (.kp 8 (.kp 9 (.kp 10 (.qs [11, 12, 13] (.one 16 (.one 17 (.nil)))))))) 15 (.kp 5 (.kp 8 (.kp 9 (.kp 10 (.qs [11, 12, 13] (.one 16 (.one 17 (.nil))))))))) 15 (.kp 2 (.kp 5 (.kp 8 (.kp 9 (.kp 10 (.qs [11, 12, 13] (.one 16 (.one 17 (.nil)))))))))) 15 (.kp 1 (.kp 2 (.kp 5 (.kp 8 (.kp 9 (.kp 10 (.qs [11, 12, 13] (.one 16 (.one 17 (.nil))))))))))) 15 (.kp2 1 (.kp2 2 (.kp2 5 (.kp2 8 (.kp2 9 (.kp2 10 (.qs [11, 12, 13] (.kp 14 (.one 16 (.one 17 (.nil))))) 14 (.kp 10 (.qs [11, 12, 13] (.one 16 (.one 17 (.nil)))))) 14 (.kp 9 (.kp 10 (.qs [11, 12, 13] (.one 16 (.one 17 (.nil))))))) 14 (.kp 8 (.kp 9 (.kp 10 (.qs [11, 12, 13] (.one 16 (.one 17 (.nil)))))))) 14 (.kp 5 (.kp 8 (.kp 9 (.kp 10 (.qs [11, 12, 13] (.one 16 (.one 17 (.nil))))))))) 14 (.kp 2 (.kp 5 (.kp 8 (.kp 9 (.kp 10 (.qs [11, 12, 13] (.one 16 (.one 17 (.nil)))))))))) 14 (.kp 1 (.kp 2 (.kp 5 (.kp 8 (.kp 9 (.kp 10 (.qs [11, 12, 13] (.one 16 (.one 17 (.nil))))))))))))) (by kernel_rfl) ?_ ?_ ?_ ?_); (kernel_rfl); (exact (by decide +kernel)); (kernel_rfl); intro KK hKK; ((repeat' (first|(refine ag_x ?_;simp [go_sem])|refine adr_nil ?_|refine adr_two ?_ ?_|refine adr_kq ?_ ?_|refine adr_three ?_ ?_ ?_|refine adr_four ?_ ?_ ?_ ?_|refine adr_kp2 ?_ ?_|refine adr_kp3 ?_ ?_ ?_|((first|refine adr_qs fun KK hKK=>?_|refine adr_y fun KK hKK=>?_);simp [go_sem])|intro _|refine And.intro ?_ ?_|(apply hKK;clear hKK KK)));all_goals first|refine Hold.mk ?_|omega|with_reducible assumption|(simp only [InR] at *;omega)|skip))
    all_goals (repeat' (first | ((try refine CallT.toA ?_); refine callT_m (by first | exact .inl ⟨rfl, rfl⟩ | exact .inr rfl) (by simp [go_sem]) ?_; intro args ha; simp [go_sem] at ha; subst ha; refine ⟨_, M1, ?_⟩; rintro _ rfl; simp [go_sem]; ((repeat' (first|(refine ag_x ?_;simp [go_sem])|refine adr_nil ?_|refine adr_two ?_ ?_|refine adr_kq ?_ ?_|refine adr_three ?_ ?_ ?_|refine adr_four ?_ ?_ ?_ ?_|refine adr_kp2 ?_ ?_|refine adr_kp3 ?_ ?_ ?_|((first|refine adr_qs fun KK hKK=>?_|refine adr_y fun KK hKK=>?_);simp [go_sem])|intro _|refine And.intro ?_ ?_|(apply hKK;clear hKK KK)));all_goals first|refine Hold.mk ?_|omega|with_reducible assumption|(simp only [InR] at *;omega)|skip)) | ((try refine CallT.toA ?_); refine callT_m (by first | exact .inl ⟨rfl, rfl⟩ | exact .inr rfl) (by simp [go_sem]) ?_; intro args ha; simp [go_sem] at ha; subst ha; refine ⟨_, M3, ?_⟩; rintro _ rfl; simp [go_sem]; ((repeat' (first|(refine ag_x ?_;simp [go_sem])|refine adr_nil ?_|refine adr_two ?_ ?_|refine adr_kq ?_ ?_|refine adr_three ?_ ?_ ?_|refine adr_four ?_ ?_ ?_ ?_|refine adr_kp2 ?_ ?_|refine adr_kp3 ?_ ?_ ?_|((first|refine adr_qs fun KK hKK=>?_|refine adr_y fun KK hKK=>?_);simp [go_sem])|intro _|refine And.intro ?_ ?_|(apply hKK;clear hKK KK)));all_goals first|refine Hold.mk ?_|omega|with_reducible assumption|(simp only [InR] at *;omega)|skip)) | ((try refine CallT.toA ?_); refine callT_m (by first | exact .inl ⟨rfl, rfl⟩ | exact .inr rfl) (by simp [go_sem]) ?_; intro args ha; simp [go_sem] at ha; subst ha; refine ⟨_, M4, ?_⟩; rintro _ rfl; simp [go_sem]; ((repeat' (first|(refine ag_x ?_;simp [go_sem])|refine adr_nil ?_|refine adr_two ?_ ?_|refine adr_kq ?_ ?_|refine adr_three ?_ ?_ ?_|refine adr_four ?_ ?_ ?_ ?_|refine adr_kp2 ?_ ?_|refine adr_kp3 ?_ ?_ ?_|((first|refine adr_qs fun KK hKK=>?_|refine adr_y fun KK hKK=>?_);simp [go_sem])|intro _|refine And.intro ?_ ?_|(apply hKK;clear hKK KK)));all_goals first|refine Hold.mk ?_|omega|with_reducible assumption|(simp only [InR] at *;omega)|skip)) | ((try refine CallT.toA ?_); refine callT_m (by first | exact .inl ⟨rfl, rfl⟩ | exact .inr rfl) (by simp [go_sem]) ?_; intro args ha; simp [go_sem] at ha; subst ha; refine ⟨_, M5, ?_⟩; rintro _ rfl; simp [go_sem]; ((repeat' (first|(refine ag_x ?_;simp [go_sem])|refine adr_nil ?_|refine adr_two ?_ ?_|refine adr_kq ?_ ?_|refine adr_three ?_ ?_ ?_|refine adr_four ?_ ?_ ?_ ?_|refine adr_kp2 ?_ ?_|refine adr_kp3 ?_ ?_ ?_|((first|refine adr_qs fun KK hKK=>?_|refine adr_y fun KK hKK=>?_);simp [go_sem])|intro _|refine And.intro ?_ ?_|(apply hKK;clear hKK KK)));all_goals first|refine Hold.mk ?_|omega|with_reducible assumption|(simp only [InR] at *;omega)|skip)) | ((try refine CallT.toA ?_); refine callT_m (by first | exact .inl ⟨rfl, rfl⟩ | exact .inr rfl) (by simp [go_sem]) ?_; intro args ha; simp [go_sem] at ha; subst ha; refine ⟨_, M6, ?_⟩; rintro _ rfl; simp [go_sem]; ((repeat' (first|(refine ag_x ?_;simp [go_sem])|refine adr_nil ?_|refine adr_two ?_ ?_|refine adr_kq ?_ ?_|refine adr_three ?_ ?_ ?_|refine adr_four ?_ ?_ ?_ ?_|refine adr_kp2 ?_ ?_|refine adr_kp3 ?_ ?_ ?_|((first|refine adr_qs fun KK hKK=>?_|refine adr_y fun KK hKK=>?_);simp [go_sem])|intro _|refine And.intro ?_ ?_|(apply hKK;clear hKK KK)));all_goals first|refine Hold.mk ?_|omega|with_reducible assumption|(simp only [InR] at *;omega)|skip))))
    all_goals (rename_i ga gb; first | (refine tl7 _ ga ?_; (refine cov_of ?_ ?_ <;> simp [go_sem]); done) | (refine tl7 _ gb ?_; (refine cov_of ?_ ?_ <;> simp [go_sem]); done))
  clear hK6
  ((refine awp_d (.qs [0, 2, 1] (.kp2 3 (.qs [4] (.kp2 5 (.kp2 6 (.kp 7 (.one 8 (.nil))) 7 (.kp 6 (.one 8 (.nil)))) 7 (.kp 5 (.kp 6 (.one 8 (.nil)))))) 7 (.kp 3 (.qs [4] (.kp 5 (.kp 6 (.one 8 (.nil)))))))) (by kernel_rfl) ?_ ?_ ?_ ?_); (kernel_rfl); (exact (by decide +kernel)); (kernel_rfl); intro KK hKK; ((repeat' (first|(refine ag_x ?_;simp [go_sem])|refine adr_nil ?_|refine adr_two ?_ ?_|refine adr_kq ?_ ?_|refine adr_three ?_ ?_ ?_|refine adr_four ?_ ?_ ?_ ?_|refine adr_kp2 ?_ ?_|refine adr_kp3 ?_ ?_ ?_|((first|refine adr_qs fun KK hKK=>?_|refine adr_y fun KK hKK=>?_);simp [go_sem])|intro _|refine And.intro ?_ ?_|(apply hKK;clear hKK KK)));all_goals first|refine Hold.mk ?_|omega|with_reducible assumption|(simp only [InR] at *;omega)|skip))
  all_goals (repeat' (first | ((try refine CallT.toA ?_); refine callT_m (by first | exact .inl ⟨rfl, rfl⟩ | exact .inr rfl) (by simp [go_sem]) ?_; intro args ha; simp [go_sem] at ha; subst ha; refine ⟨_, RP, ?_⟩; rintro _ rfl; simp [go_sem]; ((repeat' (first|(refine ag_x ?_;simp [go_sem])|refine adr_nil ?_|refine adr_two ?_ ?_|refine adr_kq ?_ ?_|refine adr_three ?_ ?_ ?_|refine adr_four ?_ ?_ ?_ ?_|refine adr_kp2 ?_ ?_|refine adr_kp3 ?_ ?_ ?_|((first|refine adr_qs fun KK hKK=>?_|refine adr_y fun KK hKK=>?_);simp [go_sem])|intro _|refine And.intro ?_ ?_|(apply hKK;clear hKK KK)));all_goals first|refine Hold.mk ?_|omega|with_reducible assumption|(simp only [InR] at *;omega)|skip)) | ((try refine CallT.toA ?_); refine callT_m (by first | exact .inl ⟨rfl, rfl⟩ | exact .inr rfl) (by simp [go_sem]) ?_; intro args ha; simp [go_sem] at ha; subst ha; refine ⟨_, T0, ?_⟩; rintro _ rfl; simp [go_sem]; ((repeat' (first|(refine ag_x ?_;simp [go_sem])|refine adr_nil ?_|refine adr_two ?_ ?_|refine adr_kq ?_ ?_|refine adr_three ?_ ?_ ?_|refine adr_four ?_ ?_ ?_ ?_|refine adr_kp2 ?_ ?_|refine adr_kp3 ?_ ?_ ?_|((first|refine adr_qs fun KK hKK=>?_|refine adr_y fun KK hKK=>?_);simp [go_sem])|intro _|refine And.intro ?_ ?_|(apply hKK;clear hKK KK)));all_goals first|refine Hold.mk ?_|omega|with_reducible assumption|(simp only [InR] at *;omega)|skip)) | ((try refine CallT.toA ?_); refine callT_m (by first | exact .inl ⟨rfl, rfl⟩ | exact .inr rfl) (by simp [go_sem]) ?_; intro args ha; simp [go_sem] at ha; subst ha; refine ⟨_, M2, ?_⟩; rintro _ rfl; simp [go_sem]; ((repeat' (first|(refine ag_x ?_;simp [go_sem])|refine adr_nil ?_|refine adr_two ?_ ?_|refine adr_kq ?_ ?_|refine adr_three ?_ ?_ ?_|refine adr_four ?_ ?_ ?_ ?_|refine adr_kp2 ?_ ?_|refine adr_kp3 ?_ ?_ ?_|((first|refine adr_qs fun KK hKK=>?_|refine adr_y fun KK hKK=>?_);simp [go_sem])|intro _|refine And.intro ?_ ?_|(apply hKK;clear hKK KK)));all_goals first|refine Hold.mk ?_|omega|with_reducible assumption|(simp only [InR] at *;omega)|skip))))
  all_goals (rename_i ga; refine tl6 _ ga ?_; (refine cov_of ?_ ?_ <;> simp [go_sem]))
end Go.Proofs.YtglncfhcgkihbaaGreatDoor
