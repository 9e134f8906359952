/- Part of a proof: see the last text. -/
import Derived.Test.YtglncfhcgkihbaaGreatDoorF00
import Derived.Test.YtglncfhcgkihbaaGreatDoorF02
import Derived.Test.YtglncfhcgkihbaaGreatDoorF03
import Derived.Test.YtglncfhcgkihbaaGreatDoorF04
import Derived.Test.YtglncfhcgkihbaaGreatDoorF14
import Derived.Test.YtglncfhcgkihbaaGreatDoorF18
set_option linter.unusedVariables false
set_option linter.unusedSimpArgs false
namespace Go.Proofs.YtglncfhcgkihbaaGreatDoor
open Go.Eng Go.Wh
set_option maxRecDepth 20000
set_option linter.unusedSimpArgs false
set_option linter.unusedVariables false
attribute [local irreducible] AG CallA CallT AWp PCall ACall AgC
theorem bd_nat {M : Nat} {k : Nat} : bd (M : Int) k ↔ M < 10 ^ k := by unfold bd; rw [Int.natAbs_natCast]
theorem RootI' {M : Nat} (hM : bd (M : Int) 400) : PCall Tryz.prog 19 [dS (Lib.itoa (M : Int))] fun r => r = .tup [dS (Lib.itoa (M.sqrt : Int)), dI 0] := by
  have h := Root_spec (Lib.itoa (M : Int)) (itoa_le hM)
  have e : resR (Lib.itoa (M : Int)) = .tup [dS (Lib.itoa (M.sqrt : Int)), dI 0] := by
    unfold resR
    rw [if_pos ⟨ok_itoa hM, itoa_head45 (by omega)⟩, numV_itoa, Int.natAbs_natCast]
  rw [e] at h; exact h
theorem GcdI {m n : Int} (hm : bd m 400) (hn : bd n 400) : PCall Tryz.prog 23 [dS (Lib.itoa m), dS (Lib.itoa n)] fun r => r = .tup [dS (Lib.itoa (gcdV m n)), dI 0] := by
  have h := Gcd_spec (Lib.itoa m) (Lib.itoa n) (itoa_le hm) (itoa_le hn)
  have hb : bd (gcdV m n) 400 := by
    rcases gcd_le (m := m) (n := n) with h | h
    · exact bd_abs h hm
    · exact bd_abs h hn
  rw [res2_ok hm hn hb] at h; exact h
theorem fr_dvd {m : Int} {G : Nat} (h : G ∣ m.natAbs) : fr m (G : Int) = 0 := by
  have hm : m.tmod (G : Int) = 0 := by
    have := tmod_abs m (G : Int)
    rw [Int.natAbs_natCast, Nat.mod_eq_zero_of_dvd h] at this
    omega
  unfold fr
  rw [if_neg (fun h => h.1 hm)]; exact hm
theorem itoa_eq0 {n : Int} : Lib.itoa n = [48] ↔ n = 0 := ⟨fun h => by have := congrArg numV h; rw [numV_itoa] at this; rw [this]; decide, fun h => by rw [h]; exact itoa0⟩
theorem itoa_abs_tail (m : Int) (h : m < 0) : Lib.itoa m = 45 :: Lib.itoa (m.natAbs : Int) := by
  rw [itoa_abs, if_pos h, itoa_abs, if_neg (by omega), Int.natAbs_natCast]; rfl
set_option maxHeartbeats 8000000 in
theorem law_root (X Y : List Int) (hX : inr64 X) (hY : inr64 Y) : PCall Tryz.prog 6 [dIs X, dIs Y] fun r => r = dB true := by 
  refine pcall_of Tryz.func6 rfl rfl Tryz.ntmps6 (rs := [.tmp 4]) (tys := [4]) rfl rfl (by simp) ?_
  have M1 := MadeF X 150 hX (by decide) (by decide)
  have M2 := MadeF Y 100 hY (by decide) (by decide)
  have bm0 := bd_madeN X (m := 150) (by decide) (by decide)
  have bn := bd_madeN Y (m := 100) (by decide) (by decide)
  generalize madeN X 150 = m at *
  generalize madeN Y 100 = n at *
  obtain ⟨M, hM⟩ : ∃ M, m.natAbs = M := ⟨_, rfl⟩
  have bm : bd (M : Int) 150 := by rw [bd_nat, ← hM]; exact bm0
  obtain ⟨c, t, hct, hc45⟩ := itoa_head m
  have h45 := u45 c
  (refine awp_sr fun KK hKK => ?_; simp [go_sem]; ((repeat' (first|(refine ag_x ?_;simp [go_sem])|intro _|refine And.intro ?_ ?_|(apply hKK;clear hKK KK)));all_goals first|refine Hold.mk ?_|omega|with_reducible assumption|(simp only [InR] at *;omega)|skip))
  (refine awp_sr fun KK hKK => ?_; simp [go_sem]; ((repeat' (first|(refine ag_x ?_;simp [go_sem])|intro _|refine And.intro ?_ ?_|(apply hKK;clear hKK KK)));all_goals first|refine Hold.mk ?_|omega|with_reducible assumption|(simp only [InR] at *;omega)|skip))
  ((try refine CallT.toA ?_); refine callT_m (by first | exact .inl ⟨rfl, rfl⟩ | exact .inr rfl) (by simp [go_sem]) ?_; intro args ha; simp [go_sem] at ha; subst ha; refine ⟨_, M1, ?_⟩; rintro _ rfl; simp [go_sem]; ((repeat' (first|(refine ag_x ?_;simp [go_sem])|intro _|refine And.intro ?_ ?_|(apply hKK;clear hKK KK)));all_goals first|refine Hold.mk ?_|omega|with_reducible assumption|(simp only [InR] at *;omega)|skip))
  (refine awp_sr fun KK hKK => ?_; simp [go_sem]; ((repeat' (first|(refine ag_x ?_;simp [go_sem])|intro _|refine And.intro ?_ ?_|(apply hKK;clear hKK KK)));all_goals first|refine Hold.mk ?_|omega|with_reducible assumption|(simp only [InR] at *;omega)|skip))
  ((try refine CallT.toA ?_); refine callT_m (by first | exact .inl ⟨rfl, rfl⟩ | exact .inr rfl) (by simp [go_sem]) ?_; intro args ha; simp [go_sem] at ha; subst ha; refine ⟨_, M2, ?_⟩; rintro _ rfl; simp [go_sem]; ((repeat' (first|(refine ag_x ?_;simp [go_sem])|intro _|refine And.intro ?_ ?_|(apply hKK;clear hKK KK)));all_goals first|refine Hold.mk ?_|omega|with_reducible assumption|(simp only [InR] at *;omega)|skip))
  refine awp_seq_k fun K1 hK1 => ?_
  have tl1 : ∀ S', Cov S' ⟨[(5, dS (Lib.itoa (M : Int))), (6, dS (Lib.itoa n))], []⟩ → K1 S' := fun S' hS => by
    refine hK1 _ ?_; clear hK1
    refine awp_cov hS ?_; clear hS
    have bs : bd (M.sqrt : Int) 150 := bd_abs (m := (M.sqrt : Int)) (n := (M : Int)) (by rw [Int.natAbs_natCast, Int.natAbs_natCast]; exact sqrt_le_of (Nat.lt_of_lt_of_le (Nat.lt_succ_self M) (Nat.le_mul_of_pos_right (M + 1) (Nat.succ_pos M)))) bm
    have R1 := RootI' (bd_mono bm (by decide : 150 ≤ 400))
    have b1 := bd_mul bs bs
    have F1 := MulI' (bd_mono bs (by decide : 150 ≤ 400)) (bd_mono bs (by decide : 150 ≤ 400)) (bd_mono b1 (by decide))
    have b2 := bd_add bs (bd_mono bd_one (by decide : 1 ≤ 150))
    have F2 := AddI (m := (M.sqrt : Int)) (n := 1) (bd_mono bs (by decide : 150 ≤ 400)) (bd_mono bd_one (by decide)) (bd_mono b2 (by decide))
    have b3 := bd_mul b2 b2
    have F3 := MulI' (bd_mono b2 (by decide : 151 ≤ 400)) (bd_mono b2 (by decide : 151 ≤ 400)) (bd_mono b3 (by decide))
    have F4 := CmpI (m := (M.sqrt : Int) * M.sqrt) (n := (M : Int)) (bd_mono b1 (by decide)) (bd_mono bm (by decide))
    have F5 := CmpI (m := ((M.sqrt : Int) + 1) * ((M.sqrt : Int) + 1)) (n := (M : Int)) (bd_mono b3 (by decide)) (bd_mono bm (by decide))
    have i1 : Lib.itoa 1 = [49] := (itoa_one 1).2 rfl
    rw [i1] at F2
    have c1 : cmpV ((M.sqrt : Int) * M.sqrt) M ≤ 0 := by
      have := sqrt_lo M
      have h : (M.sqrt : Int) * M.sqrt ≤ M := by exact_mod_cast this
      unfold cmpV; exact (sgn_le _ _).2 h
    have c2 : 0 < cmpV (((M.sqrt : Int) + 1) * ((M.sqrt : Int) + 1)) M := by
      have := sqrt_hi M
      have h : (M : Int) < ((M.sqrt : Int) + 1) * ((M.sqrt : Int) + 1) := by exact_mod_cast this
      unfold cmpV sgn
      rw [if_neg (by omega), if_pos (by omega)]; decide
    have G1 := GcdI (bd_mono bm (by decide : 150 ≤ 400)) (bd_mono bn (by decide : 100 ≤ 400))
    have hgz : Lib.itoa (gcdV M n) = [48] ↔ gcdV M n = 0 := itoa_eq0
    have hg0 : gcdV M n = 0 → (M = 0 ∧ n = 0) := fun h => by
      unfold gcdV at h
      have h : Nat.gcd (M : Int).natAbs n.natAbs = 0 := by exact_mod_cast h
      rw [Nat.gcd_eq_zero_iff, Int.natAbs_natCast] at h
      exact ⟨h.1, by omega⟩
    have hgd1 : fr (M : Int) (gcdV M n) = 0 := fr_dvd (Nat.gcd_dvd_left _ _)
    have hgd2 : fr n (gcdV M n) = 0 := fr_dvd (Nat.gcd_dvd_right _ _)
    have hbg : bd (gcdV M n) 400 := by
      rcases gcd_le (m := (M : Int)) (n := n) with h | h
      · exact bd_mono (bd_abs h bm) (by decide)
      · exact bd_mono (bd_abs h bn) (by decide)
    have D1 := fun h : gcdV M n ≠ 0 => DivI' (m := (M : Int)) (bd_mono bm (by decide)) hbg h
    have D2 := fun h : gcdV M n ≠ 0 => DivI' (m := n) (bd_mono bn (by decide)) hbg h
    rw [hgd1, itoa0] at D1
    rw [hgd2, itoa0] at D2
    have hM0 : Lib.itoa (M : Int) = [48] ↔ (M : Int) = 0 := itoa_eq0
    have hN0 : Lib.itoa n = [48] ↔ n = 0 := itoa_eq0
    obtain ⟨gc, gt, hgct, hgc⟩ := itoa_head (gcdV M n)
    have hgn := gcdV_nonneg (M : Int) n
    have hgc45 : ¬ (gc.toNat : Int) = 45 := fun h => hgn (hgc.1 ((u45 gc).1 h))
    have hg00 : Lib.itoa (gcdV M n) = gc :: gt := hgct
    have hgi : (Lib.itoa (gcdV M n))[0]? = some gc := by rw [hgct]; rfl
    have hgh : (Lib.itoa (gcdV M n)).head? = some gc := by rw [hgct]; rfl
    clear hgct hg00
    generalize cmpV ((M.sqrt : Int) * M.sqrt) M = y1 at *
    generalize cmpV (((M.sqrt : Int) + 1) * ((M.sqrt : Int) + 1)) M = y2 at *
    generalize Lib.itoa (((M.sqrt : Int) + 1) * ((M.sqrt : Int) + 1)) = w1 at *
    generalize Lib.itoa ((M.sqrt : Int) * M.sqrt) = w2 at *
    generalize Lib.itoa ((M.sqrt : Int) + 1) = w3 at *
    generalize Lib.itoa (M.sqrt : Int) = w4 at *
    generalize fq (M : Int) (gcdV M n) = q1 at *
    generalize fq n (gcdV M n) = q2 at *
    generalize Lib.itoa q1 = w6 at *
    generalize Lib.itoa q2 = w7 at *
    generalize hgv : gcdV M n = gv at *
    generalize Lib.itoa gv = w5 at *
    generalize Lib.itoa (M : Int) = a at *
    generalize Lib.itoa n = b at *
    (refine awp_sr fun KK hKK => ?_; simp [go_sem]; ((repeat' (first|(refine ag_x ?_;simp [go_sem])|intro _|refine And.intro ?_ ?_|(apply hKK;clear hKK KK)));all_goals first|refine Hold.mk ?_|omega|with_reducible assumption|(simp only [InR] at *;omega)|skip))
    ((try refine CallT.toA ?_); refine callT_m (by first | exact .inl ⟨rfl, rfl⟩ | exact .inr rfl) (by simp [go_sem]) ?_; intro args ha; simp [go_sem] at ha; subst ha; refine ⟨_, R1, ?_⟩; rintro _ rfl; simp [go_sem]; ((repeat' (first|(refine ag_x ?_;simp [go_sem])|intro _|refine And.intro ?_ ?_|(apply hKK;clear hKK KK)));all_goals first|refine Hold.mk ?_|omega|with_reducible assumption|(simp only [InR] at *;omega)|skip))
    (refine awp_sr fun KK hKK => ?_; simp [go_sem]; ((repeat' (first|(refine ag_x ?_;simp [go_sem])|intro _|refine And.intro ?_ ?_|(apply hKK;clear hKK KK)));all_goals first|refine Hold.mk ?_|omega|with_reducible assumption|(simp only [InR] at *;omega)|skip))
    ((try refine CallT.toA ?_); refine callT_m (by first | exact .inl ⟨rfl, rfl⟩ | exact .inr rfl) (by simp [go_sem]) ?_; intro args ha; simp [go_sem] at ha; subst ha; refine ⟨_, F1, ?_⟩; rintro _ rfl; simp [go_sem]; ((repeat' (first|(refine ag_x ?_;simp [go_sem])|intro _|refine And.intro ?_ ?_|(apply hKK;clear hKK KK)));all_goals first|refine Hold.mk ?_|omega|with_reducible assumption|(simp only [InR] at *;omega)|skip))
    (refine awp_sr fun KK hKK => ?_; simp [go_sem]; ((repeat' (first|(refine ag_x ?_;simp [go_sem])|intro _|refine And.intro ?_ ?_|(apply hKK;clear hKK KK)));all_goals first|refine Hold.mk ?_|omega|with_reducible assumption|(simp only [InR] at *;omega)|skip))
    ((try refine CallT.toA ?_); refine callT_m (by first | exact .inl ⟨rfl, rfl⟩ | exact .inr rfl) (by simp [go_sem]) ?_; intro args ha; simp [go_sem] at ha; subst ha; refine ⟨_, F2, ?_⟩; rintro _ rfl; simp [go_sem]; ((repeat' (first|(refine ag_x ?_;simp [go_sem])|intro _|refine And.intro ?_ ?_|(apply hKK;clear hKK KK)));all_goals first|refine Hold.mk ?_|omega|with_reducible assumption|(simp only [InR] at *;omega)|skip))
    (refine awp_sr fun KK hKK => ?_; simp [go_sem]; ((repeat' (first|(refine ag_x ?_;simp [go_sem])|intro _|refine And.intro ?_ ?_|(apply hKK;clear hKK KK)));all_goals first|refine Hold.mk ?_|omega|with_reducible assumption|(simp only [InR] at *;omega)|skip))
    ((try refine CallT.toA ?_); refine callT_m (by first | exact .inl ⟨rfl, rfl⟩ | exact .inr rfl) (by simp [go_sem]) ?_; intro args ha; simp [go_sem] at ha; subst ha; refine ⟨_, F3, ?_⟩; rintro _ rfl; simp [go_sem]; ((repeat' (first|(refine ag_x ?_;simp [go_sem])|intro _|refine And.intro ?_ ?_|(apply hKK;clear hKK KK)));all_goals first|refine Hold.mk ?_|omega|with_reducible assumption|(simp only [InR] at *;omega)|skip))
    (refine awp_sr fun KK hKK => ?_; simp [go_sem]; ((repeat' (first|(refine ag_x ?_;simp [go_sem])|intro _|refine And.intro ?_ ?_|(apply hKK;clear hKK KK)));all_goals first|refine Hold.mk ?_|omega|with_reducible assumption|(simp only [InR] at *;omega)|skip))
    ((try refine CallT.toA ?_); refine callT_m (by first | exact .inl ⟨rfl, rfl⟩ | exact .inr rfl) (by simp [go_sem]) ?_; intro args ha; simp [go_sem] at ha; subst ha; refine ⟨_, F4, ?_⟩; rintro _ rfl; simp [go_sem]; ((repeat' (first|(refine ag_x ?_;simp [go_sem])|intro _|refine And.intro ?_ ?_|(apply hKK;clear hKK KK)));all_goals first|refine Hold.mk ?_|omega|with_reducible assumption|(simp only [InR] at *;omega)|skip))
    (refine awp_sr fun KK hKK => ?_; simp [go_sem]; ((repeat' (first|(refine ag_x ?_;simp [go_sem])|intro _|refine And.intro ?_ ?_|(apply hKK;clear hKK KK)));all_goals first|refine Hold.mk ?_|omega|with_reducible assumption|(simp only [InR] at *;omega)|skip))
    ((try refine CallT.toA ?_); refine callT_m (by first | exact .inl ⟨rfl, rfl⟩ | exact .inr rfl) (by simp [go_sem]) ?_; intro args ha; simp [go_sem] at ha; subst ha; refine ⟨_, F5, ?_⟩; rintro _ rfl; simp [go_sem]; ((repeat' (first|(refine ag_x ?_;simp [go_sem])|intro _|refine And.intro ?_ ?_|(apply hKK;clear hKK KK)));all_goals first|refine Hold.mk ?_|omega|with_reducible assumption|(simp only [InR] at *;omega)|skip))
    refine awp_seq_k fun K2 hK2 => ?_
    (refine awp_sr fun KK hKK => ?_; simp [go_sem]; ((repeat' (first|(refine ag_x ?_;simp [go_sem])|intro _|refine And.intro ?_ ?_|(apply hKK;clear hKK KK)));all_goals first|refine Hold.mk ?_|omega|with_reducible assumption|(simp only [InR] at *;omega)|skip))
    have hy1 : decide (0 < y1) = false := by simp; omega
    have hy2 : decide (y2 ≤ 0) = false := by simp; omega
    (refine awp_if fun T F hT hF => ?_; simp [go_sem, hy1, hy2]; refine hF ?_; clear hT hF T F)
    refine awp_skip ?_
    refine hK2 _ ?_; clear hK2
    (refine awp_sr fun KK hKK => ?_; simp [go_sem]; ((repeat' (first|(refine ag_x ?_;simp [go_sem])|intro _|refine And.intro ?_ ?_|(apply hKK;clear hKK KK)));all_goals first|refine Hold.mk ?_|omega|with_reducible assumption|(simp only [InR] at *;omega)|skip))
    ((try refine CallT.toA ?_); refine callT_m (by first | exact .inl ⟨rfl, rfl⟩ | exact .inr rfl) (by simp [go_sem]) ?_; intro args ha; simp [go_sem] at ha; subst ha; refine ⟨_, G1, ?_⟩; rintro _ rfl; simp [go_sem]; ((repeat' (first|(refine ag_x ?_;simp [go_sem])|intro _|refine And.intro ?_ ?_|(apply hKK;clear hKK KK)));all_goals first|refine Hold.mk ?_|omega|with_reducible assumption|(simp only [InR] at *;omega)|skip))
    refine awp_seq_k fun K4 hK4 => ?_
    (refine awp_sr fun KK hKK => ?_; simp [go_sem]; ((repeat' (first|(refine ag_x ?_;simp [go_sem])|intro _|refine And.intro ?_ ?_|(apply hKK;clear hKK KK)));all_goals first|refine Hold.mk ?_|omega|with_reducible assumption|(simp only [InR] at *;omega)|skip))
    (refine awp_if fun T F hT hF => ?_; simp [go_sem]; refine BR.intro (fun h5 => hT ?_) (fun h5 => hF ?_); all_goals clear hT hF T F; try simp at h5) 
    · obtain ⟨hm0, hn0⟩ := hg0 (hgz.1 h5)
      have ea := hM0.2 (by omega)
      have eb := hN0.2 hn0
      (refine awp_sr fun KK hKK => ?_; simp [go_sem]; ((repeat' (first|(refine ag_x ?_;simp [go_sem])|intro _|refine And.intro ?_ ?_|(apply hKK;clear hKK KK)));all_goals first|refine Hold.mk ?_|omega|with_reducible assumption|(simp only [InR] at *;omega)|skip))
      (refine agc_f (dB true) (by first | exact .inl ⟨rfl, rfl⟩ | exact .inr rfl) ?_ rfl ?_; (intro hc args ha; simp [go_sem] at ha; subst ha; exact sane_ok); simp [go_sem]; ((repeat' (first|(refine ag_x ?_;simp [go_sem])|intro _|refine And.intro ?_ ?_|(apply hKK;clear hKK KK)));all_goals first|refine Hold.mk ?_|omega|with_reducible assumption|(simp only [InR] at *;omega)|skip))
      (refine awp_ret ?_; simp [go_sem, ea, eb])
    · have hgne : gv ≠ 0 := fun h => h5 (hgz.2 h)
      refine awp_skip ?_
      refine hK4 _ ?_; clear hK4
      (refine awp_sr fun KK hKK => ?_; simp [go_sem]; ((repeat' (first|(refine ag_x ?_;simp [go_sem])|intro _|refine And.intro ?_ ?_|(apply hKK;clear hKK KK)));all_goals first|refine Hold.mk ?_|omega|with_reducible assumption|(simp only [InR] at *;omega)|skip))
      ((try refine CallT.toA ?_); refine callT_m (by first | exact .inl ⟨rfl, rfl⟩ | exact .inr rfl) (by simp [go_sem]) ?_; intro args ha; simp [go_sem] at ha; subst ha; refine ⟨_, (D1 hgne), ?_⟩; rintro _ rfl; simp [go_sem]; ((repeat' (first|(refine ag_x ?_;simp [go_sem])|intro _|refine And.intro ?_ ?_|(apply hKK;clear hKK KK)));all_goals first|refine Hold.mk ?_|omega|with_reducible assumption|(simp only [InR] at *;omega)|skip))
      (refine awp_sr fun KK hKK => ?_; simp [go_sem]; ((repeat' (first|(refine ag_x ?_;simp [go_sem])|intro _|refine And.intro ?_ ?_|(apply hKK;clear hKK KK)));all_goals first|refine Hold.mk ?_|omega|with_reducible assumption|(simp only [InR] at *;omega)|skip))
      ((try refine CallT.toA ?_); refine callT_m (by first | exact .inl ⟨rfl, rfl⟩ | exact .inr rfl) (by simp [go_sem]) ?_; intro args ha; simp [go_sem] at ha; subst ha; refine ⟨_, (D2 hgne), ?_⟩; rintro _ rfl; simp [go_sem]; ((repeat' (first|(refine ag_x ?_;simp [go_sem])|intro _|refine And.intro ?_ ?_|(apply hKK;clear hKK KK)));all_goals first|refine Hold.mk ?_|omega|with_reducible assumption|(simp only [InR] at *;omega)|skip))
      (refine awp_sr fun KK hKK => ?_; simp [go_sem, hgi, hgh]; ((repeat' (first|(refine ag_x ?_;simp [go_sem, hgi, hgh])|intro _|refine And.intro ?_ ?_|(apply hKK;clear hKK KK)));all_goals first|refine Hold.mk ?_|omega|with_reducible assumption|(simp only [InR] at *;omega)|skip))
      (refine agc_f (dB true) (by first | exact .inl ⟨rfl, rfl⟩ | exact .inr rfl) ?_ rfl ?_; (intro hc args ha; simp [go_sem] at ha; subst ha; exact sane_ok); simp [go_sem]; ((repeat' (first|(refine ag_x ?_;simp [go_sem])|intro _|refine And.intro ?_ ?_|(apply hKK;clear hKK KK)));all_goals first|refine Hold.mk ?_|omega|with_reducible assumption|(simp only [InR] at *;omega)|skip))
      (refine awp_ret ?_; simp [go_sem, hgc45])
  clear hK1
  have hi0 : (Lib.itoa m)[0]? = some c := by rw [hct]; rfl
  have hih : (Lib.itoa m).head? = some c := by rw [hct]; rfl
  (refine awp_sr fun KK hKK => ?_; simp [go_sem, hi0, hih]; ((repeat' (first|(refine ag_x ?_;simp [go_sem, hi0, hih])|intro _|refine And.intro ?_ ?_|(apply hKK;clear hKK KK)));all_goals first|refine Hold.mk ?_|omega|with_reducible assumption|(simp only [InR] at *;omega)|skip))
  (refine awp_if fun T F hT hF => ?_; simp [go_sem]; refine BR.intro (fun h6 => hT ?_) (fun h6 => hF ?_); all_goals clear hT hF T F; try simp at h6) 
  · have hm0 : m < 0 := hc45.1 (h45.1 h6)
    have e := itoa_abs_tail m hm0
    rw [hM] at e
    rw [e]
    (refine awp_r fun KK hKK => ?_; simp [go_sem]; ((repeat' (first|(refine ag_x ?_;simp [go_sem])|intro _|refine And.intro ?_ ?_|(apply hKK;clear hKK KK)));all_goals first|refine Hold.mk ?_|omega|with_reducible assumption|(simp only [InR] at *;omega)|skip))
    refine tl1 _ ?_
    (refine cov_of ?_ ?_ <;> simp [go_sem])
    rw [Lib.extract_mk]
    simp
    try exact List.take_of_length_le (by simp)
  · have hm0 : ¬ m < 0 := fun h => h6 (h45.2 (hc45.2 h))
    have e : m = (M : Int) := by omega
    rw [e]
    refine awp_skip ?_
    refine tl1 _ ?_
    (refine cov_of ?_ ?_ <;> simp [go_sem])
end Go.Proofs.YtglncfhcgkihbaaGreatDoor
