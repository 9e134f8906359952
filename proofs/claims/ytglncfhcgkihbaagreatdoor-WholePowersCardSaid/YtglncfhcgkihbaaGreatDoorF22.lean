/- Part of a proof: see the last text. -/
import Derived.Test.YtglncfhcgkihbaaGreatDoorF00
import Derived.Test.YtglncfhcgkihbaaGreatDoorF01
import Derived.Test.YtglncfhcgkihbaaGreatDoorF02
import Derived.Test.YtglncfhcgkihbaaGreatDoorF03
import Derived.Test.YtglncfhcgkihbaaGreatDoorF04
import Derived.Test.YtglncfhcgkihbaaGreatDoorF05
import Derived.Test.YtglncfhcgkihbaaGreatDoorF06
import Derived.Test.YtglncfhcgkihbaaGreatDoorF07
import Derived.Test.YtglncfhcgkihbaaGreatDoorF08
import Derived.Test.YtglncfhcgkihbaaGreatDoorF09
import Derived.Test.YtglncfhcgkihbaaGreatDoorF10
import Derived.Test.YtglncfhcgkihbaaGreatDoorF11
import Derived.Test.YtglncfhcgkihbaaGreatDoorF12
import Derived.Test.YtglncfhcgkihbaaGreatDoorF16
set_option linter.unusedVariables false
set_option linter.unusedSimpArgs false
namespace Go.Proofs.YtglncfhcgkihbaaGreatDoor
open Go.Eng Go.Wh
set_option maxRecDepth 20000
set_option linter.unusedSimpArgs false
set_option linter.unusedVariables false
attribute [local irreducible] AG CallA CallT AWp PCall ACall AgC
def resP (a : List UInt8) (n : Int) : D :=
  if numOk a = true ∧ 0 ≤ n ∧ n ≤ 1000 then
    (match powG (numV a) n.toNat 1 with
     | some v => .tup [dS (Lib.itoa v), dI 0]
     | none => .tup [dS [], dI 2])
  else .tup [dS [], dI 1]
theorem pow_next (x : Int) {n i : Nat} {out : Int} (hi : i < n) : powG x (n - i) out = if dlen (out * x) ≤ 400 then powG x (n - (i + 1)) (out * x) else none := by
  rw [show n - i = (n - (i + 1)) + 1 by omega]; rfl
set_option maxHeartbeats 4000000 in
theorem Pow_spec (a : List UInt8) (n : Int) (ha : a.length ≤ 1000000000) : PCall Tryz.prog 13 [dS a, dI n] fun r => r = resP a n := by 
  refine pcall_of Tryz.func13 rfl rfl Tryz.ntmps13 (rs := [.tmp 4, .tmp 5]) (tys := [9, 31]) rfl rfl (by simp) ?_
  have v := valid_spec a ha
  have r0 := fun h => readOk_spec (a := a) h
  have s0 := fun h => sz_numOk (a := a) h
  unfold resP
  generalize hok : numOk a = ok at *
  generalize numV a = x at *
  (refine awp_sr fun KK hKK => ?_; simp [go_sem]; ((repeat' (first|(refine ag_x ?_;simp [go_sem])|intro _|refine And.intro ?_ ?_|(apply hKK;clear hKK KK)));all_goals first|refine Hold.mk ?_|omega|with_reducible assumption|(simp only [InR] at *;omega)|skip))
  refine awp_seq_k fun K1 hK1 => ?_
  (refine awp_sr fun KK hKK => ?_; simp [go_sem]; ((repeat' (first|(refine ag_x ?_;simp [go_sem])|intro _|refine And.intro ?_ ?_|(apply hKK;clear hKK KK)));all_goals first|refine Hold.mk ?_|omega|with_reducible assumption|(simp only [InR] at *;omega)|skip))
  ((try refine CallT.toA ?_); refine callT_m (by first | exact .inl ⟨rfl, rfl⟩ | exact .inr rfl) (by simp [go_sem]) ?_; intro args ha; simp [go_sem] at ha; subst ha; refine ⟨_, v, ?_⟩; rintro _ rfl; simp [go_sem]; ((repeat' (first|(refine ag_x ?_;simp [go_sem])|intro _|refine And.intro ?_ ?_|(apply hKK;clear hKK KK)));all_goals first|refine Hold.mk ?_|omega|with_reducible assumption|(simp only [InR] at *;omega)|skip))
  (refine awp_if fun T F hT hF => ?_; simp [go_sem]; refine BR.intro (fun h2 => hT ?_) (fun h2 => hF ?_); all_goals clear hT hF T F; try simp at h2) 
  · (refine awp_sr fun KK hKK => ?_; simp [go_sem]; ((repeat' (first|(refine ag_x ?_;simp [go_sem])|intro _|refine And.intro ?_ ?_|(apply hKK;clear hKK KK)));all_goals first|refine Hold.mk ?_|omega|with_reducible assumption|(simp only [InR] at *;omega)|skip))
    (refine awp_ret ?_; simp [go_sem])
    intro q1 q2 q3
    exfalso
    rcases h2 with (h2 | h2) | h2
    · simp [q1] at h2
    · omega
    · omega
  · refine awp_skip ?_
    refine hK1 _ ?_; clear hK1
    have hc : ok = true ∧ 0 ≤ n ∧ n ≤ 1000 := by
      refine ⟨?_, by omega, by omega⟩
      cases ok
      · simp at h2
      · rfl
    rw [if_pos hc]
    obtain ⟨hok', hn0, hn1⟩ := hc
    have r1 := r0 hok'
    have sx := s0 hok'
    obtain ⟨m, rfl⟩ : ∃ m : Nat, n = m := ⟨n.toNat, by omega⟩
    rw [Int.toNat_natCast]
    (refine awp_sr fun KK hKK => ?_; simp [go_sem]; ((repeat' (first|(refine ag_x ?_;simp [go_sem])|intro _|refine And.intro ?_ ?_|(apply hKK;clear hKK KK)));all_goals first|refine Hold.mk ?_|omega|with_reducible assumption|(simp only [InR] at *;omega)|skip))
    ((try refine CallT.toA ?_); refine callT_m (by first | exact .inl ⟨rfl, rfl⟩ | exact .inr rfl) (by simp [go_sem]) ?_; intro args ha; simp [go_sem] at ha; subst ha; refine ⟨_, r1, ?_⟩; rintro _ rfl; simp [go_sem]; ((repeat' (first|(refine ag_x ?_;simp [go_sem])|intro _|refine And.intro ?_ ?_|(apply hKK;clear hKK KK)));all_goals first|refine Hold.mk ?_|omega|with_reducible assumption|(simp only [InR] at *;omega)|skip))
    ((try refine CallT.toA ?_); refine callT_m (by first | exact .inl ⟨rfl, rfl⟩ | exact .inr rfl) (by simp [go_sem]) ?_; intro args ha; simp [go_sem] at ha; subst ha; refine ⟨_, (of_spec 1 (by omega) (by omega)), ?_⟩; rintro _ rfl; simp [go_sem]; ((repeat' (first|(refine ag_x ?_;simp [go_sem])|intro _|refine And.intro ?_ ?_|(apply hKK;clear hKK KK)));all_goals first|refine Hold.mk ?_|omega|with_reducible assumption|(simp only [InR] at *;omega)|skip))
    rename_i g6 g7
    refine awp_seq_k fun K3 hK3 => ?_
    (refine awp_sr fun KK hKK => ?_; simp [go_sem]; ((repeat' (first|(refine ag_x ?_;simp [go_sem])|intro _|refine And.intro ?_ ?_|(apply hKK;clear hKK KK)));all_goals first|refine Hold.mk ?_|omega|with_reducible assumption|(simp only [InR] at *;omega)|skip))
    refine awp_block ?_
    refine awp_loop (σ := Nat × Int) (fun s => ⟨[(6, .ptr 6 g6 0), (7, .ptr 7 g7 0), (22, dI m), (23, dI s.1)], [(6, g6, .box [dB (decide (x < 0)), dIs (dg U x.natAbs)]), (7, g7, .box [dB (decide (s.2 < 0)), dIs (dg U s.2.natAbs)])]⟩) (fun s => s.1 ≤ m ∧ dlen s.2 ≤ 400 ∧ powG x (m - s.1) s.2 = powG x m 1) (fun s => m - s.1) (0, 1) ?_ ?_ ?_
    · (refine cov_of ?_ ?_ <;> simp [go_sem])
    · exact ⟨Nat.zero_le _, dlen_one, rfl⟩
    rintro ⟨i, out⟩ ⟨hi, hd, hp⟩
    simp only at hi hd hp
    have so : sz U out ≤ 45 := sz_of_dlen (k := 45) (by omega)
    (refine awp_sr fun KK hKK => ?_; simp [go_sem]; ((repeat' (first|(refine ag_x ?_;simp [go_sem])|intro _|refine And.intro ?_ ?_|(apply hKK;clear hKK KK)));all_goals first|refine Hold.mk ?_|omega|with_reducible assumption|(simp only [InR] at *;omega)|skip))
    refine awp_seq_k fun K4 hK4 => ?_
    (refine awp_if fun T F hT hF => ?_; simp [go_sem]; refine BR.intro (fun h5 => hT ?_) (fun h5 => hF ?_); all_goals clear hT hF T F; try simp at h5) 
    · refine awp_skip ?_
      refine hK4 _ ?_; clear hK4
      rw [pow_next x (by omega)] at hp
      have sm := sz_mul (B := U) (by decide) out x
      have M := mul_spec out x (by omega) (by omega)
      have L := long_spec (out * x) (by omega)
      generalize out * x = o at *
      refine awp_seq_k fun K6 hK6 => ?_
      refine awp_block ?_
      (refine awp_sr fun KK hKK => ?_; simp [go_sem]; ((repeat' (first|(refine ag_x ?_;simp [go_sem])|intro _|refine And.intro ?_ ?_|(apply hKK;clear hKK KK)));all_goals first|refine Hold.mk ?_|omega|with_reducible assumption|(simp only [InR] at *;omega)|skip))
      ((try refine CallT.toA ?_); refine callT_m (by first | exact .inl ⟨rfl, rfl⟩ | exact .inr rfl) (by simp [go_sem]) ?_; intro args ha; simp [go_sem] at ha; subst ha; refine ⟨_, M, ?_⟩; rintro _ rfl; simp [go_sem]; ((repeat' (first|(refine ag_x ?_;simp [go_sem])|intro _|refine And.intro ?_ ?_|(apply hKK;clear hKK KK)));all_goals first|refine Hold.mk ?_|omega|with_reducible assumption|(simp only [InR] at *;omega)|skip))
      (refine awp_sr fun KK hKK => ?_; simp [go_sem]; ((repeat' (first|(refine ag_x ?_;simp [go_sem])|intro _|refine And.intro ?_ ?_|(apply hKK;clear hKK KK)));all_goals first|refine Hold.mk ?_|omega|with_reducible assumption|(simp only [InR] at *;omega)|skip))
      ((try refine CallT.toA ?_); refine callT_m (by first | exact .inl ⟨rfl, rfl⟩ | exact .inr rfl) (by simp [go_sem]) ?_; intro args ha; simp [go_sem] at ha; subst ha; refine ⟨_, L, ?_⟩; rintro _ rfl; simp [go_sem]; ((repeat' (first|(refine ag_x ?_;simp [go_sem])|intro _|refine And.intro ?_ ?_|(apply hKK;clear hKK KK)));all_goals first|refine Hold.mk ?_|omega|with_reducible assumption|(simp only [InR] at *;omega)|skip))
      (refine awp_if fun T F hT hF => ?_; simp [go_sem]; refine BR.intro (fun h7 => hT ?_) (fun h7 => hF ?_); all_goals clear hT hF T F; try simp at h7) 
      · rw [if_neg (by omega)] at hp
        rw [← hp]
        (refine awp_sr fun KK hKK => ?_; simp [go_sem]; ((repeat' (first|(refine ag_x ?_;simp [go_sem])|intro _|refine And.intro ?_ ?_|(apply hKK;clear hKK KK)));all_goals first|refine Hold.mk ?_|omega|with_reducible assumption|(simp only [InR] at *;omega)|skip))
        (refine awp_ret ?_; simp [go_sem])
      · rw [if_pos (by omega)] at hp
        refine awp_skip ?_
        refine hK6 _ ?_; clear hK6
        (refine awp_r fun KK hKK => ?_; simp [go_sem]; ((repeat' (first|(refine ag_x ?_;simp [go_sem])|intro _|refine And.intro ?_ ?_|(apply hKK;clear hKK KK)));all_goals first|refine Hold.mk ?_|omega|with_reducible assumption|(simp only [InR] at *;omega)|skip))
        refine ⟨(i + 1, o), ?_, ⟨by simp only; omega, by simp only; omega, hp⟩, by simp only; omega⟩
        (refine cov_of ?_ ?_ <;> simp [go_sem])
    · refine awp_exit ?_
      simp only [go_sem]
      refine hK3 _ ?_; clear hK3
      have : i = m := by omega
      subst this
      rw [Nat.sub_self] at hp
      rw [← hp]
      (refine awp_sr fun KK hKK => ?_; simp [go_sem]; ((repeat' (first|(refine ag_x ?_;simp [go_sem])|intro _|refine And.intro ?_ ?_|(apply hKK;clear hKK KK)));all_goals first|refine Hold.mk ?_|omega|with_reducible assumption|(simp only [InR] at *;omega)|skip))
      ((try refine CallT.toA ?_); refine callT_m (by first | exact .inl ⟨rfl, rfl⟩ | exact .inr rfl) (by simp [go_sem]) ?_; intro args ha; simp [go_sem] at ha; subst ha; refine ⟨_, (text_spec out (by omega)), ?_⟩; rintro _ rfl; simp [go_sem]; ((repeat' (first|(refine ag_x ?_;simp [go_sem])|intro _|refine And.intro ?_ ?_|(apply hKK;clear hKK KK)));all_goals first|refine Hold.mk ?_|omega|with_reducible assumption|(simp only [InR] at *;omega)|skip))
      (refine awp_ret ?_; simp [go_sem, powG])
theorem rPow_spec (a : List UInt8) (n : Int) (ha : a.length ≤ 1000000000) : PCall Tryz.prog 14 [dS a, dI n] fun r => r = resP a n := by 
  refine pcall_of Tryz.func14 rfl rfl Tryz.ntmps14 (rs := [.tmp 4, .tmp 5]) (tys := [9, 31]) rfl rfl (by simp) ?_
  have v := rall1 a ha
  have r0 := fun h => rread_spec a h
  have s0 := fun h => szT_numOk (a := a) h
  unfold resP
  generalize hok : numOk a = ok at *
  generalize numV a = x at *
  (refine awp_sr fun KK hKK => ?_; simp [go_sem]; ((repeat' (first|(refine ag_x ?_;simp [go_sem])|intro _|refine And.intro ?_ ?_|(apply hKK;clear hKK KK)));all_goals first|refine Hold.mk ?_|omega|with_reducible assumption|(simp only [InR] at *;omega)|skip))
  refine awp_seq_k fun K1 hK1 => ?_
  (refine awp_sr fun KK hKK => ?_; simp [go_sem]; ((repeat' (first|(refine ag_x ?_;simp [go_sem])|intro _|refine And.intro ?_ ?_|(apply hKK;clear hKK KK)));all_goals first|refine Hold.mk ?_|omega|with_reducible assumption|(simp only [InR] at *;omega)|skip))
  ((try refine CallT.toA ?_); refine callT_z (by first | exact .inl ⟨rfl, rfl⟩ | exact .inr rfl) rfl (by simp [go_sem]) (by simp [go_sem]) ?_; intro args ha; simp [go_sem] at ha; subst ha; refine ⟨_, v, ?_⟩; rintro _ rfl; simp [go_sem]; ((repeat' (first|(refine ag_x ?_;simp [go_sem])|intro _|refine And.intro ?_ ?_|(apply hKK;clear hKK KK)));all_goals first|refine Hold.mk ?_|omega|with_reducible assumption|(simp only [InR] at *;omega)|skip))
  (refine awp_if fun T F hT hF => ?_; simp [go_sem]; refine BR.intro (fun h2 => hT ?_) (fun h2 => hF ?_); all_goals clear hT hF T F; try simp at h2) 
  · (refine awp_sr fun KK hKK => ?_; simp [go_sem]; ((repeat' (first|(refine ag_x ?_;simp [go_sem])|intro _|refine And.intro ?_ ?_|(apply hKK;clear hKK KK)));all_goals first|refine Hold.mk ?_|omega|with_reducible assumption|(simp only [InR] at *;omega)|skip))
    (refine awp_ret ?_; simp [go_sem])
    intro q1 q2 q3
    exfalso
    rcases h2 with (h2 | h2) | h2
    · simp [q1] at h2
    · omega
    · omega
  · refine awp_skip ?_
    refine hK1 _ ?_; clear hK1
    have hc : ok = true ∧ 0 ≤ n ∧ n ≤ 1000 := by
      refine ⟨?_, by omega, by omega⟩
      cases ok
      · simp at h2
      · rfl
    rw [if_pos hc]
    obtain ⟨hok', hn0, hn1⟩ := hc
    have r1 := r0 hok'
    have sx := s0 hok'
    obtain ⟨m, rfl⟩ : ∃ m : Nat, n = m := ⟨n.toNat, by omega⟩
    rw [Int.toNat_natCast]
    (refine awp_sr fun KK hKK => ?_; simp [go_sem]; ((repeat' (first|(refine ag_x ?_;simp [go_sem])|intro _|refine And.intro ?_ ?_|(apply hKK;clear hKK KK)));all_goals first|refine Hold.mk ?_|omega|with_reducible assumption|(simp only [InR] at *;omega)|skip))
    ((try refine CallT.toA ?_); refine callT_m (by first | exact .inl ⟨rfl, rfl⟩ | exact .inr rfl) (by simp [go_sem]) ?_; intro args ha; simp [go_sem] at ha; subst ha; refine ⟨_, r1, ?_⟩; rintro _ rfl; simp [go_sem]; ((repeat' (first|(refine ag_x ?_;simp [go_sem])|intro _|refine And.intro ?_ ?_|(apply hKK;clear hKK KK)));all_goals first|refine Hold.mk ?_|omega|with_reducible assumption|(simp only [InR] at *;omega)|skip))
    rename_i g6
    (refine awp_sr fun KK hKK => ?_; simp [go_sem]; ((repeat' (first|(refine ag_x ?_;simp [go_sem])|intro _|refine And.intro ?_ ?_|(apply hKK;clear hKK KK)));all_goals first|refine Hold.mk ?_|omega|with_reducible assumption|(simp only [InR] at *;omega)|skip))
    rename_i g23 g7
    refine awp_frzin 23 7 1 rfl rfl (by decide) rfl ?_
    simp only [go_sem, List.set]
    refine awp_seq_k fun K3 hK3 => ?_
    (refine awp_sr fun KK hKK => ?_; simp [go_sem]; ((repeat' (first|(refine ag_x ?_;simp [go_sem])|intro _|refine And.intro ?_ ?_|(apply hKK;clear hKK KK)));all_goals first|refine Hold.mk ?_|omega|with_reducible assumption|(simp only [InR] at *;omega)|skip))
    refine awp_block ?_
    refine awp_loop (σ := Nat × Int) (fun s => ⟨[(1, dI m), (6, .ptr 6 g6 0), (7, .ptr 7 g7 0), (8, dI s.1)], [(6, g6, .box [dB (decide (x < 0)), dIs (dg 10 x.natAbs)]), (7, g7, .box [dB (decide (s.2 < 0)), dIs (dg 10 s.2.natAbs)])]⟩) (fun s => s.1 ≤ m ∧ sz 10 s.2 ≤ 400 ∧ powG x (m - s.1) s.2 = powG x m 1) (fun s => m - s.1) (0, 1) ?_ ?_ ?_
    · have e0 : dg 10 (Int.natAbs 1) = [1] := dgT_one
      simp only [e0]
      (refine cov_of ?_ ?_ <;> simp [go_sem])
    · exact ⟨Nat.zero_le _, by rw [szT_one]; decide, rfl⟩
    rintro ⟨i, out⟩ ⟨hi, so, hp⟩
    simp only at hi so hp
    refine awp_seq_k fun K4 hK4 => ?_
    (refine awp_sr fun KK hKK => ?_; simp [go_sem]; ((repeat' (first|(refine ag_x ?_;simp [go_sem])|intro _|refine And.intro ?_ ?_|(apply hKK;clear hKK KK)));all_goals first|refine Hold.mk ?_|omega|with_reducible assumption|(simp only [InR] at *;omega)|skip))
    (refine awp_if fun T F hT hF => ?_; simp [go_sem]; refine BR.intro (fun h5 => hT ?_) (fun h5 => hF ?_); all_goals clear hT hF T F; try simp at h5) 
    · refine awp_skip ?_
      refine hK4 _ ?_; clear hK4
      rw [pow_next x (by omega)] at hp
      have sm := sz_mul (B := 10) (by decide) out x
      have M := product_spec out x (by omega) (by omega)
      have L := long_iff (out * x)
      generalize out * x = o at *
      have hol : (dg 10 o.natAbs).length = sz 10 o := rfl
      refine awp_seq_k fun K6 hK6 => ?_
      refine awp_block ?_
      (refine awp_sr fun KK hKK => ?_; simp [go_sem]; ((repeat' (first|(refine ag_x ?_;simp [go_sem])|intro _|refine And.intro ?_ ?_|(apply hKK;clear hKK KK)));all_goals first|refine Hold.mk ?_|omega|with_reducible assumption|(simp only [InR] at *;omega)|skip))
      ((try refine CallT.toA ?_); refine callT_m (by first | exact .inl ⟨rfl, rfl⟩ | exact .inr rfl) (by simp [go_sem]) ?_; intro args ha; simp [go_sem] at ha; subst ha; refine ⟨_, M, ?_⟩; rintro _ rfl; simp [go_sem]; ((repeat' (first|(refine ag_x ?_;simp [go_sem])|intro _|refine And.intro ?_ ?_|(apply hKK;clear hKK KK)));all_goals first|refine Hold.mk ?_|omega|with_reducible assumption|(simp only [InR] at *;omega)|skip))
      (refine awp_sr fun KK hKK => ?_; simp [go_sem]; ((repeat' (first|(refine ag_x ?_;simp [go_sem])|intro _|refine And.intro ?_ ?_|(apply hKK;clear hKK KK)));all_goals first|refine Hold.mk ?_|omega|with_reducible assumption|(simp only [InR] at *;omega)|skip))
      (refine awp_if fun T F hT hF => ?_; simp [go_sem]; refine BR.intro (fun h7 => hT ?_) (fun h7 => hF ?_); all_goals clear hT hF T F; try simp at h7) 
      · rw [if_neg (by omega)] at hp
        rw [← hp]
        (refine awp_sr fun KK hKK => ?_; simp [go_sem]; ((repeat' (first|(refine ag_x ?_;simp [go_sem])|intro _|refine And.intro ?_ ?_|(apply hKK;clear hKK KK)));all_goals first|refine Hold.mk ?_|omega|with_reducible assumption|(simp only [InR] at *;omega)|skip))
        (refine awp_ret ?_; simp [go_sem])
      · rw [if_pos (by omega)] at hp
        refine awp_skip ?_
        refine hK6 _ ?_; clear hK6
        (refine awp_r fun KK hKK => ?_; simp [go_sem]; ((repeat' (first|(refine ag_x ?_;simp [go_sem])|intro _|refine And.intro ?_ ?_|(apply hKK;clear hKK KK)));all_goals first|refine Hold.mk ?_|omega|with_reducible assumption|(simp only [InR] at *;omega)|skip))
        refine ⟨(i + 1, o), ?_, ⟨by simp only; omega, by simp only; omega, hp⟩, by simp only; omega⟩
        (refine cov_of ?_ ?_ <;> simp [go_sem])
    · refine awp_exit ?_
      simp only [go_sem]
      refine hK3 _ ?_; clear hK3
      have : i = m := by omega
      subst this
      rw [Nat.sub_self] at hp
      rw [← hp]
      have hl := long_iff out
      have T := rtold_spec out (by omega)
      rw [if_pos (by omega)] at T
      (refine awp_sr fun KK hKK => ?_; simp [go_sem]; ((repeat' (first|(refine ag_x ?_;simp [go_sem])|intro _|refine And.intro ?_ ?_|(apply hKK;clear hKK KK)));all_goals first|refine Hold.mk ?_|omega|with_reducible assumption|(simp only [InR] at *;omega)|skip))
      ((try refine CallT.toA ?_); refine callT_m (by first | exact .inl ⟨rfl, rfl⟩ | exact .inr rfl) (by simp [go_sem]) ?_; intro args ha; simp [go_sem] at ha; subst ha; refine ⟨_, T, ?_⟩; rintro _ rfl; simp [go_sem]; ((repeat' (first|(refine ag_x ?_;simp [go_sem])|intro _|refine And.intro ?_ ?_|(apply hKK;clear hKK KK)));all_goals first|refine Hold.mk ?_|omega|with_reducible assumption|(simp only [InR] at *;omega)|skip))
      (refine awp_ret ?_; simp [go_sem, powG])
def resM (a : List UInt8) (n : Int) (m : List UInt8) : D :=
  if (numOk a && numOk m) = true ∧ 0 ≤ n ∧ n ≤ 1000000 ∧ m ≠ [48] ∧ m.head? ≠ some 45 then
    .tup [dS (Lib.itoa (modG (numV m) n.toNat (fr (numV a) (numV m)) (fr 1 (numV m)))), dI 0]
  else .tup [dS [], dI 1]
theorem modG_zero (b x o : Int) : modG b 0 x o = o := by rw [modG]; simp
theorem modG_pos (b x o : Int) {n : Nat} (h : n ≠ 0) : modG b n x o = modG b (n / 2) (fr (x * x) b) (if n % 2 = 1 then fr (o * x) b else o) := by
  rw [modG, dif_neg h]
theorem sz_fr {m n : Int} (h : n ≠ 0) : sz U (fr m n) ≤ sz U n := by
  have h1 := fr_abs (a := m) h
  exact sz_abs_le (by omega)
set_option maxHeartbeats 8000000 in
theorem Mod_spec (a : List UInt8) (n : Int) (m : List UInt8) (ha : a.length ≤ 1000000000) (hm : m.length ≤ 1000000000) : PCall Tryz.prog 15 [dS a, dI n, dS m] fun r => r = resM a n m := by 
  refine pcall_of Tryz.func15 rfl rfl Tryz.ntmps15 (rs := [.tmp 6, .tmp 7]) (tys := [9, 31]) rfl rfl (by simp) ?_
  unfold resM
  have hv : PCall Tryz.prog 48 [.sl 1 [cS a, cS m]] fun r => r = dB (numOk a && numOk m) := by
    have := valids_spec [a, m] (by intro x hx; simp at hx; rcases hx with rfl | rfl <;> assumption) (by simp)
    simp only [List.all_cons, List.all_nil, Bool.and_true] at this
    exact this
  cases hok : (numOk a && numOk m) with
  | false =>
    rw [hok] at hv
    (refine awp_sr fun KK hKK => ?_; simp [go_sem]; ((repeat' (first|(refine ag_x ?_;simp [go_sem])|intro _|refine And.intro ?_ ?_|(apply hKK;clear hKK KK)));all_goals first|refine Hold.mk ?_|omega|with_reducible assumption|(simp only [InR] at *;omega)|skip))
    refine awp_seq_k fun K1 hK1 => ?_
    (refine awp_sr fun KK hKK => ?_; simp [go_sem]; ((repeat' (first|(refine ag_x ?_;simp [go_sem])|intro _|refine And.intro ?_ ?_|(apply hKK;clear hKK KK)));all_goals first|refine Hold.mk ?_|omega|with_reducible assumption|(simp only [InR] at *;omega)|skip))
    ((try refine CallT.toA ?_); refine callT_z (by first | exact .inl ⟨rfl, rfl⟩ | exact .inr rfl) rfl (by simp [go_sem]) (by simp [go_sem]) ?_; intro args ha; simp [go_sem] at ha; subst ha; refine ⟨_, hv, ?_⟩; rintro _ rfl; simp [go_sem]; ((repeat' (first|(refine ag_false (by simp [go_sem, undef]) (by simp [go_sem]) ?_;simp [go_sem])|intro _|refine And.intro ?_ ?_|(apply hKK;clear hKK KK)));all_goals first|refine Hold.mk ?_|omega|with_reducible assumption|(simp only [InR] at *;omega)|skip))
    (refine awp_if fun T F hT hF => ?_; simp [go_sem]; refine hT ?_; clear hT hF T F)
    (refine awp_sr fun KK hKK => ?_; simp [go_sem]; ((repeat' (first|(refine ag_x ?_;simp [go_sem])|intro _|refine And.intro ?_ ?_|(apply hKK;clear hKK KK)));all_goals first|refine Hold.mk ?_|omega|with_reducible assumption|(simp only [InR] at *;omega)|skip))
    (refine awp_ret ?_; simp [go_sem])
  | true =>
    rw [hok] at hv
    simp only [Bool.and_eq_true] at hok
    have r1 := readOk_spec hok.1
    have r2 := readOk_spec hok.2
    have hz := num0 hok.2
    have s1 := sz_numOk hok.1
    have s2 := sz_numOk hok.2
    obtain ⟨c, t, hat⟩ : ∃ c t, m = c :: t := by
      cases m with
      | nil => exact absurd rfl (numOk_ne hok.2)
      | cons c t => exact ⟨c, t, rfl⟩
    have hc0 : m.head? = some c := by rw [hat]; rfl
    have hc0' : m[0]? = some c := by rw [hat]; rfl
    have h45 := u45 c
    generalize numV a = A at *
    generalize numV m = B at *
    rw [hc0]
    (refine awp_sr fun KK hKK => ?_; simp [go_sem]; ((repeat' (first|(refine ag_x ?_;simp [go_sem])|intro _|refine And.intro ?_ ?_|(apply hKK;clear hKK KK)));all_goals first|refine Hold.mk ?_|omega|with_reducible assumption|(simp only [InR] at *;omega)|skip))
    refine awp_seq_k fun K1 hK1 => ?_
    (refine awp_sr fun KK hKK => ?_; simp [go_sem]; ((repeat' (first|(refine ag_x ?_;simp [go_sem])|intro _|refine And.intro ?_ ?_|(apply hKK;clear hKK KK)));all_goals first|refine Hold.mk ?_|omega|with_reducible assumption|(simp only [InR] at *;omega)|skip))
    ((try refine CallT.toA ?_); refine callT_z (by first | exact .inl ⟨rfl, rfl⟩ | exact .inr rfl) rfl (by simp [go_sem]) (by simp [go_sem]) ?_; intro args ha; simp [go_sem] at ha; subst ha; refine ⟨_, hv, ?_⟩; rintro _ rfl; simp [go_sem, hc0']; ((repeat' (first|(refine ag_x ?_;simp [go_sem, hc0'])|intro _|refine And.intro ?_ ?_|(apply hKK;clear hKK KK)));all_goals first|refine Hold.mk ?_|omega|with_reducible assumption|(simp only [InR] at *;omega)|skip))
    (refine awp_if fun T F hT hF => ?_; simp [go_sem]; refine BR.intro (fun h2 => hT ?_) (fun h2 => hF ?_); all_goals clear hT hF T F; try simp at h2) 
    · (refine awp_sr fun KK hKK => ?_; simp [go_sem]; ((repeat' (first|(refine ag_x ?_;simp [go_sem])|intro _|refine And.intro ?_ ?_|(apply hKK;clear hKK KK)));all_goals first|refine Hold.mk ?_|omega|with_reducible assumption|(simp only [InR] at *;omega)|skip))
      (refine awp_ret ?_; simp [go_sem])
      intro q1 q2 q3
      rcases h2 with ((h2 | h2) | h2) | h2
      · omega
      · omega
      · exact absurd h2 q3
      · exact h45.1 h2
    · have hB0 : B ≠ 0 := fun h => h2.1.2 (hz.2 h)
      obtain ⟨k, rfl⟩ : ∃ k : Nat, n = k := ⟨n.toNat, by omega⟩
      refine awp_skip ?_
      refine hK1 _ ?_; clear hK1
      rw [if_pos ⟨rfl, by omega, by omega, h2.1.2, by have := h2.2; simpa using fun h => this (h45.2 h)⟩]
      rw [Int.toNat_natCast]
      have d1 := div_spec A B hB0 (by omega) (by omega)
      have d2 := div_spec 1 B hB0 (by show (dg U 1).length ≤ _; rw [dg_one]; simp) (by omega)
      have s3 := sz_fr (m := A) hB0
      have s4 := sz_fr (m := 1) hB0
      generalize fr A B = X at *
      generalize fr 1 B = O at *
      generalize fq A B = Q1 at *
      generalize fq 1 B = Q2 at *
      (refine awp_sr fun KK hKK => ?_; simp [go_sem]; ((repeat' (first|(refine ag_x ?_;simp [go_sem])|intro _|refine And.intro ?_ ?_|(apply hKK;clear hKK KK)));all_goals first|refine Hold.mk ?_|omega|with_reducible assumption|(simp only [InR] at *;omega)|skip))
      ((try refine CallT.toA ?_); refine callT_m (by first | exact .inl ⟨rfl, rfl⟩ | exact .inr rfl) (by simp [go_sem]) ?_; intro args ha; simp [go_sem] at ha; subst ha; refine ⟨_, r2, ?_⟩; rintro _ rfl; simp [go_sem]; ((repeat' (first|(refine ag_x ?_;simp [go_sem])|intro _|refine And.intro ?_ ?_|(apply hKK;clear hKK KK)));all_goals first|refine Hold.mk ?_|omega|with_reducible assumption|(simp only [InR] at *;omega)|skip))
      rename_i g8
      have o1 : PCall Tryz.prog 40 [dI 1] fun r => r = dBig 1 := of_spec 1 (by omega) (by omega)
      refine awp_seq_k fun K4 hK4 => ?_
      have tl4 : ∀ S' g10, Cov S' ⟨[(1, dI k), (8, .ptr 8 g8 0), (10, .ptr 10 g10 0)], [(8, g8, .box [dB (decide (B < 0)), dIs (dg U B.natAbs)]), (10, g10, .box [dB (decide (X < 0)), dIs (dg U X.natAbs)])]⟩ → K4 S' := fun S' g10 hS => by
        refine hK4 _ ?_; clear hK4
        refine awp_cov hS ?_; clear hS
        refine awp_seq_k fun K5 hK5 => ?_
        have tl5 : ∀ S' g12, Cov S' ⟨[(1, dI k), (8, .ptr 8 g8 0), (10, .ptr 10 g10 0), (12, .ptr 12 g12 0)], [(8, g8, .box [dB (decide (B < 0)), dIs (dg U B.natAbs)]), (10, g10, .box [dB (decide (X < 0)), dIs (dg U X.natAbs)]), (12, g12, .box [dB (decide (O < 0)), dIs (dg U O.natAbs)])]⟩ → K5 S' := fun S' g12 hS => by
          refine hK5 _ ?_; clear hK5
          refine awp_cov hS ?_; clear hS
          refine awp_seq_k fun K3 hK3 => ?_
          refine awp_block ?_
          refine awp_loop (σ := Nat × Int × Int) (fun s => ⟨[(1, dI s.1), (8, .ptr 8 g8 0), (10, .ptr 10 g10 0), (12, .ptr 12 g12 0)], [(8, g8, .box [dB (decide (B < 0)), dIs (dg U B.natAbs)]), (10, g10, .box [dB (decide (s.2.1 < 0)), dIs (dg U s.2.1.natAbs)]), (12, g12, .box [dB (decide (s.2.2 < 0)), dIs (dg U s.2.2.natAbs)])]⟩) (fun s => s.1 ≤ k ∧ sz U s.2.1 ≤ 45 ∧ sz U s.2.2 ≤ 45 ∧ modG B s.1 s.2.1 s.2.2 = modG B k X O) (fun s => s.1) (k, X, O) ?_ ?_ ?_
          · (refine cov_of ?_ ?_ <;> simp [go_sem])
          · exact ⟨Nat.le_refl _, by simp only; omega, by simp only; omega, rfl⟩
          rintro ⟨i, x, o⟩ ⟨hi, sx, so, hp⟩
          simp only at hi sx so hp
          refine awp_seq_k fun K7 hK7 => ?_
          (refine awp_sr fun KK hKK => ?_; simp [go_sem]; ((repeat' (first|(refine ag_x ?_;simp [go_sem])|intro _|refine And.intro ?_ ?_|(apply hKK;clear hKK KK)));all_goals first|refine Hold.mk ?_|omega|with_reducible assumption|(simp only [InR] at *;omega)|skip))
          (refine awp_if fun T F hT hF => ?_; simp [go_sem]; refine BR.intro (fun h8 => hT ?_) (fun h8 => hF ?_); all_goals clear hT hF T F; try simp at h8) 
          · refine awp_skip ?_
            refine hK7 _ ?_; clear hK7
            rw [modG_pos _ _ _ (show i ≠ 0 by omega)] at hp
            have sxx := sz_mul (B := U) (by decide) x x
            have sox := sz_mul (B := U) (by decide) o x
            have sxx : sz U (x * x) ≤ sz U x + sz U x := sxx
            have sox : sz U (o * x) ≤ sz U o + sz U x := sox
            have M1 := mul_spec x x (by omega) (by omega)
            have M2 := mul_spec o x (by omega) (by omega)
            have D1 := div_spec (x * x) B hB0 (by omega) (by omega)
            have D2 := div_spec (o * x) B hB0 (by omega) (by omega)
            have f1 := sz_fr (m := x * x) hB0
            have f2 := sz_fr (m := o * x) hB0
            generalize x * x = xx at *
            generalize o * x = ox at *
            generalize fr xx B = x' at *
            generalize fr ox B = o' at *
            generalize fq xx B = q1 at *
            generalize fq ox B = q2 at *
            obtain ⟨m1, m2, _⟩ := div_mod_of (B := 2) (n := (i : Int)) (by decide) (by omega)
            refine awp_seq_k fun K9 hK9 => ?_
            refine awp_block ?_
            refine awp_seq_k fun K10 hK10 => ?_
            have tl10 : ∀ S' v, sz U v ≤ 45 → modG B (i / 2) x' v = modG B k X O → Cov S' ⟨[(1, dI i), (8, .ptr 8 g8 0), (10, .ptr 10 g10 0), (12, .ptr 12 g12 0)], [(8, g8, .box [dB (decide (B < 0)), dIs (dg U B.natAbs)]), (10, g10, .box [dB (decide (x < 0)), dIs (dg U x.natAbs)]), (12, g12, .box [dB (decide (v < 0)), dIs (dg U v.natAbs)])]⟩ → K10 S' := fun S' v sv hv hS => by
              refine hK10 _ ?_; clear hK10
              refine awp_cov hS ?_; clear hS
              ((refine awp_d (.qs [0, 1, 3] (.kp 2 (.kp 4 (.qs [5, 6, 7] (.one 8 (.nil)))))) (by kernel_rfl) ?_ ?_ ?_ ?_); (kernel_rfl); (exact (by decide +kernel)); (kernel_rfl); intro KK hKK; ((repeat' (first|(refine ag_x ?_;simp [go_sem])|refine adr_nil ?_|refine adr_two ?_ ?_|refine adr_kq ?_ ?_|refine adr_three ?_ ?_ ?_|refine adr_four ?_ ?_ ?_ ?_|refine adr_kp2 ?_ ?_|refine adr_kp3 ?_ ?_ ?_|((first|refine adr_qs fun KK hKK=>?_|refine adr_y fun KK hKK=>?_);simp [go_sem])|intro _|refine And.intro ?_ ?_|(apply hKK;clear hKK KK)));all_goals first|refine Hold.mk ?_|omega|with_reducible assumption|(simp only [InR] at *;omega)|skip))
              ((try refine CallT.toA ?_); refine callT_m (by first | exact .inl ⟨rfl, rfl⟩ | exact .inr rfl) (by simp [go_sem]) ?_; intro args ha; simp [go_sem] at ha; subst ha; refine ⟨_, M1, ?_⟩; rintro _ rfl; simp [go_sem]; ((repeat' (first|(refine ag_x ?_;simp [go_sem])|refine adr_nil ?_|refine adr_two ?_ ?_|refine adr_kq ?_ ?_|refine adr_three ?_ ?_ ?_|refine adr_four ?_ ?_ ?_ ?_|refine adr_kp2 ?_ ?_|refine adr_kp3 ?_ ?_ ?_|((first|refine adr_qs fun KK hKK=>?_|refine adr_y fun KK hKK=>?_);simp [go_sem])|intro _|refine And.intro ?_ ?_|(apply hKK;clear hKK KK)));all_goals first|refine Hold.mk ?_|omega|with_reducible assumption|(simp only [InR] at *;omega)|skip))
              ((try refine CallT.toA ?_); refine callT_m (by first | exact .inl ⟨rfl, rfl⟩ | exact .inr rfl) (by simp [go_sem]) ?_; intro args ha; simp [go_sem] at ha; subst ha; refine ⟨_, D1, ?_⟩; rintro _ rfl; simp [go_sem]; ((repeat' (first|(refine ag_x ?_;simp [go_sem])|refine adr_nil ?_|refine adr_two ?_ ?_|refine adr_kq ?_ ?_|refine adr_three ?_ ?_ ?_|refine adr_four ?_ ?_ ?_ ?_|refine adr_kp2 ?_ ?_|refine adr_kp3 ?_ ?_ ?_|((first|refine adr_qs fun KK hKK=>?_|refine adr_y fun KK hKK=>?_);simp [go_sem])|intro _|refine And.intro ?_ ?_|(apply hKK;clear hKK KK)));all_goals first|refine Hold.mk ?_|omega|with_reducible assumption|(simp only [InR] at *;omega)|skip))
              refine hK9 _ ?_; clear hK9
              (refine awp_r fun KK hKK => ?_; simp [go_sem, m2]; ((repeat' (first|(refine ag_x ?_;simp [go_sem, m2])|intro _|refine And.intro ?_ ?_|(apply hKK;clear hKK KK)));all_goals first|refine Hold.mk ?_|omega|with_reducible assumption|(simp only [InR] at *;omega)|skip))
              refine ⟨(i / 2, x', v), ?_, ⟨by simp only; omega, by simp only; omega, sv, hv⟩, by simp only; omega⟩
              (refine cov_of ?_ ?_ <;> simp [go_sem])
            clear hK10
            (refine awp_sr fun KK hKK => ?_; simp [go_sem, m1]; ((repeat' (first|(refine ag_x ?_;simp [go_sem, m1])|intro _|refine And.intro ?_ ?_|(apply hKK;clear hKK KK)));all_goals first|refine Hold.mk ?_|omega|with_reducible assumption|(simp only [InR] at *;omega)|skip))
            (refine awp_if fun T F hT hF => ?_; simp [go_sem]; refine BR.intro (fun h11 => hT ?_) (fun h11 => hF ?_); all_goals clear hT hF T F; try simp at h11) 
            · rw [if_pos (by omega)] at hp
              ((refine awp_d (.qs [0, 1, 3] (.kp 2 (.kp 4 (.qs [5, 6, 7] (.one 8 (.nil)))))) (by kernel_rfl) ?_ ?_ ?_ ?_); (kernel_rfl); (exact (by decide +kernel)); (kernel_rfl); intro KK hKK; ((repeat' (first|(refine ag_x ?_;simp [go_sem])|refine adr_nil ?_|refine adr_two ?_ ?_|refine adr_kq ?_ ?_|refine adr_three ?_ ?_ ?_|refine adr_four ?_ ?_ ?_ ?_|refine adr_kp2 ?_ ?_|refine adr_kp3 ?_ ?_ ?_|((first|refine adr_qs fun KK hKK=>?_|refine adr_y fun KK hKK=>?_);simp [go_sem])|intro _|refine And.intro ?_ ?_|(apply hKK;clear hKK KK)));all_goals first|refine Hold.mk ?_|omega|with_reducible assumption|(simp only [InR] at *;omega)|skip))
              ((try refine CallT.toA ?_); refine callT_m (by first | exact .inl ⟨rfl, rfl⟩ | exact .inr rfl) (by simp [go_sem]) ?_; intro args ha; simp [go_sem] at ha; subst ha; refine ⟨_, M2, ?_⟩; rintro _ rfl; simp [go_sem]; ((repeat' (first|(refine ag_x ?_;simp [go_sem])|refine adr_nil ?_|refine adr_two ?_ ?_|refine adr_kq ?_ ?_|refine adr_three ?_ ?_ ?_|refine adr_four ?_ ?_ ?_ ?_|refine adr_kp2 ?_ ?_|refine adr_kp3 ?_ ?_ ?_|((first|refine adr_qs fun KK hKK=>?_|refine adr_y fun KK hKK=>?_);simp [go_sem])|intro _|refine And.intro ?_ ?_|(apply hKK;clear hKK KK)));all_goals first|refine Hold.mk ?_|omega|with_reducible assumption|(simp only [InR] at *;omega)|skip))
              ((try refine CallT.toA ?_); refine callT_m (by first | exact .inl ⟨rfl, rfl⟩ | exact .inr rfl) (by simp [go_sem]) ?_; intro args ha; simp [go_sem] at ha; subst ha; refine ⟨_, D2, ?_⟩; rintro _ rfl; simp [go_sem]; ((repeat' (first|(refine ag_x ?_;simp [go_sem])|refine adr_nil ?_|refine adr_two ?_ ?_|refine adr_kq ?_ ?_|refine adr_three ?_ ?_ ?_|refine adr_four ?_ ?_ ?_ ?_|refine adr_kp2 ?_ ?_|refine adr_kp3 ?_ ?_ ?_|((first|refine adr_qs fun KK hKK=>?_|refine adr_y fun KK hKK=>?_);simp [go_sem])|intro _|refine And.intro ?_ ?_|(apply hKK;clear hKK KK)));all_goals first|refine Hold.mk ?_|omega|with_reducible assumption|(simp only [InR] at *;omega)|skip))
              refine tl10 _ o' (by omega) hp ?_
              (refine cov_of ?_ ?_ <;> simp [go_sem])
            · rw [if_neg (by omega)] at hp
              refine awp_skip ?_
              refine tl10 _ o so hp ?_
              (refine cov_of ?_ ?_ <;> simp [go_sem])
          · refine awp_exit ?_
            simp only [go_sem]
            refine hK3 _ ?_; clear hK3
            have hi0 : i = 0 := by omega
            subst hi0
            rw [modG_zero] at hp
            rw [← hp]
            (refine awp_sr fun KK hKK => ?_; simp [go_sem]; ((repeat' (first|(refine ag_x ?_;simp [go_sem])|intro _|refine And.intro ?_ ?_|(apply hKK;clear hKK KK)));all_goals first|refine Hold.mk ?_|omega|with_reducible assumption|(simp only [InR] at *;omega)|skip))
            ((try refine CallT.toA ?_); refine callT_m (by first | exact .inl ⟨rfl, rfl⟩ | exact .inr rfl) (by simp [go_sem]) ?_; intro args ha; simp [go_sem] at ha; subst ha; refine ⟨_, (text_spec o (by omega)), ?_⟩; rintro _ rfl; simp [go_sem]; ((repeat' (first|(refine ag_x ?_;simp [go_sem])|intro _|refine And.intro ?_ ?_|(apply hKK;clear hKK KK)));all_goals first|refine Hold.mk ?_|omega|with_reducible assumption|(simp only [InR] at *;omega)|skip))
            (refine awp_ret ?_; simp [go_sem])
        clear hK5
        ((refine awp_d (.qs [1] (.kp3 0 (.kp3 2 (.qs [3, 4, 5] (.kp2 6 (.kp 7 (.one 8 (.one 9 (.nil)))) 7 (.kp 6 (.one 8 (.one 9 (.nil)))))) 6 (.kp2 2 (.qs [3, 4, 5] (.kp 7 (.one 8 (.one 9 (.nil))))) 7 (.kp 2 (.qs [3, 4, 5] (.one 8 (.one 9 (.nil)))))) 7 (.kp2 2 (.qs [3, 4, 5] (.kp 6 (.one 8 (.one 9 (.nil))))) 6 (.kp 2 (.qs [3, 4, 5] (.one 8 (.one 9 (.nil))))))) 6 (.kp2 0 (.kp2 2 (.qs [3, 4, 5] (.kp 7 (.one 8 (.one 9 (.nil))))) 7 (.kp 2 (.qs [3, 4, 5] (.one 8 (.one 9 (.nil)))))) 7 (.kp 0 (.kp 2 (.qs [3, 4, 5] (.one 8 (.one 9 (.nil))))))) 7 (.kp2 0 (.kp2 2 (.qs [3, 4, 5] (.kp 6 (.one 8 (.one 9 (.nil))))) 6 (.kp 2 (.qs [3, 4, 5] (.one 8 (.one 9 (.nil)))))) 6 (.kp 0 (.kp 2 (.qs [3, 4, 5] (.one 8 (.one 9 (.nil))))))))) (by kernel_rfl) ?_ ?_ ?_ ?_); (kernel_rfl); (exact (by decide +kernel)); (kernel_rfl); intro KK hKK; ((repeat' (first|(refine ag_x ?_;simp [go_sem])|refine adr_nil ?_|refine adr_two ?_ ?_|refine adr_kq ?_ ?_|refine adr_three ?_ ?_ ?_|refine adr_four ?_ ?_ ?_ ?_|refine adr_kp2 ?_ ?_|refine adr_kp3 ?_ ?_ ?_|((first|refine adr_qs fun KK hKK=>?_|refine adr_y fun KK hKK=>?_);simp [go_sem])|intro _|refine And.intro ?_ ?_|(apply hKK;clear hKK KK)));all_goals first|refine Hold.mk ?_|omega|with_reducible assumption|(simp only [InR] at *;omega)|skip))
        all_goals (repeat' (first | ((try refine CallT.toA ?_); refine callT_m (by first | exact .inl ⟨rfl, rfl⟩ | exact .inr rfl) (by simp [go_sem]) ?_; intro args ha; simp [go_sem] at ha; subst ha; refine ⟨_, o1, ?_⟩; rintro _ rfl; simp [go_sem]; ((repeat' (first|(refine ag_x ?_;simp [go_sem])|refine adr_nil ?_|refine adr_two ?_ ?_|refine adr_kq ?_ ?_|refine adr_three ?_ ?_ ?_|refine adr_four ?_ ?_ ?_ ?_|refine adr_kp2 ?_ ?_|refine adr_kp3 ?_ ?_ ?_|((first|refine adr_qs fun KK hKK=>?_|refine adr_y fun KK hKK=>?_);simp [go_sem])|intro _|refine And.intro ?_ ?_|(apply hKK;clear hKK KK)));all_goals first|refine Hold.mk ?_|omega|with_reducible assumption|(simp only [InR] at *;omega)|skip)) | ((try refine CallT.toA ?_); refine callT_m (by first | exact .inl ⟨rfl, rfl⟩ | exact .inr rfl) (by simp [go_sem]) ?_; intro args ha; simp [go_sem] at ha; subst ha; refine ⟨_, d2, ?_⟩; rintro _ rfl; simp [go_sem]; ((repeat' (first|(refine ag_x ?_;simp [go_sem])|refine adr_nil ?_|refine adr_two ?_ ?_|refine adr_kq ?_ ?_|refine adr_three ?_ ?_ ?_|refine adr_four ?_ ?_ ?_ ?_|refine adr_kp2 ?_ ?_|refine adr_kp3 ?_ ?_ ?_|((first|refine adr_qs fun KK hKK=>?_|refine adr_y fun KK hKK=>?_);simp [go_sem])|intro _|refine And.intro ?_ ?_|(apply hKK;clear hKK KK)));all_goals first|refine Hold.mk ?_|omega|with_reducible assumption|(simp only [InR] at *;omega)|skip))))
        all_goals (rename_i ga gb; first | (refine tl5 _ ga ?_; (refine cov_of ?_ ?_ <;> simp [go_sem]); done) | (refine tl5 _ gb ?_; (refine cov_of ?_ ?_ <;> simp [go_sem]); done))
      clear hK4
      ((refine awp_d (.qs [0, 2] (.kp3 1 (.kp3 3 (.qs [4, 5, 6] (.kp2 7 (.kp 8 (.one 9 (.one 10 (.nil)))) 8 (.kp 7 (.one 9 (.one 10 (.nil)))))) 7 (.kp2 3 (.qs [4, 5, 6] (.kp 8 (.one 9 (.one 10 (.nil))))) 8 (.kp 3 (.qs [4, 5, 6] (.one 9 (.one 10 (.nil)))))) 8 (.kp2 3 (.qs [4, 5, 6] (.kp 7 (.one 9 (.one 10 (.nil))))) 7 (.kp 3 (.qs [4, 5, 6] (.one 9 (.one 10 (.nil))))))) 7 (.kp2 1 (.kp2 3 (.qs [4, 5, 6] (.kp 8 (.one 9 (.one 10 (.nil))))) 8 (.kp 3 (.qs [4, 5, 6] (.one 9 (.one 10 (.nil)))))) 8 (.kp 1 (.kp 3 (.qs [4, 5, 6] (.one 9 (.one 10 (.nil))))))) 8 (.kp2 1 (.kp2 3 (.qs [4, 5, 6] (.kp 7 (.one 9 (.one 10 (.nil))))) 7 (.kp 3 (.qs [4, 5, 6] (.one 9 (.one 10 (.nil)))))) 7 (.kp 1 (.kp 3 (.qs [4, 5, 6] (.one 9 (.one 10 (.nil))))))))) (by kernel_rfl) ?_ ?_ ?_ ?_); (kernel_rfl); (exact (by decide +kernel)); (kernel_rfl); intro KK hKK; ((repeat' (first|(refine ag_x ?_;simp [go_sem])|refine adr_nil ?_|refine adr_two ?_ ?_|refine adr_kq ?_ ?_|refine adr_three ?_ ?_ ?_|refine adr_four ?_ ?_ ?_ ?_|refine adr_kp2 ?_ ?_|refine adr_kp3 ?_ ?_ ?_|((first|refine adr_qs fun KK hKK=>?_|refine adr_y fun KK hKK=>?_);simp [go_sem])|intro _|refine And.intro ?_ ?_|(apply hKK;clear hKK KK)));all_goals first|refine Hold.mk ?_|omega|with_reducible assumption|(simp only [InR] at *;omega)|skip))
      all_goals (repeat' (first | ((try refine CallT.toA ?_); refine callT_m (by first | exact .inl ⟨rfl, rfl⟩ | exact .inr rfl) (by simp [go_sem]) ?_; intro args ha; simp [go_sem] at ha; subst ha; refine ⟨_, r1, ?_⟩; rintro _ rfl; simp [go_sem]; ((repeat' (first|(refine ag_x ?_;simp [go_sem])|refine adr_nil ?_|refine adr_two ?_ ?_|refine adr_kq ?_ ?_|refine adr_three ?_ ?_ ?_|refine adr_four ?_ ?_ ?_ ?_|refine adr_kp2 ?_ ?_|refine adr_kp3 ?_ ?_ ?_|((first|refine adr_qs fun KK hKK=>?_|refine adr_y fun KK hKK=>?_);simp [go_sem])|intro _|refine And.intro ?_ ?_|(apply hKK;clear hKK KK)));all_goals first|refine Hold.mk ?_|omega|with_reducible assumption|(simp only [InR] at *;omega)|skip)) | ((try refine CallT.toA ?_); refine callT_m (by first | exact .inl ⟨rfl, rfl⟩ | exact .inr rfl) (by simp [go_sem]) ?_; intro args ha; simp [go_sem] at ha; subst ha; refine ⟨_, d1, ?_⟩; rintro _ rfl; simp [go_sem]; ((repeat' (first|(refine ag_x ?_;simp [go_sem])|refine adr_nil ?_|refine adr_two ?_ ?_|refine adr_kq ?_ ?_|refine adr_three ?_ ?_ ?_|refine adr_four ?_ ?_ ?_ ?_|refine adr_kp2 ?_ ?_|refine adr_kp3 ?_ ?_ ?_|((first|refine adr_qs fun KK hKK=>?_|refine adr_y fun KK hKK=>?_);simp [go_sem])|intro _|refine And.intro ?_ ?_|(apply hKK;clear hKK KK)));all_goals first|refine Hold.mk ?_|omega|with_reducible assumption|(simp only [InR] at *;omega)|skip))))
      all_goals (rename_i ga gb; first | (refine tl4 _ ga ?_; (refine cov_of ?_ ?_ <;> simp [go_sem]); done) | (refine tl4 _ gb ?_; (refine cov_of ?_ ?_ <;> simp [go_sem]); done))
set_option maxHeartbeats 8000000 in
theorem rMod_spec (a : List UInt8) (n : Int) (m : List UInt8) (ha : a.length ≤ 1000000000) (hm : m.length ≤ 1000000000) : PCall Tryz.prog 16 [dS a, dI n, dS m] fun r => r = resM a n m := by 
  refine pcall_of Tryz.func16 rfl rfl Tryz.ntmps16 (rs := [.tmp 6, .tmp 7]) (tys := [9, 31]) rfl rfl (by simp) ?_
  unfold resM
  have hv := rall2 a m ha hm
  cases hok : (numOk a && numOk m) with
  | false =>
    rw [hok] at hv
    (refine awp_sr fun KK hKK => ?_; simp [go_sem]; ((repeat' (first|(refine ag_x ?_;simp [go_sem])|intro _|refine And.intro ?_ ?_|(apply hKK;clear hKK KK)));all_goals first|refine Hold.mk ?_|omega|with_reducible assumption|(simp only [InR] at *;omega)|skip))
    refine awp_seq_k fun K1 hK1 => ?_
    (refine awp_sr fun KK hKK => ?_; simp [go_sem]; ((repeat' (first|(refine ag_x ?_;simp [go_sem])|intro _|refine And.intro ?_ ?_|(apply hKK;clear hKK KK)));all_goals first|refine Hold.mk ?_|omega|with_reducible assumption|(simp only [InR] at *;omega)|skip))
    ((try refine CallT.toA ?_); refine callT_z (by first | exact .inl ⟨rfl, rfl⟩ | exact .inr rfl) rfl (by simp [go_sem]) (by simp [go_sem]) ?_; intro args ha; simp [go_sem] at ha; subst ha; refine ⟨_, hv, ?_⟩; rintro _ rfl; simp [go_sem]; ((repeat' (first|(refine ag_false (by simp [go_sem, undef]) (by simp [go_sem]) ?_;simp [go_sem])|intro _|refine And.intro ?_ ?_|(apply hKK;clear hKK KK)));all_goals first|refine Hold.mk ?_|omega|with_reducible assumption|(simp only [InR] at *;omega)|skip))
    (refine awp_if fun T F hT hF => ?_; simp [go_sem]; refine hT ?_; clear hT hF T F)
    (refine awp_sr fun KK hKK => ?_; simp [go_sem]; ((repeat' (first|(refine ag_x ?_;simp [go_sem])|intro _|refine And.intro ?_ ?_|(apply hKK;clear hKK KK)));all_goals first|refine Hold.mk ?_|omega|with_reducible assumption|(simp only [InR] at *;omega)|skip))
    (refine awp_ret ?_; simp [go_sem])
  | true =>
    rw [hok] at hv
    simp only [Bool.and_eq_true] at hok
    have r1 := rread_spec a hok.1
    have r2 := rread_spec m hok.2
    have hz := num0 hok.2
    have s1 := szT_numOk hok.1
    have s2 := szT_numOk hok.2
    obtain ⟨c, t, hat⟩ : ∃ c t, m = c :: t := by
      cases m with
      | nil => exact absurd rfl (numOk_ne hok.2)
      | cons c t => exact ⟨c, t, rfl⟩
    have hc0 : m.head? = some c := by rw [hat]; rfl
    have hc0' : m[0]? = some c := by rw [hat]; rfl
    have h45 := u45 c
    generalize numV a = A at *
    generalize numV m = B at *
    rw [hc0]
    (refine awp_sr fun KK hKK => ?_; simp [go_sem]; ((repeat' (first|(refine ag_x ?_;simp [go_sem])|intro _|refine And.intro ?_ ?_|(apply hKK;clear hKK KK)));all_goals first|refine Hold.mk ?_|omega|with_reducible assumption|(simp only [InR] at *;omega)|skip))
    refine awp_seq_k fun K1 hK1 => ?_
    (refine awp_sr fun KK hKK => ?_; simp [go_sem]; ((repeat' (first|(refine ag_x ?_;simp [go_sem])|intro _|refine And.intro ?_ ?_|(apply hKK;clear hKK KK)));all_goals first|refine Hold.mk ?_|omega|with_reducible assumption|(simp only [InR] at *;omega)|skip))
    ((try refine CallT.toA ?_); refine callT_z (by first | exact .inl ⟨rfl, rfl⟩ | exact .inr rfl) rfl (by simp [go_sem]) (by simp [go_sem]) ?_; intro args ha; simp [go_sem] at ha; subst ha; refine ⟨_, hv, ?_⟩; rintro _ rfl; simp [go_sem, hc0']; ((repeat' (first|(refine ag_x ?_;simp [go_sem, hc0'])|intro _|refine And.intro ?_ ?_|(apply hKK;clear hKK KK)));all_goals first|refine Hold.mk ?_|omega|with_reducible assumption|(simp only [InR] at *;omega)|skip))
    (refine awp_if fun T F hT hF => ?_; simp [go_sem]; refine BR.intro (fun h2 => hT ?_) (fun h2 => hF ?_); all_goals clear hT hF T F; try simp at h2) 
    · (refine awp_sr fun KK hKK => ?_; simp [go_sem]; ((repeat' (first|(refine ag_x ?_;simp [go_sem])|intro _|refine And.intro ?_ ?_|(apply hKK;clear hKK KK)));all_goals first|refine Hold.mk ?_|omega|with_reducible assumption|(simp only [InR] at *;omega)|skip))
      (refine awp_ret ?_; simp [go_sem])
      intro q1 q2 q3
      rcases h2 with ((h2 | h2) | h2) | h2
      · omega
      · omega
      · exact h45.1 h2
      · exact absurd h2 q3
    · have hB0 : B ≠ 0 := fun h => h2.2 (hz.2 h)
      obtain ⟨k, rfl⟩ : ∃ k : Nat, n = k := ⟨n.toNat, by omega⟩
      refine awp_skip ?_
      refine hK1 _ ?_; clear hK1
      rw [if_pos ⟨rfl, by omega, by omega, h2.2, by have := h2.1.2; simpa using fun h => this (h45.2 h)⟩]
      rw [Int.toNat_natCast]
      have d1 := quot_spec A B hB0 (by omega) (by omega)
      have d2 := quot_spec 1 B hB0 (by rw [szT_one]; decide) (by omega)
      have s3 := szT_fr (m := A) hB0
      have s4 := szT_fr (m := 1) hB0
      generalize fr A B = X at *
      generalize fr 1 B = O at *
      generalize fq A B = Q1 at *
      generalize fq 1 B = Q2 at *
      (refine awp_sr fun KK hKK => ?_; simp [go_sem]; ((repeat' (first|(refine ag_x ?_;simp [go_sem])|intro _|refine And.intro ?_ ?_|(apply hKK;clear hKK KK)));all_goals first|refine Hold.mk ?_|omega|with_reducible assumption|(simp only [InR] at *;omega)|skip))
      ((try refine CallT.toA ?_); refine callT_m (by first | exact .inl ⟨rfl, rfl⟩ | exact .inr rfl) (by simp [go_sem]) ?_; intro args ha; simp [go_sem] at ha; subst ha; refine ⟨_, r2, ?_⟩; rintro _ rfl; simp [go_sem]; ((repeat' (first|(refine ag_x ?_;simp [go_sem])|intro _|refine And.intro ?_ ?_|(apply hKK;clear hKK KK)));all_goals first|refine Hold.mk ?_|omega|with_reducible assumption|(simp only [InR] at *;omega)|skip))
      rename_i g8
      have d2 : PCall Tryz.prog 50 [.agg [dB false, .sl 1 [cI 1]], dNum B] fun r => r = .tup [dNum Q2, dNum O] := by
        have e : dNum 1 = .agg [dB false, .sl 1 [cI 1]] := by
          show D.agg [_, D.sl 1 ((dg 10 1).map cI)] = _
          rw [dgT_one]; rfl
        rw [e] at d2; exact d2
      refine awp_seq_k fun K4 hK4 => ?_
      have tl4 : ∀ S' g10, Cov S' ⟨[(1, dI k), (8, .ptr 8 g8 0), (10, .ptr 10 g10 0)], [(8, g8, .box [dB (decide (B < 0)), dIs (dg 10 B.natAbs)]), (10, g10, .box [dB (decide (X < 0)), dIs (dg 10 X.natAbs)])]⟩ → K4 S' := fun S' g10 hS => by
        refine hK4 _ ?_; clear hK4
        refine awp_cov hS ?_; clear hS
        (refine awp_sr fun KK hKK => ?_; simp [go_sem]; ((repeat' (first|(refine ag_x ?_;simp [go_sem])|intro _|refine And.intro ?_ ?_|(apply hKK;clear hKK KK)));all_goals first|refine Hold.mk ?_|omega|with_reducible assumption|(simp only [InR] at *;omega)|skip))
        ((try refine CallT.toA ?_); refine callT_z (by first | exact .inl ⟨rfl, rfl⟩ | exact .inr rfl) rfl (by simp [go_sem]) (by simp [go_sem]) ?_; intro args ha; simp [go_sem] at ha; subst ha; refine ⟨_, d2, ?_⟩; rintro _ rfl; simp [go_sem]; ((repeat' (first|(refine ag_x ?_;simp [go_sem])|intro _|refine And.intro ?_ ?_|(apply hKK;clear hKK KK)));all_goals first|refine Hold.mk ?_|omega|with_reducible assumption|(simp only [InR] at *;omega)|skip))
        rename_i g12
        refine awp_seq_k fun K3 hK3 => ?_
        refine awp_block ?_
        refine awp_loop (σ := Nat × Int × Int) (fun s => ⟨[(1, dI s.1), (8, .ptr 8 g8 0), (10, .ptr 10 g10 0), (12, .ptr 12 g12 0)], [(8, g8, .box [dB (decide (B < 0)), dIs (dg 10 B.natAbs)]), (10, g10, .box [dB (decide (s.2.1 < 0)), dIs (dg 10 s.2.1.natAbs)]), (12, g12, .box [dB (decide (s.2.2 < 0)), dIs (dg 10 s.2.2.natAbs)])]⟩) (fun s => s.1 ≤ k ∧ sz 10 s.2.1 ≤ 400 ∧ sz 10 s.2.2 ≤ 400 ∧ modG B s.1 s.2.1 s.2.2 = modG B k X O) (fun s => s.1) (k, X, O) ?_ ?_ ?_
        · (refine cov_of ?_ ?_ <;> simp [go_sem])
        · exact ⟨Nat.le_refl _, by simp only; omega, by simp only; omega, rfl⟩
        rintro ⟨i, x, o⟩ ⟨hi, sx, so, hp⟩
        simp only at hi sx so hp
        refine awp_seq_k fun K7 hK7 => ?_
        (refine awp_sr fun KK hKK => ?_; simp [go_sem]; ((repeat' (first|(refine ag_x ?_;simp [go_sem])|intro _|refine And.intro ?_ ?_|(apply hKK;clear hKK KK)));all_goals first|refine Hold.mk ?_|omega|with_reducible assumption|(simp only [InR] at *;omega)|skip))
        (refine awp_if fun T F hT hF => ?_; simp [go_sem]; refine BR.intro (fun h8 => hT ?_) (fun h8 => hF ?_); all_goals clear hT hF T F; try simp at h8) 
        · refine awp_skip ?_
          refine hK7 _ ?_; clear hK7
          rw [modG_pos _ _ _ (show i ≠ 0 by omega)] at hp
          have sxx := sz_mul (B := 10) (by decide) x x
          have sox := sz_mul (B := 10) (by decide) o x
          have sxx : sz 10 (x * x) ≤ sz 10 x + sz 10 x := sxx
          have sox : sz 10 (o * x) ≤ sz 10 o + sz 10 x := sox
          have M1 := product_spec x x (by omega) (by omega)
          have M2 := product_spec o x (by omega) (by omega)
          have D1 := quot_spec (x * x) B hB0 (by omega) (by omega)
          have D2 := quot_spec (o * x) B hB0 (by omega) (by omega)
          have f1 := szT_fr (m := x * x) hB0
          have f2 := szT_fr (m := o * x) hB0
          generalize x * x = xx at *
          generalize o * x = ox at *
          generalize fr xx B = x' at *
          generalize fr ox B = o' at *
          generalize fq xx B = q1 at *
          generalize fq ox B = q2 at *
          obtain ⟨m1, m2, _⟩ := div_mod_of (B := 2) (n := (i : Int)) (by decide) (by omega)
          refine awp_block ?_
          refine awp_seq_k fun K10 hK10 => ?_
          have tl10 : ∀ S' v, sz 10 v ≤ 400 → modG B (i / 2) x' v = modG B k X O → Cov S' ⟨[(1, dI i), (8, .ptr 8 g8 0), (10, .ptr 10 g10 0), (12, .ptr 12 g12 0)], [(8, g8, .box [dB (decide (B < 0)), dIs (dg 10 B.natAbs)]), (10, g10, .box [dB (decide (x < 0)), dIs (dg 10 x.natAbs)]), (12, g12, .box [dB (decide (v < 0)), dIs (dg 10 v.natAbs)])]⟩ → K10 S' := fun S' v sv hv hS => by
            refine hK10 _ ?_; clear hK10
            refine awp_cov hS ?_; clear hS
            ((refine awp_dr (.qs [0, 1, 3] (.kp 2 (.kp 4 (.qs [5, 6, 7] (.one 8 (.nil)))))) (by kernel_rfl) ?_ ?_ ?_ ?_); (kernel_rfl); (exact (by decide +kernel)); (kernel_rfl); intro KK hKK; ((repeat' (first|(refine ag_x ?_;simp [go_sem])|refine adr_nil ?_|refine adr_two ?_ ?_|refine adr_kq ?_ ?_|refine adr_three ?_ ?_ ?_|refine adr_four ?_ ?_ ?_ ?_|refine adr_kp2 ?_ ?_|refine adr_kp3 ?_ ?_ ?_|((first|refine adr_qs fun KK hKK=>?_|refine adr_y fun KK hKK=>?_);simp [go_sem])|intro _|refine And.intro ?_ ?_|(apply hKK;clear hKK KK)));all_goals first|refine Hold.mk ?_|omega|with_reducible assumption|(simp only [InR] at *;omega)|skip))
            ((try refine CallT.toA ?_); refine callT_m (by first | exact .inl ⟨rfl, rfl⟩ | exact .inr rfl) (by simp [go_sem]) ?_; intro args ha; simp [go_sem] at ha; subst ha; refine ⟨_, M1, ?_⟩; rintro _ rfl; simp [go_sem]; ((repeat' (first|(refine ag_x ?_;simp [go_sem])|refine adr_nil ?_|refine adr_two ?_ ?_|refine adr_kq ?_ ?_|refine adr_three ?_ ?_ ?_|refine adr_four ?_ ?_ ?_ ?_|refine adr_kp2 ?_ ?_|refine adr_kp3 ?_ ?_ ?_|((first|refine adr_qs fun KK hKK=>?_|refine adr_y fun KK hKK=>?_);simp [go_sem])|intro _|refine And.intro ?_ ?_|(apply hKK;clear hKK KK)));all_goals first|refine Hold.mk ?_|omega|with_reducible assumption|(simp only [InR] at *;omega)|skip))
            ((try refine CallT.toA ?_); refine callT_m (by first | exact .inl ⟨rfl, rfl⟩ | exact .inr rfl) (by simp [go_sem]) ?_; intro args ha; simp [go_sem] at ha; subst ha; refine ⟨_, D1, ?_⟩; rintro _ rfl; simp [go_sem]; ((repeat' (first|(refine ag_x ?_;simp [go_sem])|refine adr_nil ?_|refine adr_two ?_ ?_|refine adr_kq ?_ ?_|refine adr_three ?_ ?_ ?_|refine adr_four ?_ ?_ ?_ ?_|refine adr_kp2 ?_ ?_|refine adr_kp3 ?_ ?_ ?_|((first|refine adr_qs fun KK hKK=>?_|refine adr_y fun KK hKK=>?_);simp [go_sem])|intro _|refine And.intro ?_ ?_|(apply hKK;clear hKK KK)));all_goals first|refine Hold.mk ?_|omega|with_reducible assumption|(simp only [InR] at *;omega)|skip))
            (refine awp_r fun KK hKK => ?_; simp [go_sem, m2]; ((repeat' (first|(refine ag_x ?_;simp [go_sem, m2])|intro _|refine And.intro ?_ ?_|(apply hKK;clear hKK KK)));all_goals first|refine Hold.mk ?_|omega|with_reducible assumption|(simp only [InR] at *;omega)|skip))
            refine ⟨(i / 2, x', v), ?_, ⟨by simp only; omega, by simp only; omega, sv, hv⟩, by simp only; omega⟩
            (refine cov_of ?_ ?_ <;> simp [go_sem])
          clear hK10
          (refine awp_sr fun KK hKK => ?_; simp [go_sem, m1]; ((repeat' (first|(refine ag_x ?_;simp [go_sem, m1])|intro _|refine And.intro ?_ ?_|(apply hKK;clear hKK KK)));all_goals first|refine Hold.mk ?_|omega|with_reducible assumption|(simp only [InR] at *;omega)|skip))
          (refine awp_if fun T F hT hF => ?_; simp [go_sem]; refine BR.intro (fun h11 => hT ?_) (fun h11 => hF ?_); all_goals clear hT hF T F; try simp at h11) 
          · rw [if_pos (by omega)] at hp
            ((refine awp_d (.qs [0, 1, 3] (.kp 2 (.kp 4 (.qs [5, 6, 7] (.one 8 (.nil)))))) (by kernel_rfl) ?_ ?_ ?_ ?_); (kernel_rfl); (exact (by decide +kernel)); (kernel_rfl); intro KK hKK; ((repeat' (first|(refine ag_x ?_;simp [go_sem])|refine adr_nil ?_|refine adr_two ?_ ?_|refine adr_kq ?_ ?_|refine adr_three ?_ ?_ ?_|refine adr_four ?_ ?_ ?_ ?_|refine adr_kp2 ?_ ?_|refine adr_kp3 ?_ ?_ ?_|((first|refine adr_qs fun KK hKK=>?_|refine adr_y fun KK hKK=>?_);simp [go_sem])|intro _|refine And.intro ?_ ?_|(apply hKK;clear hKK KK)));all_goals first|refine Hold.mk ?_|omega|with_reducible assumption|(simp only [InR] at *;omega)|skip))
            ((try refine CallT.toA ?_); refine callT_m (by first | exact .inl ⟨rfl, rfl⟩ | exact .inr rfl) (by simp [go_sem]) ?_; intro args ha; simp [go_sem] at ha; subst ha; refine ⟨_, M2, ?_⟩; rintro _ rfl; simp [go_sem]; ((repeat' (first|(refine ag_x ?_;simp [go_sem])|refine adr_nil ?_|refine adr_two ?_ ?_|refine adr_kq ?_ ?_|refine adr_three ?_ ?_ ?_|refine adr_four ?_ ?_ ?_ ?_|refine adr_kp2 ?_ ?_|refine adr_kp3 ?_ ?_ ?_|((first|refine adr_qs fun KK hKK=>?_|refine adr_y fun KK hKK=>?_);simp [go_sem])|intro _|refine And.intro ?_ ?_|(apply hKK;clear hKK KK)));all_goals first|refine Hold.mk ?_|omega|with_reducible assumption|(simp only [InR] at *;omega)|skip))
            ((try refine CallT.toA ?_); refine callT_m (by first | exact .inl ⟨rfl, rfl⟩ | exact .inr rfl) (by simp [go_sem]) ?_; intro args ha; simp [go_sem] at ha; subst ha; refine ⟨_, D2, ?_⟩; rintro _ rfl; simp [go_sem]; ((repeat' (first|(refine ag_x ?_;simp [go_sem])|refine adr_nil ?_|refine adr_two ?_ ?_|refine adr_kq ?_ ?_|refine adr_three ?_ ?_ ?_|refine adr_four ?_ ?_ ?_ ?_|refine adr_kp2 ?_ ?_|refine adr_kp3 ?_ ?_ ?_|((first|refine adr_qs fun KK hKK=>?_|refine adr_y fun KK hKK=>?_);simp [go_sem])|intro _|refine And.intro ?_ ?_|(apply hKK;clear hKK KK)));all_goals first|refine Hold.mk ?_|omega|with_reducible assumption|(simp only [InR] at *;omega)|skip))
            refine tl10 _ o' (by omega) hp ?_
            (refine cov_of ?_ ?_ <;> simp [go_sem])
          · rw [if_neg (by omega)] at hp
            refine awp_skip ?_
            refine tl10 _ o so hp ?_
            (refine cov_of ?_ ?_ <;> simp [go_sem])
        · refine awp_exit ?_
          simp only [go_sem]
          refine hK3 _ ?_; clear hK3
          have hi0 : i = 0 := by omega
          subst hi0
          rw [modG_zero] at hp
          rw [← hp]
          have T := rtold_spec o (by omega)
          have hl := long_iff o
          rw [if_pos (by omega)] at T
          (refine awp_sr fun KK hKK => ?_; simp [go_sem]; ((repeat' (first|(refine ag_x ?_;simp [go_sem])|intro _|refine And.intro ?_ ?_|(apply hKK;clear hKK KK)));all_goals first|refine Hold.mk ?_|omega|with_reducible assumption|(simp only [InR] at *;omega)|skip))
          ((try refine CallT.toA ?_); refine callT_m (by first | exact .inl ⟨rfl, rfl⟩ | exact .inr rfl) (by simp [go_sem]) ?_; intro args ha; simp [go_sem] at ha; subst ha; refine ⟨_, T, ?_⟩; rintro _ rfl; simp [go_sem]; ((repeat' (first|(refine ag_x ?_;simp [go_sem])|intro _|refine And.intro ?_ ?_|(apply hKK;clear hKK KK)));all_goals first|refine Hold.mk ?_|omega|with_reducible assumption|(simp only [InR] at *;omega)|skip))
          (refine awp_ret ?_; simp [go_sem])
      clear hK4
      ((refine awp_d (.qs [0, 2] (.kp3 1 (.kp3 3 (.qs [4, 5, 6] (.kp2 7 (.kp 8 (.one 9 (.one 10 (.nil)))) 8 (.kp 7 (.one 9 (.one 10 (.nil)))))) 7 (.kp2 3 (.qs [4, 5, 6] (.kp 8 (.one 9 (.one 10 (.nil))))) 8 (.kp 3 (.qs [4, 5, 6] (.one 9 (.one 10 (.nil)))))) 8 (.kp2 3 (.qs [4, 5, 6] (.kp 7 (.one 9 (.one 10 (.nil))))) 7 (.kp 3 (.qs [4, 5, 6] (.one 9 (.one 10 (.nil))))))) 7 (.kp2 1 (.kp2 3 (.qs [4, 5, 6] (.kp 8 (.one 9 (.one 10 (.nil))))) 8 (.kp 3 (.qs [4, 5, 6] (.one 9 (.one 10 (.nil)))))) 8 (.kp 1 (.kp 3 (.qs [4, 5, 6] (.one 9 (.one 10 (.nil))))))) 8 (.kp2 1 (.kp2 3 (.qs [4, 5, 6] (.kp 7 (.one 9 (.one 10 (.nil))))) 7 (.kp 3 (.qs [4, 5, 6] (.one 9 (.one 10 (.nil)))))) 7 (.kp 1 (.kp 3 (.qs [4, 5, 6] (.one 9 (.one 10 (.nil))))))))) (by kernel_rfl) ?_ ?_ ?_ ?_); (kernel_rfl); (exact (by decide +kernel)); (kernel_rfl); intro KK hKK; ((repeat' (first|(refine ag_x ?_;simp [go_sem])|refine adr_nil ?_|refine adr_two ?_ ?_|refine adr_kq ?_ ?_|refine adr_three ?_ ?_ ?_|refine adr_four ?_ ?_ ?_ ?_|refine adr_kp2 ?_ ?_|refine adr_kp3 ?_ ?_ ?_|((first|refine adr_qs fun KK hKK=>?_|refine adr_y fun KK hKK=>?_);simp [go_sem])|intro _|refine And.intro ?_ ?_|(apply hKK;clear hKK KK)));all_goals first|refine Hold.mk ?_|omega|with_reducible assumption|(simp only [InR] at *;omega)|skip))
      all_goals (repeat' (first | ((try refine CallT.toA ?_); refine callT_m (by first | exact .inl ⟨rfl, rfl⟩ | exact .inr rfl) (by simp [go_sem]) ?_; intro args ha; simp [go_sem] at ha; subst ha; refine ⟨_, r1, ?_⟩; rintro _ rfl; simp [go_sem]; ((repeat' (first|(refine ag_x ?_;simp [go_sem])|refine adr_nil ?_|refine adr_two ?_ ?_|refine adr_kq ?_ ?_|refine adr_three ?_ ?_ ?_|refine adr_four ?_ ?_ ?_ ?_|refine adr_kp2 ?_ ?_|refine adr_kp3 ?_ ?_ ?_|((first|refine adr_qs fun KK hKK=>?_|refine adr_y fun KK hKK=>?_);simp [go_sem])|intro _|refine And.intro ?_ ?_|(apply hKK;clear hKK KK)));all_goals first|refine Hold.mk ?_|omega|with_reducible assumption|(simp only [InR] at *;omega)|skip)) | ((try refine CallT.toA ?_); refine callT_m (by first | exact .inl ⟨rfl, rfl⟩ | exact .inr rfl) (by simp [go_sem]) ?_; intro args ha; simp [go_sem] at ha; subst ha; refine ⟨_, d1, ?_⟩; rintro _ rfl; simp [go_sem]; ((repeat' (first|(refine ag_x ?_;simp [go_sem])|refine adr_nil ?_|refine adr_two ?_ ?_|refine adr_kq ?_ ?_|refine adr_three ?_ ?_ ?_|refine adr_four ?_ ?_ ?_ ?_|refine adr_kp2 ?_ ?_|refine adr_kp3 ?_ ?_ ?_|((first|refine adr_qs fun KK hKK=>?_|refine adr_y fun KK hKK=>?_);simp [go_sem])|intro _|refine And.intro ?_ ?_|(apply hKK;clear hKK KK)));all_goals first|refine Hold.mk ?_|omega|with_reducible assumption|(simp only [InR] at *;omega)|skip))))
      all_goals (rename_i ga gb; first | (refine tl4 _ ga ?_; (refine cov_of ?_ ?_ <;> simp [go_sem]); done) | (refine tl4 _ gb ?_; (refine cov_of ?_ ?_ <;> simp [go_sem]); done))
theorem resP_tup (a : List UInt8) (n : Int) : ∃ x e, resP a n = .tup [dS x, dI e] := by
  unfold resP; split
  · split <;> exact ⟨_, _, rfl⟩
  · exact ⟨_, _, rfl⟩
theorem resM_tup (a : List UInt8) (n : Int) (m : List UInt8) : ∃ x e, resM a n m = .tup [dS x, dI e] := by
  unfold resM; split <;> exact ⟨_, _, rfl⟩
set_option maxHeartbeats 8000000 in
theorem law_powers (A M : List Int) (S T : List UInt8) (n : Int) (hn0 : -9223372036854775808 ≤ n) (hn1 : n ≤ 9223372036854775807) (hA : inr64 A) (hM : inr64 M) : PCall Tryz.prog 3 [.agg [dIs A, dIs M, dS S, dS T, dI n]] fun r => r = dB true := by 
  refine pcall_of Tryz.func3 rfl rfl Tryz.ntmps3 (rs := [.tmp 2]) (tys := [4]) rfl rfl (by simp) ?_
  have L := long2 S T
  (refine awp_sr fun KK hKK => ?_; simp [go_sem]; ((repeat' (first|(refine ag_x ?_;simp [go_sem])|intro _|refine And.intro ?_ ?_|(apply hKK;clear hKK KK)));all_goals first|refine Hold.mk ?_|omega|with_reducible assumption|(simp only [InR] at *;omega)|skip))
  refine awp_seq_k fun K1 hK1 => ?_
  (refine awp_sr fun KK hKK => ?_; simp [go_sem]; ((repeat' (first|(refine ag_x ?_;simp [go_sem])|intro _|refine And.intro ?_ ?_|(apply hKK;clear hKK KK)));all_goals first|refine Hold.mk ?_|omega|with_reducible assumption|(simp only [InR] at *;omega)|skip))
  ((try refine CallT.toA ?_); refine callT_z (by first | exact .inl ⟨rfl, rfl⟩ | exact .inr rfl) rfl (by simp [go_sem]) (by simp [go_sem]) ?_; intro args ha; simp [go_sem] at ha; subst ha; refine ⟨_, L, ?_⟩; rintro _ rfl; simp [go_sem]; ((repeat' (first|(refine ag_x ?_;simp [go_sem])|intro _|refine And.intro ?_ ?_|(apply hKK;clear hKK KK)));all_goals first|refine Hold.mk ?_|omega|with_reducible assumption|(simp only [InR] at *;omega)|skip))
  (refine awp_if fun T F hT hF => ?_; simp [go_sem]; refine BR.intro (fun h2 => hT ?_) (fun h2 => hF ?_); all_goals clear hT hF T F; try simp at h2) 
  · (refine awp_sr fun KK hKK => ?_; simp [go_sem]; ((repeat' (first|(refine ag_x ?_;simp [go_sem])|intro _|refine And.intro ?_ ?_|(apply hKK;clear hKK KK)));all_goals first|refine Hold.mk ?_|omega|with_reducible assumption|(simp only [InR] at *;omega)|skip))
    ((try refine CallT.toA ?_); refine callT_m (by first | exact .inl ⟨rfl, rfl⟩ | exact .inr rfl) (by simp [go_sem]) ?_; intro args ha; simp [go_sem] at ha; subst ha; refine ⟨_, sane_ok, ?_⟩; rintro _ rfl; simp [go_sem]; ((repeat' (first|(refine ag_x ?_;simp [go_sem])|intro _|refine And.intro ?_ ?_|(apply hKK;clear hKK KK)));all_goals first|refine Hold.mk ?_|omega|with_reducible assumption|(simp only [InR] at *;omega)|skip))
    (refine awp_ret ?_; simp [go_sem])
  · refine awp_skip ?_
    refine hK1 _ ?_; clear hK1
    have MA := MadeF A 30 hA (by decide) (by decide)
    have MM := MadeF M 30 hM (by decide) (by decide)
    have kA := made_len A (m := 30) (by decide) (by decide)
    have kM := made_len M (m := 30) (by decide) (by decide)
    generalize Lib.itoa (madeN A 30) = a at *
    generalize Lib.itoa (madeN M 30) = m at *
    ((refine awp_dr (.qs [0, 2, 5, 8, 1, 3, 4, 6, 9] (.kp 7 (.kp 10 (.qs [11] (.kp 12 (.qs [13] (.nil))))))) (by kernel_rfl) ?_ ?_ ?_ ?_); (kernel_rfl); (exact (by decide +kernel)); (kernel_rfl); intro KK hKK; ((repeat' (first|(refine ag_x ?_;simp [go_sem])|refine adr_nil ?_|refine adr_two ?_ ?_|refine adr_kq ?_ ?_|refine adr_three ?_ ?_ ?_|refine adr_four ?_ ?_ ?_ ?_|refine adr_kp2 ?_ ?_|refine adr_kp3 ?_ ?_ ?_|((first|refine adr_qs fun KK hKK=>?_|refine adr_y fun KK hKK=>?_);simp [go_sem])|intro _|refine And.intro ?_ ?_|(apply hKK;clear hKK KK)));all_goals first|refine Hold.mk ?_|omega|with_reducible assumption|(simp only [InR] at *;omega)|skip))
    ((try refine CallT.toA ?_); refine callT_m (by first | exact .inl ⟨rfl, rfl⟩ | exact .inr rfl) (by simp [go_sem]) ?_; intro args ha; simp [go_sem] at ha; subst ha; refine ⟨_, MA, ?_⟩; rintro _ rfl; simp [go_sem]; ((repeat' (first|(refine ag_x ?_;simp [go_sem])|refine adr_nil ?_|refine adr_two ?_ ?_|refine adr_kq ?_ ?_|refine adr_three ?_ ?_ ?_|refine adr_four ?_ ?_ ?_ ?_|refine adr_kp2 ?_ ?_|refine adr_kp3 ?_ ?_ ?_|((first|refine adr_qs fun KK hKK=>?_|refine adr_y fun KK hKK=>?_);simp [go_sem])|intro _|refine And.intro ?_ ?_|(apply hKK;clear hKK KK)));all_goals first|refine Hold.mk ?_|omega|with_reducible assumption|(simp only [InR] at *;omega)|skip))
    ((try refine CallT.toA ?_); refine callT_m (by first | exact .inl ⟨rfl, rfl⟩ | exact .inr rfl) (by simp [go_sem]) ?_; intro args ha; simp [go_sem] at ha; subst ha; refine ⟨_, MM, ?_⟩; rintro _ rfl; simp [go_sem]; ((repeat' (first|(refine ag_x ?_;simp [go_sem])|refine adr_nil ?_|refine adr_two ?_ ?_|refine adr_kq ?_ ?_|refine adr_three ?_ ?_ ?_|refine adr_four ?_ ?_ ?_ ?_|refine adr_kp2 ?_ ?_|refine adr_kp3 ?_ ?_ ?_|((first|refine adr_qs fun KK hKK=>?_|refine adr_y fun KK hKK=>?_);simp [go_sem])|intro _|refine And.intro ?_ ?_|(apply hKK;clear hKK KK)));all_goals first|refine Hold.mk ?_|omega|with_reducible assumption|(simp only [InR] at *;omega)|skip))
    refine awp_seq_k fun K3 hK3 => ?_
    (refine awp_sr fun KK hKK => ?_; simp [go_sem]; ((repeat' (first|(refine ag_x ?_;simp [go_sem])|intro _|refine And.intro ?_ ?_|(apply hKK;clear hKK KK)));all_goals first|refine Hold.mk ?_|omega|with_reducible assumption|(simp only [InR] at *;omega)|skip))
    refine awp_block ?_
    rename_i gx g19 gl
    have hk1 := u64_mod n (m := 1001) (by decide)
    have hk2 := u64_mod n (m := 30) (by decide)
    have hkm : (IntKind.u64.wrap n).tmod 1001 ≤ 9223372036854775807 := by omega
    have hkn : (IntKind.u64.wrap n).tmod 30 ≤ 9223372036854775807 := by omega
    obtain ⟨rows, hrows⟩ : ∃ rows, rows = [[dS S, dS T], [dS a, dS m]] := ⟨_, rfl⟩
    refine awp_loop (σ := Nat) (fun x => ⟨[(1, .ptr 1 gx 0), (3, .own 34 gl), (4, dI x)], [(34, gl, .row 27 2 rows), (1, gx, .box [dIs A, dIs M, dS S, dS T, dI n])]⟩) (fun x => x ≤ 2) (fun x => 2 - x) 0 ?_ ?_ ?_
    · (refine cov_of ?_ ?_ <;> simp [go_sem, hrows])
    · simp
    intro i hi
    have hl : rows.length = 2 := by rw [hrows]; rfl
    refine awp_seq_k fun K4 hK4 => ?_
    (refine awp_sr fun KK hKK => ?_; simp [go_sem, hl]; ((repeat' (first|(refine ag_x ?_;simp [go_sem, hl])|intro _|refine And.intro ?_ ?_|(apply hKK;clear hKK KK)));all_goals first|refine Hold.mk ?_|omega|with_reducible assumption|(simp only [InR] at *;omega)|skip))
    (refine awp_if fun T F hT hF => ?_; simp [go_sem]; refine BR.intro (fun h5 => hT ?_) (fun h5 => hF ?_); all_goals clear hT hF T F; try simp at h5) 
    · refine awp_skip ?_
      refine hK4 _ ?_; clear hK4
      obtain ⟨u, v, hu, hv, hr⟩ : ∃ u v : List UInt8, u.length ≤ 1000000000 ∧ v.length ≤ 1000000000 ∧ rows[i]? = some [dS u, dS v] := by
        obtain rfl | rfl : i = 0 ∨ i = 1 := by omega
        · exact ⟨S, T, by omega, by omega, by rw [hrows]; rfl⟩
        · exact ⟨a, m, kA, kM, by rw [hrows]; rfl⟩
      refine awp_seq_k fun K6 hK6 => ?_
      refine awp_block ?_
      (refine awp_sr fun KK hKK => ?_; simp [go_sem]; ((repeat' (first|(refine ag_x ?_;simp [go_sem])|intro _|refine And.intro ?_ ?_|(apply hKK;clear hKK KK)));all_goals first|refine Hold.mk ?_|omega|with_reducible assumption|(simp only [InR] at *;omega)|skip))
      (refine awp_sr fun KK hKK => ?_; simp [go_sem]; ((repeat' (first|(refine ag_x ?_;simp [go_sem])|intro _|refine And.intro ?_ ?_|(apply hKK;clear hKK KK)));all_goals first|refine Hold.mk ?_|omega|with_reducible assumption|(simp only [InR] at *;omega)|skip))
      refine awp_block ?_
      rename_i gn
      obtain ⟨ns, hns⟩ : ∃ ns, ns = [[dI n], [dI ((IntKind.u64.wrap n).tmod 1001)], [dI ((IntKind.u64.wrap n).tmod 30)]] := ⟨_, rfl⟩
      have hnl : ns.length = 3 := by rw [hns]; rfl
      refine awp_loop (σ := Nat) (fun x => ⟨[(1, .ptr 1 gx 0), (3, .own 34 gl), (4, dI i), (5, .own 53 gn), (6, dI x)], [(53, gn, .row 3 1 ns), (34, gl, .row 27 2 rows), (1, gx, .box [dIs A, dIs M, dS S, dS T, dI n])]⟩) (fun x => x ≤ 3) (fun x => 3 - x) 0 ?_ ?_ ?_
      · (refine cov_of ?_ ?_ <;> simp [go_sem, hns])
      · simp
      intro k hk
      refine awp_seq_k fun K7 hK7 => ?_
      (refine awp_sr fun KK hKK => ?_; simp [go_sem, hnl]; ((repeat' (first|(refine ag_x ?_;simp [go_sem, hnl])|intro _|refine And.intro ?_ ?_|(apply hKK;clear hKK KK)));all_goals first|refine Hold.mk ?_|omega|with_reducible assumption|(simp only [InR] at *;omega)|skip))
      (refine awp_if fun T F hT hF => ?_; simp [go_sem]; refine BR.intro (fun h8 => hT ?_) (fun h8 => hF ?_); all_goals clear hT hF T F; try simp at h8) 
      · refine awp_skip ?_
        refine hK7 _ ?_; clear hK7
        obtain ⟨w, hw⟩ : ∃ w : Int, ns[k]? = some [dI w] := by
          obtain rfl | rfl | rfl : k = 0 ∨ k = 1 ∨ k = 2 := by omega
          all_goals exact ⟨_, by rw [hns]; rfl⟩
        obtain ⟨x1, e1, p1⟩ := resP_tup u w
        obtain ⟨x2, e2, p2⟩ := resM_tup u w v
        have P1 := Pow_spec u w hu
        have P2 := rPow_spec u w hu
        have M1 := Mod_spec u w v hu hv
        have M2 := rMod_spec u w v hu hv
        rw [p1] at P1 P2
        rw [p2] at M1 M2
        refine awp_seq_k fun K9 hK9 => ?_
        refine awp_block ?_
        ((refine awp_dr (.qs [0, 1, 2, 3, 5, 6, 7, 4, 8] (.one 9 (.qs [10, 11, 12, 13, 14] (.nil)))) (by kernel_rfl) ?_ ?_ ?_ ?_); (kernel_rfl); (exact (by decide +kernel)); (kernel_rfl); intro KK hKK; ((repeat' (first|(refine ag_x ?_;simp [go_sem, hr, hw])|refine adr_nil ?_|refine adr_two ?_ ?_|refine adr_kq ?_ ?_|refine adr_three ?_ ?_ ?_|refine adr_four ?_ ?_ ?_ ?_|refine adr_kp2 ?_ ?_|refine adr_kp3 ?_ ?_ ?_|((first|refine adr_qs fun KK hKK=>?_|refine adr_y fun KK hKK=>?_);simp [go_sem, hr, hw])|intro _|refine And.intro ?_ ?_|(apply hKK;clear hKK KK)));all_goals first|refine Hold.mk ?_|omega|with_reducible assumption|(simp only [InR] at *;omega)|skip))
        ((try refine CallT.toA ?_); refine callT_m (by first | exact .inl ⟨rfl, rfl⟩ | exact .inr rfl) (by simp [go_sem]) ?_; intro args ha; simp [go_sem] at ha; subst ha; refine ⟨_, P1, ?_⟩; rintro _ rfl; simp [go_sem, hr, hw]; ((repeat' (first|(refine ag_x ?_;simp [go_sem, hr, hw])|refine adr_nil ?_|refine adr_two ?_ ?_|refine adr_kq ?_ ?_|refine adr_three ?_ ?_ ?_|refine adr_four ?_ ?_ ?_ ?_|refine adr_kp2 ?_ ?_|refine adr_kp3 ?_ ?_ ?_|((first|refine adr_qs fun KK hKK=>?_|refine adr_y fun KK hKK=>?_);simp [go_sem, hr, hw])|intro _|refine And.intro ?_ ?_|(apply hKK;clear hKK KK)));all_goals first|refine Hold.mk ?_|omega|with_reducible assumption|(simp only [InR] at *;omega)|skip))
        ((refine awp_dr (.qs [0, 1, 2, 3, 5, 6, 7, 4, 8] (.one 9 (.qs [10, 11, 12, 13, 14] (.nil)))) (by kernel_rfl) ?_ ?_ ?_ ?_); (kernel_rfl); (exact (by decide +kernel)); (kernel_rfl); intro KK hKK; ((repeat' (first|(refine ag_x ?_;simp [go_sem, hr, hw])|refine adr_nil ?_|refine adr_two ?_ ?_|refine adr_kq ?_ ?_|refine adr_three ?_ ?_ ?_|refine adr_four ?_ ?_ ?_ ?_|refine adr_kp2 ?_ ?_|refine adr_kp3 ?_ ?_ ?_|((first|refine adr_qs fun KK hKK=>?_|refine adr_y fun KK hKK=>?_);simp [go_sem, hr, hw])|intro _|refine And.intro ?_ ?_|(apply hKK;clear hKK KK)));all_goals first|refine Hold.mk ?_|omega|with_reducible assumption|(simp only [InR] at *;omega)|skip))
        ((try refine CallT.toA ?_); refine callT_m (by first | exact .inl ⟨rfl, rfl⟩ | exact .inr rfl) (by simp [go_sem]) ?_; intro args ha; simp [go_sem] at ha; subst ha; refine ⟨_, P2, ?_⟩; rintro _ rfl; simp [go_sem, hr, hw]; ((repeat' (first|(refine ag_x ?_;simp [go_sem, hr, hw])|refine adr_nil ?_|refine adr_two ?_ ?_|refine adr_kq ?_ ?_|refine adr_three ?_ ?_ ?_|refine adr_four ?_ ?_ ?_ ?_|refine adr_kp2 ?_ ?_|refine adr_kp3 ?_ ?_ ?_|((first|refine adr_qs fun KK hKK=>?_|refine adr_y fun KK hKK=>?_);simp [go_sem, hr, hw])|intro _|refine And.intro ?_ ?_|(apply hKK;clear hKK KK)));all_goals first|refine Hold.mk ?_|omega|with_reducible assumption|(simp only [InR] at *;omega)|skip))
        ((refine awp_dr (.qs [0, 1, 2, 3, 5, 6, 7, 9, 10, 11, 12, 4, 8, 13] (.one 14 (.qs [15, 16, 17, 18, 19] (.nil)))) (by kernel_rfl) ?_ ?_ ?_ ?_); (kernel_rfl); (exact (by decide +kernel)); (kernel_rfl); intro KK hKK; ((repeat' (first|(refine ag_x ?_;simp [go_sem, hr, hw])|refine adr_nil ?_|refine adr_two ?_ ?_|refine adr_kq ?_ ?_|refine adr_three ?_ ?_ ?_|refine adr_four ?_ ?_ ?_ ?_|refine adr_kp2 ?_ ?_|refine adr_kp3 ?_ ?_ ?_|((first|refine adr_qs fun KK hKK=>?_|refine adr_y fun KK hKK=>?_);simp [go_sem, hr, hw])|intro _|refine And.intro ?_ ?_|(apply hKK;clear hKK KK)));all_goals first|refine Hold.mk ?_|omega|with_reducible assumption|(simp only [InR] at *;omega)|skip))
        ((try refine CallT.toA ?_); refine callT_m (by first | exact .inl ⟨rfl, rfl⟩ | exact .inr rfl) (by simp [go_sem]) ?_; intro args ha; simp [go_sem] at ha; subst ha; refine ⟨_, M1, ?_⟩; rintro _ rfl; simp [go_sem, hr, hw]; ((repeat' (first|(refine ag_x ?_;simp [go_sem, hr, hw])|refine adr_nil ?_|refine adr_two ?_ ?_|refine adr_kq ?_ ?_|refine adr_three ?_ ?_ ?_|refine adr_four ?_ ?_ ?_ ?_|refine adr_kp2 ?_ ?_|refine adr_kp3 ?_ ?_ ?_|((first|refine adr_qs fun KK hKK=>?_|refine adr_y fun KK hKK=>?_);simp [go_sem, hr, hw])|intro _|refine And.intro ?_ ?_|(apply hKK;clear hKK KK)));all_goals first|refine Hold.mk ?_|omega|with_reducible assumption|(simp only [InR] at *;omega)|skip))
        ((refine awp_dr (.qs [0, 1, 2, 3, 5, 6, 7, 9, 10, 11, 12, 4, 8, 13] (.one 14 (.qs [15, 16, 17, 18, 19] (.nil)))) (by kernel_rfl) ?_ ?_ ?_ ?_); (kernel_rfl); (exact (by decide +kernel)); (kernel_rfl); intro KK hKK; ((repeat' (first|(refine ag_x ?_;simp [go_sem, hr, hw])|refine adr_nil ?_|refine adr_two ?_ ?_|refine adr_kq ?_ ?_|refine adr_three ?_ ?_ ?_|refine adr_four ?_ ?_ ?_ ?_|refine adr_kp2 ?_ ?_|refine adr_kp3 ?_ ?_ ?_|((first|refine adr_qs fun KK hKK=>?_|refine adr_y fun KK hKK=>?_);simp [go_sem, hr, hw])|intro _|refine And.intro ?_ ?_|(apply hKK;clear hKK KK)));all_goals first|refine Hold.mk ?_|omega|with_reducible assumption|(simp only [InR] at *;omega)|skip))
        ((try refine CallT.toA ?_); refine callT_m (by first | exact .inl ⟨rfl, rfl⟩ | exact .inr rfl) (by simp [go_sem]) ?_; intro args ha; simp [go_sem] at ha; subst ha; refine ⟨_, M2, ?_⟩; rintro _ rfl; simp [go_sem, hr, hw]; ((repeat' (first|(refine ag_x ?_;simp [go_sem, hr, hw])|refine adr_nil ?_|refine adr_two ?_ ?_|refine adr_kq ?_ ?_|refine adr_three ?_ ?_ ?_|refine adr_four ?_ ?_ ?_ ?_|refine adr_kp2 ?_ ?_|refine adr_kp3 ?_ ?_ ?_|((first|refine adr_qs fun KK hKK=>?_|refine adr_y fun KK hKK=>?_);simp [go_sem, hr, hw])|intro _|refine And.intro ?_ ?_|(apply hKK;clear hKK KK)));all_goals first|refine Hold.mk ?_|omega|with_reducible assumption|(simp only [InR] at *;omega)|skip))
        (refine awp_sr fun KK hKK => ?_; simp [go_sem]; ((repeat' (first|(refine ag_x ?_;simp [go_sem])|intro _|refine And.intro ?_ ?_|(apply hKK;clear hKK KK)));all_goals first|refine Hold.mk ?_|omega|with_reducible assumption|(simp only [InR] at *;omega)|skip))
        (refine awp_if fun T F hT hF => ?_; simp [go_sem]; refine hF ?_; clear hT hF T F)
        refine awp_skip ?_
        refine hK9 _ ?_; clear hK9
        (refine awp_r fun KK hKK => ?_; simp [go_sem]; ((repeat' (first|(refine ag_x ?_;simp [go_sem])|intro _|refine And.intro ?_ ?_|(apply hKK;clear hKK KK)));all_goals first|refine Hold.mk ?_|omega|with_reducible assumption|(simp only [InR] at *;omega)|skip))
        refine ⟨k + 1, ?_, ?_, ?_⟩
        · (refine cov_of ?_ ?_ <;> simp [go_sem])
        · omega
        · omega
      · refine awp_exit ?_
        simp only [go_sem]
        refine hK6 _ ?_; clear hK6
        (refine awp_r fun KK hKK => ?_; simp [go_sem]; ((repeat' (first|(refine ag_x ?_;simp [go_sem])|intro _|refine And.intro ?_ ?_|(apply hKK;clear hKK KK)));all_goals first|refine Hold.mk ?_|omega|with_reducible assumption|(simp only [InR] at *;omega)|skip))
        refine ⟨i + 1, ?_, ?_, ?_⟩
        · (refine cov_of ?_ ?_ <;> simp [go_sem])
        · omega
        · omega
    · refine awp_exit ?_
      simp only [go_sem]
      refine hK3 _ ?_; clear hK3
      (refine awp_sr fun KK hKK => ?_; simp [go_sem]; ((repeat' (first|(refine ag_x ?_;simp [go_sem])|intro _|refine And.intro ?_ ?_|(apply hKK;clear hKK KK)));all_goals first|refine Hold.mk ?_|omega|with_reducible assumption|(simp only [InR] at *;omega)|skip))
      ((try refine CallT.toA ?_); refine callT_m (by first | exact .inl ⟨rfl, rfl⟩ | exact .inr rfl) (by simp [go_sem]) ?_; intro args ha; simp [go_sem] at ha; subst ha; refine ⟨_, sane_ok, ?_⟩; rintro _ rfl; simp [go_sem]; ((repeat' (first|(refine ag_x ?_;simp [go_sem])|intro _|refine And.intro ?_ ?_|(apply hKK;clear hKK KK)));all_goals first|refine Hold.mk ?_|omega|with_reducible assumption|(simp only [InR] at *;omega)|skip))
      (refine awp_ret ?_; simp [go_sem])
end Go.Proofs.YtglncfhcgkihbaaGreatDoor
