/- Part of a proof: see the last text. -/
import Derived.Test.YtelhdhofnohkcaaGreatDoorG10
import Derived.Test.YtelhdhofnohkcaaGreatDoorG05
import Derived.Test.YtelhdhofnohkcaaGreatDoorG06
import Derived.Test.YtelhdhofnohkcaaGreatDoorG08
import Derived.Test.YtelhdhofnohkcaaGreatDoorG07
set_option linter.unusedVariables false
set_option linter.unusedSimpArgs false
namespace Go.Proofs.YtelhdhofnohkcaaGreatDoor
open Go.Eng Go.RowKit Go.Sort Go.Fm
set_option maxRecDepth 20000
attribute [local irreducible] AG CallA CallT AWp PCall ACall AgC
theorem count_spec (s : Bs) (c : UInt8) : PCall Tryz.prog 80 [dS s, dS [c]] fun r => r = dI (s.count c : Nat) := by
 refine pcall_below ⟨_, Tryz.func80, rfl, rfl⟩ fun C w us hc' hg hr => ?_
 obtain rfl := repL_v (us := [.string ⟨s.toArray⟩, .string ⟨[c].toArray⟩]) hr
 refine (Tryz.strings_Count_one ⟨s.toArray⟩ c w).mono ?_
 rintro e w' ⟨rfl, rfl⟩
 exact ⟨_, _, rfl, by simp [Lib.countByte], .v _, Below.refl _ _⟩
theorem tb_at {c : Nat} (h : c < 256) : TB.drop c = (if c = 92 ∨ c = 34 ∨ c = 10 then .sl 1 (escN c) else .v (.slice none 0 0)) :: TB.drop (c + 1) := by
 have := tb_get [92, 34, 10] (.sl 1 (toL 3)) h
 unfold TB
 rw [this]
 simp
theorem spc_nat (c : UInt8) : spc c = true ↔ (c.toNat = 92 ∨ c.toNat = 34 ∨ c.toNat = 10) := by
 simp only [spc, Bool.or_eq_true, beq_iff_eq, ← UInt8.toNat_inj]
 have h1 : (10 : UInt8).toNat = 10 := rfl
 have h2 : (34 : UInt8).toNat = 34 := rfl
 have h3 : (92 : UInt8).toNat = 92 := rfl
 omega
theorem tb_ln : TB.length = 257 := tb_len _ _
theorem tb_rows : TB.drop 256 = [.sl 1 [[dS [10]], [dS [34]], [dS [92]]]] := tb_256 _ _
def bufD (o : Bs) (n : Nat) : List (List D) := (o.map fun c => [D.v (.int .u8 (c.toNat : Int))]) ++ List.replicate n [D.v (.int .u8 0)]
theorem bufD_len (o : Bs) (n : Nat) : (bufD o n).length = o.length + n := by simp [bufD]
theorem bufD_set (o : Bs) (n : Nat) (c : UInt8) : (bufD o (n + 1)).set o.length [D.v (.int .u8 (c.toNat : Int))] = bufD (o ++ [c]) n := by
 unfold bufD
 rw [List.set_append_right _ _ (by simp)]
 simp [List.replicate_succ]
theorem bufD_get (o : Bs) (n : Nat) : (bufD o (n + 1))[o.length]? = some [D.v (.int .u8 0)] := by
 unfold bufD
 rw [List.getElem?_append_right (by simp)]
 simp
theorem bufD_put2 (o : Bs) (n : Nat) (c : UInt8) : (bufD o (n + 2)).take o.length ++ [D.v (.int .u8 92)] :: [D.v (.int .u8 (c.toNat : Int))] :: (bufD o (n + 2)).drop (o.length + 2) = bufD (o ++ [92, c]) n := by
 unfold bufD
 rw [List.take_append_of_le_length (by simp), List.take_of_length_le (by simp), List.drop_append, List.drop_eq_nil_of_le (by simp)]
 simp [List.replicate_succ]
theorem esc_e (c : UInt8) : ((if c.toNat = 10 then 110 else (c.toNat : Int)) : Int) = (((if c = 10 then 110 else c) : UInt8).toNat : Int) := by
 have h1 : (10 : UInt8).toNat = 10 := rfl
 by_cases h : c = 10
 ·subst h; rfl
 ·rw [if_neg h, if_neg (fun q => h (UInt8.toNat_inj.1 (by omega)))]
def preV (s : Bs) : Nat → Nat
 | 0 => 0
 | 1 => s.count 10
 | 2 => s.count 10 + s.count 34
 | _ => s.count 10 + s.count 34 + s.count 92
theorem preV_1 (s : Bs) : preV s 1 = preV s 0 + s.count 10 := by simp [preV]
theorem preV_2 (s : Bs) : preV s 2 = preV s 1 + s.count 34 := rfl
theorem preV_3 (s : Bs) : preV s 3 = preV s 2 + s.count 92 := rfl
theorem preV_le (s : Bs) (k : Nat) : preV s k ≤ 3 * s.length := by
 have h1 := List.count_le_length (a := (10 : UInt8)) (l := s)
 have h2 := List.count_le_length (a := (34 : UInt8)) (l := s)
 have h3 := List.count_le_length (a := (92 : UInt8)) (l := s)
 unfold preV; split <;> omega
set_option maxHeartbeats 8000000 in
theorem brep_spec (g : Nat) (s : Bs) (hl : s.length ≤ 1100000) : ACall Tryz.prog 249 [.ptr 900012 g 0, dS s] [(900012, (g, .box TB))] [900012] fun ps r => ps = [(g, .box TB)] ∧ r = dS (qF s) := by 
 refine acall_of Tryz.func249 rfl rfl Tryz.ntmps249 (rs := [.tmp 4]) (tys := [9]) rfl rfl (by simp) (by simp [notFroz]) ?_
 have hln := tb_ln
 have hrow := tb_rows
 have hat := fun (c : UInt8) => tb_at (c := c.toNat) (by have := c.toNat_lt; omega)
 have hc10 := count_spec s 10
 have hc34 := count_spec s 34
 have hc92 := count_spec s 92
 have hparts := cntS_parts s
 have hcl := cntS_le s
 generalize TB = T at *
 (refine awp_sr fun Y Yh => ?_; simp [go_sem]; ((repeat' (first|(refine ag_x ?_;simp [go_sem])|intro _|apply And.intro|(apply Yh;clear Yh Y)));all_goals first|apply Hold.mk|omega|with_reducible assumption|skip))
 (refine awp_sr fun Y Yh => ?_; simp [go_sem, ba_size]; ((repeat' (first|(refine ag_x ?_;simp [go_sem, ba_size])|intro _|apply And.intro|(apply Yh;clear Yh Y)));all_goals first|apply Hold.mk|omega|with_reducible assumption|skip))
 (refine awp_sr fun Y Yh => ?_; simp [go_sem]; ((repeat' (first|(refine ag_x ?_;simp [go_sem])|intro _|apply And.intro|(apply Yh;clear Yh Y)));all_goals first|apply Hold.mk|omega|with_reducible assumption|skip))
 refine awp_seq_k fun K1 hK1 => ?_
 have tl1 : ∀ S', Cov S' ⟨[(0, .ptr 900012 g 0), (1, dS s), (5, dI (s.length + cntS s : Nat)), (6, dB (decide (cntS s ≠ 0)))], [(900012, (g, .box T))]⟩ → K1 S' := fun S' hS => by
  refine hK1 _ ?_; clear hK1
  refine awp_cov hS ?_; clear hS
  refine awp_seq_k fun K2 hK2 => ?_
  by_cases h0 : cntS s = 0
  ·rw [qF_none h0]
   (refine awp_sr fun Y Yh => ?_; simp [go_sem, h0]; ((repeat' (first|(refine ag_x ?_;simp [go_sem, h0])|intro _|apply And.intro|(apply Yh;clear Yh Y)));all_goals first|apply Hold.mk|omega|with_reducible assumption|skip))
   (refine awp_if fun T F hT hF => ?_; simp [go_sem]; refine hT ?_; clear hT hF T F)
   (refine awp_sr fun Y Yh => ?_; simp [go_sem]; ((repeat' (first|(refine ag_x ?_;simp [go_sem])|intro _|apply And.intro|(apply Yh;clear Yh Y)));all_goals first|apply Hold.mk|omega|with_reducible assumption|skip))
   (refine awp_ret ?_; simp [go_sem])
  ·have hql := qF_len s
   (refine awp_sr fun Y Yh => ?_; simp [go_sem, h0]; ((repeat' (first|(refine ag_x ?_;simp [go_sem, h0])|intro _|apply And.intro|(apply Yh;clear Yh Y)));all_goals first|apply Hold.mk|omega|with_reducible assumption|skip))
   (refine awp_if fun T F hT hF => ?_; simp [go_sem]; refine hF ?_; clear hT hF T F)
   refine awp_skip ?_
   refine hK2 _ ?_; clear hK2
   (refine awp_sr fun Y Yh => ?_; simp [go_sem]; ((repeat' (first|(refine ag_x ?_;simp [go_sem])|intro _|apply And.intro|(apply Yh;clear Yh Y)));all_goals first|apply Hold.mk|omega|with_reducible assumption|skip))
   (refine awp_sr fun Y Yh => ?_; simp [go_sem]; ((repeat' (first|(refine ag_x ?_;simp [go_sem])|intro _|apply And.intro|(apply Yh;clear Yh Y)));all_goals first|apply Hold.mk|omega|with_reducible assumption|skip))
   refine awp_seq_k fun K4 hK4 => ?_
   (refine awp_sr fun Y Yh => ?_; simp [go_sem]; ((repeat' (first|(refine ag_x ?_;simp [go_sem])|intro _|apply And.intro|(apply Yh;clear Yh Y)));all_goals first|apply Hold.mk|omega|with_reducible assumption|skip))
   refine awp_block ?_
   have hN : (((s.length : Int) + (cntS s : Int))).toNat = (qF s).length := by omega
   rw [hN]
   rename_i gq
   refine awp_loop (σ := Nat) (fun i => ⟨[(0, .ptr 900012 g 0), (1, dS s), (12, .own 85 gq), (13, dI (qF (s.take i)).length), (14, dI i)], [(900012, (g, .box T)), (85, (gq, .row 5 1 (bufD (qF (s.take i)) ((qF s).length - (qF (s.take i)).length))))]⟩) (fun i => i ≤ s.length) (fun i => s.length - i) 0 ?_ ?_ ?_
   ·(refine cov_of ?_ ?_ <;> simp [go_sem, bufD, qF_nil])
   ·simp
   ·intro i hi
    refine awp_seq_k fun K5 hK5 => ?_
    (refine awp_sr fun Y Yh => ?_; simp [go_sem, ba_size]; ((repeat' (first|(refine ag_x ?_;simp [go_sem, ba_size])|intro _|apply And.intro|(apply Yh;clear Yh Y)));all_goals first|apply Hold.mk|omega|with_reducible assumption|skip))
    by_cases h15 : i < s.length
    ·(refine awp_if fun T F hT hF => ?_; simp [go_sem, h15]; refine hT ?_; clear hT hF T F)
     refine awp_skip ?_
     refine hK5 _ ?_; clear hK5
     refine awp_seq_k fun K7 hK7 => ?_
     have hst := qF_take h15
     have hle := qF_le s (i + 1)
     have hle2 : (qF s).length ≤ 2200000 := by omega
     have tl7 : ∀ S', Cov S' ⟨[(0, .ptr 900012 g 0), (1, dS s), (12, .own 85 gq), (13, dI (qF (s.take (i + 1))).length), (14, dI i)], [(900012, (g, .box T)), (85, (gq, .row 5 1 (bufD (qF (s.take (i + 1))) ((qF s).length - (qF (s.take (i + 1))).length))))]⟩ → K7 S' := fun S' hS => by
      refine hK7 _ ?_; clear hK7
      refine awp_cov hS ?_; clear hS
      (refine awp_r fun Y Yh => ?_; simp [go_sem]; ((repeat' (first|(refine ag_x ?_;simp [go_sem])|intro _|apply And.intro|(apply Yh;clear Yh Y)));all_goals first|apply Hold.mk|omega|with_reducible assumption|skip))
      refine ⟨i + 1, ?_, by omega, by omega⟩
      (refine cov_of ?_ ?_ <;> simp [go_sem])
     clear hK7
     refine awp_block ?_
     have hc256 : (s[i].toNat : Int) < 256 := by have := s[i].toNat_lt; omega
     have hc256' : s[i].toNat < 256 := by omega
     have ha := hat s[i]
     generalize qF (s.take (i + 1)) = o1 at *
     generalize qF (s.take i) = o at *
     generalize (qF s).length = N at *
     generalize hc : s[i] = c at *
     cases hs : spc c with
     | true =>
      rw [quoC_spc hs] at hst
      rw [if_pos ((spc_nat c).1 hs)] at ha
      simp only [escN] at ha
      have hol : o1.length = o.length + 2 := by rw [hst]; simp
      obtain ⟨n, rfl⟩ : ∃ n, N = o.length + 2 + n := ⟨N - o.length - 2, by omega⟩
      rw [show o.length + 2 + n - o.length = n + 2 by omega]
      have hbl := bufD_len o (n + 2)
      generalize hR : bufD o (n + 2) = R at *
      (refine awp_sr fun Y Yh => ?_; simp [go_sem, h15, hc, ba_size]; ((repeat' (first|(refine ag_x ?_;simp [go_sem, h15, hc, ba_size])|intro _|apply And.intro|(apply Yh;clear Yh Y)));all_goals first|apply Hold.mk|omega|with_reducible assumption|skip))
      (refine awp_sr fun Y Yh => ?_; simp [go_sem, hln, ha, hc256, hc256']; ((repeat' (first|(refine ag_x ?_;simp [go_sem, hln, ha, hc256, hc256'])|intro _|apply And.intro|(apply Yh;clear Yh Y)));all_goals first|apply Hold.mk|omega|with_reducible assumption|skip))
      (refine awp_if fun T F hT hF => ?_; simp [go_sem]; refine hT ?_; clear hT hF T F)
      ((refine awp_d (.qs [0, 1, 2, 3, 4, 5, 6, 7, 8, 9] (.one 10 (.qs [11, 12] (.nil)))) (by kernel_rfl) ?_ ?_ ?_ ?_); (kernel_rfl); (exact (by decide +kernel)); (kernel_rfl); intro Y Yh; ((repeat' (first|(refine ag_x ?_;simp [go_sem, hln, ha, hc256, hc256', hbl])|refine adr_nil ?_|((first|refine adr_qs fun Y Yh=>?_|refine adr_y fun Y Yh=>?_);simp [go_sem, hln, ha, hc256, hc256', hbl])|intro _|apply And.intro|(apply Yh;clear Yh Y)));all_goals first|apply Hold.mk|omega|with_reducible assumption|skip))
      refine tl7 _ ?_
      have he : ((if c.toNat = 10 then 110 else (c.toNat : Int)) : Int) = (((if c = 10 then 110 else c) : UInt8).toNat : Int) := esc_e c
      rw [he] at *
      have hb2 := bufD_put2 o n (if c = 10 then 110 else c)
      rw [hR] at hb2
      (refine cov_of ?_ ?_ <;> simp [go_sem])
      ·rw [hol]; simp
      ·rw [hol, show o.length + 2 + n - (o.length + 2) = n by omega, hst, ← hb2]
     | false =>
      rw [quoC_no hs] at hst
      rw [if_neg (fun q => by rw [(spc_nat c).2 q] at hs; cases hs)] at ha
      have hol : o1.length = o.length + 1 := by rw [hst]; simp
      obtain ⟨n, rfl⟩ : ∃ n, N = o.length + 1 + n := ⟨N - o.length - 1, by omega⟩
      rw [show o.length + 1 + n - o.length = n + 1 by omega]
      have hbs := bufD_set o n c
      have hbl := bufD_len o (n + 1)
      obtain ⟨hC, hg2⟩ := List.getElem?_eq_some_iff.1 (bufD_get o n)
      generalize hR : bufD o (n + 1) = R at *
      (refine awp_sr fun Y Yh => ?_; simp [go_sem, h15, hc, ba_size]; ((repeat' (first|(refine ag_x ?_;simp [go_sem, h15, hc, ba_size])|intro _|apply And.intro|(apply Yh;clear Yh Y)));all_goals first|apply Hold.mk|omega|with_reducible assumption|skip))
      refine awp_seq ?_
      refine awp_ags ?_
      simp only [AGs]
      refine ag_true rfl ?_
      simp [go_sem, hln, ha, hc256, hc256']
      refine ag_true rfl ?_
      simp [go_sem, hln, ha, hc256, hc256']
      refine ag_true rfl ?_
      simp [go_sem, hln, ha, hc256, hc256']
      refine ag_true rfl ?_
      simp [go_sem, hln, ha, hc256, hc256']
      refine ag_true rfl ?_
      simp [go_sem, hln, ha, hc256, hc256']
      refine ag_true rfl ?_
      simp [go_sem, hln, ha, hc256, hc256']
      refine ag_nileq (e := 5) false (by simp [dstOk]) rfl (.inr ⟨rfl, rfl⟩) (by simp [go_sem]) ?_
      simp [go_sem]
      (refine awp_if fun T F hT hF => ?_; simp [go_sem]; refine hF ?_; clear hT hF T F)
      (refine awp_sr fun Y Yh => ?_; simp [go_sem, hbl, hg2, hC, hbs]; ((repeat' (first|(refine ag_x ?_;simp [go_sem, hbl, hg2, hC, hbs])|intro _|apply And.intro|(apply Yh;clear Yh Y)));all_goals first|apply Hold.mk|omega|with_reducible assumption|skip))
      (refine awp_r fun Y Yh => ?_; simp [go_sem]; ((repeat' (first|(refine ag_x ?_;simp [go_sem])|intro _|apply And.intro|(apply Yh;clear Yh Y)));all_goals first|apply Hold.mk|omega|with_reducible assumption|skip))
      refine tl7 _ ?_
      (refine cov_of ?_ ?_ <;> simp [go_sem])
      ·rw [hol]; simp
      ·rw [hol, show o.length + 1 + n - (o.length + 1) = n by omega, hst]
    ·(refine awp_if fun T F hT hF => ?_; simp [go_sem, h15]; refine hF ?_; clear hT hF T F)
     refine awp_exit ?_
     simp only [go_sem]
     refine hK4 _ ?_; clear hK4
     have hi2 : i = s.length := by omega
     subst hi2
     rw [List.take_length, Nat.sub_self]
     (refine awp_sr fun Y Yh => ?_; simp [go_sem, bufD]; ((repeat' (first|(refine ag_x ?_;simp [go_sem, bufD])|intro _|apply And.intro|(apply Yh;clear Yh Y)));all_goals first|apply Hold.mk|omega|with_reducible assumption|skip))
     (refine awp_ret ?_; simp [go_sem])
 clear hK1
 (refine awp_sr fun Y Yh => ?_; simp [go_sem, hln, hrow, ba_size]; ((repeat' (first|(refine ag_x ?_;simp [go_sem, hln, hrow, ba_size])|intro _|apply And.intro|(apply Yh;clear Yh Y)));all_goals first|apply Hold.mk|omega|with_reducible assumption|skip))
 by_cases h24 : 24 ≤ s.length
 ·have h24' : (24 : Int) ≤ s.length := by omega
  (refine awp_if fun T F hT hF => ?_; simp [go_sem, h24']; refine hT ?_; clear hT hF T F)
  (refine awp_sr fun Y Yh => ?_; simp [go_sem, hln, hrow]; ((repeat' (first|(refine ag_x ?_;simp [go_sem, hln, hrow])|intro _|apply And.intro|(apply Yh;clear Yh Y)));all_goals first|apply Hold.mk|omega|with_reducible assumption|skip))
  refine awp_block ?_
  refine awp_loop (σ := Nat) (fun k => ⟨[(0, .ptr 900012 g 0), (1, dS s), (5, dI (s.length + preV s k : Nat)), (6, dB (decide (preV s k ≠ 0))), (30, .sl 1 [[dS [10]], [dS [34]], [dS [92]]]), (31, dI 3), (32, dI k)], [(900012, (g, .box T))]⟩) (fun k => k ≤ 3) (fun k => 3 - k) 0 ?_ ?_ ?_
  ·(refine cov_of ?_ ?_ <;> simp [go_sem, preV])
  ·simp
  ·intro k hk
   have hk' : k = 0 ∨ k = 1 ∨ k = 2 ∨ k = 3 := by omega
   (refine awp_sr fun Y Yh => ?_; simp [go_sem]; ((repeat' (first|(refine ag_x ?_;simp [go_sem])|intro _|apply And.intro|(apply Yh;clear Yh Y)));all_goals first|apply Hold.mk|omega|with_reducible assumption|skip))
   refine awp_seq_k fun K10 hK10 => ?_
   rcases hk' with rfl | rfl | rfl | rfl
   ·(refine awp_if fun T F hT hF => ?_; simp [go_sem]; refine hT ?_; clear hT hF T F)
    refine awp_skip ?_
    refine hK10 _ ?_; clear hK10
    refine awp_seq_k fun K12 hK12 => ?_
    have tl12 : ∀ S', Cov S' ⟨[(0, .ptr 900012 g 0), (1, dS s), (5, dI (s.length + preV s 1 : Nat)), (6, dB (decide (preV s 1 ≠ 0))), (30, .sl 1 [[dS [10]], [dS [34]], [dS [92]]]), (31, dI 3), (32, dI (0 : Nat))], [(900012, (g, .box T))]⟩ → K12 S' := fun S' hS => by
     refine hK12 _ ?_; clear hK12
     refine awp_cov hS ?_; clear hS
     (refine awp_r fun Y Yh => ?_; simp [go_sem]; ((repeat' (first|(refine ag_x ?_;simp [go_sem])|intro _|apply And.intro|(apply Yh;clear Yh Y)));all_goals first|apply Hold.mk|omega|with_reducible assumption|skip))
     refine ⟨(1 : Nat), ?_, by omega, by omega⟩
     (refine cov_of ?_ ?_ <;> simp [go_sem])
    clear hK12
    refine awp_block ?_
    have hp := preV_1 s
    have hp0 := preV_le s 0
    generalize preV s 1 = m1 at *
    generalize preV s 0 = m0 at *
    have ha := hat 10
    rw [show ((10 : UInt8)).toNat = 10 from rfl, if_pos (by decide)] at ha
    simp only [escN] at ha
    have hcc := List.count_le_length (a := (10 : UInt8)) (l := s)
    generalize List.count 10 s = q at *
    (refine awp_sr fun Y Yh => ?_; simp [go_sem]; ((repeat' (first|(refine ag_x ?_;simp [go_sem])|intro _|apply And.intro|(apply Yh;clear Yh Y)));all_goals first|apply Hold.mk|omega|with_reducible assumption|skip))
    (refine awp_sr fun Y Yh => ?_; simp [go_sem]; ((repeat' (first|(refine ag_x ?_;simp [go_sem])|intro _|apply And.intro|(apply Yh;clear Yh Y)));all_goals first|apply Hold.mk|omega|with_reducible assumption|skip))
    ((try refine CallT.toA ?_); refine callT_m (.inl ⟨rfl,rfl⟩) (by simp [go_sem]) ?_; intro args ha; simp [go_sem] at ha; subst ha; refine ⟨_, hc10, ?_⟩; rintro _ rfl; simp [go_sem]; ((repeat' (first|(refine ag_x ?_;simp [go_sem])|intro _|apply And.intro|(apply Yh;clear Yh Y)));all_goals first|apply Hold.mk|omega|with_reducible assumption|skip))
    (refine awp_sr fun Y Yh => ?_; simp [go_sem]; ((repeat' (first|(refine ag_x ?_;simp [go_sem])|intro _|apply And.intro|(apply Yh;clear Yh Y)));all_goals first|apply Hold.mk|omega|with_reducible assumption|skip))
    by_cases hq : q = 0
    ·subst hq
     (refine awp_if fun T F hT hF => ?_; simp [go_sem]; refine hF ?_; clear hT hF T F)
     refine awp_skip ?_
     refine tl12 _ ?_
     (refine cov_of ?_ ?_ <;> simp [go_sem])
     simp [hp]
    ·have hq' : ¬ (q : Int) = 0 := by omega
     (refine awp_if fun T F hT hF => ?_; simp [go_sem, hq]; refine hT ?_; clear hT hF T F)
     ((refine awp_dr (.qs [0, 1, 2, 3, 4, 5, 6, 7, 8, 9, 10, 11, 12, 13] (.nil)) (by kernel_rfl) ?_ ?_ ?_ ?_); (kernel_rfl); (exact (by decide +kernel)); (kernel_rfl); intro Y Yh; ((repeat' (first|(refine ag_x ?_;simp [go_sem, hln, ha])|refine adr_nil ?_|((first|refine adr_qs fun Y Yh=>?_|refine adr_y fun Y Yh=>?_);simp [go_sem, hln, ha])|intro _|apply And.intro|(apply Yh;clear Yh Y)));all_goals first|apply Hold.mk|omega|with_reducible assumption|skip))
     (refine awp_r fun Y Yh => ?_; simp [go_sem]; ((repeat' (first|(refine ag_x ?_;simp [go_sem])|intro _|apply And.intro|(apply Yh;clear Yh Y)));all_goals first|apply Hold.mk|omega|with_reducible assumption|skip))
     refine tl12 _ ?_
     (refine cov_of ?_ ?_ <;> simp [go_sem])
     exact ⟨by omega, by omega⟩
   ·(refine awp_if fun T F hT hF => ?_; simp [go_sem]; refine hT ?_; clear hT hF T F)
    refine awp_skip ?_
    refine hK10 _ ?_; clear hK10
    refine awp_seq_k fun K12 hK12 => ?_
    have tl12 : ∀ S', Cov S' ⟨[(0, .ptr 900012 g 0), (1, dS s), (5, dI (s.length + preV s 2 : Nat)), (6, dB (decide (preV s 2 ≠ 0))), (30, .sl 1 [[dS [10]], [dS [34]], [dS [92]]]), (31, dI 3), (32, dI (1 : Nat))], [(900012, (g, .box T))]⟩ → K12 S' := fun S' hS => by
     refine hK12 _ ?_; clear hK12
     refine awp_cov hS ?_; clear hS
     (refine awp_r fun Y Yh => ?_; simp [go_sem]; ((repeat' (first|(refine ag_x ?_;simp [go_sem])|intro _|apply And.intro|(apply Yh;clear Yh Y)));all_goals first|apply Hold.mk|omega|with_reducible assumption|skip))
     refine ⟨(2 : Nat), ?_, by omega, by omega⟩
     (refine cov_of ?_ ?_ <;> simp [go_sem])
    clear hK12
    refine awp_block ?_
    have hp := preV_2 s
    have hp0 := preV_le s 1
    generalize preV s 2 = m1 at *
    generalize preV s 1 = m0 at *
    have ha := hat 34
    rw [show ((34 : UInt8)).toNat = 34 from rfl, if_pos (by decide)] at ha
    simp only [escN] at ha
    have hcc := List.count_le_length (a := (34 : UInt8)) (l := s)
    generalize List.count 34 s = q at *
    (refine awp_sr fun Y Yh => ?_; simp [go_sem]; ((repeat' (first|(refine ag_x ?_;simp [go_sem])|intro _|apply And.intro|(apply Yh;clear Yh Y)));all_goals first|apply Hold.mk|omega|with_reducible assumption|skip))
    (refine awp_sr fun Y Yh => ?_; simp [go_sem]; ((repeat' (first|(refine ag_x ?_;simp [go_sem])|intro _|apply And.intro|(apply Yh;clear Yh Y)));all_goals first|apply Hold.mk|omega|with_reducible assumption|skip))
    ((try refine CallT.toA ?_); refine callT_m (.inl ⟨rfl,rfl⟩) (by simp [go_sem]) ?_; intro args ha; simp [go_sem] at ha; subst ha; refine ⟨_, hc34, ?_⟩; rintro _ rfl; simp [go_sem]; ((repeat' (first|(refine ag_x ?_;simp [go_sem])|intro _|apply And.intro|(apply Yh;clear Yh Y)));all_goals first|apply Hold.mk|omega|with_reducible assumption|skip))
    (refine awp_sr fun Y Yh => ?_; simp [go_sem]; ((repeat' (first|(refine ag_x ?_;simp [go_sem])|intro _|apply And.intro|(apply Yh;clear Yh Y)));all_goals first|apply Hold.mk|omega|with_reducible assumption|skip))
    by_cases hq : q = 0
    ·subst hq
     (refine awp_if fun T F hT hF => ?_; simp [go_sem]; refine hF ?_; clear hT hF T F)
     refine awp_skip ?_
     refine tl12 _ ?_
     (refine cov_of ?_ ?_ <;> simp [go_sem])
     simp [hp]
    ·have hq' : ¬ (q : Int) = 0 := by omega
     (refine awp_if fun T F hT hF => ?_; simp [go_sem, hq]; refine hT ?_; clear hT hF T F)
     ((refine awp_dr (.qs [0, 1, 2, 3, 4, 5, 6, 7, 8, 9, 10, 11, 12, 13] (.nil)) (by kernel_rfl) ?_ ?_ ?_ ?_); (kernel_rfl); (exact (by decide +kernel)); (kernel_rfl); intro Y Yh; ((repeat' (first|(refine ag_x ?_;simp [go_sem, hln, ha])|refine adr_nil ?_|((first|refine adr_qs fun Y Yh=>?_|refine adr_y fun Y Yh=>?_);simp [go_sem, hln, ha])|intro _|apply And.intro|(apply Yh;clear Yh Y)));all_goals first|apply Hold.mk|omega|with_reducible assumption|skip))
     (refine awp_r fun Y Yh => ?_; simp [go_sem]; ((repeat' (first|(refine ag_x ?_;simp [go_sem])|intro _|apply And.intro|(apply Yh;clear Yh Y)));all_goals first|apply Hold.mk|omega|with_reducible assumption|skip))
     refine tl12 _ ?_
     (refine cov_of ?_ ?_ <;> simp [go_sem])
     exact ⟨by omega, by omega⟩
   ·(refine awp_if fun T F hT hF => ?_; simp [go_sem]; refine hT ?_; clear hT hF T F)
    refine awp_skip ?_
    refine hK10 _ ?_; clear hK10
    refine awp_seq_k fun K12 hK12 => ?_
    have tl12 : ∀ S', Cov S' ⟨[(0, .ptr 900012 g 0), (1, dS s), (5, dI (s.length + preV s 3 : Nat)), (6, dB (decide (preV s 3 ≠ 0))), (30, .sl 1 [[dS [10]], [dS [34]], [dS [92]]]), (31, dI 3), (32, dI (2 : Nat))], [(900012, (g, .box T))]⟩ → K12 S' := fun S' hS => by
     refine hK12 _ ?_; clear hK12
     refine awp_cov hS ?_; clear hS
     (refine awp_r fun Y Yh => ?_; simp [go_sem]; ((repeat' (first|(refine ag_x ?_;simp [go_sem])|intro _|apply And.intro|(apply Yh;clear Yh Y)));all_goals first|apply Hold.mk|omega|with_reducible assumption|skip))
     refine ⟨(3 : Nat), ?_, by omega, by omega⟩
     (refine cov_of ?_ ?_ <;> simp [go_sem])
    clear hK12
    refine awp_block ?_
    have hp := preV_3 s
    have hp0 := preV_le s 2
    generalize preV s 3 = m1 at *
    generalize preV s 2 = m0 at *
    have ha := hat 92
    rw [show ((92 : UInt8)).toNat = 92 from rfl, if_pos (by decide)] at ha
    simp only [escN] at ha
    have hcc := List.count_le_length (a := (92 : UInt8)) (l := s)
    generalize List.count 92 s = q at *
    (refine awp_sr fun Y Yh => ?_; simp [go_sem]; ((repeat' (first|(refine ag_x ?_;simp [go_sem])|intro _|apply And.intro|(apply Yh;clear Yh Y)));all_goals first|apply Hold.mk|omega|with_reducible assumption|skip))
    (refine awp_sr fun Y Yh => ?_; simp [go_sem]; ((repeat' (first|(refine ag_x ?_;simp [go_sem])|intro _|apply And.intro|(apply Yh;clear Yh Y)));all_goals first|apply Hold.mk|omega|with_reducible assumption|skip))
    ((try refine CallT.toA ?_); refine callT_m (.inl ⟨rfl,rfl⟩) (by simp [go_sem]) ?_; intro args ha; simp [go_sem] at ha; subst ha; refine ⟨_, hc92, ?_⟩; rintro _ rfl; simp [go_sem]; ((repeat' (first|(refine ag_x ?_;simp [go_sem])|intro _|apply And.intro|(apply Yh;clear Yh Y)));all_goals first|apply Hold.mk|omega|with_reducible assumption|skip))
    (refine awp_sr fun Y Yh => ?_; simp [go_sem]; ((repeat' (first|(refine ag_x ?_;simp [go_sem])|intro _|apply And.intro|(apply Yh;clear Yh Y)));all_goals first|apply Hold.mk|omega|with_reducible assumption|skip))
    by_cases hq : q = 0
    ·subst hq
     (refine awp_if fun T F hT hF => ?_; simp [go_sem]; refine hF ?_; clear hT hF T F)
     refine awp_skip ?_
     refine tl12 _ ?_
     (refine cov_of ?_ ?_ <;> simp [go_sem])
     simp [hp]
    ·have hq' : ¬ (q : Int) = 0 := by omega
     (refine awp_if fun T F hT hF => ?_; simp [go_sem, hq]; refine hT ?_; clear hT hF T F)
     ((refine awp_dr (.qs [0, 1, 2, 3, 4, 5, 6, 7, 8, 9, 10, 11, 12, 13] (.nil)) (by kernel_rfl) ?_ ?_ ?_ ?_); (kernel_rfl); (exact (by decide +kernel)); (kernel_rfl); intro Y Yh; ((repeat' (first|(refine ag_x ?_;simp [go_sem, hln, ha])|refine adr_nil ?_|((first|refine adr_qs fun Y Yh=>?_|refine adr_y fun Y Yh=>?_);simp [go_sem, hln, ha])|intro _|apply And.intro|(apply Yh;clear Yh Y)));all_goals first|apply Hold.mk|omega|with_reducible assumption|skip))
     (refine awp_r fun Y Yh => ?_; simp [go_sem]; ((repeat' (first|(refine ag_x ?_;simp [go_sem])|intro _|apply And.intro|(apply Yh;clear Yh Y)));all_goals first|apply Hold.mk|omega|with_reducible assumption|skip))
     refine tl12 _ ?_
     (refine cov_of ?_ ?_ <;> simp [go_sem])
     exact ⟨by omega, by omega⟩
   ·(refine awp_if fun T F hT hF => ?_; simp [go_sem]; refine hF ?_; clear hT hF T F)
    refine awp_exit ?_
    simp only [go_sem]
    have hp3 : preV s 3 = cntS s := hparts
    rw [hp3]
    refine tl1 _ ?_
    (refine cov_of ?_ ?_ <;> simp [go_sem])
 ·have h24' : ¬ (24 : Int) ≤ s.length := by omega
  (refine awp_if fun T F hT hF => ?_; simp [go_sem, h24']; refine hF ?_; clear hT hF T F)
  (refine awp_sr fun Y Yh => ?_; simp [go_sem]; ((repeat' (first|(refine ag_x ?_;simp [go_sem])|intro _|apply And.intro|(apply Yh;clear Yh Y)));all_goals first|apply Hold.mk|omega|with_reducible assumption|skip))
  refine awp_block ?_
  refine awp_loop (σ := Nat) (fun i => ⟨[(0, .ptr 900012 g 0), (1, dS s), (5, dI (s.length + cntS (s.take i) : Nat)), (6, dB (decide (cntS (s.take i) ≠ 0))), (10, dI i)], [(900012, (g, .box T))]⟩) (fun i => i ≤ s.length) (fun i => s.length - i) 0 ?_ ?_ ?_
  ·(refine cov_of ?_ ?_ <;> simp [go_sem, cntS])
  ·simp
  ·intro i hi
   refine awp_seq_k fun K14 hK14 => ?_
   (refine awp_sr fun Y Yh => ?_; simp [go_sem, ba_size]; ((repeat' (first|(refine ag_x ?_;simp [go_sem, ba_size])|intro _|apply And.intro|(apply Yh;clear Yh Y)));all_goals first|apply Hold.mk|omega|with_reducible assumption|skip))
   by_cases h15 : i < s.length
   ·(refine awp_if fun T F hT hF => ?_; simp [go_sem, h15]; refine hT ?_; clear hT hF T F)
    refine awp_skip ?_
    refine hK14 _ ?_; clear hK14
    refine awp_seq_k fun K16 hK16 => ?_
    have hst := cntS_take h15
    have hcl0 := cntS_le (s.take i)
    rw [List.length_take] at hcl0
    have tl16 : ∀ S', Cov S' ⟨[(0, .ptr 900012 g 0), (1, dS s), (5, dI (s.length + cntS (s.take (i + 1)) : Nat)), (6, dB (decide (cntS (s.take (i + 1)) ≠ 0))), (10, dI i)], [(900012, (g, .box T))]⟩ → K16 S' := fun S' hS => by
     refine hK16 _ ?_; clear hK16
     refine awp_cov hS ?_; clear hS
     (refine awp_r fun Y Yh => ?_; simp [go_sem]; ((repeat' (first|(refine ag_x ?_;simp [go_sem])|intro _|apply And.intro|(apply Yh;clear Yh Y)));all_goals first|apply Hold.mk|omega|with_reducible assumption|skip))
     refine ⟨i + 1, ?_, by omega, by omega⟩
     (refine cov_of ?_ ?_ <;> simp [go_sem])
    clear hK16
    refine awp_block ?_
    have hc256 : (s[i].toNat : Int) < 256 := by have := s[i].toNat_lt; omega
    have hc256' : s[i].toNat < 256 := by omega
    have ha := hat s[i]
    generalize cntS (s.take (i + 1)) = m1 at *
    generalize cntS (s.take i) = m0 at *
    generalize hc : s[i] = c at *
    cases hs : spc c with
    | true =>
     rw [if_pos ((spc_nat c).1 hs)] at ha
     rw [hs] at hst
     simp only [escN] at ha
     generalize (if c.toNat = 10 then (110 : Int) else (c.toNat : Int)) = e2 at *
     (refine awp_sr fun Y Yh => ?_; simp [go_sem, h15, hc, ba_size]; ((repeat' (first|(refine ag_x ?_;simp [go_sem, h15, hc, ba_size])|intro _|apply And.intro|(apply Yh;clear Yh Y)));all_goals first|apply Hold.mk|omega|with_reducible assumption|skip))
     (refine awp_sr fun Y Yh => ?_; simp [go_sem, hln, ha, hc256, hc256']; ((repeat' (first|(refine ag_x ?_;simp [go_sem, hln, ha, hc256, hc256'])|intro _|apply And.intro|(apply Yh;clear Yh Y)));all_goals first|apply Hold.mk|omega|with_reducible assumption|skip))
     (refine awp_if fun T F hT hF => ?_; simp [go_sem]; refine hT ?_; clear hT hF T F)
     (refine awp_sr fun Y Yh => ?_; simp [go_sem, hln, ha, hc256, hc256']; ((repeat' (first|(refine ag_x ?_;simp [go_sem, hln, ha, hc256, hc256'])|intro _|apply And.intro|(apply Yh;clear Yh Y)));all_goals first|apply Hold.mk|omega|with_reducible assumption|skip))
     (refine awp_r fun Y Yh => ?_; simp [go_sem]; ((repeat' (first|(refine ag_x ?_;simp [go_sem])|intro _|apply And.intro|(apply Yh;clear Yh Y)));all_goals first|apply Hold.mk|omega|with_reducible assumption|skip))
     refine tl16 _ ?_
     (refine cov_of ?_ ?_ <;> simp [go_sem])
     simp at hst
     exact ⟨by omega, by omega⟩
    | false =>
     rw [if_neg (fun q => by rw [(spc_nat c).2 q] at hs; cases hs)] at ha
     rw [hs] at hst
     simp at hst
     subst hst
     (refine awp_sr fun Y Yh => ?_; simp [go_sem, h15, hc, ba_size]; ((repeat' (first|(refine ag_x ?_;simp [go_sem, h15, hc, ba_size])|intro _|apply And.intro|(apply Yh;clear Yh Y)));all_goals first|apply Hold.mk|omega|with_reducible assumption|skip))
     refine awp_seq ?_
     refine awp_ags ?_
     simp only [AGs]
     refine ag_true rfl ?_
     simp [go_sem, hln, ha, hc256, hc256']
     refine ag_true rfl ?_
     simp [go_sem, hln, ha, hc256, hc256']
     refine ag_true rfl ?_
     simp [go_sem, hln, ha, hc256, hc256']
     refine ag_true rfl ?_
     simp [go_sem, hln, ha, hc256, hc256']
     refine ag_true rfl ?_
     simp [go_sem, hln, ha, hc256, hc256']
     refine ag_true rfl ?_
     simp [go_sem, hln, ha, hc256, hc256']
     refine ag_nileq (e := 5) false (by simp [dstOk]) rfl (.inr ⟨rfl, rfl⟩) (by simp [go_sem]) ?_
     simp [go_sem]
     (refine awp_if fun T F hT hF => ?_; simp [go_sem]; refine hF ?_; clear hT hF T F)
     refine awp_skip ?_
     refine tl16 _ ?_
     (refine cov_of ?_ ?_ <;> simp [go_sem])
   ·(refine awp_if fun T F hT hF => ?_; simp [go_sem, h15]; refine hF ?_; clear hT hF T F)
    refine awp_exit ?_
    simp only [go_sem]
    have hi2 : i = s.length := by omega
    subst hi2
    rw [List.take_length]
    refine tl1 _ ?_
    (refine cov_of ?_ ?_ <;> simp [go_sem])
end Go.Proofs.YtelhdhofnohkcaaGreatDoor
namespace Go.Proofs.YtelhdhofnohkcaaGreatDoor
open Go.Eng Go.Fm
set_option maxRecDepth 20000
attribute [local irreducible] AG CallA CallT AWp PCall ACall AgC
set_option maxHeartbeats 8000000 in
theorem repl_spec (g : Nat) (s : Bs) (hl : s.length ≤ 1100000) : ACall Tryz.prog 77 [.ptr 900010 g 0, dS s] [(900010, (g, bxR 0 0 (.int .u32 0) (.v .nilIface) dOn))] [900010] fun ps r =>
  (∃ x, ps = [(g, x)]) ∧ r = dS (qF s) := by 
 refine acall_of Tryz.func77 rfl rfl Tryz.ntmps77 (rs := [.tmp 4]) (tys := [9]) rfl rfl (by simp) (by simp [notFroz]) ?_
 (refine awp_sr fun Y Yh => ?_; simp [go_sem]; ((repeat' (first|(refine ag_x ?_;simp [go_sem])|intro _|apply And.intro|(apply Yh;clear Yh Y)));all_goals first|apply Hold.mk|omega|with_reducible assumption|skip))
 refine awp_seq ?_
 refine awp_ags ?_
 simp only [AGs]
 refine ag_true rfl ?_
 simp [go_sem]
 refine ag_true rfl ?_
 simp [go_sem]
 refine ag_true rfl ?_
 simp [go_sem]
 refine ag_true rfl ?_
 simp [go_sem]
 refine ag_mkmethod (by simp [dstOk]) ?_
 simp [go_sem]
 refine ag_true rfl ?_
 simp [go_sem]
 (refine callA_l [900010, 900012] (.inl ⟨rfl,rfl⟩) (by simp [go_sem]) ?_; intro args ha; simp [go_sem] at ha; subst ha; refine ⟨_, _, (once_spec g (.int .u32 0) rfl), (by simp [go_sem]), ?_⟩; rintro ps r hps ⟨g2, rfl, rfl⟩; simp [go_sem]; ((repeat' (first|(refine ag_x ?_;simp [go_sem])|intro _|apply And.intro|(apply Yh;clear Yh Y)));all_goals first|apply Hold.mk|omega|with_reducible assumption|skip))
 refine awp_seq ?_
 refine awp_ags ?_
 simp only [AGs]
 refine ag_true rfl ?_
 simp [go_sem]
 refine ag_true rfl ?_
 simp [go_sem]
 refine ag_true rfl ?_
 simp [go_sem]
 refine ag_true rfl ?_
 simp [go_sem]
 refine ag_true rfl ?_
 simp [go_sem]
 refine ag_invoke 249 254 (by simp [dstOk]) (fun _ _ => by kernel_rfl) ?_
 simp [go_sem]
 refine callA_l [900012] (.inl ⟨rfl, rfl⟩) (by simp [go_sem]) ?_
 intro args ha
 simp [go_sem] at ha
 subst ha
 refine ⟨_, _, brep_spec g2 s hl, (by simp [go_sem]), ?_⟩
 rintro ps r hps ⟨rfl, rfl⟩
 simp [go_sem]
 refine ag_true rfl ?_
 simp [go_sem]
 (refine awp_ret ?_; simp [go_sem])
set_option maxHeartbeats 32000000 in
theorem fill_p (args : List Ag) (u g : Nat) (f : Fld) (hA : AgsOk args) (hu : u ≤ args.length) (hf : FdOk f) (hp : f.lt = 112) :
  ACall Tryz.prog 49 [.ptr 900004 g 0, dF f] [fiB g args u] [900004]
   fun ps r => ps = [(g, .box [dAs args, dI (fillV args u f).2.2])] ∧ r = .tup [dS (fillV args u f).1, dI (fillV args u f).2.1] := by 
 refine acall_of Tryz.func49 rfl rfl Tryz.ntmps49 (rs := [.tmp 4, .tmp 5]) (tys := [9, 34]) rfl rfl (by simp) (by simp [notFroz]) ?_
 have h0 : f.lt ≠ 0 := by rw [hp]; decide
 have hS := fun gf => stars_spec args u g gf f hu hA.1
 have hsl := stars_le hu f
 have hso := fun h => stars_ok (args := args) (u := u) hf h
 have eV : fillV args u f = (if (starsV args u f).1 ≠ 0 then ([], (starsV args u f).1, (starsV args u f).2.1) else
  if (ofA args (starsV args u f).2.1 f.nm).2.1 ≠ 0 then ([], (ofA args (starsV args u f).2.1 f.nm).2.1, (ofA args (starsV args u f).2.1 f.nm).2.2) else
  match putV (starsV args u f).2.2 (ofA args (starsV args u f).2.1 f.nm).1 with
  | none => ([], 1, (ofA args (starsV args u f).2.1 f.nm).2.2)
  | some t => (t, 0, (ofA args (starsV args u f).2.1 f.nm).2.2)) := by unfold fillV; rw [if_neg h0]; rfl
 generalize hV : fillV args u f = V at *
 generalize starsV args u f = S at *
 obtain ⟨se, su, sf⟩ := S
 simp only at hS hsl hso eV ⊢
 by_cases he : se = 0
 ·subst he
  obtain ⟨⟨hw, hpr⟩, hlt, hnm⟩ := hso rfl
  have hO := of_spec args su g sf hsl hA.1
  have hoa := ofA_ok hA su sf.nm
  rw [hnm] at hO hoa
  rw [if_neg (by simp)] at eV
  generalize ofA args su f.nm = O at *
  obtain ⟨oa, oe, ou⟩ := O
  simp only at hO hoa eV
  (refine awp_sr fun Y Yh => ?_; simp [go_sem]; ((repeat' (first|(refine ag_x ?_;simp [go_sem])|intro _|apply And.intro|(apply Yh;clear Yh Y)));all_goals first|apply Hold.mk|omega|with_reducible assumption|skip))
  refine awp_renbox 3 900003 rfl rfl (by decide) fun gf => ?_
  simp only [go_sem]
  refine awp_seq_k fun K1 hK1 => ?_
  (refine awp_sr fun Y Yh => ?_; simp [go_sem]; ((repeat' (first|(refine ag_x ?_;simp [go_sem])|intro _|apply And.intro|(apply Yh;clear Yh Y)));all_goals first|apply Hold.mk|omega|with_reducible assumption|skip))
  (refine callA_l [900004, 900003] (.inl ⟨rfl,rfl⟩) (by simp [go_sem]) ?_; intro args ha; simp [go_sem] at ha; subst ha; refine ⟨_, _, (hS gf), (by simp [go_sem]), ?_⟩; rintro ps r hps ⟨rfl, rfl⟩; simp [go_sem]; ((repeat' (first|(refine ag_x ?_;simp [go_sem])|intro _|apply And.intro|(apply Yh;clear Yh Y)));all_goals first|apply Hold.mk|omega|with_reducible assumption|skip))
  (refine awp_sr fun Y Yh => ?_; simp [go_sem]; ((repeat' (first|(refine ag_x ?_;simp [go_sem])|intro _|apply And.intro|(apply Yh;clear Yh Y)));all_goals first|apply Hold.mk|omega|with_reducible assumption|skip))
  (refine awp_if fun T F hT hF => ?_; simp [go_sem]; refine hF ?_; clear hT hF T F)
  refine awp_skip ?_
  refine hK1 _ ?_; clear hK1
  (refine awp_sr fun Y Yh => ?_; simp [go_sem]; ((repeat' (first|(refine ag_x ?_;simp [go_sem])|intro _|apply And.intro|(apply Yh;clear Yh Y)));all_goals first|apply Hold.mk|omega|with_reducible assumption|skip))
  (refine callA_l [900004] (.inl ⟨rfl,rfl⟩) (by simp [go_sem]) ?_; intro args ha; simp [go_sem] at ha; subst ha; refine ⟨_, _, hO, (by simp [go_sem]), ?_⟩; rintro ps r hps ⟨rfl, rfl⟩; simp [go_sem]; ((repeat' (first|(refine ag_x ?_;simp [go_sem])|intro _|apply And.intro|(apply Yh;clear Yh Y)));all_goals first|apply Hold.mk|omega|with_reducible assumption|skip))
  refine awp_seq_k fun K3 hK3 => ?_
  by_cases hoe : oe = 0
  ·subst hoe
   rw [if_neg (by simp)] at eV
   (refine awp_sr fun Y Yh => ?_; simp [go_sem]; ((repeat' (first|(refine ag_x ?_;simp [go_sem])|intro _|apply And.intro|(apply Yh;clear Yh Y)));all_goals first|apply Hold.mk|omega|with_reducible assumption|skip))
   (refine awp_if fun T F hT hF => ?_; simp [go_sem]; refine hF ?_; clear hT hF T F)
   refine awp_skip ?_
   refine hK3 _ ?_; clear hK3
   refine awp_seq_k fun K5 hK5 => ?_
   have b115 : decide ((sf.lt.toNat : Int) = 115) = decide (sf.lt = 115) := u8_eqb _ 115 (by decide)
   have b112 : decide ((sf.lt.toNat : Int) = 112) = decide (sf.lt = 112) := u8_eqb _ 112 (by decide)
   have h112 : sf.lt = 112 := by rw [hlt]; exact hp
   have h115 : ¬ sf.lt = 115 := by rw [h112]; decide
   (refine awp_sr fun Y Yh => ?_; simp [go_sem]; ((repeat' (first|(refine ag_x ?_;simp [go_sem])|intro _|apply And.intro|(apply Yh;clear Yh Y)));all_goals first|apply Hold.mk|omega|with_reducible assumption|skip))
   refine awp_block ?_
   (refine awp_sr fun Y Yh => ?_; simp [go_sem, b115]; ((repeat' (first|(refine ag_x ?_;simp [go_sem, b115])|intro _|apply And.intro|(apply Yh;clear Yh Y)));all_goals first|apply Hold.mk|omega|with_reducible assumption|skip))
   (refine awp_if fun T F hT hF => ?_; simp [go_sem, h115]; refine hF ?_; clear hT hF T F)
   (refine awp_sr fun Y Yh => ?_; simp [go_sem, b112]; ((repeat' (first|(refine ag_x ?_;simp [go_sem, b112])|intro _|apply And.intro|(apply Yh;clear Yh Y)));all_goals first|apply Hold.mk|omega|with_reducible assumption|skip))
   have e2 : putV sf oa = some (paddedV sf (shortV sf (quoV (textV oa)))) := by unfold putV; rw [if_neg h115, if_pos h112]
   rw [e2] at eV
   simp only at eV
   have hT := text_spec oa hoa.1
   have htl := text_len hoa
   have hql := qF_len (textV oa)
   have hcl := cntS_le (textV oa)
   have hRp := fun g => repl_spec g (textV oa) (by omega)
   rw [quoV_qF] at eV
   generalize textV oa = tx at *
   generalize qF tx = Q at *
   have hSh := short_spec sf (34 :: Q ++ [34])
   have hsl2 := short_len sf (34 :: Q ++ [34])
   have hPd := padded_spec sf (shortV sf (34 :: Q ++ [34])) (by omega) (by
    have e : (34 :: Q ++ [34]).length = Q.length + 2 := by simp
    rw [e] at hsl2
    omega)
   generalize shortV sf (34 :: Q ++ [34]) = Z at *
   (refine awp_if fun T F hT hF => ?_; simp [go_sem, h112]; refine hT ?_; clear hT hF T F)
   ((refine awp_dr (.two 0 (.two 1 (.one 2 (.one 3 (.one 4 (.one 5 .nil)))) 2 (.one 1 (.one 3 (.one 4 (.one 5 .nil))))) 2 (.one 0 (.one 1 (.one 3 (.one 4 (.one 5 .nil)))))) (by kernel_rfl) ?_ ?_ ?_ ?_); (kernel_rfl); (exact (by decide +kernel)); (kernel_rfl); intro Y Yh; ((repeat' (first|(refine ag_x ?_;simp [go_sem])|refine adr_nil ?_|refine adr_two ?_ ?_|((first|refine adr_qs fun Y Yh=>?_|refine adr_y fun Y Yh=>?_);simp [go_sem])|intro _|apply And.intro|(apply Yh;clear Yh Y)));all_goals first|apply Hold.mk|omega|with_reducible assumption|skip))
   ·refine callA_frz 38 rfl ?_
    (refine callA_l [900010] (.inl ⟨rfl,rfl⟩) (by simp [go_sem]) ?_; intro args ha; simp [go_sem] at ha; subst ha; refine ⟨_, _, newr_spec, (by simp [go_sem]), ?_⟩; rintro ps r hps ⟨gx, rfl, rfl⟩; simp [go_sem]; ((repeat' (first|(refine ag_x ?_;simp [go_sem])|refine adr_nil ?_|refine adr_two ?_ ?_|((first|refine adr_qs fun Y Yh=>?_|refine adr_y fun Y Yh=>?_);simp [go_sem])|intro _|apply And.intro|(apply Yh;clear Yh Y)));all_goals first|apply Hold.mk|omega|with_reducible assumption|skip))
    ((try refine CallT.toA ?_); refine callT_f (.inl ⟨rfl,rfl⟩) ?_; intro args ha; simp [go_sem] at ha; subst ha; refine ⟨_, hT, ?_⟩; rintro _ rfl; refine ⟨rfl, ?_⟩; simp [go_sem]; ((repeat' (first|(refine ag_x ?_;simp [go_sem])|refine adr_nil ?_|refine adr_two ?_ ?_|((first|refine adr_qs fun Y Yh=>?_|refine adr_y fun Y Yh=>?_);simp [go_sem])|intro _|apply And.intro|(apply Yh;clear Yh Y)));all_goals first|apply Hold.mk|omega|with_reducible assumption|skip))
    (refine callA_l [900010] (.inl ⟨rfl,rfl⟩) (by simp [go_sem]) ?_; intro args ha; simp [go_sem] at ha; subst ha; refine ⟨_, _, (hRp gx), (by simp [go_sem]), ?_⟩; rintro ps r hps ⟨⟨x, rfl⟩, rfl⟩; simp [go_sem]; ((repeat' (first|(refine ag_x ?_;simp [go_sem])|refine adr_nil ?_|refine adr_two ?_ ?_|((first|refine adr_qs fun Y Yh=>?_|refine adr_y fun Y Yh=>?_);simp [go_sem])|intro _|apply And.intro|(apply Yh;clear Yh Y)));all_goals first|apply Hold.mk|omega|with_reducible assumption|skip))
    ((refine awp_dr (.qs [2, 3, 4, 0, 1] (.kp 5 (.kp 6 (.qs [7, 8] (.nil))))) (by kernel_rfl) ?_ ?_ ?_ ?_); (kernel_rfl); (exact (by decide +kernel)); (kernel_rfl); intro Y Yh; ((repeat' (first|(refine ag_x ?_;simp [go_sem, ba_app])|refine adr_nil ?_|((first|refine adr_qs fun Y Yh=>?_|refine adr_y fun Y Yh=>?_);simp [go_sem, ba_app])|intro _|apply And.intro|(apply Yh;clear Yh Y)));all_goals first|apply Hold.mk|omega|with_reducible assumption|skip))
    ((try refine CallT.toA ?_); refine callT_f (.inl ⟨rfl,rfl⟩) ?_; intro args ha; simp [go_sem] at ha; subst ha; refine ⟨_, hSh, ?_⟩; rintro _ rfl; refine ⟨rfl, ?_⟩; simp [go_sem]; ((repeat' (first|(refine ag_x ?_;simp [go_sem])|refine adr_nil ?_|((first|refine adr_qs fun Y Yh=>?_|refine adr_y fun Y Yh=>?_);simp [go_sem])|intro _|apply And.intro|(apply Yh;clear Yh Y)));all_goals first|apply Hold.mk|omega|with_reducible assumption|skip))
    ((try refine CallT.toA ?_); refine callT_f (.inl ⟨rfl,rfl⟩) ?_; intro args ha; simp [go_sem] at ha; subst ha; refine ⟨_, hPd, ?_⟩; rintro _ rfl; refine ⟨rfl, ?_⟩; simp [go_sem]; ((repeat' (first|(refine ag_x ?_;simp [go_sem])|refine adr_nil ?_|((first|refine adr_qs fun Y Yh=>?_|refine adr_y fun Y Yh=>?_);simp [go_sem])|intro _|apply And.intro|(apply Yh;clear Yh Y)));all_goals first|apply Hold.mk|omega|with_reducible assumption|skip))
    (refine awp_ret ?_; simp [go_sem, eV])
   ·refine callA_frz 38 rfl ?_
    (refine callA_l [900010] (.inl ⟨rfl,rfl⟩) (by simp [go_sem]) ?_; intro args ha; simp [go_sem] at ha; subst ha; refine ⟨_, _, newr_spec, (by simp [go_sem]), ?_⟩; rintro ps r hps ⟨gx, rfl, rfl⟩; simp [go_sem]; ((repeat' (first|(refine ag_x ?_;simp [go_sem])|refine adr_nil ?_|((first|refine adr_qs fun Y Yh=>?_|refine adr_y fun Y Yh=>?_);simp [go_sem])|intro _|apply And.intro|(apply Yh;clear Yh Y)));all_goals first|apply Hold.mk|omega|with_reducible assumption|skip))
    ((try refine CallT.toA ?_); refine callT_f (.inl ⟨rfl,rfl⟩) ?_; intro args ha; simp [go_sem] at ha; subst ha; refine ⟨_, hT, ?_⟩; rintro _ rfl; refine ⟨rfl, ?_⟩; simp [go_sem]; ((repeat' (first|(refine ag_x ?_;simp [go_sem])|refine adr_nil ?_|((first|refine adr_qs fun Y Yh=>?_|refine adr_y fun Y Yh=>?_);simp [go_sem])|intro _|apply And.intro|(apply Yh;clear Yh Y)));all_goals first|apply Hold.mk|omega|with_reducible assumption|skip))
    (refine callA_l [900010] (.inl ⟨rfl,rfl⟩) (by simp [go_sem]) ?_; intro args ha; simp [go_sem] at ha; subst ha; refine ⟨_, _, (hRp gx), (by simp [go_sem]), ?_⟩; rintro ps r hps ⟨⟨x, rfl⟩, rfl⟩; simp [go_sem]; ((repeat' (first|(refine ag_x ?_;simp [go_sem])|refine adr_nil ?_|((first|refine adr_qs fun Y Yh=>?_|refine adr_y fun Y Yh=>?_);simp [go_sem])|intro _|apply And.intro|(apply Yh;clear Yh Y)));all_goals first|apply Hold.mk|omega|with_reducible assumption|skip))
    ((refine awp_dr (.qs [2, 3, 4, 0, 1] (.kp 5 (.kp 6 (.qs [7, 8] (.nil))))) (by kernel_rfl) ?_ ?_ ?_ ?_); (kernel_rfl); (exact (by decide +kernel)); (kernel_rfl); intro Y Yh; ((repeat' (first|(refine ag_x ?_;simp [go_sem, ba_app])|refine adr_nil ?_|((first|refine adr_qs fun Y Yh=>?_|refine adr_y fun Y Yh=>?_);simp [go_sem, ba_app])|intro _|apply And.intro|(apply Yh;clear Yh Y)));all_goals first|apply Hold.mk|omega|with_reducible assumption|skip))
    ((try refine CallT.toA ?_); refine callT_f (.inl ⟨rfl,rfl⟩) ?_; intro args ha; simp [go_sem] at ha; subst ha; refine ⟨_, hSh, ?_⟩; rintro _ rfl; refine ⟨rfl, ?_⟩; simp [go_sem]; ((repeat' (first|(refine ag_x ?_;simp [go_sem])|refine adr_nil ?_|((first|refine adr_qs fun Y Yh=>?_|refine adr_y fun Y Yh=>?_);simp [go_sem])|intro _|apply And.intro|(apply Yh;clear Yh Y)));all_goals first|apply Hold.mk|omega|with_reducible assumption|skip))
    ((try refine CallT.toA ?_); refine callT_f (.inl ⟨rfl,rfl⟩) ?_; intro args ha; simp [go_sem] at ha; subst ha; refine ⟨_, hPd, ?_⟩; rintro _ rfl; refine ⟨rfl, ?_⟩; simp [go_sem]; ((repeat' (first|(refine ag_x ?_;simp [go_sem])|refine adr_nil ?_|((first|refine adr_qs fun Y Yh=>?_|refine adr_y fun Y Yh=>?_);simp [go_sem])|intro _|apply And.intro|(apply Yh;clear Yh Y)));all_goals first|apply Hold.mk|omega|with_reducible assumption|skip))
    (refine awp_ret ?_; simp [go_sem, eV])
   ·refine callA_frz 38 rfl ?_
    (refine callA_l [900010] (.inl ⟨rfl,rfl⟩) (by simp [go_sem]) ?_; intro args ha; simp [go_sem] at ha; subst ha; refine ⟨_, _, newr_spec, (by simp [go_sem]), ?_⟩; rintro ps r hps ⟨gx, rfl, rfl⟩; simp [go_sem]; ((repeat' (first|(refine ag_x ?_;simp [go_sem])|refine adr_nil ?_|((first|refine adr_qs fun Y Yh=>?_|refine adr_y fun Y Yh=>?_);simp [go_sem])|intro _|apply And.intro|(apply Yh;clear Yh Y)));all_goals first|apply Hold.mk|omega|with_reducible assumption|skip))
    ((try refine CallT.toA ?_); refine callT_f (.inl ⟨rfl,rfl⟩) ?_; intro args ha; simp [go_sem] at ha; subst ha; refine ⟨_, hT, ?_⟩; rintro _ rfl; refine ⟨rfl, ?_⟩; simp [go_sem]; ((repeat' (first|(refine ag_x ?_;simp [go_sem])|refine adr_nil ?_|((first|refine adr_qs fun Y Yh=>?_|refine adr_y fun Y Yh=>?_);simp [go_sem])|intro _|apply And.intro|(apply Yh;clear Yh Y)));all_goals first|apply Hold.mk|omega|with_reducible assumption|skip))
    (refine callA_l [900010] (.inl ⟨rfl,rfl⟩) (by simp [go_sem]) ?_; intro args ha; simp [go_sem] at ha; subst ha; refine ⟨_, _, (hRp gx), (by simp [go_sem]), ?_⟩; rintro ps r hps ⟨⟨x, rfl⟩, rfl⟩; simp [go_sem]; ((repeat' (first|(refine ag_x ?_;simp [go_sem])|refine adr_nil ?_|((first|refine adr_qs fun Y Yh=>?_|refine adr_y fun Y Yh=>?_);simp [go_sem])|intro _|apply And.intro|(apply Yh;clear Yh Y)));all_goals first|apply Hold.mk|omega|with_reducible assumption|skip))
    ((refine awp_dr (.qs [2, 3, 4, 0, 1] (.kp 5 (.kp 6 (.qs [7, 8] (.nil))))) (by kernel_rfl) ?_ ?_ ?_ ?_); (kernel_rfl); (exact (by decide +kernel)); (kernel_rfl); intro Y Yh; ((repeat' (first|(refine ag_x ?_;simp [go_sem, ba_app])|refine adr_nil ?_|((first|refine adr_qs fun Y Yh=>?_|refine adr_y fun Y Yh=>?_);simp [go_sem, ba_app])|intro _|apply And.intro|(apply Yh;clear Yh Y)));all_goals first|apply Hold.mk|omega|with_reducible assumption|skip))
    ((try refine CallT.toA ?_); refine callT_f (.inl ⟨rfl,rfl⟩) ?_; intro args ha; simp [go_sem] at ha; subst ha; refine ⟨_, hSh, ?_⟩; rintro _ rfl; refine ⟨rfl, ?_⟩; simp [go_sem]; ((repeat' (first|(refine ag_x ?_;simp [go_sem])|refine adr_nil ?_|((first|refine adr_qs fun Y Yh=>?_|refine adr_y fun Y Yh=>?_);simp [go_sem])|intro _|apply And.intro|(apply Yh;clear Yh Y)));all_goals first|apply Hold.mk|omega|with_reducible assumption|skip))
    ((try refine CallT.toA ?_); refine callT_f (.inl ⟨rfl,rfl⟩) ?_; intro args ha; simp [go_sem] at ha; subst ha; refine ⟨_, hPd, ?_⟩; rintro _ rfl; refine ⟨rfl, ?_⟩; simp [go_sem]; ((repeat' (first|(refine ag_x ?_;simp [go_sem])|refine adr_nil ?_|((first|refine adr_qs fun Y Yh=>?_|refine adr_y fun Y Yh=>?_);simp [go_sem])|intro _|apply And.intro|(apply Yh;clear Yh Y)));all_goals first|apply Hold.mk|omega|with_reducible assumption|skip))
    (refine awp_ret ?_; simp [go_sem, eV])
  ·rw [if_pos (by simpa using hoe)] at eV
   (refine awp_sr fun Y Yh => ?_; simp [go_sem]; ((repeat' (first|(refine ag_x ?_;simp [go_sem])|intro _|apply And.intro|(apply Yh;clear Yh Y)));all_goals first|apply Hold.mk|omega|with_reducible assumption|skip))
   (refine awp_if fun T F hT hF => ?_; simp [go_sem, hoe]; refine hT ?_; clear hT hF T F)
   (refine awp_sr fun Y Yh => ?_; simp [go_sem]; ((repeat' (first|(refine ag_x ?_;simp [go_sem])|intro _|apply And.intro|(apply Yh;clear Yh Y)));all_goals first|apply Hold.mk|omega|with_reducible assumption|skip))
   (refine awp_ret ?_; simp [go_sem, eV])
 ·rw [if_pos (by simpa using he)] at eV
  (refine awp_sr fun Y Yh => ?_; simp [go_sem]; ((repeat' (first|(refine ag_x ?_;simp [go_sem])|intro _|apply And.intro|(apply Yh;clear Yh Y)));all_goals first|apply Hold.mk|omega|with_reducible assumption|skip))
  refine awp_renbox 3 900003 rfl rfl (by decide) fun gf => ?_
  simp only [go_sem]
  refine awp_seq_k fun K1 hK1 => ?_
  (refine awp_sr fun Y Yh => ?_; simp [go_sem]; ((repeat' (first|(refine ag_x ?_;simp [go_sem])|intro _|apply And.intro|(apply Yh;clear Yh Y)));all_goals first|apply Hold.mk|omega|with_reducible assumption|skip))
  (refine callA_l [900004, 900003] (.inl ⟨rfl,rfl⟩) (by simp [go_sem]) ?_; intro args ha; simp [go_sem] at ha; subst ha; refine ⟨_, _, (hS gf), (by simp [go_sem]), ?_⟩; rintro ps r hps ⟨rfl, rfl⟩; simp [go_sem]; ((repeat' (first|(refine ag_x ?_;simp [go_sem])|intro _|apply And.intro|(apply Yh;clear Yh Y)));all_goals first|apply Hold.mk|omega|with_reducible assumption|skip))
  (refine awp_sr fun Y Yh => ?_; simp [go_sem]; ((repeat' (first|(refine ag_x ?_;simp [go_sem])|intro _|apply And.intro|(apply Yh;clear Yh Y)));all_goals first|apply Hold.mk|omega|with_reducible assumption|skip))
  (refine awp_if fun T F hT hF => ?_; simp [go_sem, he]; refine hT ?_; clear hT hF T F)
  (refine awp_sr fun Y Yh => ?_; simp [go_sem]; ((repeat' (first|(refine ag_x ?_;simp [go_sem])|intro _|apply And.intro|(apply Yh;clear Yh Y)));all_goals first|apply Hold.mk|omega|with_reducible assumption|skip))
  (refine awp_ret ?_; simp [go_sem, eV])
theorem fillC_all {args : List Ag} (hA : AgsOk args) {form : Bs} : ∀ L, readV form = some L → ∀ f ∈ L, f.lt ≠ 0 → FillC args f := fun L hL f hf h0 u g hu => by
 obtain ⟨h1, h2, _⟩ := readV_ok hL f hf
 by_cases hp : f.lt = 112
 ·exact fill_p args u g f hA hu h1 hp
 ·exact fill_np args u g f hA hu h1 h0 (h2.resolve_left h0) hp
theorem format_spec (form : Bs) (args : List Ag) (hA : AgsOk args) (hfl : form.length ≤ 9223372036854775807) : PCall Tryz.prog 13 [dS form, dAs args] fun r => r = .tup [dS (runV form args).1, dI (runV form args).2.2] :=
 Format_spec form args hA hfl (fillC_all hA)
theorem runs_spec (form : Bs) (args : List Ag) (hA : AgsOk args) (hfl : form.length ≤ 9223372036854775807) : PCall Tryz.prog 32 [dS form, dAs args] fun r => r = .tup [dS (runV form args).1, dI (runV form args).2.1, dI (runV form args).2.2] :=
 run_spec form args hA hfl (fillC_all hA)
theorem left1_spec (f : Fld) : PCall Tryz.prog 48 [dF f] fun r => r = dB (!f.nm.isEmpty) := by 
 refine pcall_of Tryz.func48 rfl rfl Tryz.ntmps48 (rs := [.tmp 2]) (tys := [4]) rfl rfl (by simp) ?_
 (refine awp_sr fun Y Yh => ?_; simp [go_sem]; ((repeat' (first|(refine ag_x ?_;simp [go_sem])|intro _|apply And.intro|(apply Yh;clear Yh Y)));all_goals first|apply Hold.mk|omega|with_reducible assumption|skip))
 (refine awp_sr fun Y Yh => ?_; simp [go_sem]; ((repeat' (first|(refine ag_x ?_;simp [go_sem])|intro _|apply And.intro|(apply Yh;clear Yh Y)));all_goals first|apply Hold.mk|omega|with_reducible assumption|skip))
 (refine awp_ret ?_; simp [go_sem])
theorem indexF_spec (l : List Fld) (hl : l.length ≤ 1000000) : PCall Tryz.prog 70 [dFs l, .v (.func (.func 48) #[] #[])] fun r => r = dI (fIx (fun f : Fld => !f.nm.isEmpty) l) := by
 refine pcall_of Tryz.func70 rfl rfl Tryz.ntmps70 (rs := [.tmp 4]) (tys := [3]) rfl rfl (by simp) ?_
 (refine awp_sr fun Y Yh => ?_; simp [go_sem]; ((repeat' (first|(refine ag_x ?_;simp [go_sem])|intro _|apply And.intro|(apply Yh;clear Yh Y)));all_goals first|apply Hold.mk|omega|with_reducible assumption|skip))
 refine awp_seq_k fun K1 hK1 => ?_
 (refine awp_sr fun Y Yh => ?_; simp [go_sem]; ((repeat' (first|(refine ag_x ?_;simp [go_sem])|intro _|apply And.intro|(apply Yh;clear Yh Y)));all_goals first|apply Hold.mk|omega|with_reducible assumption|skip))
 refine awp_block ?_
 refine awp_loop (σ := Nat) (fun i => ⟨[(0, dFs l), (1, .v (.func (.func 48) #[] #[])), (7, dI l.length), (8, dI i)], []⟩) (fun i => i ≤ l.length ∧ (l.take i).any (fun f : Fld => !f.nm.isEmpty) = false) (fun i => l.length - i) 0 (by (refine cov_of ?_ ?_ <;> simp [go_sem])) (by simp) ?_
 rintro i ⟨hi, hany⟩
 (refine awp_sr fun Y Yh => ?_; simp [go_sem]; ((repeat' (first|(refine ag_x ?_;simp [go_sem])|intro _|apply And.intro|(apply Yh;clear Yh Y)));all_goals first|apply Hold.mk|omega|with_reducible assumption|skip))
 refine awp_seq_k fun K2 hK2 => ?_
 by_cases h3 : i < l.length
 ·(refine awp_if fun T F hT hF => ?_; simp [go_sem, h3]; refine hT ?_; clear hT hF T F)
  refine awp_skip ?_
  refine hK2 _ ?_; clear hK2
  obtain ⟨x, hx⟩ : ∃ x, l[i]? = some x := ⟨_, List.getElem?_eq_getElem (by omega)⟩
  refine awp_seq_k fun K4 hK4 => ?_
  refine awp_block ?_
  (refine awp_sr fun Y Yh => ?_; simp [go_sem]; ((repeat' (first|(refine ag_x ?_;simp [go_sem])|intro _|apply And.intro|(apply Yh;clear Yh Y)));all_goals first|apply Hold.mk|omega|with_reducible assumption|skip))
  (refine awp_sr fun Y Yh => ?_; simp [go_sem, hx]; ((repeat' (first|(refine ag_x ?_;simp [go_sem, hx])|intro _|apply And.intro|(apply Yh;clear Yh Y)));all_goals first|apply Hold.mk|omega|with_reducible assumption|skip))
  ((try refine CallT.toA ?_); refine callT_m (.inl ⟨rfl,rfl⟩) (by simp [go_sem]) ?_; intro args ha; simp [go_sem] at ha; subst ha; refine ⟨_, (left1_spec x), ?_⟩; rintro _ rfl; simp [go_sem]; ((repeat' (first|(refine ag_x ?_;simp [go_sem])|intro _|apply And.intro|(apply Yh;clear Yh Y)));all_goals first|apply Hold.mk|omega|with_reducible assumption|skip))
  cases h5 : !x.nm.isEmpty with
  | true =>
   rw [Bool.not_eq_true'] at h5
   (refine awp_if fun T F hT hF => ?_; simp [go_sem, h5]; refine hT ?_; clear hT hF T F)
   (refine awp_sr fun Y Yh => ?_; simp [go_sem]; ((repeat' (first|(refine ag_x ?_;simp [go_sem])|intro _|apply And.intro|(apply Yh;clear Yh Y)));all_goals first|apply Hold.mk|omega|with_reducible assumption|skip))
   (refine awp_ret ?_; simp [go_sem])
   rw [fIx_at hany hx (by simp [h5])]
  | false =>
   have h6 := h5
   rw [Bool.not_eq_false'] at h5
   (refine awp_if fun T F hT hF => ?_; simp [go_sem, h5]; refine hF ?_; clear hT hF T F)
   refine awp_skip ?_
   refine hK4 _ ?_; clear hK4
   (refine awp_r fun Y Yh => ?_; simp [go_sem]; ((repeat' (first|(refine ag_x ?_;simp [go_sem])|intro _|apply And.intro|(apply Yh;clear Yh Y)));all_goals first|apply Hold.mk|omega|with_reducible assumption|skip))
   refine ⟨i + 1, ?_, ⟨by omega, take_anyG hany hx h6⟩, by omega⟩
   (refine cov_of ?_ ?_ <;> simp [go_sem])
 ·(refine awp_if fun T F hT hF => ?_; simp [go_sem, h3]; refine hF ?_; clear hT hF T F)
  refine awp_exit ?_
  simp only [go_sem]
  refine hK1 _ ?_; clear hK1
  (refine awp_sr fun Y Yh => ?_; simp [go_sem]; ((repeat' (first|(refine ag_x ?_;simp [go_sem])|intro _|apply And.intro|(apply Yh;clear Yh Y)));all_goals first|apply Hold.mk|omega|with_reducible assumption|skip))
  (refine awp_ret ?_; simp [go_sem])
  have : i = l.length := by omega
  subst this
  rw [List.take_length] at hany
  rw [fIx_none hany]
theorem fIx_any {α : Type} (p : α → Bool) (l : List α) : decide (0 ≤ fIx p l) = l.any p := by
 rw [Bool.eq_iff_iff, decide_eq_true_eq]
 have h := find_fIx p l
 rcases h with ⟨h1, h2⟩ | ⟨i, a, h1, h2, h3⟩
 ·rw [h2]
  constructor
  ·intro q; omega
  ·intro q
   rw [List.any_eq_true] at q
   obtain ⟨x, hx, hp⟩ := q
   exact absurd hp (List.find?_eq_none.1 h1 x hx)
 ·rw [h2]
  refine ⟨fun _ => ?_, fun _ => by omega⟩
  exact List.any_eq_true.2 ⟨a, List.mem_of_getElem? h3, List.find?_some h1⟩
theorem containsF_spec (l : List Fld) (hl : l.length ≤ 1000000) : PCall Tryz.prog 47 [dFs l, .v (.func (.func 48) #[] #[])] fun r => r = dB (l.any fun f : Fld => !f.nm.isEmpty) := by
 refine pcall_of Tryz.func47 rfl rfl Tryz.ntmps47 (rs := [.tmp 4]) (tys := [4]) rfl rfl (by simp) ?_
 have hI := indexF_spec l hl
 have ha := fIx_any (fun f : Fld => !f.nm.isEmpty) l
 generalize fIx (fun f : Fld => !f.nm.isEmpty) l = j at *
 generalize (l.any fun f : Fld => !f.nm.isEmpty) = b at *
 (refine awp_sr fun Y Yh => ?_; simp [go_sem]; ((repeat' (first|(refine ag_x ?_;simp [go_sem])|intro _|apply And.intro|(apply Yh;clear Yh Y)));all_goals first|apply Hold.mk|omega|with_reducible assumption|skip))
 (refine awp_sr fun Y Yh => ?_; simp [go_sem]; ((repeat' (first|(refine ag_x ?_;simp [go_sem])|intro _|apply And.intro|(apply Yh;clear Yh Y)));all_goals first|apply Hold.mk|omega|with_reducible assumption|skip))
 ((try refine CallT.toA ?_); refine callT_f (.inl ⟨rfl,rfl⟩) ?_; intro args ha; simp [go_sem] at ha; subst ha; refine ⟨_, hI, ?_⟩; rintro _ rfl; refine ⟨rfl, ?_⟩; simp [go_sem]; ((repeat' (first|(refine ag_x ?_;simp [go_sem])|intro _|apply And.intro|(apply Yh;clear Yh Y)));all_goals first|apply Hold.mk|omega|with_reducible assumption|skip))
 (refine awp_ret ?_; simp [go_sem, ha])
def leftV (form : Bs) (args : List Ag) : Int × Nat := match readV form with
 | none => (0, 4)
 | some L => if (fillsV args L 0 []).2.2 ≠ 0 ∨ (L.any fun f : Fld => !f.nm.isEmpty) = true then (0, (fillsV args L 0 []).2.2) else ((args.length : Int) - (fillsV args L 0 []).2.1, 0)
theorem fills_used {args : List Ag} : ∀ (L : List Fld) (u : Nat) (out : Bs), u ≤ args.length → (fillsV args L u out).2.1 ≤ args.length
 | [], u, out, h => h
 | f :: L, u, out, h => by
  have := fill_le h f
  unfold fillsV
  simp only
  split
  ·simp
  ·split
   ·simp
   ·exact fills_used L _ _ this
set_option maxHeartbeats 8000000 in
theorem left_spec (form : Bs) (args : List Ag) (hA : AgsOk args) (hfl : form.length ≤ 9223372036854775807) : PCall Tryz.prog 28 [dS form, dAs args] fun r => r = .tup [dI (leftV form args).1, dI (leftV form args).2] := by 
 refine pcall_of Tryz.func28 rfl rfl Tryz.ntmps28 (rs := [.tmp 4, .tmp 5]) (tys := [3, 34]) rfl rfl (by simp) ?_
 have hR := runs_spec form args hA hfl
 have hD := read_spec form hfl
 have hal := hA.1
 unfold leftV
 unfold runV at hR
 cases hr : readV form with
 | none =>
  rw [hr] at hR hD
  simp only at hR ⊢
  (refine awp_sr fun Y Yh => ?_; simp [go_sem]; ((repeat' (first|(refine ag_x ?_;simp [go_sem])|intro _|apply And.intro|(apply Yh;clear Yh Y)));all_goals first|apply Hold.mk|omega|with_reducible assumption|skip))
  (refine awp_sr fun Y Yh => ?_; simp [go_sem]; ((repeat' (first|(refine ag_x ?_;simp [go_sem])|intro _|apply And.intro|(apply Yh;clear Yh Y)));all_goals first|apply Hold.mk|omega|with_reducible assumption|skip))
  ((try refine CallT.toA ?_); refine callT_m (.inl ⟨rfl,rfl⟩) (by simp [go_sem]) ?_; intro args ha; simp [go_sem] at ha; subst ha; refine ⟨_, hR, ?_⟩; rintro _ rfl; simp [go_sem]; ((repeat' (first|(refine ag_x ?_;simp [go_sem])|intro _|apply And.intro|(apply Yh;clear Yh Y)));all_goals first|apply Hold.mk|omega|with_reducible assumption|skip))
  (refine awp_sr fun Y Yh => ?_; simp [go_sem]; ((repeat' (first|(refine ag_x ?_;simp [go_sem])|intro _|apply And.intro|(apply Yh;clear Yh Y)));all_goals first|apply Hold.mk|omega|with_reducible assumption|skip))
  ((try refine CallT.toA ?_); refine callT_m (.inl ⟨rfl,rfl⟩) (by simp [go_sem]) ?_; intro args ha; simp [go_sem] at ha; subst ha; refine ⟨_, hD, ?_⟩; rintro _ ⟨L', rfl⟩; simp [go_sem]; ((repeat' (first|(refine ag_x ?_;simp [go_sem])|intro _|apply And.intro|(apply Yh;clear Yh Y)));all_goals first|apply Hold.mk|omega|with_reducible assumption|skip))
  refine awp_seq_k fun K1 hK1 => ?_
  (refine awp_sr fun Y Yh => ?_; simp [go_sem]; ((repeat' (first|(refine ag_false ?_ ?_ ?_;(focus (simp [go_sem, undef];done));(focus (simp [go_sem];done));simp [go_sem])|(refine ag_true ?_ ?_;(focus (simp [go_sem, undef];done));simp [go_sem])|(refine ag_x ?_;simp [go_sem, undef])|intro _|apply And.intro|(apply Yh;clear Yh Y)));all_goals first|apply Hold.mk|omega|with_reducible assumption|skip))
  (refine awp_if fun T F hT hF => ?_; simp [go_sem]; refine hT ?_; clear hT hF T F)
  (refine awp_sr fun Y Yh => ?_; simp [go_sem]; ((repeat' (first|(refine ag_x ?_;simp [go_sem])|intro _|apply And.intro|(apply Yh;clear Yh Y)));all_goals first|apply Hold.mk|omega|with_reducible assumption|skip))
  (refine awp_ret ?_; simp [go_sem])
 | some L =>
  rw [hr] at hR hD
  have hlen : L.length ≤ 100000 := readV_len hr
  have hu := fills_used (args := args) L 0 [] (by omega)
  have hC := containsF_spec L (by omega)
  simp only at hR ⊢
  generalize fillsV args L 0 [] = q at *
  generalize (L.any fun f : Fld => !f.nm.isEmpty) = b at *
  obtain ⟨t, u, e⟩ := q
  simp only at hR hu ⊢
  (refine awp_sr fun Y Yh => ?_; simp [go_sem]; ((repeat' (first|(refine ag_x ?_;simp [go_sem])|intro _|apply And.intro|(apply Yh;clear Yh Y)));all_goals first|apply Hold.mk|omega|with_reducible assumption|skip))
  (refine awp_sr fun Y Yh => ?_; simp [go_sem]; ((repeat' (first|(refine ag_x ?_;simp [go_sem])|intro _|apply And.intro|(apply Yh;clear Yh Y)));all_goals first|apply Hold.mk|omega|with_reducible assumption|skip))
  ((try refine CallT.toA ?_); refine callT_m (.inl ⟨rfl,rfl⟩) (by simp [go_sem]) ?_; intro args ha; simp [go_sem] at ha; subst ha; refine ⟨_, hR, ?_⟩; rintro _ rfl; simp [go_sem]; ((repeat' (first|(refine ag_x ?_;simp [go_sem])|intro _|apply And.intro|(apply Yh;clear Yh Y)));all_goals first|apply Hold.mk|omega|with_reducible assumption|skip))
  (refine awp_sr fun Y Yh => ?_; simp [go_sem]; ((repeat' (first|(refine ag_x ?_;simp [go_sem])|intro _|apply And.intro|(apply Yh;clear Yh Y)));all_goals first|apply Hold.mk|omega|with_reducible assumption|skip))
  ((try refine CallT.toA ?_); refine callT_m (.inl ⟨rfl,rfl⟩) (by simp [go_sem]) ?_; intro args ha; simp [go_sem] at ha; subst ha; refine ⟨_, hD, ?_⟩; rintro _ rfl; simp [go_sem]; ((repeat' (first|(refine ag_x ?_;simp [go_sem])|intro _|apply And.intro|(apply Yh;clear Yh Y)));all_goals first|apply Hold.mk|omega|with_reducible assumption|skip))
  refine awp_seq_k fun K1 hK1 => ?_
  by_cases he : e = 0
  ·subst he
   (refine awp_sr fun Y Yh => ?_; simp [go_sem]; ((repeat' (first|(refine ag_false ?_ ?_ ?_;(focus (simp [go_sem, undef];done));(focus (simp [go_sem];done));simp [go_sem])|(refine ag_true ?_ ?_;(focus (simp [go_sem, undef];done));simp [go_sem])|(refine ag_x ?_;simp [go_sem, undef])|intro _|apply And.intro|(apply Yh;clear Yh Y)));all_goals first|apply Hold.mk|omega|with_reducible assumption|skip))
   ((try refine CallT.toA ?_); refine callT_m (.inl ⟨rfl,rfl⟩) (by simp [go_sem]) ?_; intro args ha; simp [go_sem] at ha; subst ha; refine ⟨_, hC, ?_⟩; rintro _ rfl; simp [go_sem]; ((repeat' (first|(refine ag_false ?_ ?_ ?_;(focus (simp [go_sem, undef];done));(focus (simp [go_sem];done));simp [go_sem])|(refine ag_true ?_ ?_;(focus (simp [go_sem, undef];done));simp [go_sem])|(refine ag_x ?_;simp [go_sem, undef])|intro _|apply And.intro|(apply Yh;clear Yh Y)));all_goals first|apply Hold.mk|omega|with_reducible assumption|skip))
   cases b with
   | true =>
    (refine awp_if fun T F hT hF => ?_; simp [go_sem]; refine hT ?_; clear hT hF T F)
    (refine awp_sr fun Y Yh => ?_; simp [go_sem]; ((repeat' (first|(refine ag_x ?_;simp [go_sem])|intro _|apply And.intro|(apply Yh;clear Yh Y)));all_goals first|apply Hold.mk|omega|with_reducible assumption|skip))
    (refine awp_ret ?_; simp [go_sem])
   | false =>
    (refine awp_if fun T F hT hF => ?_; simp [go_sem]; refine hF ?_; clear hT hF T F)
    refine awp_skip ?_
    refine hK1 _ ?_; clear hK1
    (refine awp_sr fun Y Yh => ?_; simp [go_sem]; ((repeat' (first|(refine ag_x ?_;simp [go_sem])|intro _|apply And.intro|(apply Yh;clear Yh Y)));all_goals first|apply Hold.mk|omega|with_reducible assumption|skip))
    (refine awp_ret ?_; simp [go_sem])
  ·have hz : ((e : Int) = 0) = False := by simp; omega
   (refine awp_sr fun Y Yh => ?_; simp [go_sem, he, hz]; ((repeat' (first|(refine ag_false ?_ ?_ ?_;(focus (simp [go_sem, undef, he, hz];done));(focus (simp [go_sem];done));simp [go_sem, he, hz])|(refine ag_true ?_ ?_;(focus (simp [go_sem, undef, he, hz];done));simp [go_sem, he, hz])|(refine ag_x ?_;simp [go_sem, undef, he, hz])|intro _|apply And.intro|(apply Yh;clear Yh Y)));all_goals first|apply Hold.mk|omega|with_reducible assumption|skip))
   (refine awp_if fun T F hT hF => ?_; simp [go_sem]; refine hT ?_; clear hT hF T F)
   (refine awp_sr fun Y Yh => ?_; simp [go_sem]; ((repeat' (first|(refine ag_x ?_;simp [go_sem])|intro _|apply And.intro|(apply Yh;clear Yh Y)));all_goals first|apply Hold.mk|omega|with_reducible assumption|skip))
   (refine awp_ret ?_; simp [go_sem, he])
theorem check_spec (form : Bs) (hfl : form.length ≤ 9223372036854775807) : PCall Tryz.prog 30 [dS form] fun r => r = dI (if (readV form).isSome then 0 else 4) := by 
 refine pcall_of Tryz.func30 rfl rfl Tryz.ntmps30 (rs := [.tmp 2]) (tys := [34]) rfl rfl (by simp) ?_
 have hD := read_spec form hfl
 cases hr : readV form with
 | none =>
  rw [hr] at hD
  (refine awp_sr fun Y Yh => ?_; simp [go_sem]; ((repeat' (first|(refine ag_x ?_;simp [go_sem])|intro _|apply And.intro|(apply Yh;clear Yh Y)));all_goals first|apply Hold.mk|omega|with_reducible assumption|skip))
  refine awp_seq_k fun K1 hK1 => ?_
  (refine awp_sr fun Y Yh => ?_; simp [go_sem]; ((repeat' (first|(refine ag_x ?_;simp [go_sem])|intro _|apply And.intro|(apply Yh;clear Yh Y)));all_goals first|apply Hold.mk|omega|with_reducible assumption|skip))
  ((try refine CallT.toA ?_); refine callT_m (.inl ⟨rfl,rfl⟩) (by simp [go_sem]) ?_; intro args ha; simp [go_sem] at ha; subst ha; refine ⟨_, hD, ?_⟩; rintro _ ⟨L', rfl⟩; simp [go_sem]; ((repeat' (first|(refine ag_x ?_;simp [go_sem])|intro _|apply And.intro|(apply Yh;clear Yh Y)));all_goals first|apply Hold.mk|omega|with_reducible assumption|skip))
  (refine awp_sr fun Y Yh => ?_; simp [go_sem]; ((repeat' (first|(refine ag_x ?_;simp [go_sem])|intro _|apply And.intro|(apply Yh;clear Yh Y)));all_goals first|apply Hold.mk|omega|with_reducible assumption|skip))
  (refine awp_if fun T F hT hF => ?_; simp [go_sem]; refine hT ?_; clear hT hF T F)
  (refine awp_sr fun Y Yh => ?_; simp [go_sem]; ((repeat' (first|(refine ag_x ?_;simp [go_sem])|intro _|apply And.intro|(apply Yh;clear Yh Y)));all_goals first|apply Hold.mk|omega|with_reducible assumption|skip))
  (refine awp_ret ?_; simp [go_sem])
 | some L =>
  rw [hr] at hD
  (refine awp_sr fun Y Yh => ?_; simp [go_sem]; ((repeat' (first|(refine ag_x ?_;simp [go_sem])|intro _|apply And.intro|(apply Yh;clear Yh Y)));all_goals first|apply Hold.mk|omega|with_reducible assumption|skip))
  refine awp_seq_k fun K1 hK1 => ?_
  (refine awp_sr fun Y Yh => ?_; simp [go_sem]; ((repeat' (first|(refine ag_x ?_;simp [go_sem])|intro _|apply And.intro|(apply Yh;clear Yh Y)));all_goals first|apply Hold.mk|omega|with_reducible assumption|skip))
  ((try refine CallT.toA ?_); refine callT_m (.inl ⟨rfl,rfl⟩) (by simp [go_sem]) ?_; intro args ha; simp [go_sem] at ha; subst ha; refine ⟨_, hD, ?_⟩; rintro _ rfl; simp [go_sem]; ((repeat' (first|(refine ag_x ?_;simp [go_sem])|intro _|apply And.intro|(apply Yh;clear Yh Y)));all_goals first|apply Hold.mk|omega|with_reducible assumption|skip))
  (refine awp_sr fun Y Yh => ?_; simp [go_sem]; ((repeat' (first|(refine ag_x ?_;simp [go_sem])|intro _|apply And.intro|(apply Yh;clear Yh Y)));all_goals first|apply Hold.mk|omega|with_reducible assumption|skip))
  (refine awp_if fun T F hT hF => ?_; simp [go_sem]; refine hF ?_; clear hT hF T F)
  refine awp_skip ?_
  refine hK1 _ ?_; clear hK1
  (refine awp_sr fun Y Yh => ?_; simp [go_sem]; ((repeat' (first|(refine ag_x ?_;simp [go_sem])|intro _|apply And.intro|(apply Yh;clear Yh Y)));all_goals first|apply Hold.mk|omega|with_reducible assumption|skip))
  (refine awp_ret ?_; simp [go_sem])
theorem rformat_spec (form : Bs) (args : List Ag) (hA : AgsOk args) (hfl : form.length ≤ 9223372036854775807) : PCall Tryz.prog 23 [dS form, dAs args] fun r => r = .tup [dS (runV form args).1, dI (runV form args).2.2] := by 
 refine pcall_of Tryz.func23 rfl rfl Tryz.ntmps23 (rs := [.tmp 4, .tmp 5]) (tys := [9, 34]) rfl rfl (by simp) ?_
 have hR := filling_spec form args hA hfl
 generalize runV form args = q at *
 obtain ⟨t, u, e⟩ := q
 (refine awp_sr fun Y Yh => ?_; simp [go_sem]; ((repeat' (first|(refine ag_x ?_;simp [go_sem])|intro _|apply And.intro|(apply Yh;clear Yh Y)));all_goals first|apply Hold.mk|omega|with_reducible assumption|skip))
 (refine awp_sr fun Y Yh => ?_; simp [go_sem]; ((repeat' (first|(refine ag_x ?_;simp [go_sem])|intro _|apply And.intro|(apply Yh;clear Yh Y)));all_goals first|apply Hold.mk|omega|with_reducible assumption|skip))
 ((try refine CallT.toA ?_); refine callT_m (.inl ⟨rfl,rfl⟩) (by simp [go_sem]) ?_; intro args ha; simp [go_sem] at ha; subst ha; refine ⟨_, hR, ?_⟩; rintro _ rfl; simp [go_sem]; ((repeat' (first|(refine ag_x ?_;simp [go_sem])|intro _|apply And.intro|(apply Yh;clear Yh Y)));all_goals first|apply Hold.mk|omega|with_reducible assumption|skip))
 (refine awp_sr fun Y Yh => ?_; simp [go_sem]; ((repeat' (first|(refine ag_x ?_;simp [go_sem])|intro _|apply And.intro|(apply Yh;clear Yh Y)));all_goals first|apply Hold.mk|omega|with_reducible assumption|skip))
 (refine awp_ret ?_; simp [go_sem])
theorem any_named (form : Bs) {L : List Rf} {a b : Nat} (hr : rReadV form = some (L, a, b)) : ((convL L).any fun f : Fld => !f.nm.isEmpty) = decide (0 < a) := by
 have hc : a = cntN L := by
  unfold rReadV at hr
  split at hr
  ·cases hr
  ·exact (read_cnt _ _ _ _ _ _ _ _ hr rfl rfl).1
 have hnm : ∀ f ∈ L, f.lt = 0 → f.nm = [] := by
  unfold rReadV at hr
  split at hr
  ·cases hr
  ·exact read_nm _ _ _ _ _ _ _ _ hr (by simp)
 rw [hc]
 clear hc hr
 rw [Bool.eq_iff_iff, List.any_eq_true, decide_eq_true_eq]
 unfold cntN
 rw [List.countP_pos_iff]
 constructor
 ·rintro ⟨g, hg, hq⟩
  unfold convL at hg
  obtain ⟨f, hf, hg⟩ := List.mem_flatMap.1 hg
  unfold conv1 at hg
  split at hg
  ·split at hg
   ·simp at hg
   ·rw [List.mem_singleton] at hg; subst hg; simp [fdT] at hq
  ·rename_i h0
   rw [List.mem_singleton] at hg
   subst hg
   refine ⟨f, hf, ?_⟩
   simp only [Bool.and_eq_true, bne_iff_ne]
   refine ⟨h0, fun q => ?_⟩
   simp [toFd, q] at hq
 ·rintro ⟨f, hf, hq⟩
  simp only [Bool.and_eq_true, bne_iff_ne] at hq
  refine ⟨toFd f, List.mem_flatMap.2 ⟨f, hf, ?_⟩, ?_⟩
  ·unfold conv1; rw [if_neg hq.1]; simp
  ·cases h : f.nm with
   | nil => exact absurd h hq.2
   | cons x y => simp [toFd, h]
theorem leftV_r (form : Bs) (args : List Ag) : leftV form args = match rReadV form with
  | none => (0, 4)
  | some (L, a, b) => if 0 < a ∧ 0 < b then (0, 4) else if (runV form args).2.2 ≠ 0 then (0, (runV form args).2.2) else if 0 < a then (0, 0) else ((args.length : Int) - (runV form args).2.1, 0) := by
 unfold leftV
 have hrun : ∀ L, readV form = some L → fillsV args L 0 [] = runV form args := fun L h => by unfold runV; rw [h]
 cases hr : rReadV form with
 | none =>
  have : readV form = none := by rw [readV_same, hr]; rfl
  rw [this]
 | some q =>
  obtain ⟨L, a, b⟩ := q
  simp only
  by_cases h : 0 < a ∧ 0 < b
  ·have : readV form = none := by rw [readV_same, hr]; simp only [endV, if_pos h]
   rw [this, if_pos h]
  ·have e : readV form = some (convL L) := by rw [readV_same, hr]; simp only [endV, if_neg h]
   rw [if_neg h, e]
   simp only
   rw [hrun _ e, any_named form hr]
   by_cases he : (runV form args).2.2 ≠ 0
   ·rw [if_pos (.inl he), if_pos he]
   ·rw [if_neg he]
    by_cases ha : 0 < a
    ·rw [if_pos (.inr (by simpa using ha)), if_pos ha, Classical.not_not.1 he]
    ·rw [if_neg (by rintro (q | q); exact he q; exact ha (by simpa using q)), if_neg ha]
theorem run_used {form : Bs} {args : List Ag} : (runV form args).2.1 ≤ args.length := by
 unfold runV
 split
 ·simp
 ·exact fills_used _ _ _ (by omega)
theorem left_cases (form : Bs) (args : List Ag) : ((runV form args).2.2 ≠ 0 ∧ leftV form args = (0, (runV form args).2.2)) ∨ ((runV form args).2.2 = 0 ∧ ∃ L a b, rReadV form = some (L, a, b) ∧ ¬ (0 < a ∧ 0 < b) ∧ leftV form args = if 0 < a then (0, 0) else ((args.length : Int) - (runV form args).2.1, 0)) := by
 rw [leftV_r]
 cases hr : rReadV form with
 | none =>
  have h : (runV form args).2.2 = 4 := by rw [runV_r, hr]
  left
  rw [h]
  exact ⟨by decide, rfl⟩
 | some q =>
  obtain ⟨L, a, b⟩ := q
  simp only
  by_cases hab : 0 < a ∧ 0 < b
  ·have h : (runV form args).2.2 = 4 := by rw [runV_r, hr]; simp only; rw [if_pos hab]
   left
   rw [h, if_pos hab]
   exact ⟨by decide, rfl⟩
  ·rw [if_neg hab]
   by_cases he : (runV form args).2.2 = 0
   ·right
    refine ⟨he, L, a, b, rfl, hab, ?_⟩
    rw [if_neg (by rw [he]; simp)]
   ·left
    exact ⟨he, by rw [if_pos he]⟩
set_option maxHeartbeats 8000000 in
theorem rleft_spec (form : Bs) (args : List Ag) (hA : AgsOk args) (hfl : form.length ≤ 9223372036854775807) : PCall Tryz.prog 29 [dS form, dAs args] fun r => r = .tup [dI (leftV form args).1, dI (leftV form args).2] := by 
 refine pcall_of Tryz.func29 rfl rfl Tryz.ntmps29 (rs := [.tmp 4, .tmp 5]) (tys := [3, 34]) rfl rfl (by simp) ?_
 have hR := filling_spec form args hA hfl
 have hD := rread_spec form hfl
 have hal := hA.1
 have hu := run_used (form := form) (args := args)
 rcases left_cases form args with ⟨he, hV⟩ | ⟨he, L, a, b, hr, hab, hV⟩
 ·rw [hV]
  generalize runV form args = q at *
  obtain ⟨t, u, e⟩ := q
  simp only at hR he ⊢
  (refine awp_sr fun Y Yh => ?_; simp [go_sem]; ((repeat' (first|(refine ag_x ?_;simp [go_sem])|intro _|apply And.intro|(apply Yh;clear Yh Y)));all_goals first|apply Hold.mk|omega|with_reducible assumption|skip))
  (refine awp_sr fun Y Yh => ?_; simp [go_sem]; ((repeat' (first|(refine ag_x ?_;simp [go_sem])|intro _|apply And.intro|(apply Yh;clear Yh Y)));all_goals first|apply Hold.mk|omega|with_reducible assumption|skip))
  ((try refine CallT.toA ?_); refine callT_m (.inl ⟨rfl,rfl⟩) (by simp [go_sem]) ?_; intro args ha; simp [go_sem] at ha; subst ha; refine ⟨_, hR, ?_⟩; rintro _ rfl; simp [go_sem]; ((repeat' (first|(refine ag_x ?_;simp [go_sem])|intro _|apply And.intro|(apply Yh;clear Yh Y)));all_goals first|apply Hold.mk|omega|with_reducible assumption|skip))
  refine awp_seq_k fun K1 hK1 => ?_
  (refine awp_sr fun Y Yh => ?_; simp [go_sem]; ((repeat' (first|(refine ag_x ?_;simp [go_sem])|intro _|apply And.intro|(apply Yh;clear Yh Y)));all_goals first|apply Hold.mk|omega|with_reducible assumption|skip))
  (refine awp_if fun T F hT hF => ?_; simp [go_sem, he]; refine hT ?_; clear hT hF T F)
  (refine awp_sr fun Y Yh => ?_; simp [go_sem]; ((repeat' (first|(refine ag_x ?_;simp [go_sem])|intro _|apply And.intro|(apply Yh;clear Yh Y)));all_goals first|apply Hold.mk|omega|with_reducible assumption|skip))
  (refine awp_ret ?_; simp [go_sem])
 ·rw [hV]
  rw [hr] at hD
  generalize runV form args = q at *
  obtain ⟨t, u, e⟩ := q
  simp only at hR he hu ⊢
  subst he
  simp only [rrR] at hD
  generalize hlo : (decide (a = 0) || decide (b = 0)) = lo at *
  (refine awp_sr fun Y Yh => ?_; simp [go_sem]; ((repeat' (first|(refine ag_x ?_;simp [go_sem])|intro _|apply And.intro|(apply Yh;clear Yh Y)));all_goals first|apply Hold.mk|omega|with_reducible assumption|skip))
  (refine awp_sr fun Y Yh => ?_; simp [go_sem]; ((repeat' (first|(refine ag_x ?_;simp [go_sem])|intro _|apply And.intro|(apply Yh;clear Yh Y)));all_goals first|apply Hold.mk|omega|with_reducible assumption|skip))
  ((try refine CallT.toA ?_); refine callT_m (.inl ⟨rfl,rfl⟩) (by simp [go_sem]) ?_; intro args ha; simp [go_sem] at ha; subst ha; refine ⟨_, hR, ?_⟩; rintro _ rfl; simp [go_sem]; ((repeat' (first|(refine ag_x ?_;simp [go_sem])|intro _|apply And.intro|(apply Yh;clear Yh Y)));all_goals first|apply Hold.mk|omega|with_reducible assumption|skip))
  refine awp_seq_k fun K1 hK1 => ?_
  (refine awp_sr fun Y Yh => ?_; simp [go_sem]; ((repeat' (first|(refine ag_x ?_;simp [go_sem])|intro _|apply And.intro|(apply Yh;clear Yh Y)));all_goals first|apply Hold.mk|omega|with_reducible assumption|skip))
  (refine awp_if fun T F hT hF => ?_; simp [go_sem]; refine hF ?_; clear hT hF T F)
  refine awp_skip ?_
  refine hK1 _ ?_; clear hK1
  refine awp_seq_k fun K3 hK3 => ?_
  (refine awp_sr fun Y Yh => ?_; simp [go_sem]; ((repeat' (first|(refine ag_x ?_;simp [go_sem])|intro _|apply And.intro|(apply Yh;clear Yh Y)));all_goals first|apply Hold.mk|omega|with_reducible assumption|skip))
  ((try refine CallT.toA ?_); refine callT_m (.inl ⟨rfl,rfl⟩) (by simp [go_sem]) ?_; intro args ha; simp [go_sem] at ha; subst ha; refine ⟨_, hD, ?_⟩; rintro _ rfl; simp [go_sem]; ((repeat' (first|(refine ag_x ?_;simp [go_sem])|intro _|apply And.intro|(apply Yh;clear Yh Y)));all_goals first|apply Hold.mk|omega|with_reducible assumption|skip))
  (refine awp_sr fun Y Yh => ?_; simp [go_sem]; ((repeat' (first|(refine ag_x ?_;simp [go_sem])|intro _|apply And.intro|(apply Yh;clear Yh Y)));all_goals first|apply Hold.mk|omega|with_reducible assumption|skip))
  by_cases ha : 0 < a
  ·(refine awp_if fun T F hT hF => ?_; simp [go_sem, ha]; refine hT ?_; clear hT hF T F)
   (refine awp_sr fun Y Yh => ?_; simp [go_sem]; ((repeat' (first|(refine ag_x ?_;simp [go_sem])|intro _|apply And.intro|(apply Yh;clear Yh Y)));all_goals first|apply Hold.mk|omega|with_reducible assumption|skip))
   (refine awp_ret ?_; simp [go_sem, ha])
  ·(refine awp_if fun T F hT hF => ?_; simp [go_sem, ha]; refine hF ?_; clear hT hF T F)
   refine awp_skip ?_
   refine hK3 _ ?_; clear hK3
   (refine awp_sr fun Y Yh => ?_; simp [go_sem]; ((repeat' (first|(refine ag_x ?_;simp [go_sem])|intro _|apply And.intro|(apply Yh;clear Yh Y)));all_goals first|apply Hold.mk|omega|with_reducible assumption|skip))
   (refine awp_ret ?_; simp [go_sem, ha])
theorem rcheck_spec (form : Bs) (hfl : form.length ≤ 9223372036854775807) : PCall Tryz.prog 31 [dS form] fun r => r = dI (if (readV form).isSome then 0 else 4) := by 
 refine pcall_of Tryz.func31 rfl rfl Tryz.ntmps31 (rs := [.tmp 2]) (tys := [34]) rfl rfl (by simp) ?_
 have hD := rread_spec form hfl
 rw [readV_same]
 cases hr : rReadV form with
 | none =>
  rw [hr] at hD
  simp only [rrR] at hD
  (refine awp_sr fun Y Yh => ?_; simp [go_sem]; ((repeat' (first|(refine ag_x ?_;simp [go_sem])|intro _|apply And.intro|(apply Yh;clear Yh Y)));all_goals first|apply Hold.mk|omega|with_reducible assumption|skip))
  refine awp_seq_k fun K1 hK1 => ?_
  (refine awp_sr fun Y Yh => ?_; simp [go_sem]; ((repeat' (first|(refine ag_x ?_;simp [go_sem])|intro _|apply And.intro|(apply Yh;clear Yh Y)));all_goals first|apply Hold.mk|omega|with_reducible assumption|skip))
  ((try refine CallT.toA ?_); refine callT_m (.inl ⟨rfl,rfl⟩) (by simp [go_sem]) ?_; intro args ha; simp [go_sem] at ha; subst ha; refine ⟨_, hD, ?_⟩; rintro _ rfl; simp [go_sem]; ((repeat' (first|(refine ag_x ?_;simp [go_sem])|intro _|apply And.intro|(apply Yh;clear Yh Y)));all_goals first|apply Hold.mk|omega|with_reducible assumption|skip))
  (refine awp_sr fun Y Yh => ?_; simp [go_sem]; ((repeat' (first|(refine ag_x ?_;simp [go_sem])|intro _|apply And.intro|(apply Yh;clear Yh Y)));all_goals first|apply Hold.mk|omega|with_reducible assumption|skip))
  (refine awp_if fun T F hT hF => ?_; simp [go_sem]; refine hT ?_; clear hT hF T F)
  (refine awp_sr fun Y Yh => ?_; simp [go_sem]; ((repeat' (first|(refine ag_x ?_;simp [go_sem])|intro _|apply And.intro|(apply Yh;clear Yh Y)));all_goals first|apply Hold.mk|omega|with_reducible assumption|skip))
  (refine awp_ret ?_; simp [go_sem, endV])
 | some q =>
  obtain ⟨L, a, b⟩ := q
  rw [hr] at hD
  simp only [rrR] at hD
  by_cases hab : 0 < a ∧ 0 < b
  ·have hb : (decide (a = 0) || decide (b = 0)) = false := by
    rw [Bool.or_eq_false_iff, decide_eq_false_iff_not, decide_eq_false_iff_not]; omega
   rw [hb] at hD
   simp only [endV, if_pos hab]
   (refine awp_sr fun Y Yh => ?_; simp [go_sem]; ((repeat' (first|(refine ag_x ?_;simp [go_sem])|intro _|apply And.intro|(apply Yh;clear Yh Y)));all_goals first|apply Hold.mk|omega|with_reducible assumption|skip))
   refine awp_seq_k fun K1 hK1 => ?_
   (refine awp_sr fun Y Yh => ?_; simp [go_sem]; ((repeat' (first|(refine ag_x ?_;simp [go_sem])|intro _|apply And.intro|(apply Yh;clear Yh Y)));all_goals first|apply Hold.mk|omega|with_reducible assumption|skip))
   ((try refine CallT.toA ?_); refine callT_m (.inl ⟨rfl,rfl⟩) (by simp [go_sem]) ?_; intro args ha; simp [go_sem] at ha; subst ha; refine ⟨_, hD, ?_⟩; rintro _ rfl; simp [go_sem]; ((repeat' (first|(refine ag_x ?_;simp [go_sem])|intro _|apply And.intro|(apply Yh;clear Yh Y)));all_goals first|apply Hold.mk|omega|with_reducible assumption|skip))
   (refine awp_sr fun Y Yh => ?_; simp [go_sem]; ((repeat' (first|(refine ag_x ?_;simp [go_sem])|intro _|apply And.intro|(apply Yh;clear Yh Y)));all_goals first|apply Hold.mk|omega|with_reducible assumption|skip))
   (refine awp_if fun T F hT hF => ?_; simp [go_sem]; refine hT ?_; clear hT hF T F)
   (refine awp_sr fun Y Yh => ?_; simp [go_sem]; ((repeat' (first|(refine ag_x ?_;simp [go_sem])|intro _|apply And.intro|(apply Yh;clear Yh Y)));all_goals first|apply Hold.mk|omega|with_reducible assumption|skip))
   (refine awp_ret ?_; simp [go_sem])
  ·have hb : (decide (a = 0) || decide (b = 0)) = true := by
    rw [Bool.or_eq_true, decide_eq_true_eq, decide_eq_true_eq]; omega
   rw [hb] at hD
   simp only [endV, if_neg hab]
   (refine awp_sr fun Y Yh => ?_; simp [go_sem]; ((repeat' (first|(refine ag_x ?_;simp [go_sem])|intro _|apply And.intro|(apply Yh;clear Yh Y)));all_goals first|apply Hold.mk|omega|with_reducible assumption|skip))
   refine awp_seq_k fun K1 hK1 => ?_
   (refine awp_sr fun Y Yh => ?_; simp [go_sem]; ((repeat' (first|(refine ag_x ?_;simp [go_sem])|intro _|apply And.intro|(apply Yh;clear Yh Y)));all_goals first|apply Hold.mk|omega|with_reducible assumption|skip))
   ((try refine CallT.toA ?_); refine callT_m (.inl ⟨rfl,rfl⟩) (by simp [go_sem]) ?_; intro args ha; simp [go_sem] at ha; subst ha; refine ⟨_, hD, ?_⟩; rintro _ rfl; simp [go_sem]; ((repeat' (first|(refine ag_x ?_;simp [go_sem])|intro _|apply And.intro|(apply Yh;clear Yh Y)));all_goals first|apply Hold.mk|omega|with_reducible assumption|skip))
   (refine awp_sr fun Y Yh => ?_; simp [go_sem]; ((repeat' (first|(refine ag_x ?_;simp [go_sem])|intro _|apply And.intro|(apply Yh;clear Yh Y)));all_goals first|apply Hold.mk|omega|with_reducible assumption|skip))
   (refine awp_if fun T F hT hF => ?_; simp [go_sem]; refine hF ?_; clear hT hF T F)
   refine awp_skip ?_
   refine hK1 _ ?_; clear hK1
   (refine awp_sr fun Y Yh => ?_; simp [go_sem]; ((repeat' (first|(refine ag_x ?_;simp [go_sem])|intro _|apply And.intro|(apply Yh;clear Yh Y)));all_goals first|apply Hold.mk|omega|with_reducible assumption|skip))
   (refine awp_ret ?_; simp [go_sem])
theorem rflds_step {L : List Rf} {i : Nat} {f : Rf} (h : L[i]? = some f) : rfldsV (L.take (i + 1)) = rfldsV (L.take i) + rfld1 f := by
 rw [List.take_add_one, h]
 simp [rfldsV]
theorem rfld1_le (f : Rf) : rfld1 f ≤ 3 := by
 unfold rfld1
 (repeat' split) <;> omega
theorem rflds_le (L : List Rf) : rfldsV L ≤ 3 * L.length := by
 induction L with
 | nil => simp [rfldsV]
 | cons f L ih =>
  have e : rfldsV (f :: L) = rfld1 f + rfldsV L := by simp [rfldsV]
  have := rfld1_le f
  rw [e, List.length_cons]; omega
set_option maxHeartbeats 16000000 in
theorem rfields_spec (form : Bs) (hfl : form.length ≤ 9223372036854775807) : PCall Tryz.prog 25 [dS form] fun r => r = .tup [dI (rfldN form).1, dI (rfldN form).2] := by 
 refine pcall_of Tryz.func25 rfl rfl Tryz.ntmps25 (rs := [.tmp 2, .tmp 3]) (tys := [3, 34]) rfl rfl (by simp) ?_
 have hD := rread_spec form hfl
 unfold rfldN
 cases hr : rReadV form with
 | none =>
  rw [hr] at hD
  simp only [rrR] at hD
  simp only
  (refine awp_sr fun Y Yh => ?_; simp [go_sem]; ((repeat' (first|(refine ag_x ?_;simp [go_sem])|intro _|apply And.intro|(apply Yh;clear Yh Y)));all_goals first|apply Hold.mk|omega|with_reducible assumption|skip))
  (refine awp_sr fun Y Yh => ?_; simp [go_sem]; ((repeat' (first|(refine ag_x ?_;simp [go_sem])|intro _|apply And.intro|(apply Yh;clear Yh Y)));all_goals first|apply Hold.mk|omega|with_reducible assumption|skip))
  ((try refine CallT.toA ?_); refine callT_m (.inl ⟨rfl,rfl⟩) (by simp [go_sem]) ?_; intro args ha; simp [go_sem] at ha; subst ha; refine ⟨_, hD, ?_⟩; rintro _ rfl; simp [go_sem]; ((repeat' (first|(refine ag_x ?_;simp [go_sem])|intro _|apply And.intro|(apply Yh;clear Yh Y)));all_goals first|apply Hold.mk|omega|with_reducible assumption|skip))
  refine awp_seq_k fun K1 hK1 => ?_
  (refine awp_sr fun Y Yh => ?_; simp [go_sem]; ((repeat' (first|(refine ag_x ?_;simp [go_sem])|intro _|apply And.intro|(apply Yh;clear Yh Y)));all_goals first|apply Hold.mk|omega|with_reducible assumption|skip))
  (refine awp_if fun T F hT hF => ?_; simp [go_sem]; refine hT ?_; clear hT hF T F)
  (refine awp_sr fun Y Yh => ?_; simp [go_sem]; ((repeat' (first|(refine ag_x ?_;simp [go_sem])|intro _|apply And.intro|(apply Yh;clear Yh Y)));all_goals first|apply Hold.mk|omega|with_reducible assumption|skip))
  (refine awp_ret ?_; simp [go_sem])
 | some q =>
  obtain ⟨L, a, b⟩ := q
  have hlen := (rReadV_ok hr).2
  rw [hr] at hD
  simp only [rrR] at hD
  simp only
  by_cases hab : 0 < a ∧ 0 < b
  ·have hb : (decide (a = 0) || decide (b = 0)) = false := by
    rw [Bool.or_eq_false_iff, decide_eq_false_iff_not, decide_eq_false_iff_not]; omega
   rw [hb] at hD
   rw [if_pos hab]
   (refine awp_sr fun Y Yh => ?_; simp [go_sem]; ((repeat' (first|(refine ag_x ?_;simp [go_sem])|intro _|apply And.intro|(apply Yh;clear Yh Y)));all_goals first|apply Hold.mk|omega|with_reducible assumption|skip))
   (refine awp_sr fun Y Yh => ?_; simp [go_sem]; ((repeat' (first|(refine ag_x ?_;simp [go_sem])|intro _|apply And.intro|(apply Yh;clear Yh Y)));all_goals first|apply Hold.mk|omega|with_reducible assumption|skip))
   ((try refine CallT.toA ?_); refine callT_m (.inl ⟨rfl,rfl⟩) (by simp [go_sem]) ?_; intro args ha; simp [go_sem] at ha; subst ha; refine ⟨_, hD, ?_⟩; rintro _ rfl; simp [go_sem]; ((repeat' (first|(refine ag_x ?_;simp [go_sem])|intro _|apply And.intro|(apply Yh;clear Yh Y)));all_goals first|apply Hold.mk|omega|with_reducible assumption|skip))
   refine awp_seq_k fun K1 hK1 => ?_
   (refine awp_sr fun Y Yh => ?_; simp [go_sem]; ((repeat' (first|(refine ag_x ?_;simp [go_sem])|intro _|apply And.intro|(apply Yh;clear Yh Y)));all_goals first|apply Hold.mk|omega|with_reducible assumption|skip))
   (refine awp_if fun T F hT hF => ?_; simp [go_sem]; refine hT ?_; clear hT hF T F)
   (refine awp_sr fun Y Yh => ?_; simp [go_sem]; ((repeat' (first|(refine ag_x ?_;simp [go_sem])|intro _|apply And.intro|(apply Yh;clear Yh Y)));all_goals first|apply Hold.mk|omega|with_reducible assumption|skip))
   (refine awp_ret ?_; simp [go_sem])
  ·have hb : (decide (a = 0) || decide (b = 0)) = true := by
    rw [Bool.or_eq_true, decide_eq_true_eq, decide_eq_true_eq]; omega
   rw [hb] at hD
   rw [if_neg hab]
   (refine awp_sr fun Y Yh => ?_; simp [go_sem]; ((repeat' (first|(refine ag_x ?_;simp [go_sem])|intro _|apply And.intro|(apply Yh;clear Yh Y)));all_goals first|apply Hold.mk|omega|with_reducible assumption|skip))
   (refine awp_sr fun Y Yh => ?_; simp [go_sem]; ((repeat' (first|(refine ag_x ?_;simp [go_sem])|intro _|apply And.intro|(apply Yh;clear Yh Y)));all_goals first|apply Hold.mk|omega|with_reducible assumption|skip))
   ((try refine CallT.toA ?_); refine callT_m (.inl ⟨rfl,rfl⟩) (by simp [go_sem]) ?_; intro args ha; simp [go_sem] at ha; subst ha; refine ⟨_, hD, ?_⟩; rintro _ rfl; simp [go_sem]; ((repeat' (first|(refine ag_x ?_;simp [go_sem])|intro _|apply And.intro|(apply Yh;clear Yh Y)));all_goals first|apply Hold.mk|omega|with_reducible assumption|skip))
   refine awp_seq_k fun K1 hK1 => ?_
   (refine awp_sr fun Y Yh => ?_; simp [go_sem]; ((repeat' (first|(refine ag_x ?_;simp [go_sem])|intro _|apply And.intro|(apply Yh;clear Yh Y)));all_goals first|apply Hold.mk|omega|with_reducible assumption|skip))
   (refine awp_if fun T F hT hF => ?_; simp [go_sem]; refine hF ?_; clear hT hF T F)
   refine awp_skip ?_
   refine hK1 _ ?_; clear hK1
   (refine awp_sr fun Y Yh => ?_; simp [go_sem]; ((repeat' (first|(refine ag_x ?_;simp [go_sem])|intro _|apply And.intro|(apply Yh;clear Yh Y)));all_goals first|apply Hold.mk|omega|with_reducible assumption|skip))
   refine awp_seq_k fun K3 hK3 => ?_
   (refine awp_sr fun Y Yh => ?_; simp [go_sem]; ((repeat' (first|(refine ag_x ?_;simp [go_sem])|intro _|apply And.intro|(apply Yh;clear Yh Y)));all_goals first|apply Hold.mk|omega|with_reducible assumption|skip))
   refine awp_block ?_
   refine awp_loop (σ := Nat) (fun i => ⟨[(4, dRfs L), (5, dB (decide (0 < a))), (7, dI (rfldsV (L.take i))), (8, dI i)], []⟩) (fun i => i ≤ L.length ∧ (0 < a → i = 0)) (fun i => L.length - i) 0 ?_ ?_ ?_
   ·(refine cov_of ?_ ?_ <;> simp [go_sem])
    rfl
   ·simp
   rintro i ⟨hi, hia⟩
   have hfi := rflds_le (L.take i)
   have htl : (L.take i).length ≤ L.length := by rw [List.length_take]; omega
   refine awp_seq_k fun K4 hK4 => ?_
   have fin : rfldsV (L.take i) = (if 0 < a then 0 else rfldsV L) → ∀ S', Cov S' ⟨[(7, dI (rfldsV (L.take i)))], []⟩ → K3 S' := fun e S' hS => by
    refine hK3 _ ?_; clear hK3
    refine awp_cov hS ?_; clear hS
    rw [e]
    (refine awp_sr fun Y Yh => ?_; simp [go_sem]; ((repeat' (first|(refine ag_x ?_;simp [go_sem])|intro _|apply And.intro|(apply Yh;clear Yh Y)));all_goals first|apply Hold.mk|omega|with_reducible assumption|skip))
    (refine awp_ret ?_; simp [go_sem])
   by_cases ha : 0 < a
   ·have h0 := hia ha
    subst h0
    (refine awp_sr fun Y Yh => ?_; simp [go_sem, ha]; ((repeat' (first|(refine ag_x ?_;simp [go_sem, ha])|intro _|apply And.intro|(apply Yh;clear Yh Y)));all_goals first|apply Hold.mk|omega|with_reducible assumption|skip))
    (refine awp_if fun T F hT hF => ?_; simp [go_sem, ha]; refine hF ?_; clear hT hF T F)
    refine awp_exit ?_
    simp only [go_sem]
    refine fin (by rw [if_pos ha]; rfl) _ ?_
    (refine cov_of ?_ ?_ <;> simp [go_sem])
   ·by_cases hend : i < L.length
    ·obtain ⟨f, hf⟩ : ∃ f, L[i]? = some f := ⟨_, List.getElem?_eq_getElem hend⟩
     have hst := rflds_step hf
     generalize rfldsV (L.take i) = N at *
     have b0 : (f.lt.toNat = 0) = (f.lt = 0) := propext ⟨fun q => UInt8.toNat_inj.1 q, fun q => by rw [q]; rfl⟩
     (refine awp_sr fun Y Yh => ?_; simp [go_sem, ha]; ((repeat' (first|(refine ag_x ?_;simp [go_sem, ha])|intro _|apply And.intro|(apply Yh;clear Yh Y)));all_goals first|apply Hold.mk|omega|with_reducible assumption|skip))
     (refine awp_if fun T F hT hF => ?_; simp [go_sem, ha, hend]; refine hT ?_; clear hT hF T F)
     refine awp_skip ?_
     refine hK4 _ ?_; clear hK4
     refine awp_seq_k fun K6 hK6 => ?_
     have tl6 : ∀ S', Cov S' ⟨[(4, dRfs L), (5, dB (decide (0 < a))), (7, dI (N + rfld1 f : Nat)), (8, dI i)], []⟩ → K6 S' := fun S' hS => by
      refine hK6 _ ?_; clear hK6
      refine awp_cov hS ?_; clear hS
      (refine awp_r fun Y Yh => ?_; simp [go_sem]; ((repeat' (first|(refine ag_x ?_;simp [go_sem])|intro _|apply And.intro|(apply Yh;clear Yh Y)));all_goals first|apply Hold.mk|omega|with_reducible assumption|skip))
      refine ⟨i + 1, ?_, ⟨by omega, fun q => absurd q ha⟩, by omega⟩
      rw [hst]
      (refine cov_of ?_ ?_ <;> simp [go_sem])
     clear hK6
     refine awp_block ?_
     refine awp_seq_k fun K7 hK7 => ?_
     (refine awp_sr fun Y Yh => ?_; simp [go_sem, hf]; ((repeat' (first|(refine ag_x ?_;simp [go_sem, hf])|intro _|apply And.intro|(apply Yh;clear Yh Y)));all_goals first|apply Hold.mk|omega|with_reducible assumption|skip))
     by_cases hz : f.lt = 0
     ·have e1 : rfld1 f = 0 := by unfold rfld1; rw [if_pos hz]
      rw [e1] at tl6
      (refine awp_if fun T F hT hF => ?_; simp [go_sem, b0, hz]; refine hT ?_; clear hT hF T F)
      refine awp_exit ?_
      simp only [go_sem]
      refine tl6 _ ?_
      (refine cov_of ?_ ?_ <;> simp [go_sem])
      omega
     ·have e1 : rfld1 f = 1 + (if f.wd = -2 then 1 else 0) + (if f.pr = -2 then 1 else 0) := by unfold rfld1; rw [if_neg hz]
      rw [e1] at tl6
      have hW : (if f.wd = -2 then 1 else 0) ≤ 1 := by split <;> omega
      have hP : (if f.pr = -2 then 1 else 0) ≤ 1 := by split <;> omega
      (refine awp_if fun T F hT hF => ?_; simp [go_sem, b0, hz]; refine hF ?_; clear hT hF T F)
      refine awp_skip ?_
      refine hK7 _ ?_; clear hK7
      (refine awp_sr fun Y Yh => ?_; simp [go_sem]; ((repeat' (first|(refine ag_x ?_;simp [go_sem])|intro _|apply And.intro|(apply Yh;clear Yh Y)));all_goals first|apply Hold.mk|omega|with_reducible assumption|skip))
      refine awp_seq_k fun K9 hK9 => ?_
      have tl9 : ∀ S', Cov S' ⟨[(4, dRfs L), (5, dB (decide (0 < a))), (7, dI (N + (1 + (if f.wd = -2 then 1 else 0)) : Nat)), (8, dI i)], []⟩ → K9 S' := fun S' hS => by
       refine hK9 _ ?_; clear hK9
       refine awp_cov hS ?_; clear hS
       generalize (if f.wd = -2 then 1 else 0) = W at *
       (refine awp_sr fun Y Yh => ?_; simp [go_sem, hf]; ((repeat' (first|(refine ag_x ?_;simp [go_sem, hf])|intro _|apply And.intro|(apply Yh;clear Yh Y)));all_goals first|apply Hold.mk|omega|with_reducible assumption|skip))
       by_cases hp : f.pr = -2
       ·rw [if_pos hp] at tl6
        (refine awp_if fun T F hT hF => ?_; simp [go_sem, hp]; refine hT ?_; clear hT hF T F)
        (refine awp_r fun Y Yh => ?_; simp [go_sem]; ((repeat' (first|(refine ag_x ?_;simp [go_sem])|intro _|apply And.intro|(apply Yh;clear Yh Y)));all_goals first|apply Hold.mk|omega|with_reducible assumption|skip))
        refine tl6 _ ?_
        (refine cov_of ?_ ?_ <;> simp [go_sem])
        omega
       ·rw [if_neg hp] at tl6
        (refine awp_if fun T F hT hF => ?_; simp [go_sem, hp]; refine hF ?_; clear hT hF T F)
        refine awp_skip ?_
        refine tl6 _ ?_
        (refine cov_of ?_ ?_ <;> simp [go_sem])
        all_goals omega
      clear hK9
      (refine awp_sr fun Y Yh => ?_; simp [go_sem, hf]; ((repeat' (first|(refine ag_x ?_;simp [go_sem, hf])|intro _|apply And.intro|(apply Yh;clear Yh Y)));all_goals first|apply Hold.mk|omega|with_reducible assumption|skip))
      by_cases hw : f.wd = -2
      ·rw [if_pos hw] at tl9
       (refine awp_if fun T F hT hF => ?_; simp [go_sem, hw]; refine hT ?_; clear hT hF T F)
       (refine awp_r fun Y Yh => ?_; simp [go_sem]; ((repeat' (first|(refine ag_x ?_;simp [go_sem])|intro _|apply And.intro|(apply Yh;clear Yh Y)));all_goals first|apply Hold.mk|omega|with_reducible assumption|skip))
       refine tl9 _ ?_
       (refine cov_of ?_ ?_ <;> simp [go_sem])
       omega
      ·rw [if_neg hw] at tl9
       (refine awp_if fun T F hT hF => ?_; simp [go_sem, hw]; refine hF ?_; clear hT hF T F)
       refine awp_skip ?_
       refine tl9 _ ?_
       (refine cov_of ?_ ?_ <;> simp [go_sem])
       omega
    ·have : i = L.length := by omega
     subst this
     (refine awp_sr fun Y Yh => ?_; simp [go_sem, ha]; ((repeat' (first|(refine ag_x ?_;simp [go_sem, ha])|intro _|apply And.intro|(apply Yh;clear Yh Y)));all_goals first|apply Hold.mk|omega|with_reducible assumption|skip))
     (refine awp_if fun T F hT hF => ?_; simp [go_sem, ha, hend]; refine hF ?_; clear hT hF T F)
     refine awp_exit ?_
     simp only [go_sem]
     refine fin (by rw [if_neg ha, List.take_length]) _ ?_
     (refine cov_of ?_ ?_ <;> simp [go_sem])
def nmsV (L : List Rf) : List Bs := (L.map (·.nm)).foldl withV []
theorem nms_step {L : List Rf} {i : Nat} {f : Rf} (h : L[i]? = some f) : nmsV (L.take (i + 1)) = withV (nmsV (L.take i)) f.nm := by
 unfold nmsV
 rw [List.take_add_one, h]
 simp
theorem insS_len (s : Bs) : ∀ l : List Bs, (insS s l).length ≤ l.length + 1
 | [] => by simp [insS]
 | x :: r => by
  unfold insS
  have := insS_len s r
  (repeat' split) <;> simp <;> omega
theorem nms_len (L : List Rf) : (nmsV L).length ≤ L.length := by
 have : ∀ (ns ks : List Bs), (ns.foldl withV ks).length ≤ ks.length + ns.length := by
  intro ns
  induction ns with
  | nil => intro ks; simp
  | cons s r ih =>
   intro ks
   have h1 := ih (withV ks s)
   have h2 : (withV ks s).length ≤ ks.length + 1 := by
    unfold withV
    have := insS_len s ks
    split <;> omega
   simp only [List.foldl_cons, List.length_cons]; omega
 have := this (L.map (·.nm)) []
 simpa [nmsV] using this
set_option maxHeartbeats 16000000 in
theorem rnames_spec (form : Bs) (hfl : form.length ≤ 9223372036854775807) : PCall Tryz.prog 27 [dS form] fun r => r = .tup [dSs (rnamesV form).1, dI (rnamesV form).2] := by 
 refine pcall_of Tryz.func27 rfl rfl Tryz.ntmps27 (rs := [.tmp 2, .tmp 3]) (tys := [23, 34]) rfl rfl (by simp) ?_
 have hD := rread_spec form hfl
 unfold rnamesV
 cases hr : rReadV form with
 | none =>
  rw [hr] at hD
  simp only [rrR] at hD
  simp only
  (refine awp_sr fun Y Yh => ?_; simp [go_sem]; ((repeat' (first|(refine ag_x ?_;simp [go_sem])|intro _|apply And.intro|(apply Yh;clear Yh Y)));all_goals first|apply Hold.mk|omega|with_reducible assumption|skip))
  (refine awp_sr fun Y Yh => ?_; simp [go_sem]; ((repeat' (first|(refine ag_x ?_;simp [go_sem])|intro _|apply And.intro|(apply Yh;clear Yh Y)));all_goals first|apply Hold.mk|omega|with_reducible assumption|skip))
  ((try refine CallT.toA ?_); refine callT_m (.inl ⟨rfl,rfl⟩) (by simp [go_sem]) ?_; intro args ha; simp [go_sem] at ha; subst ha; refine ⟨_, hD, ?_⟩; rintro _ rfl; simp [go_sem]; ((repeat' (first|(refine ag_x ?_;simp [go_sem])|intro _|apply And.intro|(apply Yh;clear Yh Y)));all_goals first|apply Hold.mk|omega|with_reducible assumption|skip))
  refine awp_seq_k fun K1 hK1 => ?_
  (refine awp_sr fun Y Yh => ?_; simp [go_sem]; ((repeat' (first|(refine ag_x ?_;simp [go_sem])|intro _|apply And.intro|(apply Yh;clear Yh Y)));all_goals first|apply Hold.mk|omega|with_reducible assumption|skip))
  (refine awp_if fun T F hT hF => ?_; simp [go_sem]; refine hT ?_; clear hT hF T F)
  (refine awp_sr fun Y Yh => ?_; simp [go_sem]; ((repeat' (first|(refine ag_x ?_;simp [go_sem])|intro _|apply And.intro|(apply Yh;clear Yh Y)));all_goals first|apply Hold.mk|omega|with_reducible assumption|skip))
  (refine awp_ret ?_; simp [go_sem])
 | some q =>
  obtain ⟨L, a, b⟩ := q
  have hlen := (rReadV_ok hr).2
  rw [hr] at hD
  simp only [rrR] at hD
  simp only
  have hVe : (List.map (fun x => x.nm) L).foldl withV [] = nmsV L := rfl
  rw [hVe]
  by_cases hab : 0 < a ∧ 0 < b
  ·have hb : (decide (a = 0) || decide (b = 0)) = false := by
    rw [Bool.or_eq_false_iff, decide_eq_false_iff_not, decide_eq_false_iff_not]; omega
   rw [hb] at hD
   rw [if_pos hab]
   (refine awp_sr fun Y Yh => ?_; simp [go_sem]; ((repeat' (first|(refine ag_x ?_;simp [go_sem])|intro _|apply And.intro|(apply Yh;clear Yh Y)));all_goals first|apply Hold.mk|omega|with_reducible assumption|skip))
   (refine awp_sr fun Y Yh => ?_; simp [go_sem]; ((repeat' (first|(refine ag_x ?_;simp [go_sem])|intro _|apply And.intro|(apply Yh;clear Yh Y)));all_goals first|apply Hold.mk|omega|with_reducible assumption|skip))
   ((try refine CallT.toA ?_); refine callT_m (.inl ⟨rfl,rfl⟩) (by simp [go_sem]) ?_; intro args ha; simp [go_sem] at ha; subst ha; refine ⟨_, hD, ?_⟩; rintro _ rfl; simp [go_sem]; ((repeat' (first|(refine ag_x ?_;simp [go_sem])|intro _|apply And.intro|(apply Yh;clear Yh Y)));all_goals first|apply Hold.mk|omega|with_reducible assumption|skip))
   refine awp_seq_k fun K1 hK1 => ?_
   (refine awp_sr fun Y Yh => ?_; simp [go_sem]; ((repeat' (first|(refine ag_x ?_;simp [go_sem])|intro _|apply And.intro|(apply Yh;clear Yh Y)));all_goals first|apply Hold.mk|omega|with_reducible assumption|skip))
   (refine awp_if fun T F hT hF => ?_; simp [go_sem]; refine hT ?_; clear hT hF T F)
   (refine awp_sr fun Y Yh => ?_; simp [go_sem]; ((repeat' (first|(refine ag_x ?_;simp [go_sem])|intro _|apply And.intro|(apply Yh;clear Yh Y)));all_goals first|apply Hold.mk|omega|with_reducible assumption|skip))
   (refine awp_ret ?_; simp [go_sem])
  ·have hb : (decide (a = 0) || decide (b = 0)) = true := by
    rw [Bool.or_eq_true, decide_eq_true_eq, decide_eq_true_eq]; omega
   rw [hb] at hD
   rw [if_neg hab]
   (refine awp_sr fun Y Yh => ?_; simp [go_sem]; ((repeat' (first|(refine ag_x ?_;simp [go_sem])|intro _|apply And.intro|(apply Yh;clear Yh Y)));all_goals first|apply Hold.mk|omega|with_reducible assumption|skip))
   (refine awp_sr fun Y Yh => ?_; simp [go_sem]; ((repeat' (first|(refine ag_x ?_;simp [go_sem])|intro _|apply And.intro|(apply Yh;clear Yh Y)));all_goals first|apply Hold.mk|omega|with_reducible assumption|skip))
   ((try refine CallT.toA ?_); refine callT_m (.inl ⟨rfl,rfl⟩) (by simp [go_sem]) ?_; intro args ha; simp [go_sem] at ha; subst ha; refine ⟨_, hD, ?_⟩; rintro _ rfl; simp [go_sem]; ((repeat' (first|(refine ag_x ?_;simp [go_sem])|intro _|apply And.intro|(apply Yh;clear Yh Y)));all_goals first|apply Hold.mk|omega|with_reducible assumption|skip))
   refine awp_seq_k fun K1 hK1 => ?_
   (refine awp_sr fun Y Yh => ?_; simp [go_sem]; ((repeat' (first|(refine ag_x ?_;simp [go_sem])|intro _|apply And.intro|(apply Yh;clear Yh Y)));all_goals first|apply Hold.mk|omega|with_reducible assumption|skip))
   (refine awp_if fun T F hT hF => ?_; simp [go_sem]; refine hF ?_; clear hT hF T F)
   refine awp_skip ?_
   refine hK1 _ ?_; clear hK1
   (refine awp_sr fun Y Yh => ?_; simp [go_sem]; ((repeat' (first|(refine ag_x ?_;simp [go_sem])|intro _|apply And.intro|(apply Yh;clear Yh Y)));all_goals first|apply Hold.mk|omega|with_reducible assumption|skip))
   refine awp_nilsl 7 1 rfl ?_
   simp only [go_sem]
   refine awp_seq_k fun K3 hK3 => ?_
   (refine awp_sr fun Y Yh => ?_; simp [go_sem]; ((repeat' (first|(refine ag_x ?_;simp [go_sem])|intro _|apply And.intro|(apply Yh;clear Yh Y)));all_goals first|apply Hold.mk|omega|with_reducible assumption|skip))
   refine awp_block ?_
   refine awp_loop (σ := Nat) (fun i => ⟨[(4, dRfs L), (7, dSs (nmsV (L.take i))), (8, dI i)], []⟩) (fun i => i ≤ L.length) (fun i => L.length - i) 0 ?_ ?_ ?_
   ·(refine cov_of ?_ ?_ <;> simp [go_sem])
    rfl
   ·simp
   intro i hi
   have hfi := nms_len (L.take i)
   have htl : (L.take i).length ≤ L.length := by rw [List.length_take]; omega
   refine awp_seq_k fun K4 hK4 => ?_
   (refine awp_sr fun Y Yh => ?_; simp [go_sem]; ((repeat' (first|(refine ag_x ?_;simp [go_sem])|intro _|apply And.intro|(apply Yh;clear Yh Y)));all_goals first|apply Hold.mk|omega|with_reducible assumption|skip))
   by_cases hend : i < L.length
   ·obtain ⟨f, hf⟩ : ∃ f, L[i]? = some f := ⟨_, List.getElem?_eq_getElem hend⟩
    have hst := nms_step hf
    have hW := with_spec (nmsV (L.take i)) f.nm (by omega)
    generalize nmsV (L.take i) = N at *
    (refine awp_if fun T F hT hF => ?_; simp [go_sem, hend]; refine hT ?_; clear hT hF T F)
    refine awp_skip ?_
    refine hK4 _ ?_; clear hK4
    refine awp_seq_k fun K6 hK6 => ?_
    refine awp_block ?_
    (refine awp_r fun Y Yh => ?_; simp [go_sem, hf]; ((repeat' (first|(refine ag_x ?_;simp [go_sem, hf])|intro _|apply And.intro|(apply Yh;clear Yh Y)));all_goals first|apply Hold.mk|omega|with_reducible assumption|skip))
    ((try refine CallT.toA ?_); refine callT_m (.inl ⟨rfl,rfl⟩) (by simp [go_sem]) ?_; intro args ha; simp [go_sem] at ha; subst ha; refine ⟨_, hW, ?_⟩; rintro _ rfl; simp [go_sem]; ((repeat' (first|(refine ag_x ?_;simp [go_sem])|intro _|apply And.intro|(apply Yh;clear Yh Y)));all_goals first|apply Hold.mk|omega|with_reducible assumption|skip))
    refine hK6 _ ?_; clear hK6
    (refine awp_r fun Y Yh => ?_; simp [go_sem]; ((repeat' (first|(refine ag_x ?_;simp [go_sem])|intro _|apply And.intro|(apply Yh;clear Yh Y)));all_goals first|apply Hold.mk|omega|with_reducible assumption|skip))
    refine ⟨i + 1, ?_, by omega, by omega⟩
    rw [hst]
    (refine cov_of ?_ ?_ <;> simp [go_sem])
   ·have : i = L.length := by omega
    subst this
    rw [List.take_length] at *
    (refine awp_if fun T F hT hF => ?_; simp [go_sem, hend]; refine hF ?_; clear hT hF T F)
    refine awp_exit ?_
    simp only [go_sem]
    refine hK3 _ ?_; clear hK3
    (refine awp_sr fun Y Yh => ?_; simp [go_sem]; ((repeat' (first|(refine ag_x ?_;simp [go_sem])|intro _|apply And.intro|(apply Yh;clear Yh Y)));all_goals first|apply Hold.mk|omega|with_reducible assumption|skip))
    (refine awp_ret ?_; simp [go_sem])
end Go.Proofs.YtelhdhofnohkcaaGreatDoor
