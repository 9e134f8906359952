/- Part of a proof: see the last text. -/
import Derived.Test.YtelhdhofnohkcaaGreatDoorG06
import Derived.Test.YtelhdhofnohkcaaGreatDoorG05
import Derived.Lib.AtoiAll
import Derived.Lib.FrozenHead2
import Derived.Shelf.RegionOpenPlain
set_option linter.unusedVariables false
set_option linter.unusedSimpArgs false
namespace Go.Proofs.YtelhdhofnohkcaaGreatDoor
open Go.Eng Go.Fm
set_option maxRecDepth 20000
attribute [local irreducible] AG CallA CallT AWp PCall ACall AgC
theorem txtB_step {b u : Nat} (hb : 2 ≤ b) (h : b ≤ u) : txtB b u = txtB b (u / b) ++ [chB (u % b)] := by
 unfold txtB; rw [digB_step hb h]; simp
theorem txtB_small {b u : Nat} (h : u < b) : txtB b u = [chB u] := by
 unfold txtB; rw [digB_small h]; rfl
set_option maxHeartbeats 16000000 in
theorem bits_spec {b s k : Nat} (h : Bas b s k) (u0 : Int) (m : Nat) (neg : Bool) (hm : (if neg then IntKind.u64.wrap (-u0) else u0) = m) (hlt : m < 2 ^ 64) :
  PCall Tryz.prog 86 [.sl 1 [], .v (.int .u64 u0), dI b, dB neg, dB false] fun r => r = .tup [.sl 1 [], dS ((if neg then [45] else []) ++ txtB b m)] := by 
 refine pcall_of Tryz.func86 rfl rfl Tryz.ntmps86 (rs := [.tmp 10, .tmp 11]) (tys := [68, 9]) rfl rfl (by simp) ?_
 have hb2 : 2 ≤ b ∧ b ≤ 16 ∧ ¬ (b : Int) = 10 := by rcases h.cases with ⟨rfl, _, _⟩ | ⟨rfl, _, _⟩ | ⟨rfl, _, _⟩ <;> decide
 have hs2 : 1 ≤ s ∧ s ≤ 4 := by rcases h.cases with ⟨_, rfl, _⟩ | ⟨_, rfl, _⟩ | ⟨_, rfl, _⟩ <;> decide
 have hlen := txt_len hb2.1 hlt
 have q1 : ¬ (b : Int) < 2 := by omega
 have q2 : ¬ (36 : Int) < b := by omega
 (refine awp_sr fun Y Yh => ?_; simp [go_sem]; ((repeat' (first|(refine ag_x ?_;simp [go_sem])|intro _|apply And.intro|(apply Yh;clear Yh Y)));all_goals first|apply Hold.mk|omega|with_reducible assumption|skip))
 refine awp_seq_k fun K1 hK1 => ?_
 (refine awp_sr fun Y Yh => ?_; simp [go_sem, q1, hb2.2.2, q2]; ((repeat' (first|(refine ag_x ?_;simp [go_sem, q1, hb2.2.2, q2])|intro _|apply And.intro|(apply Yh;clear Yh Y)));all_goals first|apply Hold.mk|omega|with_reducible assumption|skip))
 (refine awp_if fun T F hT hF => ?_; simp [go_sem, q1, hb2.2.2, q2]; refine hF ?_; clear hT hF T F)
 refine awp_skip ?_
 refine hK1 _ ?_; clear hK1
 (refine awp_sr fun Y Yh => ?_; simp [go_sem]; ((repeat' (first|(refine ag_x ?_;simp [go_sem])|intro _|apply And.intro|(apply Yh;clear Yh Y)));all_goals first|apply Hold.mk|omega|with_reducible assumption|skip))
 rename_i g
 (refine awp_sr fun Y Yh => ?_; simp [go_sem]; ((repeat' (first|(refine ag_x ?_;simp [go_sem])|intro _|apply And.intro|(apply Yh;clear Yh Y)));all_goals first|apply Hold.mk|omega|with_reducible assumption|skip))
 refine awp_seq_k fun K2 hK2 => ?_
 have tl2 : ∀ S', Cov S' ⟨[(0, .sl 1 []), (1, .v (.int .u64 m)), (2, dI b), (3, dB neg), (4, dB false), (10, .v (.slice none 0 0)), (11, dS []), (12, .ptr 12 g 0), (13, dI 65)], [(12, (g, .box (cellsB 65 [])))]⟩ → K2 S' := fun S' hS => by
  refine hK2 _ ?_; clear hK2
  refine awp_cov hS ?_; clear hS
  refine awp_seq_k fun K3 hK3 => ?_
  have tl3 : ∀ S' (i : Nat), i + (txtB b m).length = 65 → Cov S' ⟨[(0, .sl 1 []), (3, dB neg), (4, dB false), (10, .v (.slice none 0 0)), (11, dS []), (12, .ptr 12 g 0), (13, dI i)], [(12, (g, .box (cellsB i (txtB b m))))]⟩ → K3 S' := fun S' i hi hS => by
   refine hK3 _ ?_; clear hK3
   refine awp_cov hS ?_; clear hS
   refine awp_seq_k fun K4 hK4 => ?_
   have tl4 : ∀ S' (i : Nat) (ds : Bs), i + ds.length = 65 → ds = (if neg then [45] else []) ++ txtB b m → Cov S' ⟨[(0, .sl 1 []), (4, dB false), (10, .v (.slice none 0 0)), (11, dS []), (12, .ptr 12 g 0), (13, dI i)], [(12, (g, .box (cellsB i ds)))]⟩ → K4 S' := fun S' i ds hi hds hS => by
    refine hK4 _ ?_; clear hK4
    refine awp_cov hS ?_; clear hS
    refine awp_seq_k fun K5 hK5 => ?_
    (refine awp_sr fun Y Yh => ?_; simp [go_sem]; ((repeat' (first|(refine ag_x ?_;simp [go_sem])|intro _|apply And.intro|(apply Yh;clear Yh Y)));all_goals first|apply Hold.mk|omega|with_reducible assumption|skip))
    (refine awp_if fun T F hT hF => ?_; simp [go_sem]; refine hF ?_; clear hT hF T F)
    refine awp_skip ?_
    refine hK5 _ ?_; clear hK5
    refine awp_frzbox 12 rfl rfl ?_
    simp only [go_sem]
    have hi3 : i ≤ 65 := by omega
    (refine awp_sr fun Y Yh => ?_; simp [go_sem, cellsB_len, hi, cellsB_cut]; ((repeat' (first|(refine ag_x ?_;simp [go_sem, cellsB_len, hi, cellsB_cut])|intro _|apply And.intro|(apply Yh;clear Yh Y)));all_goals first|apply Hold.mk|omega|with_reducible assumption|skip))
    (refine awp_ret ?_; simp [go_sem, hds])
   clear hK4
   (refine awp_sr fun Y Yh => ?_; simp [go_sem]; ((repeat' (first|(refine ag_x ?_;simp [go_sem])|intro _|apply And.intro|(apply Yh;clear Yh Y)));all_goals first|apply Hold.mk|omega|with_reducible assumption|skip))
   cases neg with
   | true =>
    obtain ⟨i, rfl⟩ : ∃ j, i = j + 1 := ⟨i - 1, by omega⟩
    have hput : ∀ ds : Bs, (cellsB (i + 1) ds).take i ++ (D.v (.int .u8 45) :: (cellsB (i + 1) ds).drop (i + 1)) = cellsB i (45 :: ds) := fun ds => cellsB_put i 45 ds
    have hi2 : i < i + 1 + (txtB b m).length := by omega
    (refine awp_if fun T F hT hF => ?_; simp [go_sem]; refine hT ?_; clear hT hF T F)
    (refine awp_sr fun Y Yh => ?_; simp [go_sem]; ((repeat' (first|(refine ag_x ?_;simp [go_sem])|intro _|apply And.intro|(apply Yh;clear Yh Y)));all_goals first|apply Hold.mk|omega|with_reducible assumption|skip))
    (refine awp_r fun Y Yh => ?_; simp [go_sem, cellsB_len, hput]; ((repeat' (first|(refine ag_x ?_;simp [go_sem, cellsB_len, hput])|intro _|apply And.intro|(apply Yh;clear Yh Y)));all_goals first|apply Hold.mk|omega|with_reducible assumption|skip))
    refine tl4 _ i (45 :: txtB b m) (by simp; omega) (by simp) ?_
    (refine cov_of ?_ ?_ <;> simp [go_sem])
   | false =>
    (refine awp_if fun T F hT hF => ?_; simp [go_sem]; refine hF ?_; clear hT hF T F)
    refine awp_skip ?_
    refine tl4 _ i (txtB b m) hi (by simp) ?_
    (refine cov_of ?_ ?_ <;> simp [go_sem])
  clear hK3
  (refine awp_sr fun Y Yh => ?_; simp [go_sem]; ((repeat' (first|(refine ag_x ?_;simp [go_sem])|intro _|apply And.intro|(apply Yh;clear Yh Y)));all_goals first|apply Hold.mk|omega|with_reducible assumption|skip))
  ((try refine CallT.toA ?_); refine callT_m (.inl ⟨rfl,rfl⟩) (by simp [go_sem]) ?_; intro args ha; simp [go_sem] at ha; subst ha; refine ⟨_, (pow2_spec h), ?_⟩; rintro _ rfl; simp [go_sem]; ((repeat' (first|(refine ag_x ?_;simp [go_sem])|intro _|apply And.intro|(apply Yh;clear Yh Y)));all_goals first|apply Hold.mk|omega|with_reducible assumption|skip))
  (refine awp_if fun T F hT hF => ?_; simp [go_sem]; refine hT ?_; clear hT hF T F)
  have hcv : IntKind.u64.wrap (b : Int) = b := by rw [IntKind.wrap_u64]; omega
  (refine awp_sr fun Y Yh => ?_; simp [go_sem, hcv]; ((repeat' (first|(refine ag_x ?_;simp [go_sem, hcv])|intro _|apply And.intro|(apply Yh;clear Yh Y)));all_goals first|apply Hold.mk|omega|with_reducible assumption|skip))
  have hsv : IntKind.u64.wrap (s : Int) = s := by rw [IntKind.wrap_u64]; omega
  ((try refine CallT.toA ?_); refine callT_m (.inl ⟨rfl,rfl⟩) (by simp [go_sem]) ?_; intro args ha; simp [go_sem] at ha; subst ha; refine ⟨_, (tzr_spec h), ?_⟩; rintro _ rfl; simp [go_sem, hsv]; ((repeat' (first|(refine ag_x ?_;simp [go_sem, hsv])|intro _|apply And.intro|(apply Yh;clear Yh Y)));all_goals first|apply Hold.mk|omega|with_reducible assumption|skip))
  have hmv : IntKind.u64.wrap ((b : Int) - 1) = (b : Int) - 1 := by rw [IntKind.wrap_u64]; omega
  (refine awp_sr fun Y Yh => ?_; simp [go_sem, hcv]; ((repeat' (first|(refine ag_x ?_;simp [go_sem, hcv])|intro _|apply And.intro|(apply Yh;clear Yh Y)));all_goals first|apply Hold.mk|omega|with_reducible assumption|skip))
  (refine awp_sr fun Y Yh => ?_; simp [go_sem, hcv, hmv]; ((repeat' (first|(refine ag_x ?_;simp [go_sem, hcv, hmv])|intro _|apply And.intro|(apply Yh;clear Yh Y)));all_goals first|apply Hold.mk|omega|with_reducible assumption|skip))
  refine awp_seq_k fun K9 hK9 => ?_
  refine awp_block ?_
  refine awp_loop (σ := Nat × Nat × Bs) (fun x => ⟨[(0, .sl 1 []), (1, .v (.int .u64 x.2.1)), (3, dB neg), (4, dB false), (10, .v (.slice none 0 0)), (11, dS []), (12, .ptr 12 g 0), (13, dI x.1), (14, .v (.int .u64 s)), (15, .v (.int .u64 b)), (16, .v (.int .u64 ((b : Int) - 1)))], [(12, (g, .box (cellsB x.1 x.2.2)))]⟩)
   (fun x => x.1 + x.2.2.length = 65 ∧ txtB b x.2.1 ++ x.2.2 = txtB b m ∧ x.2.1 < 2 ^ 64) (fun x => x.2.1) (65, m, []) ?_ ?_ ?_
  ·(refine cov_of ?_ ?_ <;> simp [go_sem])
  ·exact ⟨rfl, by simp, hlt⟩
  rintro ⟨i, u, ds⟩ ⟨hi, hx, hu⟩
  simp only at hi hx hu ⊢
  have hl := congrArg List.length hx
  rw [List.length_append] at hl
  have hpos : 0 < (txtB b u).length := List.length_pos_iff.2 (txtB_ne b u)
  obtain ⟨i, rfl⟩ : ∃ j, i = j + 1 := ⟨i - 1, by omega⟩
  refine awp_seq_k fun K10 hK10 => ?_
  (refine awp_sr fun Y Yh => ?_; simp [go_sem]; ((repeat' (first|(refine ag_x ?_;simp [go_sem])|intro _|apply And.intro|(apply Yh;clear Yh Y)));all_goals first|apply Hold.mk|omega|with_reducible assumption|skip))
  by_cases hub : b ≤ u
  ·have hr : u % b < 16 := Nat.lt_of_lt_of_le (Nat.mod_lt _ (by omega)) hb2.2.1
   have hdg := dgL_at (u % b) hr
   unfold dgL at hdg
   have hand := and_mod h hu
   have hshr := shr_div (u := u) h
   have hput := cellsB_put i (chB (u % b)) ds
   have hi2 : i < i + 1 + ds.length := by omega
   have hx2 : txtB b (u / b) ++ chB (u % b) :: ds = txtB b m := by rw [← hx, txtB_step hb2.1 hub]; simp
   generalize u % b = d at hr hdg hand hput hx2
   have hdv : u / b < u := Nat.div_lt_self (by omega) (by omega)
   generalize u / b = q at hshr hx2 hdv
   (refine awp_if fun T F hT hF => ?_; simp [go_sem, hub]; refine hT ?_; clear hT hF T F)
   refine awp_skip ?_
   refine hK10 _ ?_; clear hK10
   refine awp_block ?_
   (refine awp_sr fun Y Yh => ?_; simp [go_sem]; ((repeat' (first|(refine ag_x ?_;simp [go_sem])|intro _|apply And.intro|(apply Yh;clear Yh Y)));all_goals first|apply Hold.mk|omega|with_reducible assumption|skip))
   (refine awp_sr fun Y Yh => ?_; simp [go_sem, hand, hdg, cellsB_len, hput]; ((repeat' (first|(refine ag_x ?_;simp [go_sem, hand, hdg, cellsB_len, hput])|intro _|apply And.intro|(apply Yh;clear Yh Y)));all_goals first|apply Hold.mk|omega|with_reducible assumption|skip))
   (refine awp_r fun Y Yh => ?_; simp [go_sem, hshr]; ((repeat' (first|(refine ag_x ?_;simp [go_sem, hshr])|intro _|apply And.intro|(apply Yh;clear Yh Y)));all_goals first|apply Hold.mk|omega|with_reducible assumption|skip))
   refine ⟨(i, q, chB d :: ds), ?_, ?_, ?_⟩
   ·(refine cov_of ?_ ?_ <;> simp [go_sem])
   ·exact ⟨by simp; omega, hx2, by simp; omega⟩
   ·exact hdv
  ·have hub' : u < b := by omega
   have hdg := dgL_at u (by omega)
   unfold dgL at hdg
   have hput := cellsB_put i (chB u) ds
   have hi2 : i < i + 1 + ds.length := by omega
   rw [txtB_small hub'] at hx
   (refine awp_if fun T F hT hF => ?_; simp [go_sem, hub]; refine hF ?_; clear hT hF T F)
   refine awp_exit ?_
   simp only [go_sem]
   refine hK9 _ ?_; clear hK9
   (refine awp_sr fun Y Yh => ?_; simp [go_sem]; ((repeat' (first|(refine ag_x ?_;simp [go_sem])|intro _|apply And.intro|(apply Yh;clear Yh Y)));all_goals first|apply Hold.mk|omega|with_reducible assumption|skip))
   (refine awp_r fun Y Yh => ?_; simp [go_sem, hdg, cellsB_len, hput]; ((repeat' (first|(refine ag_x ?_;simp [go_sem, hdg, cellsB_len, hput])|intro _|apply And.intro|(apply Yh;clear Yh Y)));all_goals first|apply Hold.mk|omega|with_reducible assumption|skip))
   refine tl3 _ i (by rw [← hx]; simp; omega) ?_
   rw [← hx]
   (refine cov_of ?_ ?_ <;> simp [go_sem])
 clear hK2
 (refine awp_sr fun Y Yh => ?_; simp [go_sem]; ((repeat' (first|(refine ag_x ?_;simp [go_sem])|intro _|apply And.intro|(apply Yh;clear Yh Y)));all_goals first|apply Hold.mk|omega|with_reducible assumption|skip))
 cases neg with
 | true =>
  simp only [if_true] at hm
  (refine awp_if fun T F hT hF => ?_; simp [go_sem]; refine hT ?_; clear hT hF T F)
  (refine awp_r fun Y Yh => ?_; simp [go_sem, hm]; ((repeat' (first|(refine ag_x ?_;simp [go_sem, hm])|intro _|apply And.intro|(apply Yh;clear Yh Y)));all_goals first|apply Hold.mk|omega|with_reducible assumption|skip))
  refine tl2 _ ?_
  (refine cov_of ?_ ?_ <;> simp [go_sem])
 | false =>
  simp at hm
  (refine awp_if fun T F hT hF => ?_; simp [go_sem]; refine hF ?_; clear hT hF T F)
  refine awp_skip ?_
  refine tl2 _ ?_
  (refine cov_of ?_ ?_ <;> simp [go_sem, hm])
theorem wrap_neg {n : Int} (h : InR n) : (if decide (n < 0) then IntKind.u64.wrap (-(IntKind.u64.wrap n)) else IntKind.u64.wrap n) = ((n.natAbs : Nat) : Int) ∧ n.natAbs < 2 ^ 64 := by
 simp only [InR] at h
 rw [IntKind.wrap_u64, IntKind.wrap_u64]
 refine ⟨?_, by omega⟩
 by_cases hn : n < 0
 ·simp only [hn, decide_true, if_true]; omega
 ·simp only [hn, decide_false, Bool.false_eq_true, if_false]; omega
set_option maxHeartbeats 4000000 in
theorem fmtI_spec {b s k : Nat} (h : Bas b s k) (n : Int) (hn : InR n) : PCall Tryz.prog 52 [dI n, dI b] fun r => r = dS (showB b n) := by 
 refine pcall_of Tryz.func52 rfl rfl Tryz.ntmps52 (rs := [.tmp 4]) (tys := [9]) rfl rfl (by simp) ?_
 have hb : ¬ (b : Int) = 10 := by rcases h.cases with ⟨rfl, _, _⟩ | ⟨rfl, _, _⟩ | ⟨rfl, _, _⟩ <;> decide
 obtain ⟨w1, w2⟩ := wrap_neg hn
 have B := bits_spec h (IntKind.u64.wrap n) n.natAbs (decide (n < 0)) w1 w2
 have e : showB b n = (if decide (n < 0) then [45] else []) ++ txtB b n.natAbs := by
  unfold showB
  by_cases q : n < 0 <;> simp [q]
 rw [← e] at B
 (refine awp_sr fun Y Yh => ?_; simp [go_sem]; ((repeat' (first|(refine ag_x ?_;simp [go_sem])|intro _|apply And.intro|(apply Yh;clear Yh Y)));all_goals first|apply Hold.mk|omega|with_reducible assumption|skip))
 refine awp_seq_k fun K1 hK1 => ?_
 (refine awp_sr fun Y Yh => ?_; simp [go_sem]; ((repeat' (first|(refine ag_x ?_;simp [go_sem])|intro _|apply And.intro|(apply Yh;clear Yh Y)));all_goals first|apply Hold.mk|omega|with_reducible assumption|skip))
 (refine awp_if fun T F hT hF => ?_; simp [go_sem, hb]; refine hF ?_; clear hT hF T F)
 refine awp_skip ?_
 refine hK1 _ ?_; clear hK1
 (refine awp_sr fun Y Yh => ?_; simp [go_sem]; ((repeat' (first|(refine ag_x ?_;simp [go_sem])|intro _|apply And.intro|(apply Yh;clear Yh Y)));all_goals first|apply Hold.mk|omega|with_reducible assumption|skip))
 ((try refine CallT.toA ?_); refine callT_m (.inl ⟨rfl,rfl⟩) (by simp [go_sem]) ?_; intro args ha; simp [go_sem] at ha; subst ha; refine ⟨_, B, ?_⟩; rintro _ rfl; simp [go_sem]; ((repeat' (first|(refine ag_x ?_;simp [go_sem])|intro _|apply And.intro|(apply Yh;clear Yh Y)));all_goals first|apply Hold.mk|omega|with_reducible assumption|skip))
 (refine awp_sr fun Y Yh => ?_; simp [go_sem]; ((repeat' (first|(refine ag_x ?_;simp [go_sem])|intro _|apply And.intro|(apply Yh;clear Yh Y)));all_goals first|apply Hold.mk|omega|with_reducible assumption|skip))
 (refine awp_ret ?_; simp [go_sem])
theorem fmt_spec (b : Nat) (hb : b = 2 ∨ b = 8 ∨ b = 16 ∨ b = 10) (n : Int) (hn : InR n) : PCall Tryz.prog 119 [dI n, dI b] fun r => r = dS (showB b n) := by 
 by_cases h10 : b = 10
 ·subst h10; exact fmt10_spec n hn
 ·obtain ⟨s, k, h⟩ : ∃ s k, Bas b s k := by
   rcases hb with rfl | rfl | rfl | rfl
   ·exact ⟨1, 1, by simp [Bas]⟩
   ·exact ⟨3, 7, by simp [Bas]⟩
   ·exact ⟨4, 15, by simp [Bas]⟩
   ·exact absurd rfl h10
  refine pcall_of Tryz.func119 rfl rfl Tryz.ntmps119 (rs := [.tmp 4]) (tys := [9]) rfl rfl (by simp) ?_
  (refine awp_sr fun Y Yh => ?_; simp [go_sem]; ((repeat' (first|(refine ag_x ?_;simp [go_sem])|intro _|apply And.intro|(apply Yh;clear Yh Y)));all_goals first|apply Hold.mk|omega|with_reducible assumption|skip))
  (refine awp_sr fun Y Yh => ?_; simp [go_sem]; ((repeat' (first|(refine ag_x ?_;simp [go_sem])|intro _|apply And.intro|(apply Yh;clear Yh Y)));all_goals first|apply Hold.mk|omega|with_reducible assumption|skip))
  ((try refine CallT.toA ?_); refine callT_m (.inl ⟨rfl,rfl⟩) (by simp [go_sem]) ?_; intro args ha; simp [go_sem] at ha; subst ha; refine ⟨_, (fmtI_spec h n hn), ?_⟩; rintro _ rfl; simp [go_sem]; ((repeat' (first|(refine ag_x ?_;simp [go_sem])|intro _|apply And.intro|(apply Yh;clear Yh Y)));all_goals first|apply Hold.mk|omega|with_reducible assumption|skip))
  (refine awp_ret ?_; simp [go_sem])
def NL (c : UInt8) : Prop := c = 100 ∨ c = 120 ∨ c = 88 ∨ c = 111 ∨ c = 98
theorem NL.base {c : UInt8} (h : NL c) : baseV c = 2 ∨ baseV c = 8 ∨ baseV c = 16 ∨ baseV c = 10 := by
 rcases h with rfl | rfl | rfl | rfl | rfl <;> decide
theorem chB_lt : ∀ d, d < 16 → (chB d).toNat < 128 := by decide
theorem txtB_ascii {b : Nat} (hb : 2 ≤ b) (hb2 : b ≤ 16) (n : Nat) : (txtB b n).all (fun c => decide (c.toNat < 128)) = true := by
 rw [List.all_eq_true]
 intro c hc
 unfold txtB at hc
 obtain ⟨d, hd, rfl⟩ := List.mem_map.1 hc
 simpa using chB_lt d (Nat.lt_of_lt_of_le (digB_lt hb n d hd) hb2)
theorem rep_len (c : UInt8) (n : Int) : (rep c n).length = n.toNat := by simp [rep]
set_option maxHeartbeats 32000000 in
theorem num_spec (f : Fld) (n : Int) (hn : InR n) (hl : NL f.lt) (hw : -1 ≤ f.wd ∧ f.wd ≤ 1000) (hp : -1 ≤ f.pr ∧ f.pr ≤ 1000000) : PCall Tryz.prog 79 [dF f, dI n] fun r => r = dS (numV f n) := by 
 refine pcall_of Tryz.func79 rfl rfl Tryz.ntmps79 (rs := [.tmp 4]) (tys := [9]) rfl rfl (by simp) ?_
 have hnabs : n.natAbs < 2 ^ 64 := by simp only [InR] at hn; omega
 have hb2 : 2 ≤ baseV f.lt ∧ baseV f.lt ≤ 16 := by rcases hl.base with h | h | h | h <;> rw [h] <;> decide
 have F1 := fmt_spec (baseV f.lt) hl.base n hn
 have F2 := trimPre_spec (showB (baseV f.lt) n) [45]
 rw [trimPre_show _ hb2.1 hb2.2] at F2
 have F3 := upper_spec (txtB (baseV f.lt) n.natAbs) (by have := txt_len hb2.1 hnabs; omega) (txtB_ascii hb2.1 hb2.2 _)
 have hlen := txt_len hb2.1 hnabs
 have hne0 := txtB_ne (baseV f.lt) n.natAbs
 have hbase : ∀ c : UInt8, NL c → baseV c = if c = 100 then 10 else if c = 111 then 8 else if c = 98 then 2 else 16 := fun _ _ => rfl
 
 have eD3 : digsV f n = (let d := if f.pr = 0 ∧ n = 0 then [] else (if f.lt = 88 then (txtB (baseV f.lt) n.natAbs).map upC else txtB (baseV f.lt) n.natAbs)
   if 0 < f.pr - d.length then rep 48 (f.pr - d.length) ++ d else d) := rfl
 have eN : numV f n = (let d := digsV f n
   let fr := signV f n ++ (if f.ha ∧ n ≠ 0 ∧ f.lt ≠ 100 then preV f.lt d else [])
   let m := f.wd - fr.length - d.length
   paddedV f (fr ++ if f.ze ∧ f.pr < 0 ∧ f.lf = false ∧ 0 < m then rep 48 m ++ d else d)) := rfl
 rw [eN]
 clear eN
 dsimp only
 generalize hD0 : txtB (baseV f.lt) n.natAbs = D0 at *
 have hD1l : (if f.lt = 88 then D0.map upC else D0).length ≤ 64 := by split <;> simpa using hlen
 have hD1n : (if f.lt = 88 then D0.map upC else D0) ≠ [] := by split <;> simpa using hne0
 generalize hD1 : (if f.lt = 88 then D0.map upC else D0) = D1 at *
 have hD2l : (if f.pr = 0 ∧ n = 0 then [] else D1).length ≤ 64 := by
  split
  ·simp
  ·exact hD1l
 have hD2n : n ≠ 0 → (if f.pr = 0 ∧ n = 0 then [] else D1) ≠ [] := fun q => by rw [if_neg (fun h => q h.2)]; exact hD1n
 generalize hD2 : (if f.pr = 0 ∧ n = 0 then [] else D1) = D2 at *
 simp only at eD3
 have hD3l : (digsV f n).length ≤ 1000064 := by
  rw [eD3]
  split
  ·rw [List.length_append, rep_len]; omega
  ·omega
 have hD3n : n ≠ 0 → digsV f n ≠ [] := fun q => by rw [eD3]; split <;> simp [hD2n q]
 generalize hD3 : digsV f n = D3 at *
 have hSl : (signV f n).length ≤ 1 := by
  unfold signV
  (repeat' split) <;> simp
 have hS : signV f n = if n < 0 then [45] else if f.pl then [43] else if f.bl then [32] else [] := rfl
 generalize signV f n = S0 at *
 have hPl : (if f.ha ∧ n ≠ 0 ∧ f.lt ≠ 100 then preV f.lt D3 else []).length ≤ 2 := by
  unfold preV
  (repeat' split) <;> simp
 generalize hPf : (if f.ha ∧ n ≠ 0 ∧ f.lt ≠ 100 then preV f.lt D3 else []) = Pf at *
 have hFl : (S0 ++ Pf).length ≤ 3 := by simp; omega
 generalize hF : S0 ++ Pf = F at *
 have hD4l : (if f.ze ∧ f.pr < 0 ∧ f.lf = false ∧ 0 < f.wd - F.length - D3.length then rep 48 (f.wd - F.length - D3.length) ++ D3 else D3).length ≤ 1001064 := by
  split
  ·rw [List.length_append, rep_len]; omega
  ·omega
 generalize hD4 : (if f.ze ∧ f.pr < 0 ∧ f.lf = false ∧ 0 < f.wd - F.length - D3.length then rep 48 (f.wd - F.length - D3.length) ++ D3 else D3) = D4 at *
 have hPad := padded_spec f (F ++ D4) (by omega) (by simp; omega)
 (refine awp_sr fun Y Yh => ?_; simp [go_sem]; ((repeat' (first|(refine ag_x ?_;simp [go_sem])|intro _|apply And.intro|(apply Yh;clear Yh Y)));all_goals first|apply Hold.mk|omega|with_reducible assumption|skip))
 refine awp_frzbox 2 rfl rfl ?_
 simp only [go_sem]
 refine awp_join ⟨[(1, dI n), (2, .rd (cF f)), (5, dI (baseV f.lt))], []⟩ ?_ ?_
 ·rcases hl with h | h | h | h | h
  all_goals
   rw [h]
   (refine awp_r fun Y Yh => ?_; simp [go_sem, h]; ((repeat' (first|(refine ag_x ?_;simp [go_sem, h])|intro _|apply And.intro|(apply Yh;clear Yh Y)));all_goals first|apply Hold.mk|omega|with_reducible assumption|skip))
   (refine cov_of ?_ ?_ <;> simp [go_sem, h])
   try rfl
 ·(refine awp_sr fun Y Yh => ?_; simp [go_sem]; ((repeat' (first|(refine ag_x ?_;simp [go_sem])|intro _|apply And.intro|(apply Yh;clear Yh Y)));all_goals first|apply Hold.mk|omega|with_reducible assumption|skip))
  ((try refine CallT.toA ?_); refine callT_m (.inl ⟨rfl,rfl⟩) (by simp [go_sem]) ?_; intro args ha; simp [go_sem] at ha; subst ha; refine ⟨_, F1, ?_⟩; rintro _ rfl; simp [go_sem]; ((repeat' (first|(refine ag_x ?_;simp [go_sem])|intro _|apply And.intro|(apply Yh;clear Yh Y)));all_goals first|apply Hold.mk|omega|with_reducible assumption|skip))
  ((try refine CallT.toA ?_); refine callT_m (.inl ⟨rfl,rfl⟩) (by simp [go_sem]) ?_; intro args ha; simp [go_sem] at ha; subst ha; refine ⟨_, F2, ?_⟩; rintro _ rfl; simp [go_sem]; ((repeat' (first|(refine ag_x ?_;simp [go_sem])|intro _|apply And.intro|(apply Yh;clear Yh Y)));all_goals first|apply Hold.mk|omega|with_reducible assumption|skip))
  
  refine awp_join ⟨[(1, dI n), (2, .rd (cF f)), (6, dS D1)], []⟩ ?_ ?_
  ·have b88 : decide ((f.lt.toNat : Int) = 88) = decide (f.lt = 88) := u8_eqb _ 88 (by decide)
   (refine awp_sr fun Y Yh => ?_; simp [go_sem, b88]; ((repeat' (first|(refine ag_x ?_;simp [go_sem, b88])|intro _|apply And.intro|(apply Yh;clear Yh Y)));all_goals first|apply Hold.mk|omega|with_reducible assumption|skip))
   by_cases h88 : f.lt = 88
   ·rw [if_pos h88] at hD1
    (refine awp_if fun T F hT hF => ?_; simp [go_sem, h88]; refine hT ?_; clear hT hF T F)
    (refine awp_r fun Y Yh => ?_; simp [go_sem]; ((repeat' (first|(refine ag_x ?_;simp [go_sem])|intro _|apply And.intro|(apply Yh;clear Yh Y)));all_goals first|apply Hold.mk|omega|with_reducible assumption|skip))
    ((try refine CallT.toA ?_); refine callT_m (.inl ⟨rfl,rfl⟩) (by simp [go_sem]) ?_; intro args ha; simp [go_sem] at ha; subst ha; refine ⟨_, F3, ?_⟩; rintro _ rfl; simp [go_sem]; ((repeat' (first|(refine ag_x ?_;simp [go_sem])|intro _|apply And.intro|(apply Yh;clear Yh Y)));all_goals first|apply Hold.mk|omega|with_reducible assumption|skip))
    (refine cov_of ?_ ?_ <;> simp [go_sem, hD1])
   ·rw [if_neg h88] at hD1
    (refine awp_if fun T F hT hF => ?_; simp [go_sem, h88]; refine hF ?_; clear hT hF T F)
    refine awp_skip ?_
    (refine cov_of ?_ ?_ <;> simp [go_sem, hD1])
  refine awp_join ⟨[(1, dI n), (2, .rd (cF f)), (6, dS D2)], []⟩ ?_ ?_
  ·(refine awp_sr fun Y Yh => ?_; simp [go_sem]; ((repeat' (first|(refine ag_x ?_;simp [go_sem])|intro _|apply And.intro|(apply Yh;clear Yh Y)));all_goals first|apply Hold.mk|omega|with_reducible assumption|skip))
   by_cases h0 : f.pr = 0 ∧ n = 0
   ·rw [if_pos h0] at hD2
    (refine awp_if fun T F hT hF => ?_; simp [go_sem, h0.1, h0.2]; refine hT ?_; clear hT hF T F)
    (refine awp_r fun Y Yh => ?_; simp [go_sem]; ((repeat' (first|(refine ag_x ?_;simp [go_sem])|intro _|apply And.intro|(apply Yh;clear Yh Y)));all_goals first|apply Hold.mk|omega|with_reducible assumption|skip))
    (refine cov_of ?_ ?_ <;> simp [go_sem])
    exact hD2.symm
   ·rw [if_neg h0] at hD2
    have hb : (decide (f.pr = 0) && decide (n = 0)) = false := by rw [Bool.eq_false_iff]; intro q; exact h0 (by simpa using q)
    (refine awp_if fun T F hT hF => ?_; simp [go_sem, hb]; refine hF ?_; clear hT hF T F)
    refine awp_skip ?_
    (refine cov_of ?_ ?_ <;> simp [go_sem, hD2])
  refine awp_join ⟨[(1, dI n), (2, .rd (cF f)), (6, dS D3)], []⟩ ?_ ?_
  ·(refine awp_sr fun Y Yh => ?_; simp [go_sem, ba_size]; ((repeat' (first|(refine ag_x ?_;simp [go_sem, ba_size])|intro _|apply And.intro|(apply Yh;clear Yh Y)));all_goals first|apply Hold.mk|omega|with_reducible assumption|skip))
   (refine awp_sr fun Y Yh => ?_; simp [go_sem]; ((repeat' (first|(refine ag_x ?_;simp [go_sem])|intro _|apply And.intro|(apply Yh;clear Yh Y)));all_goals first|apply Hold.mk|omega|with_reducible assumption|skip))
   by_cases h0 : 0 < f.pr - D2.length
   ·rw [if_pos h0] at eD3
    have hR := rep_spec 48 (f.pr - D2.length) (by omega) (by omega)
    have hrl := rep_len 48 (f.pr - D2.length)
    have h0' : (D2.length : Int) < f.pr := by omega
    (refine awp_if fun T F hT hF => ?_; simp [go_sem, h0']; refine hT ?_; clear hT hF T F)
    (refine awp_r fun Y Yh => ?_; simp [go_sem]; ((repeat' (first|(refine ag_x ?_;simp [go_sem])|intro _|apply And.intro|(apply Yh;clear Yh Y)));all_goals first|apply Hold.mk|omega|with_reducible assumption|skip))
    ((try refine CallT.toA ?_); refine callT_m (.inl ⟨rfl,rfl⟩) (by simp [go_sem]) ?_; intro args ha; simp [go_sem] at ha; subst ha; refine ⟨_, hR, ?_⟩; rintro _ rfl; simp [go_sem, ba_size]; ((repeat' (first|(refine ag_x ?_;simp [go_sem, ba_size])|intro _|apply And.intro|(apply Yh;clear Yh Y)));all_goals first|apply Hold.mk|omega|with_reducible assumption|skip))
    (refine cov_of ?_ ?_ <;> simp [go_sem, ba_app])
    exact eD3.symm
   ·rw [if_neg h0] at eD3
    have h0' : ¬ (D2.length : Int) < f.pr := by omega
    (refine awp_if fun T F hT hF => ?_; simp [go_sem, h0']; refine hF ?_; clear hT hF T F)
    refine awp_skip ?_
    (refine cov_of ?_ ?_ <;> simp [go_sem])
    exact eD3.symm
  (refine awp_sr fun Y Yh => ?_; simp [go_sem]; ((repeat' (first|(refine ag_x ?_;simp [go_sem])|intro _|apply And.intro|(apply Yh;clear Yh Y)));all_goals first|apply Hold.mk|omega|with_reducible assumption|skip))
  refine awp_join ⟨[(1, dI n), (2, .rd (cF f)), (6, dS D3), (8, dS S0)], []⟩ ?_ ?_
  ·refine awp_block ?_
   (refine awp_sr fun Y Yh => ?_; simp [go_sem]; ((repeat' (first|(refine ag_x ?_;simp [go_sem])|intro _|apply And.intro|(apply Yh;clear Yh Y)));all_goals first|apply Hold.mk|omega|with_reducible assumption|skip))
   by_cases hn0 : n < 0
   ·rw [if_pos hn0] at hS
    (refine awp_if fun T F hT hF => ?_; simp [go_sem, hn0]; refine hT ?_; clear hT hF T F)
    (refine awp_r fun Y Yh => ?_; simp [go_sem]; ((repeat' (first|(refine ag_x ?_;simp [go_sem])|intro _|apply And.intro|(apply Yh;clear Yh Y)));all_goals first|apply Hold.mk|omega|with_reducible assumption|skip))
    (refine cov_of ?_ ?_ <;> simp [go_sem, hS])
   ·rw [if_neg hn0] at hS
    (refine awp_if fun T F hT hF => ?_; simp [go_sem, hn0]; refine hF ?_; clear hT hF T F)
    (refine awp_sr fun Y Yh => ?_; simp [go_sem]; ((repeat' (first|(refine ag_x ?_;simp [go_sem])|intro _|apply And.intro|(apply Yh;clear Yh Y)));all_goals first|apply Hold.mk|omega|with_reducible assumption|skip))
    cases hpl : f.pl with
    | true =>
     rw [hpl, if_pos rfl] at hS
     (refine awp_if fun T F hT hF => ?_; simp [go_sem]; refine hT ?_; clear hT hF T F)
     (refine awp_r fun Y Yh => ?_; simp [go_sem]; ((repeat' (first|(refine ag_x ?_;simp [go_sem])|intro _|apply And.intro|(apply Yh;clear Yh Y)));all_goals first|apply Hold.mk|omega|with_reducible assumption|skip))
     (refine cov_of ?_ ?_ <;> simp [go_sem, hS, hpl])
    | false =>
     rw [hpl, if_neg (by simp)] at hS
     (refine awp_if fun T F hT hF => ?_; simp [go_sem]; refine hF ?_; clear hT hF T F)
     (refine awp_sr fun Y Yh => ?_; simp [go_sem]; ((repeat' (first|(refine ag_x ?_;simp [go_sem])|intro _|apply And.intro|(apply Yh;clear Yh Y)));all_goals first|apply Hold.mk|omega|with_reducible assumption|skip))
     cases hbl : f.bl with
     | true =>
      rw [hbl, if_pos rfl] at hS
      (refine awp_if fun T F hT hF => ?_; simp [go_sem]; refine hT ?_; clear hT hF T F)
      (refine awp_r fun Y Yh => ?_; simp [go_sem]; ((repeat' (first|(refine ag_x ?_;simp [go_sem])|intro _|apply And.intro|(apply Yh;clear Yh Y)));all_goals first|apply Hold.mk|omega|with_reducible assumption|skip))
      (refine cov_of ?_ ?_ <;> simp [go_sem, hS, hpl, hbl])
     | false =>
      rw [hbl, if_neg (by simp)] at hS
      (refine awp_if fun T F hT hF => ?_; simp [go_sem]; refine hF ?_; clear hT hF T F)
      refine awp_skip ?_
      (refine cov_of ?_ ?_ <;> simp [go_sem, hS, hpl, hbl])
  refine awp_join ⟨[(1, dI n), (2, .rd (cF f)), (6, dS D3), (8, dS F)], []⟩ ?_ ?_
  ·have b100 : decide ((f.lt.toNat : Int) = 100) = decide (f.lt = 100) := u8_eqb _ 100 (by decide)
   have b111 : decide ((f.lt.toNat : Int) = 111) = decide (f.lt = 111) := u8_eqb _ 111 (by decide)
   (refine awp_sr fun Y Yh => ?_; simp [go_sem, b100]; ((repeat' (first|(refine ag_x ?_;simp [go_sem, b100])|intro _|apply And.intro|(apply Yh;clear Yh Y)));all_goals first|apply Hold.mk|omega|with_reducible assumption|skip))
   by_cases hh : f.ha = true ∧ n ≠ 0 ∧ f.lt ≠ 100
   ·rw [if_pos hh] at hPf
    obtain ⟨c0, r0, hc0⟩ : ∃ c0 r0, D3 = c0 :: r0 := by
     cases hq : D3 with
     | nil => exact absurd hq (hD3n hh.2.1)
     | cons a b => exact ⟨a, b, rfl⟩
    have b48 : decide ((c0.toNat : Int) = 48) = decide (c0 = 48) := u8_eqb _ 48 (by decide)
    (refine awp_if fun T F hT hF => ?_; simp [go_sem, hh.1, hh.2.1, hh.2.2]; refine hT ?_; clear hT hF T F)
    refine awp_join ⟨[(1, dI n), (2, .rd (cF f)), (6, dS D3), (8, dS S0), (9, dS (if f.lt = 111 then [48] else preV f.lt D3))], []⟩ ?_ ?_
    ·have hll := hl
     rcases hll with h | h | h | h | h
     ·exact absurd h hh.2.2
     all_goals
      rw [h]
      (refine awp_r fun Y Yh => ?_; simp [go_sem, h]; ((repeat' (first|(refine ag_x ?_;simp [go_sem, h])|intro _|apply And.intro|(apply Yh;clear Yh Y)));all_goals first|apply Hold.mk|omega|with_reducible assumption|skip))
      (refine cov_of ?_ ?_ <;> simp [go_sem, h])
      try rfl
    ·subst hc0
     by_cases hs : f.lt = 111 ∧ c0 = 48
     ·have hpe : Pf = [] := by
       rw [← hPf]
       unfold preV
       rw [hs.1]
       simp [hs.2]
      have hFe : S0 = F := by rw [← hF, hpe, List.append_nil]
      (refine awp_sr fun Y Yh => ?_; simp [go_sem, b111, b48]; ((repeat' (first|(refine ag_x ?_;simp [go_sem, b111, b48])|intro _|apply And.intro|(apply Yh;clear Yh Y)));all_goals first|apply Hold.mk|omega|with_reducible assumption|skip))
      (refine awp_if fun T F hT hF => ?_; simp [go_sem, hs.1, hs.2]; refine hF ?_; clear hT hF T F)
      refine awp_skip ?_
      (refine cov_of ?_ ?_ <;> simp [go_sem])
      exact hFe
     ·have hpe : (if f.lt = 111 then [48] else preV f.lt (c0 :: r0)) = Pf := by
       rw [← hPf]
       by_cases h1 : f.lt = 111
       ·have h2 : ¬ c0 = 48 := fun q => hs ⟨h1, q⟩
        rw [if_pos h1]
        unfold preV
        rw [h1]
        simp [h2]
       ·rw [if_neg h1]
      have hb : (!decide (f.lt = 111) || !decide (c0 = 48)) = true := by
       cases hq : (!decide (f.lt = 111) || !decide (c0 = 48)) with
       | true => rfl
       | false => exfalso; simp at hq; exact hs hq
      have hpl2 : Pf.length ≤ 2 := hPl
      (refine awp_sr fun Y Yh => ?_; simp [go_sem, b111, b48]; ((repeat' (first|(refine ag_x ?_;simp [go_sem, b111, b48])|intro _|apply And.intro|(apply Yh;clear Yh Y)));all_goals first|apply Hold.mk|omega|with_reducible assumption|skip))
      (refine awp_if fun T F hT hF => ?_; simp [go_sem, hb]; refine hT ?_; clear hT hF T F)
      rw [hpe]
      (refine awp_r fun Y Yh => ?_; simp [go_sem, ba_size]; ((repeat' (first|(refine ag_x ?_;simp [go_sem, ba_size])|intro _|apply And.intro|(apply Yh;clear Yh Y)));all_goals first|apply Hold.mk|omega|with_reducible assumption|skip))
      (refine cov_of ?_ ?_ <;> simp [go_sem, ba_app])
      exact hF
   ·rw [if_neg hh] at hPf
    have hb : (f.ha && !decide (n = 0) && !decide (f.lt = 100)) = false := by rw [Bool.eq_false_iff]; intro q; exact hh (by simpa [and_assoc] using q)
    (refine awp_if fun T F hT hF => ?_; simp [go_sem, hb]; refine hF ?_; clear hT hF T F)
    refine awp_skip ?_
    subst hPf
    (refine cov_of ?_ ?_ <;> simp [go_sem])
    simpa using hF
  refine awp_join ⟨[(2, .rd (cF f)), (6, dS D4), (8, dS F)], []⟩ ?_ ?_
  ·(refine awp_sr fun Y Yh => ?_; simp [go_sem, ba_size]; ((repeat' (first|(refine ag_x ?_;simp [go_sem, ba_size])|intro _|apply And.intro|(apply Yh;clear Yh Y)));all_goals first|apply Hold.mk|omega|with_reducible assumption|skip))
   (refine awp_sr fun Y Yh => ?_; simp [go_sem]; ((repeat' (first|(refine ag_x ?_;simp [go_sem])|intro _|apply And.intro|(apply Yh;clear Yh Y)));all_goals first|apply Hold.mk|omega|with_reducible assumption|skip))
   by_cases hz : f.ze ∧ f.pr < 0 ∧ f.lf = false ∧ 0 < f.wd - F.length - D3.length
   ·rw [if_pos hz] at hD4
    have hR := rep_spec 48 (f.wd - F.length - D3.length) (by omega) (by omega)
    have hrl := rep_len 48 (f.wd - F.length - D3.length)
    have hz' : (D3.length : Int) < f.wd - F.length := by omega
    (refine awp_if fun T F hT hF => ?_; simp [go_sem, hz.1, hz.2.1, hz.2.2.1, hz']; refine hT ?_; clear hT hF T F)
    (refine awp_r fun Y Yh => ?_; simp [go_sem]; ((repeat' (first|(refine ag_x ?_;simp [go_sem])|intro _|apply And.intro|(apply Yh;clear Yh Y)));all_goals first|apply Hold.mk|omega|with_reducible assumption|skip))
    ((try refine CallT.toA ?_); refine callT_m (.inl ⟨rfl,rfl⟩) (by simp [go_sem]) ?_; intro args ha; simp [go_sem] at ha; subst ha; refine ⟨_, hR, ?_⟩; rintro _ rfl; simp [go_sem, ba_size]; ((repeat' (first|(refine ag_x ?_;simp [go_sem, ba_size])|intro _|apply And.intro|(apply Yh;clear Yh Y)));all_goals first|apply Hold.mk|omega|with_reducible assumption|skip))
    (refine cov_of ?_ ?_ <;> simp [go_sem, ba_app])
    exact hD4
   ·rw [if_neg hz] at hD4
    have hb : (f.ze && decide (f.pr < 0) && !f.lf && decide ((D3.length : Int) < f.wd - F.length)) = false := by
     rw [Bool.eq_false_iff]; intro q
     simp only [Bool.and_eq_true, decide_eq_true_eq, Bool.not_eq_true'] at q
     exact hz ⟨q.1.1.1, q.1.1.2, q.1.2, by omega⟩
    (refine awp_if fun T F hT hF => ?_; simp [go_sem, hb]; refine hF ?_; clear hT hF T F)
    refine awp_skip ?_
    (refine cov_of ?_ ?_ <;> simp [go_sem])
    exact hD4
  (refine awp_sr fun Y Yh => ?_; simp [go_sem, ba_size, ba_app]; ((repeat' (first|(refine ag_x ?_;simp [go_sem, ba_size, ba_app])|intro _|apply And.intro|(apply Yh;clear Yh Y)));all_goals first|apply Hold.mk|omega|with_reducible assumption|skip))
  ((try refine CallT.toA ?_); refine callT_m (.inl ⟨rfl,rfl⟩) (by simp [go_sem]) ?_; intro args ha; simp [go_sem] at ha; subst ha; refine ⟨_, hPad, ?_⟩; rintro _ rfl; simp [go_sem]; ((repeat' (first|(refine ag_x ?_;simp [go_sem])|intro _|apply And.intro|(apply Yh;clear Yh Y)));all_goals first|apply Hold.mk|omega|with_reducible assumption|skip))
  (refine awp_ret ?_; simp [go_sem])
end Go.Proofs.YtelhdhofnohkcaaGreatDoor
namespace Go.Fm
theorem parse_dec : ∀ (s : List UInt8), s.all isDig = true → ∀ acc, (acc + 1) * 10 ^ s.length ≤ 10 ^ 18 →
  Lib.parseUint10 acc s = .ok (s.foldl (fun n c => 10 * n + (c.toNat - 48)) acc)
 | [], _, acc, _ => by simp [Lib.parseUint10]
 | c :: s, h, acc, ha => by
  rw [List.all_cons, Bool.and_eq_true] at h
  have hc : 48 ≤ c.toNat ∧ c.toNat ≤ 57 := by have := h.1; simpa [isDig, UInt8.le_iff_toNat_le] using this
  have hp : 0 < 10 ^ s.length := Nat.pow_pos (by decide)
  have e : (acc + 1) * 10 ^ (c :: s).length = (acc * 10 + 10) * 10 ^ s.length := by rw [List.length_cons, Nat.pow_succ, Nat.mul_comm (10 ^ s.length) 10, ← Nat.mul_assoc]; congr 1; omega
  rw [e] at ha
  have h1 : acc * 10 + 10 ≤ 10 ^ 18 := Nat.le_trans (Nat.le_mul_of_pos_right _ hp) ha
  have h2 : (acc * 10 + (c.toNat - 48) + 1) * 10 ^ s.length ≤ 10 ^ 18 := Nat.le_trans (Nat.mul_le_mul_right _ (by omega)) ha
  unfold Lib.parseUint10
  rw [if_pos (by omega), if_neg (by omega), if_neg (by omega), parse_dec s h.2 _ h2, List.foldl_cons]
  congr 2
  omega
theorem foldl_lt : ∀ (s : List UInt8), s.all isDig = true → ∀ acc, s.foldl (fun n c => 10 * n + (c.toNat - 48)) acc < (acc + 1) * 10 ^ s.length
 | [], _, acc => by simp
 | c :: s, h, acc => by
  rw [List.all_cons, Bool.and_eq_true] at h
  have hc : 48 ≤ c.toNat ∧ c.toNat ≤ 57 := by have := h.1; simpa [isDig, UInt8.le_iff_toNat_le] using this
  rw [List.foldl_cons]
  refine Nat.lt_of_lt_of_le (foldl_lt s h.2 _) ?_
  have e : (acc + 1) * 10 ^ (c :: s).length = (acc * 10 + 10) * 10 ^ s.length := by rw [List.length_cons, Nat.pow_succ, Nat.mul_comm (10 ^ s.length) 10, ← Nat.mul_assoc]; congr 1; omega
  rw [e]
  exact Nat.mul_le_mul_right _ (by omega)
theorem decN_lt {s : List UInt8} (h : s.all isDig = true) (hl : s.length ≤ 18) : decN s < 10 ^ 18 := by
 have := foldl_lt s h 0
 refine Nat.lt_of_lt_of_le this ?_
 simp only [Nat.zero_add, Nat.one_mul]
 exact Nat.pow_le_pow_right (by decide) hl
theorem pmag_dec {s : List UInt8} (h : s.all isDig = true) (hne : s ≠ []) (hl : s.length ≤ 18) : Lib.parseMag s = .ok (decN s) := by
 unfold Lib.parseMag
 rw [if_neg hne, parse_dec s h 0 (by simp only [Nat.zero_add, Nat.one_mul]; exact Nat.pow_le_pow_right (by decide) hl)]
 rfl
theorem atoi_dec {t : List UInt8} {s : List UInt8} (hs : s = if t.head? = some 45 then t.tail else t) (h : s.all isDig = true) (hne : s ≠ []) (hl : s.length ≤ 18) :
  Lib.atoiAll t = .ok (if t.head? = some 45 then -(decN s : Int) else decN s) := by
 have hp := pmag_dec h hne hl
 have hlt := decN_lt h hl
 cases t with
 | nil => simp at hs; exact absurd hs hne
 | cons c r =>
  simp only [List.head?_cons, Option.some.injEq, List.tail_cons] at hs ⊢
  unfold Lib.atoiAll
  simp only
  by_cases h45 : c = 45
  ·rw [if_pos h45] at hs
   subst h45
   subst hs
   simp only [show (45 : UInt8).toNat = 45 by rfl, or_true, if_true, hp]
   rw [if_neg (by simp), if_neg (by omega)]
  ·rw [if_neg h45] at hs
   have hn : ¬ c.toNat = 45 := fun q => h45 (UInt8.toNat_inj.1 (by simpa using q))
   have hcd : isDig c = true := by rw [hs] at h; simp at h; exact h.1
   have h43 : ¬ c.toNat = 43 := by simp [isDig, UInt8.le_iff_toNat_le] at hcd; omega
   simp only [hn, h43, or_self, if_false, h45, ← hs, hp]
   rw [if_neg (by omega), if_neg (by simp)]
theorem trimP_tail (t : List UInt8) : Lib.trimPrefix t [45] = if t.head? = some 45 then t.tail else t := by
 unfold Lib.trimPrefix Lib.hasPrefix
 cases t with
 | nil => simp
 | cons c r =>
  by_cases h : c = 45
  ·subst h; simp
  ·have : ([45] : List UInt8).isPrefixOf (c :: r) = false := by simp [List.isPrefixOf, Ne.symm h]
   rw [this]
   simp [h]
end Go.Fm
namespace Go.Proofs.YtelhdhofnohkcaaGreatDoor
open Go.Eng Go.Fm Go.RowKit
set_option maxRecDepth 20000
attribute [local irreducible] AG CallA CallT AWp PCall ACall AgC
theorem atoi_spec (s : Bs) (hl : s.length ≤ 1100000) (v : Int) (h : Lib.atoiAll s = .ok v) : PCall Tryz.prog 118 [dS s] fun r => r = .tup [dI v, .v .nilIface] := by
 refine pcall_below ⟨_, Tryz.func118, rfl, rfl⟩ fun C w us hc hg hr => ?_
 obtain rfl := repL_v (us := [.string ⟨s.toArray⟩]) hr
 refine (Tryz.strconv_Atoi_ok ⟨s.toArray⟩ (by simp [ByteArray.size]; omega) v (by simpa using h) w).mono ?_
 rintro e w' ⟨rfl, hw⟩
 refine ⟨_, _, rfl, rfl, rep_tup2 (.v _) (.v _), ?_⟩
 rcases hw with rfl | ⟨t, rfl⟩
 ·exact Below.refl _ _
 ·exact ⟨rfl, rfl, rfl, by rw [Lib.bytesWorld_size]; omega, fun k hk => Lib.bytesWorld_at_old w _ _ k (by omega)⟩
def numQ (a : Ag) : Int × Bool := match numA a with
 | none => (0, false)
 | some n => (n, true)
set_option maxHeartbeats 8000000 in
theorem number_spec (a : Ag) (h : InR a.int) (hl : a.tx.length ≤ 1100000) : PCall Tryz.prog 78 [dA a] fun r => r = .tup [dI (numQ a).1, dB (numQ a).2] := by 
 refine pcall_of Tryz.func78 rfl rfl Tryz.ntmps78 (rs := [.tmp 2, .tmp 3]) (tys := [3, 4]) rfl rfl (by simp) ?_
 cases hi : a.is with
 | false =>
  have e : numQ a = (a.int, true) := by unfold numQ numA; rw [if_pos hi]
  rw [e]
  (refine awp_sr fun Y Yh => ?_; simp [go_sem, hi]; ((repeat' (first|(refine ag_x ?_;simp [go_sem, hi])|intro _|apply And.intro|(apply Yh;clear Yh Y)));all_goals first|apply Hold.mk|omega|with_reducible assumption|skip))
  refine awp_seq_k fun K1 hK1 => ?_
  (refine awp_sr fun Y Yh => ?_; simp [go_sem]; ((repeat' (first|(refine ag_x ?_;simp [go_sem])|intro _|apply And.intro|(apply Yh;clear Yh Y)));all_goals first|apply Hold.mk|omega|with_reducible assumption|skip))
  (refine awp_if fun T F hT hF => ?_; simp [go_sem]; refine hT ?_; clear hT hF T F)
  (refine awp_sr fun Y Yh => ?_; simp [go_sem]; ((repeat' (first|(refine ag_x ?_;simp [go_sem])|intro _|apply And.intro|(apply Yh;clear Yh Y)));all_goals first|apply Hold.mk|omega|with_reducible assumption|skip))
  (refine awp_ret ?_; simp [go_sem])
 | true =>
  have hT := trimPre_spec a.tx [45]
  rw [trimP_tail] at hT
  have hA := fun s hs h1 h2 h3 => atoi_spec a.tx hl _ (atoi_dec (t := a.tx) (s := s) hs h1 h2 h3)
  have e : numQ a = match (if (if a.tx.head? = some 45 then a.tx.tail else a.tx) = [] ∨ 18 < (if a.tx.head? = some 45 then a.tx.tail else a.tx).length ∨ ((if a.tx.head? = some 45 then a.tx.tail else a.tx).head? = some 48 ∧ 1 < (if a.tx.head? = some 45 then a.tx.tail else a.tx).length) ∨ (if a.tx.head? = some 45 then a.tx.tail else a.tx).all isDig = false then none else some (if a.tx.head? = some 45 then -(decN (if a.tx.head? = some 45 then a.tx.tail else a.tx) : Int) else decN (if a.tx.head? = some 45 then a.tx.tail else a.tx))) with
   | none => (0, false)
   | some n => (n, true) := by unfold numQ numA; rw [if_neg (by simp [hi])]
  have hsl : (if a.tx.head? = some 45 then a.tx.tail else a.tx).length ≤ 1100000 := by
   split
   ·rw [List.length_tail]; omega
   ·exact hl
  have hA := hA _ rfl
  rw [e]
  generalize (if a.tx.head? = some 45 then a.tx.tail else a.tx) = s at *
  clear e
  have hTr := trimS_spec s tenD (by omega) (by decide) (by decide)
  have hTd := trim_digits s
  have hval : InR (if a.tx.head? = some 45 then -(decN s : Int) else decN s) ∨ True := .inr trivial
  generalize (if a.tx.head? = some 45 then -(decN s : Int) else decN s) = v at *
  cases s with
  | nil =>
   rw [if_pos (.inl rfl)]
   simp only
   (refine awp_sr fun Y Yh => ?_; simp [go_sem, hi]; ((repeat' (first|(refine ag_x ?_;simp [go_sem, hi])|intro _|apply And.intro|(apply Yh;clear Yh Y)));all_goals first|apply Hold.mk|omega|with_reducible assumption|skip))
   refine awp_seq_k fun K1 hK1 => ?_
   (refine awp_sr fun Y Yh => ?_; simp [go_sem]; ((repeat' (first|(refine ag_x ?_;simp [go_sem])|intro _|apply And.intro|(apply Yh;clear Yh Y)));all_goals first|apply Hold.mk|omega|with_reducible assumption|skip))
   (refine awp_if fun T F hT hF => ?_; simp [go_sem]; refine hF ?_; clear hT hF T F)
   refine awp_skip ?_
   refine hK1 _ ?_; clear hK1
   (refine awp_sr fun Y Yh => ?_; simp [go_sem]; ((repeat' (first|(refine ag_x ?_;simp [go_sem])|intro _|apply And.intro|(apply Yh;clear Yh Y)));all_goals first|apply Hold.mk|omega|with_reducible assumption|skip))
   ((try refine CallT.toA ?_); refine callT_m (.inl ⟨rfl,rfl⟩) (by simp [go_sem]) ?_; intro args ha; simp [go_sem] at ha; subst ha; refine ⟨_, hT, ?_⟩; rintro _ rfl; simp [go_sem]; ((repeat' (first|(refine ag_x ?_;simp [go_sem])|intro _|apply And.intro|(apply Yh;clear Yh Y)));all_goals first|apply Hold.mk|omega|with_reducible assumption|skip))
   refine awp_seq_k fun K3 hK3 => ?_
   (refine awp_sr fun Y Yh => ?_; simp [go_sem]; ((repeat' (first|(refine ag_false ?_ ?_ ?_;(focus (simp [go_sem, undef];done));(focus (simp [go_sem];done));simp [go_sem])|(refine ag_x ?_;simp [go_sem, undef])|intro _|apply And.intro|(apply Yh;clear Yh Y)));all_goals first|apply Hold.mk|omega|with_reducible assumption|skip))
   (refine awp_if fun T F hT hF => ?_; simp [go_sem]; refine hT ?_; clear hT hF T F)
   (refine awp_sr fun Y Yh => ?_; simp [go_sem]; ((repeat' (first|(refine ag_x ?_;simp [go_sem])|intro _|apply And.intro|(apply Yh;clear Yh Y)));all_goals first|apply Hold.mk|omega|with_reducible assumption|skip))
   (refine awp_ret ?_; simp [go_sem])
  | cons c r =>
   have he : (Lib.trimS (c :: r) tenD).isEmpty = (c :: r).all isDig := by
    rw [Bool.eq_iff_iff, List.isEmpty_iff]; exact hTd
   have h48 : decide ((c.toNat : Int) = 48) = decide (c = 48) := u8_eqb c 48 (by decide)
   have hb : (decide ((18 : Int) < (r.length : Int) + 1) || decide ((c.toNat : Int) = 48) && decide ((1 : Int) < (r.length : Int) + 1) || (!isDig c || !r.all isDig)) = decide ((c :: r) = [] ∨ 18 < (c :: r).length ∨ ((c :: r).head? = some 48 ∧ 1 < (c :: r).length) ∨ (c :: r).all isDig = false) := by
    rw [h48, Bool.eq_iff_iff]
    simp only [Bool.or_eq_true, Bool.and_eq_true, decide_eq_true_eq, Bool.not_eq_true', List.length_cons, List.head?_cons, Option.some.injEq, reduceCtorEq, false_or, List.all_cons, Bool.and_eq_false_iff]
    constructor
    ·rintro ((q | q) | q)
     ·left; omega
     ·right; left; exact ⟨q.1, by omega⟩
     ·right; right; exact q
    ·rintro (q | q | q)
     ·left; left; omega
     ·left; right; exact ⟨q.1, by omega⟩
     ·right; exact q
   by_cases hC : (c :: r) = [] ∨ 18 < (c :: r).length ∨ ((c :: r).head? = some 48 ∧ 1 < (c :: r).length) ∨ (c :: r).all isDig = false
   ·rw [if_pos hC]
    rw [decide_eq_true hC] at hb
    simp only
    (refine awp_sr fun Y Yh => ?_; simp [go_sem, hi]; ((repeat' (first|(refine ag_x ?_;simp [go_sem, hi])|intro _|apply And.intro|(apply Yh;clear Yh Y)));all_goals first|apply Hold.mk|omega|with_reducible assumption|skip))
    refine awp_seq_k fun K1 hK1 => ?_
    (refine awp_sr fun Y Yh => ?_; simp [go_sem]; ((repeat' (first|(refine ag_x ?_;simp [go_sem])|intro _|apply And.intro|(apply Yh;clear Yh Y)));all_goals first|apply Hold.mk|omega|with_reducible assumption|skip))
    (refine awp_if fun T F hT hF => ?_; simp [go_sem]; refine hF ?_; clear hT hF T F)
    refine awp_skip ?_
    refine hK1 _ ?_; clear hK1
    (refine awp_sr fun Y Yh => ?_; simp [go_sem]; ((repeat' (first|(refine ag_x ?_;simp [go_sem])|intro _|apply And.intro|(apply Yh;clear Yh Y)));all_goals first|apply Hold.mk|omega|with_reducible assumption|skip))
    ((try refine CallT.toA ?_); refine callT_m (.inl ⟨rfl,rfl⟩) (by simp [go_sem]) ?_; intro args ha; simp [go_sem] at ha; subst ha; refine ⟨_, hT, ?_⟩; rintro _ rfl; simp [go_sem]; ((repeat' (first|(refine ag_x ?_;simp [go_sem])|intro _|apply And.intro|(apply Yh;clear Yh Y)));all_goals first|apply Hold.mk|omega|with_reducible assumption|skip))
    refine awp_seq_k fun K3 hK3 => ?_
    (refine awp_sr fun Y Yh => ?_; simp [go_sem, ba_size]; ((repeat' (first|(refine ag_x ?_;simp [go_sem, ba_size])|intro _|apply And.intro|(apply Yh;clear Yh Y)));all_goals first|apply Hold.mk|omega|with_reducible assumption|skip))
    (refine agc_f (dS (Lib.trimS (c :: r) tenD)) (.inl ⟨rfl,rfl⟩) ?_ rfl ?_; (intro hc args ha; simp [go_sem] at ha; subst ha; exact hTr); simp [go_sem, he]; ((repeat' (first|(refine ag_x ?_;simp [go_sem, he])|intro _|apply And.intro|(apply Yh;clear Yh Y)));all_goals first|apply Hold.mk|omega|with_reducible assumption|skip))
    (refine awp_if fun T F hT hF => ?_; simp [go_sem, hb]; refine hT ?_; clear hT hF T F)
    (refine awp_sr fun Y Yh => ?_; simp [go_sem]; ((repeat' (first|(refine ag_x ?_;simp [go_sem])|intro _|apply And.intro|(apply Yh;clear Yh Y)));all_goals first|apply Hold.mk|omega|with_reducible assumption|skip))
    (refine awp_ret ?_; simp [go_sem])
   ·rw [if_neg hC]
    rw [decide_eq_false hC] at hb
    have hC2 : ¬ 18 < (c :: r).length ∧ (c :: r).all isDig = true := ⟨fun q => hC (.inr (.inl q)), by
     cases hq : (c :: r).all isDig with
     | true => rfl
     | false => exact absurd (.inr (.inr (.inr hq))) hC⟩
    have hAt := hA hC2.2 (by simp) (by omega)
    simp only
    (refine awp_sr fun Y Yh => ?_; simp [go_sem, hi]; ((repeat' (first|(refine ag_x ?_;simp [go_sem, hi])|intro _|apply And.intro|(apply Yh;clear Yh Y)));all_goals first|apply Hold.mk|omega|with_reducible assumption|skip))
    refine awp_seq_k fun K1 hK1 => ?_
    (refine awp_sr fun Y Yh => ?_; simp [go_sem]; ((repeat' (first|(refine ag_x ?_;simp [go_sem])|intro _|apply And.intro|(apply Yh;clear Yh Y)));all_goals first|apply Hold.mk|omega|with_reducible assumption|skip))
    (refine awp_if fun T F hT hF => ?_; simp [go_sem]; refine hF ?_; clear hT hF T F)
    refine awp_skip ?_
    refine hK1 _ ?_; clear hK1
    (refine awp_sr fun Y Yh => ?_; simp [go_sem]; ((repeat' (first|(refine ag_x ?_;simp [go_sem])|intro _|apply And.intro|(apply Yh;clear Yh Y)));all_goals first|apply Hold.mk|omega|with_reducible assumption|skip))
    ((try refine CallT.toA ?_); refine callT_m (.inl ⟨rfl,rfl⟩) (by simp [go_sem]) ?_; intro args ha; simp [go_sem] at ha; subst ha; refine ⟨_, hT, ?_⟩; rintro _ rfl; simp [go_sem]; ((repeat' (first|(refine ag_x ?_;simp [go_sem])|intro _|apply And.intro|(apply Yh;clear Yh Y)));all_goals first|apply Hold.mk|omega|with_reducible assumption|skip))
    refine awp_seq_k fun K3 hK3 => ?_
    (refine awp_sr fun Y Yh => ?_; simp [go_sem, ba_size]; ((repeat' (first|(refine ag_x ?_;simp [go_sem, ba_size])|intro _|apply And.intro|(apply Yh;clear Yh Y)));all_goals first|apply Hold.mk|omega|with_reducible assumption|skip))
    (refine agc_f (dS (Lib.trimS (c :: r) tenD)) (.inl ⟨rfl,rfl⟩) ?_ rfl ?_; (intro hc args ha; simp [go_sem] at ha; subst ha; exact hTr); simp [go_sem, he]; ((repeat' (first|(refine ag_x ?_;simp [go_sem, he])|intro _|apply And.intro|(apply Yh;clear Yh Y)));all_goals first|apply Hold.mk|omega|with_reducible assumption|skip))
    (refine awp_if fun T F hT hF => ?_; simp [go_sem, hb]; refine hF ?_; clear hT hF T F)
    refine awp_skip ?_
    refine hK3 _ ?_; clear hK3
    (refine awp_sr fun Y Yh => ?_; simp [go_sem]; ((repeat' (first|(refine ag_x ?_;simp [go_sem])|intro _|apply And.intro|(apply Yh;clear Yh Y)));all_goals first|apply Hold.mk|omega|with_reducible assumption|skip))
    ((try refine CallT.toA ?_); refine callT_m (.inl ⟨rfl,rfl⟩) (by simp [go_sem]) ?_; intro args ha; simp [go_sem] at ha; subst ha; refine ⟨_, hAt, ?_⟩; rintro _ rfl; simp [go_sem]; ((repeat' (first|(refine ag_x ?_;simp [go_sem])|intro _|apply And.intro|(apply Yh;clear Yh Y)));all_goals first|apply Hold.mk|omega|with_reducible assumption|skip))
    (refine awp_sr fun Y Yh => ?_; simp [go_sem]; ((repeat' (first|(refine ag_x ?_;simp [go_sem])|intro _|apply And.intro|(apply Yh;clear Yh Y)));all_goals first|apply Hold.mk|omega|with_reducible assumption|skip))
    (refine awp_ret ?_; simp [go_sem])
end Go.Proofs.YtelhdhofnohkcaaGreatDoor
namespace Go.Proofs.YtelhdhofnohkcaaGreatDoor
open Go.Eng Go.Fm
set_option maxRecDepth 20000
attribute [local irreducible] AG CallA CallT AWp PCall ACall AgC
def AgOk (a : Ag) : Prop := InR a.int ∧ a.tx.length ≤ 1100000
def AgsOk (args : List Ag) : Prop := args.length ≤ 1000000 ∧ ∀ a ∈ args, AgOk a
theorem ag0_ok : AgOk ag0 := ⟨by simp [ag0, InR], by simp [ag0]⟩
theorem ofA_ok {args : List Ag} (h : AgsOk args) (u : Nat) (nm : Bs) : AgOk (ofA args u nm).1 := by
 unfold ofA
 split
 ·split
  ·exact ag0_ok
  ·rename_i a ha; exact h.2 a (List.mem_of_getElem? ha)
 ·split
  ·exact ag0_ok
  ·rename_i a ha; exact h.2 a (List.mem_of_find?_eq_some ha)
theorem ofA_le {args : List Ag} {u : Nat} (h : u ≤ args.length) (nm : Bs) : (ofA args u nm).2.2 ≤ args.length := by
 unfold ofA
 split
 ·split
  ·exact h
  ·rename_i a ha; have := (List.getElem?_eq_some_iff.1 ha).1; simp; omega
 ·split <;> exact h
theorem starW_le {args : List Ag} {u : Nat} (h : u ≤ args.length) (f : Fld) : (starW args u f).2.1 ≤ args.length := by
 unfold starW
 split
 ·exact h
 ·split
  ·exact h
  ·rename_i a ha; have := (List.getElem?_eq_some_iff.1 ha).1; split <;> simp <;> omega
theorem starP_le {args : List Ag} {u : Nat} (h : u ≤ args.length) (f : Fld) : (starP args u f).2.1 ≤ args.length := by
 unfold starP
 split
 ·exact h
 ·split
  ·exact h
  ·rename_i a ha; have := (List.getElem?_eq_some_iff.1 ha).1; split <;> simp <;> omega
theorem stars_le {args : List Ag} {u : Nat} (h : u ≤ args.length) (f : Fld) : (starsV args u f).2.1 ≤ args.length := by
 unfold starsV
 simp only
 split
 ·exact starW_le h f
 ·exact starP_le (starW_le h f) _
def FdOk (f : Fld) : Prop := (f.wd = -2 ∨ (-1 ≤ f.wd ∧ f.wd ≤ 1000)) ∧ (f.pr = -2 ∨ (-1 ≤ f.pr ∧ f.pr ≤ 1000))
theorem starW_ok {args : List Ag} {u : Nat} {f : Fld} (hf : FdOk f) (h : (starW args u f).1 = 0) : (-1 ≤ (starW args u f).2.2.wd ∧ (starW args u f).2.2.wd ≤ 1000) ∧ (starW args u f).2.2.pr = f.pr ∧ (starW args u f).2.2.lt = f.lt ∧ (starW args u f).2.2.nm = f.nm := by
 unfold starW at h ⊢
 split
 ·rename_i q
  refine ⟨?_, rfl, rfl, rfl⟩
  rcases hf.1 with e | e
  ·exact absurd e q
  ·exact e
 ·rename_i q
  rw [if_neg q] at h
  split
  ·rename_i ha; rw [ha] at h; cases h
  ·rename_i a ha
   rw [ha] at h
   simp only at h
   by_cases hb : a.is = true ∨ 1000 < a.int ∨ a.int < -1000
   ·rw [if_pos hb] at h; cases h
   ·rw [if_neg hb]
    by_cases hn : a.int < 0
    ·simp [hn]; try omega
    ·simp [hn]; try omega
theorem starP_ok {args : List Ag} {u : Nat} {f : Fld} (hf : f.pr = -2 ∨ (-1 ≤ f.pr ∧ f.pr ≤ 1000)) (h : (starP args u f).1 = 0) : (-1 ≤ (starP args u f).2.2.pr ∧ (starP args u f).2.2.pr ≤ 1000) ∧ (starP args u f).2.2.wd = f.wd ∧ (starP args u f).2.2.lt = f.lt ∧ (starP args u f).2.2.nm = f.nm := by
 unfold starP at h ⊢
 split
 ·rename_i q
  refine ⟨?_, rfl, rfl, rfl⟩
  rcases hf with e | e
  ·exact absurd e q
  ·exact e
 ·rename_i q
  rw [if_neg q] at h
  split
  ·rename_i ha; rw [ha] at h; cases h
  ·rename_i a ha
   rw [ha] at h
   simp only at h
   by_cases hb : a.is = true ∨ 1000 < a.int
   ·rw [if_pos hb] at h; cases h
   ·rw [if_neg hb]
    by_cases hn : a.int < 0
    ·simp [hn]; try omega
    ·simp [hn]; try omega
theorem stars_ok {args : List Ag} {u : Nat} {f : Fld} (hf : FdOk f) (h : (starsV args u f).1 = 0) :
  ((-1 ≤ (starsV args u f).2.2.wd ∧ (starsV args u f).2.2.wd ≤ 1000) ∧ (-1 ≤ (starsV args u f).2.2.pr ∧ (starsV args u f).2.2.pr ≤ 1000)) ∧ (starsV args u f).2.2.lt = f.lt ∧ (starsV args u f).2.2.nm = f.nm := by
 unfold starsV at h ⊢
 simp only at h ⊢
 by_cases hw : (starW args u f).1 = 0
 ·rw [if_neg (by simp [hw])] at h ⊢
  obtain ⟨w1, w2, w3, w4⟩ := starW_ok hf hw
  obtain ⟨p1, p2, p3, p4⟩ := starP_ok (by rw [w2]; exact hf.2) h
  exact ⟨⟨by rw [p2]; exact w1, p1⟩, p3.trans w3, p4.trans w4⟩
 ·rw [if_pos hw] at h; exact absurd h hw
theorem numA_in {a : Ag} {n : Int} (ha : AgOk a) (h : numA a = some n) : InR n := by
 have key : ∀ (s : Bs) (q : Prop) [Decidable q], (if s = [] ∨ 18 < s.length ∨ (s.head? = some 48 ∧ 1 < s.length) ∨ s.all isDig = false then none else some (if q then -(decN s : Int) else decN s)) = some n → InR n := fun s q _ h => by
  by_cases hc : s = [] ∨ 18 < s.length ∨ (s.head? = some 48 ∧ 1 < s.length) ∨ s.all isDig = false
  ·rw [if_pos hc] at h; cases h
  ·rw [if_neg hc] at h
   have h18 : s.length ≤ 18 := Nat.le_of_not_lt fun q => hc (.inr (.inl q))
   have hd : s.all isDig = true := by
    cases hq : s.all isDig with
    | true => rfl
    | false => exact absurd (.inr (.inr (.inr hq))) hc
   have := decN_lt hd h18
   simp only [Option.some.injEq] at h
   simp only [InR]
   split at h <;> omega
 unfold numA at h
 split at h
 ·cases h; exact ha.1
 ·exact key _ _ h
theorem short_len (f : Fld) (s : Bs) : (shortV f s).length ≤ s.length := by
 unfold shortV; split
 ·rw [List.length_take]; omega
 ·omega
theorem text_len {a : Ag} (h : AgOk a) : (textV a).length ≤ 1100000 := by
 unfold textV
 split
 ·exact h.2
 ·have := txt_len (b := 10) (by decide) (n := a.int.natAbs) (by have := h.1; simp only [InR] at this; omega)
  unfold showB; split <;> simp <;> omega
set_option maxHeartbeats 32000000 in
theorem fill_np (args : List Ag) (u g : Nat) (f : Fld) (hA : AgsOk args) (hu : u ≤ args.length) (hf : FdOk f) (h0 : f.lt ≠ 0) (hl : f.lt ∈ lets) (hp : f.lt ≠ 112) :
  ACall Tryz.prog 49 [.ptr 900004 g 0, dF f] [fiB g args u] [900004]
   fun ps r => ps = [(g, .box [dAs args, dI (fillV args u f).2.2])] ∧ r = .tup [dS (fillV args u f).1, dI (fillV args u f).2.1] := by 
 refine acall_of Tryz.func49 rfl rfl Tryz.ntmps49 (rs := [.tmp 4, .tmp 5]) (tys := [9, 34]) rfl rfl (by simp) (by simp [notFroz]) ?_
 have hS := fun gf => stars_spec args u g gf f hu hA.1
 have hsl := stars_le hu f
 have hso := fun h => stars_ok (args := args) (u := u) hf h
 have eV : fillV args u f = (if (starsV args u f).1 ≠ 0 then ([], (starsV args u f).1, (starsV args u f).2.1) else
  if (ofA args (starsV args u f).2.1 f.nm).2.1 ≠ 0 then ([], (ofA args (starsV args u f).2.1 f.nm).2.1, (ofA args (starsV args u f).2.1 f.nm).2.2) else
  match putV (starsV args u f).2.2 (ofA args (starsV args u f).2.1 f.nm).1 with
  | none => ([], 1, (ofA args (starsV args u f).2.1 f.nm).2.2)
  | some t => (t, 0, (ofA args (starsV args u f).2.1 f.nm).2.2)) := by unfold fillV; rw [if_neg h0]; rfl
 generalize hV : fillV args u f = V at *
 generalize starsV args u f = S at *
 obtain ⟨se, su, sf⟩ := S
 simp only at hS hsl hso eV ⊢
 by_cases he : se = 0
 ·subst he
  obtain ⟨⟨hw, hpr⟩, hlt, hnm⟩ := hso rfl
  have hO := of_spec args su g sf hsl hA.1
  have hoa := ofA_ok hA su sf.nm
  rw [hnm] at hO hoa
  rw [if_neg (by simp)] at eV
  generalize ofA args su f.nm = O at *
  obtain ⟨oa, oe, ou⟩ := O
  simp only at hO hoa eV
  (refine awp_sr fun Y Yh => ?_; simp [go_sem]; ((repeat' (first|(refine ag_x ?_;simp [go_sem])|intro _|apply And.intro|(apply Yh;clear Yh Y)));all_goals first|apply Hold.mk|omega|with_reducible assumption|skip))
  refine awp_renbox 3 900003 rfl rfl (by decide) fun gf => ?_
  simp only [go_sem]
  refine awp_seq_k fun K1 hK1 => ?_
  (refine awp_sr fun Y Yh => ?_; simp [go_sem]; ((repeat' (first|(refine ag_x ?_;simp [go_sem])|intro _|apply And.intro|(apply Yh;clear Yh Y)));all_goals first|apply Hold.mk|omega|with_reducible assumption|skip))
  (refine callA_l [900004, 900003] (.inl ⟨rfl,rfl⟩) (by simp [go_sem]) ?_; intro args ha; simp [go_sem] at ha; subst ha; refine ⟨_, _, (hS gf), (by simp [go_sem]), ?_⟩; rintro ps r hps ⟨rfl, rfl⟩; simp [go_sem]; ((repeat' (first|(refine ag_x ?_;simp [go_sem])|intro _|apply And.intro|(apply Yh;clear Yh Y)));all_goals first|apply Hold.mk|omega|with_reducible assumption|skip))
  (refine awp_sr fun Y Yh => ?_; simp [go_sem]; ((repeat' (first|(refine ag_x ?_;simp [go_sem])|intro _|apply And.intro|(apply Yh;clear Yh Y)));all_goals first|apply Hold.mk|omega|with_reducible assumption|skip))
  (refine awp_if fun T F hT hF => ?_; simp [go_sem]; refine hF ?_; clear hT hF T F)
  refine awp_skip ?_
  refine hK1 _ ?_; clear hK1
  (refine awp_sr fun Y Yh => ?_; simp [go_sem]; ((repeat' (first|(refine ag_x ?_;simp [go_sem])|intro _|apply And.intro|(apply Yh;clear Yh Y)));all_goals first|apply Hold.mk|omega|with_reducible assumption|skip))
  (refine callA_l [900004] (.inl ⟨rfl,rfl⟩) (by simp [go_sem]) ?_; intro args ha; simp [go_sem] at ha; subst ha; refine ⟨_, _, hO, (by simp [go_sem]), ?_⟩; rintro ps r hps ⟨rfl, rfl⟩; simp [go_sem]; ((repeat' (first|(refine ag_x ?_;simp [go_sem])|intro _|apply And.intro|(apply Yh;clear Yh Y)));all_goals first|apply Hold.mk|omega|with_reducible assumption|skip))
  refine awp_seq_k fun K3 hK3 => ?_
  by_cases hoe : oe = 0
  ·subst hoe
   rw [if_neg (by simp)] at eV
   (refine awp_sr fun Y Yh => ?_; simp [go_sem]; ((repeat' (first|(refine ag_x ?_;simp [go_sem])|intro _|apply And.intro|(apply Yh;clear Yh Y)));all_goals first|apply Hold.mk|omega|with_reducible assumption|skip))
   (refine awp_if fun T F hT hF => ?_; simp [go_sem]; refine hF ?_; clear hT hF T F)
   refine awp_skip ?_
   refine hK3 _ ?_; clear hK3
   refine awp_seq_k fun K5 hK5 => ?_
   have b115 : decide ((sf.lt.toNat : Int) = 115) = decide (sf.lt = 115) := u8_eqb _ 115 (by decide)
   have b112 : decide ((sf.lt.toNat : Int) = 112) = decide (sf.lt = 112) := u8_eqb _ 112 (by decide)
   have b99 : decide ((sf.lt.toNat : Int) = 99) = decide (sf.lt = 99) := u8_eqb _ 99 (by decide)
   (refine awp_sr fun Y Yh => ?_; simp [go_sem]; ((repeat' (first|(refine ag_x ?_;simp [go_sem])|intro _|apply And.intro|(apply Yh;clear Yh Y)));all_goals first|apply Hold.mk|omega|with_reducible assumption|skip))
   refine awp_block ?_
   (refine awp_sr fun Y Yh => ?_; simp [go_sem, b115]; ((repeat' (first|(refine ag_x ?_;simp [go_sem, b115])|intro _|apply And.intro|(apply Yh;clear Yh Y)));all_goals first|apply Hold.mk|omega|with_reducible assumption|skip))
   by_cases h115 : sf.lt = 115
   ·have e2 : putV sf oa = some (paddedV sf (shortV sf (textV oa))) := by unfold putV; rw [if_pos h115]
    rw [e2] at eV
    simp only at eV
    have hT := text_spec oa hoa.1
    have hSh := short_spec sf (textV oa)
    have htl := text_len hoa
    have hsl2 := short_len sf (textV oa)
    have hPd := padded_spec sf (shortV sf (textV oa)) (by omega) (by omega)
    (refine awp_if fun T F hT hF => ?_; simp [go_sem, h115]; refine hT ?_; clear hT hF T F)
    ((refine awp_dr (.qs [0, 1, 2] (.kp 3 (.kp 4 (.kp 5 (.qs [6, 7] (.nil)))))) (by kernel_rfl) ?_ ?_ ?_ ?_); (kernel_rfl); (exact (by decide +kernel)); (kernel_rfl); intro Y Yh; ((repeat' (first|(refine ag_x ?_;simp [go_sem])|refine adr_nil ?_|((first|refine adr_qs fun Y Yh=>?_|refine adr_y fun Y Yh=>?_);simp [go_sem])|intro _|apply And.intro|(apply Yh;clear Yh Y)));all_goals first|apply Hold.mk|omega|with_reducible assumption|skip))
    ((try refine CallT.toA ?_); refine callT_f (.inl ⟨rfl,rfl⟩) ?_; intro args ha; simp [go_sem] at ha; subst ha; refine ⟨_, hT, ?_⟩; rintro _ rfl; refine ⟨rfl, ?_⟩; simp [go_sem]; ((repeat' (first|(refine ag_x ?_;simp [go_sem])|refine adr_nil ?_|((first|refine adr_qs fun Y Yh=>?_|refine adr_y fun Y Yh=>?_);simp [go_sem])|intro _|apply And.intro|(apply Yh;clear Yh Y)));all_goals first|apply Hold.mk|omega|with_reducible assumption|skip))
    ((try refine CallT.toA ?_); refine callT_f (.inl ⟨rfl,rfl⟩) ?_; intro args ha; simp [go_sem] at ha; subst ha; refine ⟨_, hSh, ?_⟩; rintro _ rfl; refine ⟨rfl, ?_⟩; simp [go_sem]; ((repeat' (first|(refine ag_x ?_;simp [go_sem])|refine adr_nil ?_|((first|refine adr_qs fun Y Yh=>?_|refine adr_y fun Y Yh=>?_);simp [go_sem])|intro _|apply And.intro|(apply Yh;clear Yh Y)));all_goals first|apply Hold.mk|omega|with_reducible assumption|skip))
    ((try refine CallT.toA ?_); refine callT_f (.inl ⟨rfl,rfl⟩) ?_; intro args ha; simp [go_sem] at ha; subst ha; refine ⟨_, hPd, ?_⟩; rintro _ rfl; refine ⟨rfl, ?_⟩; simp [go_sem]; ((repeat' (first|(refine ag_x ?_;simp [go_sem])|refine adr_nil ?_|((first|refine adr_qs fun Y Yh=>?_|refine adr_y fun Y Yh=>?_);simp [go_sem])|intro _|apply And.intro|(apply Yh;clear Yh Y)));all_goals first|apply Hold.mk|omega|with_reducible assumption|skip))
    (refine awp_ret ?_; simp [go_sem, eV])
   ·(refine awp_if fun T F hT hF => ?_; simp [go_sem, h115]; refine hF ?_; clear hT hF T F)
    (refine awp_sr fun Y Yh => ?_; simp [go_sem, b112]; ((repeat' (first|(refine ag_x ?_;simp [go_sem, b112])|intro _|apply And.intro|(apply Yh;clear Yh Y)));all_goals first|apply Hold.mk|omega|with_reducible assumption|skip))
    have h112 : ¬ sf.lt = 112 := by rw [hlt]; exact hp
    (refine awp_if fun T F hT hF => ?_; simp [go_sem, h112]; refine hF ?_; clear hT hF T F)
    (refine awp_sr fun Y Yh => ?_; simp [go_sem, b99]; ((repeat' (first|(refine ag_x ?_;simp [go_sem, b99])|intro _|apply And.intro|(apply Yh;clear Yh Y)));all_goals first|apply Hold.mk|omega|with_reducible assumption|skip))
    by_cases h99 : sf.lt = 99
    ·have e2 : putV sf oa = if oa.is then (if oa.tx = [] then none else some (paddedV sf (oa.tx.take 1))) else if oa.int < 0 ∨ 255 < oa.int then none else some (paddedV sf [UInt8.ofNat oa.int.toNat]) := by
      unfold putV; rw [if_neg h115, if_neg h112, if_pos h99]
     rw [e2] at eV
     (refine awp_if fun T F hT hF => ?_; simp [go_sem, h99]; refine hT ?_; clear hT hF T F)
     refine awp_seq_k fun K9 hK9 => ?_
     refine awp_block ?_
     cases his : oa.is with
     | true =>
      rw [his] at eV
      simp only [if_true] at eV
      cases htx : oa.tx with
      | nil =>
       rw [htx] at eV
       simp only [if_true] at eV
       (refine awp_sr fun Y Yh => ?_; simp [go_sem, his, htx]; ((repeat' (first|(refine ag_x ?_;simp [go_sem, his, htx])|intro _|apply And.intro|(apply Yh;clear Yh Y)));all_goals first|apply Hold.mk|omega|with_reducible assumption|skip))
       (refine awp_if fun T F hT hF => ?_; simp [go_sem]; refine hF ?_; clear hT hF T F)
       (refine awp_sr fun Y Yh => ?_; simp [go_sem, his, htx]; ((repeat' (first|(refine ag_x ?_;simp [go_sem, his, htx])|intro _|apply And.intro|(apply Yh;clear Yh Y)));all_goals first|apply Hold.mk|omega|with_reducible assumption|skip))
       (refine awp_if fun T F hT hF => ?_; simp [go_sem]; refine hT ?_; clear hT hF T F)
       (refine awp_sr fun Y Yh => ?_; simp [go_sem]; ((repeat' (first|(refine ag_x ?_;simp [go_sem])|intro _|apply And.intro|(apply Yh;clear Yh Y)));all_goals first|apply Hold.mk|omega|with_reducible assumption|skip))
       (refine awp_ret ?_; simp [go_sem, eV])
      | cons c0 r0 =>
       rw [htx] at eV
       simp only [reduceCtorEq, if_false, List.take_succ_cons, List.take_zero] at eV
       have hPd := padded_spec sf [c0] (by omega) (by simp)
       have hcut : ({ data := (c0 :: r0).toArray } : ByteArray).extract 0 1 = { data := [c0].toArray } := by rw [ba_cut]; rfl
       (refine awp_sr fun Y Yh => ?_; simp [go_sem, his, htx]; ((repeat' (first|(refine ag_x ?_;simp [go_sem, his, htx])|intro _|apply And.intro|(apply Yh;clear Yh Y)));all_goals first|apply Hold.mk|omega|with_reducible assumption|skip))
       (refine awp_if fun T F hT hF => ?_; simp [go_sem]; refine hT ?_; clear hT hF T F)
       ((refine awp_dr (.qs [1, 0, 2, 3] (.one 4 (.qs [5, 6] (.nil)))) (by kernel_rfl) ?_ ?_ ?_ ?_); (kernel_rfl); (exact (by decide +kernel)); (kernel_rfl); intro Y Yh; ((repeat' (first|(refine ag_x ?_;simp [go_sem, htx, ba_size, hcut])|refine adr_nil ?_|((first|refine adr_qs fun Y Yh=>?_|refine adr_y fun Y Yh=>?_);simp [go_sem, htx, ba_size, hcut])|intro _|apply And.intro|(apply Yh;clear Yh Y)));all_goals first|apply Hold.mk|omega|with_reducible assumption|skip))
       ((try refine CallT.toA ?_); refine callT_f (.inl ⟨rfl,rfl⟩) ?_; intro args ha; simp [go_sem] at ha; subst ha; refine ⟨_, hPd, ?_⟩; rintro _ rfl; refine ⟨rfl, ?_⟩; simp [go_sem]; ((repeat' (first|(refine ag_x ?_;simp [go_sem])|refine adr_nil ?_|((first|refine adr_qs fun Y Yh=>?_|refine adr_y fun Y Yh=>?_);simp [go_sem])|intro _|apply And.intro|(apply Yh;clear Yh Y)));all_goals first|apply Hold.mk|omega|with_reducible assumption|skip))
       (refine awp_ret ?_; simp [go_sem, eV])
     | false =>
      rw [his] at eV
      simp only [Bool.false_eq_true, if_false] at eV
      by_cases hr : oa.int < 0 ∨ 255 < oa.int
      ·rw [if_pos hr] at eV
       have hb : (decide (oa.int < 0) || decide (255 < oa.int)) = true := by simpa using hr
       (refine awp_sr fun Y Yh => ?_; simp [go_sem, his]; ((repeat' (first|(refine ag_x ?_;simp [go_sem, his])|intro _|apply And.intro|(apply Yh;clear Yh Y)));all_goals first|apply Hold.mk|omega|with_reducible assumption|skip))
       (refine awp_if fun T F hT hF => ?_; simp [go_sem]; refine hF ?_; clear hT hF T F)
       (refine awp_sr fun Y Yh => ?_; simp [go_sem, his]; ((repeat' (first|(refine ag_x ?_;simp [go_sem, his])|intro _|apply And.intro|(apply Yh;clear Yh Y)));all_goals first|apply Hold.mk|omega|with_reducible assumption|skip))
       (refine awp_if fun T F hT hF => ?_; simp [go_sem, hb]; refine hT ?_; clear hT hF T F)
       (refine awp_sr fun Y Yh => ?_; simp [go_sem]; ((repeat' (first|(refine ag_x ?_;simp [go_sem])|intro _|apply And.intro|(apply Yh;clear Yh Y)));all_goals first|apply Hold.mk|omega|with_reducible assumption|skip))
       (refine awp_ret ?_; simp [go_sem, eV])
      ·rw [if_neg hr] at eV
       have hb : (decide (oa.int < 0) || decide (255 < oa.int)) = false := by rw [Bool.eq_false_iff]; intro q; exact hr (by simpa using q)
       have hwr : IntKind.u8.wrap oa.int = oa.int := by rw [IntKind.wrap_u8]; omega
       have hbd : bytesD [[D.v (.int .u8 oa.int)]] = some [UInt8.ofNat oa.int.toNat] := by
        have e : ((UInt8.ofNat oa.int.toNat).toNat : Int) = oa.int := by simp; omega
        have := bytesD_map [UInt8.ofNat oa.int.toNat]
        simp only [List.map_cons, List.map_nil, e] at this
        exact this
       have hPd := padded_spec sf [UInt8.ofNat oa.int.toNat] (by omega) (by simp)
       (refine awp_sr fun Y Yh => ?_; simp [go_sem, his]; ((repeat' (first|(refine ag_x ?_;simp [go_sem, his])|intro _|apply And.intro|(apply Yh;clear Yh Y)));all_goals first|apply Hold.mk|omega|with_reducible assumption|skip))
       (refine awp_if fun T F hT hF => ?_; simp [go_sem]; refine hF ?_; clear hT hF T F)
       (refine awp_sr fun Y Yh => ?_; simp [go_sem, his]; ((repeat' (first|(refine ag_x ?_;simp [go_sem, his])|intro _|apply And.intro|(apply Yh;clear Yh Y)));all_goals first|apply Hold.mk|omega|with_reducible assumption|skip))
       (refine awp_if fun T F hT hF => ?_; simp [go_sem, hb]; refine hF ?_; clear hT hF T F)
       refine awp_skip ?_
       refine hK9 _ ?_; clear hK9
       (refine awp_sr fun Y Yh => ?_; simp [go_sem, hwr, hbd]; ((repeat' (first|(refine ag_x ?_;simp [go_sem, hwr, hbd])|intro _|apply And.intro|(apply Yh;clear Yh Y)));all_goals first|apply Hold.mk|omega|with_reducible assumption|skip))
       ((try refine CallT.toA ?_); refine callT_f (.inl ⟨rfl,rfl⟩) ?_; intro args ha; simp [go_sem] at ha; subst ha; refine ⟨_, hPd, ?_⟩; rintro _ rfl; refine ⟨rfl, ?_⟩; simp [go_sem]; ((repeat' (first|(refine ag_x ?_;simp [go_sem])|intro _|apply And.intro|(apply Yh;clear Yh Y)));all_goals first|apply Hold.mk|omega|with_reducible assumption|skip))
       (refine awp_ret ?_; simp [go_sem, eV])
    ·have hNL : NL sf.lt := by
      have h := hl
      rw [← hlt] at h
      simp only [lets, List.mem_cons, List.not_mem_nil, or_false] at h
      unfold NL
      rcases h with h | h | h | h | h | h | h | h
      ·exact .inl h
      ·exact .inr (.inl h)
      ·exact .inr (.inr (.inl h))
      ·exact .inr (.inr (.inr (.inl h)))
      ·exact .inr (.inr (.inr (.inr h)))
      ·exact absurd h h115
      ·exact absurd h h99
      ·exact absurd h h112
     have e2 : putV sf oa = (numA oa).map (numV sf) := by unfold putV; rw [if_neg h115, if_neg h112, if_neg h99]
     rw [e2] at eV
     have hNs := number_spec oa hoa.1 hoa.2
     unfold numQ at hNs
     (refine awp_if fun T F hT hF => ?_; simp [go_sem, h99]; refine hF ?_; clear hT hF T F)
     refine awp_skip ?_
     refine hK5 _ ?_; clear hK5
     cases hna : numA oa with
     | none =>
      rw [hna] at eV hNs
      simp only [Option.map_none] at eV
      (refine awp_sr fun Y Yh => ?_; simp [go_sem]; ((repeat' (first|(refine ag_x ?_;simp [go_sem])|intro _|apply And.intro|(apply Yh;clear Yh Y)));all_goals first|apply Hold.mk|omega|with_reducible assumption|skip))
      ((try refine CallT.toA ?_); refine callT_f (.inl ⟨rfl,rfl⟩) ?_; intro args ha; simp [go_sem] at ha; subst ha; refine ⟨_, hNs, ?_⟩; rintro _ rfl; refine ⟨rfl, ?_⟩; simp [go_sem]; ((repeat' (first|(refine ag_x ?_;simp [go_sem])|intro _|apply And.intro|(apply Yh;clear Yh Y)));all_goals first|apply Hold.mk|omega|with_reducible assumption|skip))
      refine awp_seq_k fun K12 hK12 => ?_
      (refine awp_sr fun Y Yh => ?_; simp [go_sem]; ((repeat' (first|(refine ag_x ?_;simp [go_sem])|intro _|apply And.intro|(apply Yh;clear Yh Y)));all_goals first|apply Hold.mk|omega|with_reducible assumption|skip))
      (refine awp_if fun T F hT hF => ?_; simp [go_sem]; refine hT ?_; clear hT hF T F)
      (refine awp_sr fun Y Yh => ?_; simp [go_sem]; ((repeat' (first|(refine ag_x ?_;simp [go_sem])|intro _|apply And.intro|(apply Yh;clear Yh Y)));all_goals first|apply Hold.mk|omega|with_reducible assumption|skip))
      (refine awp_ret ?_; simp [go_sem, eV])
     | some n =>
      rw [hna] at eV hNs
      simp only [Option.map_some] at eV
      have hNu := num_spec sf n (numA_in hoa hna) hNL hw (by omega)
      (refine awp_sr fun Y Yh => ?_; simp [go_sem]; ((repeat' (first|(refine ag_x ?_;simp [go_sem])|intro _|apply And.intro|(apply Yh;clear Yh Y)));all_goals first|apply Hold.mk|omega|with_reducible assumption|skip))
      ((try refine CallT.toA ?_); refine callT_f (.inl ⟨rfl,rfl⟩) ?_; intro args ha; simp [go_sem] at ha; subst ha; refine ⟨_, hNs, ?_⟩; rintro _ rfl; refine ⟨rfl, ?_⟩; simp [go_sem]; ((repeat' (first|(refine ag_x ?_;simp [go_sem])|intro _|apply And.intro|(apply Yh;clear Yh Y)));all_goals first|apply Hold.mk|omega|with_reducible assumption|skip))
      refine awp_seq_k fun K12 hK12 => ?_
      (refine awp_sr fun Y Yh => ?_; simp [go_sem]; ((repeat' (first|(refine ag_x ?_;simp [go_sem])|intro _|apply And.intro|(apply Yh;clear Yh Y)));all_goals first|apply Hold.mk|omega|with_reducible assumption|skip))
      (refine awp_if fun T F hT hF => ?_; simp [go_sem]; refine hF ?_; clear hT hF T F)
      refine awp_skip ?_
      refine hK12 _ ?_; clear hK12
      (refine awp_sr fun Y Yh => ?_; simp [go_sem]; ((repeat' (first|(refine ag_x ?_;simp [go_sem])|intro _|apply And.intro|(apply Yh;clear Yh Y)));all_goals first|apply Hold.mk|omega|with_reducible assumption|skip))
      ((try refine CallT.toA ?_); refine callT_f (.inl ⟨rfl,rfl⟩) ?_; intro args ha; simp [go_sem] at ha; subst ha; refine ⟨_, hNu, ?_⟩; rintro _ rfl; refine ⟨rfl, ?_⟩; simp [go_sem]; ((repeat' (first|(refine ag_x ?_;simp [go_sem])|intro _|apply And.intro|(apply Yh;clear Yh Y)));all_goals first|apply Hold.mk|omega|with_reducible assumption|skip))
      (refine awp_ret ?_; simp [go_sem, eV])
  ·rw [if_pos (by simpa using hoe)] at eV
   (refine awp_sr fun Y Yh => ?_; simp [go_sem]; ((repeat' (first|(refine ag_x ?_;simp [go_sem])|intro _|apply And.intro|(apply Yh;clear Yh Y)));all_goals first|apply Hold.mk|omega|with_reducible assumption|skip))
   (refine awp_if fun T F hT hF => ?_; simp [go_sem, hoe]; refine hT ?_; clear hT hF T F)
   (refine awp_sr fun Y Yh => ?_; simp [go_sem]; ((repeat' (first|(refine ag_x ?_;simp [go_sem])|intro _|apply And.intro|(apply Yh;clear Yh Y)));all_goals first|apply Hold.mk|omega|with_reducible assumption|skip))
   (refine awp_ret ?_; simp [go_sem, eV])
 ·rw [if_pos (by simpa using he)] at eV
  (refine awp_sr fun Y Yh => ?_; simp [go_sem]; ((repeat' (first|(refine ag_x ?_;simp [go_sem])|intro _|apply And.intro|(apply Yh;clear Yh Y)));all_goals first|apply Hold.mk|omega|with_reducible assumption|skip))
  refine awp_renbox 3 900003 rfl rfl (by decide) fun gf => ?_
  simp only [go_sem]
  refine awp_seq_k fun K1 hK1 => ?_
  (refine awp_sr fun Y Yh => ?_; simp [go_sem]; ((repeat' (first|(refine ag_x ?_;simp [go_sem])|intro _|apply And.intro|(apply Yh;clear Yh Y)));all_goals first|apply Hold.mk|omega|with_reducible assumption|skip))
  (refine callA_l [900004, 900003] (.inl ⟨rfl,rfl⟩) (by simp [go_sem]) ?_; intro args ha; simp [go_sem] at ha; subst ha; refine ⟨_, _, (hS gf), (by simp [go_sem]), ?_⟩; rintro ps r hps ⟨rfl, rfl⟩; simp [go_sem]; ((repeat' (first|(refine ag_x ?_;simp [go_sem])|intro _|apply And.intro|(apply Yh;clear Yh Y)));all_goals first|apply Hold.mk|omega|with_reducible assumption|skip))
  (refine awp_sr fun Y Yh => ?_; simp [go_sem]; ((repeat' (first|(refine ag_x ?_;simp [go_sem])|intro _|apply And.intro|(apply Yh;clear Yh Y)));all_goals first|apply Hold.mk|omega|with_reducible assumption|skip))
  (refine awp_if fun T F hT hF => ?_; simp [go_sem, he]; refine hT ?_; clear hT hF T F)
  (refine awp_sr fun Y Yh => ?_; simp [go_sem]; ((repeat' (first|(refine ag_x ?_;simp [go_sem])|intro _|apply And.intro|(apply Yh;clear Yh Y)));all_goals first|apply Hold.mk|omega|with_reducible assumption|skip))
  (refine awp_ret ?_; simp [go_sem, eV])
end Go.Proofs.YtelhdhofnohkcaaGreatDoor
namespace Go.Proofs.YtelhdhofnohkcaaGreatDoor
open Go.Eng Go.Fm
set_option maxRecDepth 20000
def FrOk (f : Fld) : Prop := FdOk f ∧ (f.lt = 0 ∨ f.lt ∈ lets) ∧ f.tx.length ≤ 2000
theorem fdT_ok {t : Bs} (h : t.length ≤ 2000) : FrOk (fdT t) := ⟨⟨.inr (by simp [fdT]), .inr (by simp [fdT])⟩, .inl rfl, h⟩
theorem digitsV_ok {m : Int} (hm : -1 ≤ m ∧ m ≤ 1000) {s : Bs} (h : (digitsV m s).2.1 = true) : (digitsV m s).1 = -2 ∨ (-1 ≤ (digitsV m s).1 ∧ (digitsV m s).1 ≤ 1000) := by
 unfold digitsV at h ⊢
 by_cases h42 : pk s = 42
 ·rw [if_pos h42]; exact .inl rfl
 ·rw [if_neg h42] at h ⊢
  simp only at h ⊢
  by_cases ha : (digR 0 false s).2.1 = true
  ·rw [if_pos ha] at h ⊢
   simp only [decide_eq_true_eq] at h
   exact .inr ⟨by simp only; omega, by simp only; omega⟩
  ·rw [if_neg ha]; exact .inr hm
theorem fieldV_ok {s r : Bs} {f : Fld} (h : fieldV s = some (f, r)) : FrOk f := by
 unfold fieldV at h
 split at h
 ·cases h
 ·rename_i nm s1 hn
  simp only at h
  have ht : (flagR { fd0 with nm := nm } s1).1.tx = [] := by rw [flag_same]; rfl
  generalize flagR { fd0 with nm := nm } s1 = q at *
  have h3 := @digitsV_ok (-1) (by decide) q.2
  generalize digitsV (-1) q.2 = w at *
  have h4 : (precV w.2.2).2.1 = true → (precV w.2.2).1 = -2 ∨ (-1 ≤ (precV w.2.2).1 ∧ (precV w.2.2).1 ≤ 1000) := by
   unfold precV
   split
   ·exact digitsV_ok (by decide)
   ·intro _; exact .inr ⟨by simp only; omega, by simp only; omega⟩
  generalize precV w.2.2 = p at *
  split at h
  ·cases h
  ·split at h
   ·cases h
   ·rename_i hw hp
    split at h
    ·rename_i hc
     cases h
     refine ⟨⟨h3 (by simpa using hw), h4 (by simpa using hp)⟩, .inr hc.2.1, ?_⟩
     simp only [ht]; simp
    ·cases h
theorem readF_ok : ∀ (k : Nat) (s : Bs) (out : List Fld) (a b : Bool) (L : List Fld), (∀ f ∈ out, FrOk f) → s.length ≤ 2000 → readF k s out a b = some L → ∀ f ∈ L, FrOk f := by
 intro k
 induction k with
 | zero => intro s out a b L _ _ h; simp [readF] at h
 | succ k ih =>
  intro s out a b L ho hs h
  have snoc : ∀ g, FrOk g → ∀ f ∈ out ++ [g], FrOk f := fun g hg f hf => by
   rcases List.mem_append.1 hf with hf | hf
   ·exact ho f hf
   ·rw [List.mem_singleton.1 hf]; exact hg
  rw [readF] at h
  split at h
  ·split at h
   ·cases h
   ·cases h; exact ho
  ·simp only at h
   split at h
   ·split at h
    ·cases h
    ·cases h; exact snoc _ (fdT_ok hs)
   ·split at h
    ·exact ih _ _ _ _ _ (snoc _ (fdT_ok (by rw [List.length_take]; omega))) (by rw [List.length_drop]; omega) h
    ·split at h
     ·exact ih _ _ _ _ _ (snoc _ (fdT_ok (by simp))) (by rw [List.length_drop]; omega) h
     ·split at h
      ·cases h
      ·rename_i f r hf
       have := fieldV_len hf
       exact ih _ _ _ _ _ (snoc _ (fieldV_ok hf)) (by rw [List.length_tail] at this; omega) h
theorem readV_ok {s : Bs} {L : List Fld} (h : readV s = some L) : ∀ f ∈ L, FrOk f := by
 unfold readV at h
 split at h
 ·cases h
 ·exact readF_ok _ s [] _ _ L (by simp) (by omega) h
theorem padded_len {f : Fld} (hw : f.wd ≤ 1000) (s : Bs) : (paddedV f s).length ≤ s.length + 1000 := by
 unfold paddedV
 split
 ·omega
 ·split <;> rw [List.length_append, rep_len] <;> omega
theorem quo_len (s : Bs) : (quoV s).length ≤ 2 * s.length + 2 := by
 have : (s.flatMap quoC).length ≤ 2 * s.length := by
  induction s with
  | nil => simp
  | cons c r ih =>
   rw [List.flatMap_cons, List.length_append, List.length_cons]
   have : (quoC c).length ≤ 2 := by unfold quoC; (repeat' split) <;> simp
   omega
 unfold quoV
 rw [List.length_append, List.length_cons]
 simp only [List.length_cons, List.length_nil]
 omega
theorem num_len {f : Fld} {n : Int} (hn : InR n) (hw : f.wd ≤ 1000) (hp : f.pr ≤ 1000) : (numV f n).length ≤ 100000 := by
 have hd : (digsV f n).length ≤ 1100 := by
  have hl := txt_len (b := baseV f.lt) (by unfold baseV; (repeat' split) <;> omega) (n := n.natAbs) (by simp only [InR] at hn; omega)
  unfold digsV
  simp only
  have h1 : (if f.lt = 88 then (txtB (baseV f.lt) n.natAbs).map upC else txtB (baseV f.lt) n.natAbs).length ≤ 64 := by split <;> simpa using hl
  generalize (if f.lt = 88 then (txtB (baseV f.lt) n.natAbs).map upC else txtB (baseV f.lt) n.natAbs) = d at *
  have h2 : (if f.pr = 0 ∧ n = 0 then [] else d).length ≤ 64 := by
   split
   ·simp
   ·exact h1
  generalize (if f.pr = 0 ∧ n = 0 then [] else d) = d2 at *
  split
  ·rw [List.length_append, rep_len]; omega
  ·omega
 have hs : (signV f n).length ≤ 1 := by
  unfold signV
  (repeat' split) <;> simp
 have hpl : (if f.ha ∧ n ≠ 0 ∧ f.lt ≠ 100 then preV f.lt (digsV f n) else []).length ≤ 2 := by
  unfold preV
  (repeat' split) <;> simp
 unfold numV
 simp only
 generalize digsV f n = d at *
 generalize (if f.ha ∧ n ≠ 0 ∧ f.lt ≠ 100 then preV f.lt d else []) = q at *
 generalize signV f n = sg at *
 refine Nat.le_trans (padded_len hw _) ?_
 have hfr : (sg ++ q).length ≤ 3 := by rw [List.length_append]; omega
 generalize sg ++ q = fr at *
 rw [List.length_append]
 split
 ·rw [List.length_append, rep_len]; omega
 ·omega
theorem fill_len {args : List Ag} {u : Nat} {f : Fld} (hA : AgsOk args) (hf : FrOk f) : (fillV args u f).1.length ≤ 3000000 := by
 unfold fillV
 split
 ·have := hf.2.2; simp only; omega
 ·simp only
  split
  ·simp
  ·rename_i hs
   split
   ·simp
   ·have hso := stars_ok (args := args) (u := u) hf.1 (by simpa using hs)
    have hoa := ofA_ok hA (starsV args u f).2.1 f.nm
    generalize (starsV args u f).2.2 = sf at *
    generalize (ofA args (starsV args u f).2.1 f.nm).1 = oa at *
    obtain ⟨⟨hw, hp⟩, _, _⟩ := hso
    have htl := text_len hoa
    cases hq : putV sf oa with
    | none => simp
    | some t =>
     simp only
     unfold putV at hq
     split at hq
     ·cases hq
      have h1 := padded_len hw.2 (shortV sf (textV oa))
      have h2 := short_len sf (textV oa)
      omega
     ·split at hq
      ·cases hq
       have h1 := padded_len hw.2 (shortV sf (quoV (textV oa)))
       have h2 := short_len sf (quoV (textV oa))
       have h3 := quo_len (textV oa)
       omega
      ·split at hq
       ·split at hq
        ·split at hq
         ·cases hq
         ·cases hq
          have h1 := padded_len hw.2 (oa.tx.take 1)
          have h2 : (oa.tx.take 1).length ≤ 1 := by rw [List.length_take]; omega
          omega
        ·split at hq
         ·cases hq
         ·cases hq
          have h1 := padded_len hw.2 [UInt8.ofNat oa.int.toNat]
          simp at h1
          omega
       ·cases hna : numA oa with
        | none => rw [hna] at hq; cases hq
        | some n =>
         rw [hna] at hq
         cases hq
         have := num_len (f := sf) (numA_in hoa hna) hw.2 hp.2
         omega
theorem fill_le {args : List Ag} {u : Nat} (h : u ≤ args.length) (f : Fld) : (fillV args u f).2.2 ≤ args.length := by
 have h1 := stars_le h f
 have h2 := ofA_le h1 f.nm
 unfold fillV
 split
 ·exact h
 ·simp only
  split
  ·exact h1
  ·split
   ·exact h2
   ·cases putV (starsV args u f).2.2 (ofA args (starsV args u f).2.1 f.nm).1 <;> exact h2
end Go.Proofs.YtelhdhofnohkcaaGreatDoor
namespace Go.Proofs.YtelhdhofnohkcaaGreatDoor
open Go.RowKit
theorem bX : Builder.Extra Tryz.prog Tryz.lays169_ren := Tryz.Builder_Extra_169
set_option maxHeartbeats 1000000 in
set_option maxRecDepth 100000 in
theorem cc_used (b : Nat) (w : World) (h0 : w.cell? ⟨b, 0, none⟩ = some (.pointer (some ⟨b, 0, none⟩))) :
  Calls Tryz.prog 58 #[.pointer (some ⟨b, 0, none⟩)] w fun e w' => e = .returned (.tuple #[]) ∧ w' = w := by
 obtain ⟨j, hj, _⟩ := Option.map_eq_some_iff.1 bX.sizeBuilder
 go_enter Tryz.func58, Tryz.ntmps58
 go_wp2
 rw [Lib.run_neq_ptr_same w _ Tryz.underlying67 hj]
 go_wp2
 go_end0
 exact ⟨rfl, rfl⟩
set_option maxHeartbeats 1000000 in
set_option maxRecDepth 100000 in
theorem cc_fresh (b : Nat) (w : World) (h0 : w.cell? ⟨b, 0, none⟩ = some (.pointer none)) (hsh : w.shape? b = some (70, 2)) (hfz : w.frozen? ⟨b, 0, none⟩ = false) :
  Calls Tryz.prog 58 #[.pointer (some ⟨b, 0, none⟩)] w fun e w' => e = .returned (.tuple #[]) ∧ w' = w.setCell ⟨b, 0, none⟩ (.pointer (some ⟨b, 0, none⟩)) := by
 obtain ⟨j, hj, hjs⟩ := Option.map_eq_some_iff.1 bX.sizeBuilder
 go_enter Tryz.func58, Tryz.ntmps58
 go_wp2
 rw [Lib.run_to_unsafe w ⟨b, 0, none⟩ Tryz.underlying67 Tryz.underlying151 hj (by rw [hjs]; decide) hsh (Nat.zero_lt_succ 1)]
 simp only [Result.andThen]
 rw [Oper.upon_value]
 go_wp2
 rw [run_callFunc_extern Tryz.func91 (by kernel_rfl) (by kernel_rfl) (by kernel_rfl) (e := Extern.AbiNoEscape.same) (by kernel_rfl)]
 rw [Lib.run_noEscape]
 simp only [Result.andThen]
 rw [Oper.upon_value]
 go_wp2
 rw [Lib.run_from_unsafe w ⟨b, 0, none⟩ Tryz.underlying151 Tryz.underlying67 hj hsh bX.liesBuilder]
 simp only [Result.andThen]
 rw [Oper.upon_value]
 go_wp2
 go_end0
 exact ⟨rfl, rfl⟩
section
variable {P : Program} {w : World}
theorem app_exact (t u e : TypeId) (i : TypeInfo) (ht : P.underlying t = some (.slice e)) (hu : P.underlying u = some .string) (hi : P.info? e = some i) (hz : i.zero = some (.int .u8 0))
  (hsize : i.size = 1) (hby : i.bytes = 1) (v : Value) (n : Nat) (xs : List Value) (hown : w.ownsRowF 0 e 1 v n xs) (s : ByteArray) (h63 : n + s.size ≤ maxLen) (hbytes : n + s.size ≤ 140737488355328) :
  ∃ v' w', (∀ ty, (Builtin.append_ #[t, u] ty #[v, .string s]).run P w = .ok v' w') ∧ w'.ownsRowF 0 e 1 v' (n + s.size) (xs ++ Lib.strCells s) ∧ w.grownBy w' v.ownBlock ∧
   (v'.ownBlock = v.ownBlock ∨ ∀ k, v'.ownBlock = some k → w.heap.size ≤ k) := by
 obtain ⟨v', w', h1, h2, h3, _⟩ := Lib.run_append_own_stringF (P := P) w 0 t u t e i ht hu hi hz hsize hby v n xs hown s h63 hbytes (Nat.zero_le _)
 refine ⟨v', w', fun _ => h1, h2, h3, ?_⟩
 have hsmall : n + s.size ≤ 9223372036854775807 := by simp only [maxLen] at h63; omega
 rcases hown.2 with ⟨rfl, rfl⟩ | ⟨g, cap, cur, fz, rfl, hbg, hg, hfz, hnc, hcm, hcs, htake⟩
 ·obtain ⟨v2, w2, q1, q2, _, _⟩ := Lib.run_append_own_string (P := P) w w.heap.size t u t e i ht hu hi hz hsize hby (.slice none 0 0) 0 xs ⟨hown.1, .inl ⟨rfl, rfl⟩⟩ s h63 hbytes (Nat.le_refl _)
  rw [h1] at q1
  injection q1 with q1 q1'
  subst q1 q1'
  refine .inr fun k hk => ?_
  rcases q2.2 with ⟨hv, _⟩ | ⟨g, cap, cur, hv, hb, _⟩
  ·rw [hv] at hk; cases hk
  ·rw [hv] at hk
   simp only [Value.ownBlock, Option.some.injEq] at hk
   omega
 ·have hxl : xs.length = n := by simpa using hown.1
  by_cases hroom : n + s.size ≤ cap
  ·have hr := Lib.run_append_room_stringF (P := P) w t u t e i ht hu hi hsize g n cap cur fz hg (by simpa using hfz) s hroom (by omega)
   rw [h1] at hr
   injection hr with q1 q1'
   subst q1
   exact .inl rfl
  ·have holds : ∀ j u, xs[j]? = some u → w.cell? ((⟨g, 0, none⟩ : Addr).add j) = some u := hown.cells (g := g) rfl
   have hr := Lib.run_append_grow_string (P := P) w t u t e i (.int .u8 0) ht hu hi hz ⟨g, 0, none⟩ n cap xs (by rw [hsize]; simpa using hxl) holds s (by omega) (by omega) (by rw [hby]; exact growslice_fits (by omega) (by omega))
   rw [h1] at hr
   injection hr with q1 q1'
   subst q1
   refine .inr fun k hk => ?_
   simp [Value.ownBlock] at hk
   omega
theorem wpList_app {ops : Array Oper} {rest : List Oper} {o : Oper} {a : Act} {Q : Exit → Act → World → Prop} (hgd : o.guard = none) (sl x : Operand) (t u : TypeId)
  (ho : o.op = .call { callee := .builtin .append, args := #[sl, x], argTypes := #[t, u] }) (v : Value) (hs : a.eval sl = v) (s : ByteArray) (hx : a.eval x = .string s)
  {v' : Value} {w' : World} (hr : ∀ ty, (Builtin.append_ #[t, u] ty #[v, .string s]).run P w = .ok v' w') (h : wpList P ops Q rest (a.put o.dst v') w') : wpList P ops Q (o :: rest) a w := by
 refine wpList_plain hgd fun K hK => ?_
 unfold Oper.wp execOp
 simp only [ho, resolve, invoke, builtin, Sem.run_bind, Sem.run_pure, Result.andThen_ok, List.map_toArray, List.map_cons, List.map_nil, hs, hx, hr]
 exact hK _ _ h
end
set_option maxHeartbeats 2000000 in
set_option maxRecDepth 100000 in
theorem ws_calls (b : Nat) (p v : Value) (l : List UInt8) (s : ByteArray) (w : World) (hb : w.heap[b]? = some (.cells #[p, v] 70 (0, 0))) (hp : p = .pointer none ∨ p = .pointer (some ⟨b, 0, none⟩))
  (hown : w.ownsRowF 0 5 1 v l.length (Lib.byteCells l)) (hne : v.ownBlock ≠ some b) (hlen : l.length + s.size ≤ 140737488355328) :
  Calls Tryz.prog 37 #[.pointer (some ⟨b, 0, none⟩), .string s] w fun e w' => e = .returned (.tuple #[.int .i64 s.size, .nilIface]) ∧
   ∃ v', w'.heap[b]? = some (.cells #[.pointer (some ⟨b, 0, none⟩), v'] 70 (0, 0)) ∧ w'.ownsRowF 0 5 1 v' (l.length + s.size) (Lib.byteCells l ++ Lib.strCells s) ∧
    (v'.ownBlock = v.ownBlock ∨ ∀ k, v'.ownBlock = some k → w.heap.size ≤ k) ∧ v'.ownBlock ≠ some b ∧
    w'.os = w.os ∧ w'.tape = w.tape ∧ w'.output = w.output ∧ w.heap.size ≤ w'.heap.size ∧ ∀ k, k < w.heap.size → k ≠ b → v.ownBlock ≠ some k → w'.heap[k]? = w.heap[k]? := by
 obtain ⟨i0, hi, hz0, hz1, hz2⟩ := info_parts bX.infoByte
 have hlt : b < w.heap.size := by
  rcases Nat.lt_or_ge b w.heap.size with h' | h'
  ·exact h'
  ·simp [Array.getElem?_eq_none h'] at hb
 have hcc : Calls Tryz.prog 58 #[.pointer (some ⟨b, 0, none⟩)] w fun e w' => e = .returned (.tuple #[]) ∧ w'.heap[b]? = some (.cells #[.pointer (some ⟨b, 0, none⟩), v] 70 (0, 0)) ∧ w'.os = w.os ∧ w'.tape = w.tape ∧ w'.output = w.output ∧ w'.heap.size = w.heap.size ∧
   ∀ k, k ≠ b → w'.heap[k]? = w.heap[k]? := by
  rcases hp with rfl | rfl
  ·refine (cc_fresh b w (by rw [Lib.cell_of_heap hb]; rfl) (by simp [World.shape?, hb]) (Lib.frozen_of_heap hb 0)).mono ?_
   rintro e w' ⟨rfl, rfl⟩
   exact ⟨rfl, heap_setCell_same _ _ _ _ _ _ hb, rfl, rfl, rfl, by simp, fun k hk => heap_setCell_other _ _ _ _ hk⟩
  ·refine (cc_used b w (by rw [Lib.cell_of_heap hb]; rfl)).mono ?_
   rintro e w' ⟨rfl, rfl⟩
   exact ⟨rfl, hb, rfl, rfl, rfl, rfl, fun _ _ => rfl⟩
 go_enter Tryz.func37, Tryz.ntmps37
 go_wp2_with (go_at_call 58; refine hcc.mono ?_)
 rintro e w1 ⟨rfl, hbk, ho1, ho2, ho3, hs1, hk1⟩
 have hown1 : w1.ownsRowF 0 5 1 v l.length (Lib.byteCells l) :=
  hown.kept (row := some b) ⟨ho1, ho2, ho3, by omega, fun k _ hk => hk1 k (fun e => hk (by simp [e]))⟩ (Or.inr hne)
 have c0 : w1.cell? ⟨b, 0, none⟩ = some (.pointer (some ⟨b, 0, none⟩)) := by rw [Lib.cell_of_heap hbk]; rfl
 have c1 : w1.cell? ⟨b, 1, none⟩ = some v := by rw [Lib.cell_of_heap hbk]; rfl
 obtain ⟨v', w2, hrun, hown', hgrow, hat⟩ := app_exact (P := Tryz.prog) (w := w1) 68 9 5 i0 Tryz.underlying68 Tryz.underlying9 hi hz0 hz1 hz2 v l.length _ hown1 s (by unfold maxLen; omega) hlen
 have hlt1 : b < w1.heap.size := by omega
 have hb2 : w2.heap[b]? = some (.cells #[.pointer (some ⟨b, 0, none⟩), v] 70 (0, 0)) := by
  rw [hgrow.block b hlt1 (fun e => hne e.symm)]
  exact hbk
 have d0 : w2.cell? ⟨b, 0, none⟩ = some (.pointer (some ⟨b, 0, none⟩)) := by rw [Lib.cell_of_heap hb2]; rfl
 have d1 : w2.cell? ⟨b, 1, none⟩ = some v := by rw [Lib.cell_of_heap hb2]; rfl
 have f1 : w2.frozen? ⟨b, 1, none⟩ = false := Lib.frozen_of_heap hb2 1
 have hne' : v'.ownBlock ≠ some b := by
  rcases hat with h | h
  ·rw [h]; exact hne
  ·intro e; have := h b e; omega
 obtain ⟨ao, n', cap, rfl⟩ : ∃ ao n' cap, v' = .slice ao n' cap := by
  rcases hown'.2 with ⟨hv, _⟩ | ⟨g, cap, cur, fz, hv, _⟩
  ·exact ⟨_, _, _, hv⟩
  ·exact ⟨_, _, _, hv⟩
 go_wp2_with (at_builtin; refine wpList_app rfl _ _ 68 9 rfl _ rfl s rfl hrun ?_)
 go_ret2
 refine ⟨rfl, _, heap_setCell_same _ _ _ _ _ _ hb2, ?_, ?_, hne', hgrow.os.trans ho1, hgrow.tape.trans ho2, hgrow.output.trans ho3, ?_, ?_⟩
 ·exact hown'.kept (row := some b) ⟨rfl, rfl, rfl, by simp, fun k _ hk => heap_setCell_other _ _ _ _ (fun e => hk (by simp [e]))⟩ (Or.inr hne')
 ·rcases hat with h | h
  ·exact .inl h
  ·exact .inr fun k hk => by have := h k hk; omega
 ·have := hgrow.size; simp; omega
 ·intro k hk hkb hkv
  rw [heap_setCell_other _ _ _ _ hkb, hgrow.block k (by omega) (fun e => hkv e.symm), hk1 k hkb]
theorem freeze_other (w : World) (ad : Addr) (m k : Nat) (h : k ≠ ad.block) : (w.freeze ad m).heap[k]? = w.heap[k]? := by
 unfold World.freeze
 by_cases hm : m = 0
 ·simp [hm]
 ·rw [if_neg hm]
  simp only [Array.getElem?_modify]
  rw [if_neg (fun e => h e.symm)]
theorem freeze_rest (w : World) (ad : Addr) (m : Nat) : (w.freeze ad m).heap.size = w.heap.size ∧ (w.freeze ad m).os = w.os ∧ (w.freeze ad m).tape = w.tape ∧ (w.freeze ad m).output = w.output := by
 unfold World.freeze
 by_cases hm : m = 0
 ·simp [hm]
 ·rw [if_neg hm]
  exact ⟨by simp, rfl, rfl, rfl⟩
set_option maxHeartbeats 2000000 in
set_option maxRecDepth 100000 in
theorem str_calls (b : Nat) (p v : Value) (l : List UInt8) (w : World) (hbk : w.heap[b]? = some (.cells #[p, v] 70 (0, 0))) (hown : w.ownsRowF 0 5 1 v l.length (Lib.byteCells l)) (hne : v.ownBlock ≠ some b) (h0 : l ≠ []) :
  Calls Tryz.prog 39 #[.pointer (some ⟨b, 0, none⟩)] w fun e w' => e = .returned (.string ⟨l.toArray⟩) ∧ w'.heap[b]? = some (.cells #[p, v] 70 (0, 0)) ∧ w'.ownsRowF 0 5 1 v l.length (Lib.byteCells l) ∧
   w'.os = w.os ∧ w'.tape = w.tape ∧ w'.output = w.output ∧ w.heap.size ≤ w'.heap.size ∧ ∀ k, k ≠ b → v.ownBlock ≠ some k → w'.heap[k]? = w.heap[k]? := by
 have hl0 : l.length ≠ 0 := by simpa using h0
 obtain ⟨g, cap, cur, fz, rfl, hbg, hg, hfz, hnc, hcm, hcs, htake⟩ : ∃ g cap cur fz, v = .slice (some ⟨g, 0, none⟩) l.length cap ∧ 0 ≤ g ∧ w.heap[g]? = some (.cells cur 5 fz) ∧ fz.2 ≤ l.length * 1 ∧ l.length ≤ cap ∧ cap ≤ maxLen ∧ cur.size = cap * 1 ∧ cur.toList.take (l.length * 1) = Lib.byteCells l := by
  rcases hown.2 with ⟨_, hz⟩ | ⟨g, cap, cur, fz, hv, r⟩
  ·exact absurd hz hl0
  ·exact ⟨g, cap, cur, fz, hv, r⟩
 have hgb : g ≠ b := fun e => hne (by simp [Value.ownBlock, e])
 have c1 : w.drew.cell? ⟨b, 1, none⟩ = some (.slice (some ⟨g, 0, none⟩) l.length cap) := by
  have : w.drew.heap[b]? = some (.cells #[p, .slice (some ⟨g, 0, none⟩) l.length cap] 70 (0, 0)) := hbk
  rw [Lib.cell_of_heap this]; rfl
 have hSD : (Builtin.unsafeSliceData_ #[68] 115 #[.slice (some ⟨g, 0, none⟩) l.length cap]).run Tryz.prog w.drew = .ok (.pointer (some ⟨g, 0, none⟩)) w.drew :=
  Lib.run_unsafeSliceData_row _ _ _ _ _ _ (by omega)
 have hUS : (Builtin.unsafeString_ #[115, 3] 9 #[.pointer (some ⟨g, 0, none⟩), .int .i64 l.length]).run Tryz.prog w.drew = .ok (.string ⟨l.toArray⟩) (w.drew.freeze ⟨g, 0, none⟩ l.length) := by
  refine Lib.run_unsafeString_row w.drew 115 3 9 5 Tryz.underlying115 bX.cellsByte g cur.size (by have hg' : w.drew.heap[g]? = some (.cells cur 5 fz) := hg; simp [World.shape?, hg']) l h0 (by omega) (by unfold maxLen at hcm; omega) ?_
  intro j x hx
  have := hown.cells (g := g) rfl j (.int .u8 x.toNat) (by simp [Lib.byteCells, hx])
  exact this
 have hA : Lib.BuilderAtF 70 5 0 b p (Lib.byteCells l) w.drew := ⟨Nat.zero_le _, _, hbk, by rw [Lib.byteCells_length]; exact hown, hne⟩
 have hF := hA.froze (g := g) (cap := cap) (by rw [Lib.byteCells_length]; exact c1)
 rw [Lib.byteCells_length] at hF
 obtain ⟨_, v', hb', hown', _⟩ := hF
 rw [Lib.byteCells_length] at hown'
 have hb2 : (w.drew.freeze ⟨g, 0, none⟩ l.length).heap[b]? = some (.cells #[p, .slice (some ⟨g, 0, none⟩) l.length cap] 70 (0, 0)) := (freeze_other _ _ _ _ (fun e => hgb e.symm)).trans hbk
 have hv : v' = .slice (some ⟨g, 0, none⟩) l.length cap := by
  rw [hb2] at hb'
  simp at hb'
  exact hb'.symm
 subst hv
 obtain ⟨f1, f2, f3, f4⟩ := freeze_rest w.drew ⟨g, 0, none⟩ l.length
 have hend : ∀ k, k ≠ b → (Value.slice (some ⟨g, 0, none⟩) l.length cap).ownBlock ≠ some k → (w.drew.freeze ⟨g, 0, none⟩ l.length).heap[k]? = w.heap[k]? :=
  fun k _ hk => freeze_other _ _ _ _ (fun e => hk (by simp [Value.ownBlock, e]))
 have mixed := Tryz.lays169.mixed
 go_enter Tryz.func39, Tryz.ntmps39
 go_wp2
 go_region_o
 all_goals (go_wp2; go_ret; exact ⟨rfl, hb2, hown', f2, f3, f4, Nat.le_of_eq f1.symm, hend⟩)
end Go.Proofs.YtelhdhofnohkcaaGreatDoor
namespace Go.Proofs.YtelhdhofnohkcaaGreatDoor
open Go.Eng Go.Fm
set_option maxRecDepth 20000
theorem strCells_eq (s : List UInt8) : Lib.strCells ⟨s.toArray⟩ = Lib.byteCells s := by
 simp [Lib.strCells, Lib.byteCells]
theorem ws_spec (nb nr gb gr : Nat) (l s : List UInt8) (h1 : 900000 ≤ nb) (h2 : 900000 ≤ nr) (hd : nb ≠ nr) (hlen : l.length + s.length ≤ 140737488355328) :
  ACall Tryz.prog 37 [.ptr nb gb 0, dS s] [(nb, (gb, .bld 70 nr gr)), (nr, (gr, .brow 5 l))] [nb, nr] fun ps r => ∃ gr', ps = [(gb, .bld 70 nr gr'), (gr', .brow 5 (l ++ s))] ∧ r = .tup [dI s.length, .v .nilIface] := by
 refine acall_bld (xs := [.string ⟨s.toArray⟩]) (x := .tuple #[.int .i64 s.length, .nilIface]) ⟨_, Tryz.func37, rfl, rfl⟩ h1 h2 hd (fun C w => ?_) fun b p v w _ hb hp hown hne => ?_
 ·refine .tup _ _ rfl fun j c u hc hu => ?_
  match j, hc, hu with
  | 0, hc, hu => simp at hc hu; subst hc hu; exact .v _
  | 1, hc, hu => simp at hc hu; subst hc hu; exact .v _
  | j + 2, hc, hu => simp at hc
 ·refine (ws_calls b p v l ⟨s.toArray⟩ w hb hp hown hne (by simpa [ByteArray.size] using hlen)).mono ?_
  rintro e w' ⟨he, v', q1, q2, q3, q4, q5, q6, q7, q8, q9⟩
  refine ⟨by simpa [ByteArray.size] using he, _, v', q1, .inr rfl, ?_, q3, q4, q5, q6, q7, q8, q9⟩
  rw [strCells_eq] at q2
  simpa [ByteArray.size, Lib.byteCells] using q2
theorem str_spec (nb nr gb gr : Nat) (l : List UInt8) (h1 : 900000 ≤ nb) (h2 : 900000 ≤ nr) (hd : nb ≠ nr) (h0 : l ≠ []) :
  ACall Tryz.prog 39 [.ptr nb gb 0] [(nb, (gb, .bld 70 nr gr)), (nr, (gr, .brow 5 l))] [nb, nr] fun ps r => ∃ gr', ps = [(gb, .bld 70 nr gr'), (gr', .brow 5 l)] ∧ r = dS l := by
 refine acall_bld (xs := []) (x := .string ⟨l.toArray⟩) ⟨_, Tryz.func39, rfl, rfl⟩ h1 h2 hd (fun C w => .v _) fun b p v w _ hb hp hown hne => ?_
 refine (str_calls b p v l w hb hown hne h0).mono ?_
 rintro e w' ⟨he, q1, q2, q3, q4, q5, q6, q7⟩
 exact ⟨he, p, v, q1, hp, q2, .inl rfl, hne, q3, q4, q5, q6, fun k _ => q7 k⟩
end Go.Proofs.YtelhdhofnohkcaaGreatDoor
namespace Go.Proofs.YtelhdhofnohkcaaGreatDoor
open Go.Eng Go.Fm Go.RowKit
set_option maxRecDepth 20000
theorem us_none (p : Option Addr) (w : World) : (Builtin.unsafeString_ #[115, 3] 9 #[.pointer p, .int .i64 0]).run Tryz.prog w = .ok (.string ⟨#[]⟩) w := Lib.run_unsafeString_none (P := Tryz.prog) w 115 3 9 p
set_option maxHeartbeats 4000000 in
set_option maxRecDepth 100000 in
theorem str0_calls (b : Nat) (p v : Value) (w : World) (hbk : w.heap[b]? = some (.cells #[p, v] 70 (0, 0))) (hown : w.ownsRowF 0 5 1 v 0 (Lib.byteCells [])) (hne : v.ownBlock ≠ some b) :
  Calls Tryz.prog 39 #[.pointer (some ⟨b, 0, none⟩)] w fun e w' => e = .returned (.string ⟨#[]⟩) ∧ w'.heap[b]? = some (.cells #[p, v] 70 (0, 0)) ∧ w'.ownsRowF 0 5 1 v 0 (Lib.byteCells []) ∧
   w'.os = w.os ∧ w'.tape = w.tape ∧ w'.output = w.output ∧ w.heap.size ≤ w'.heap.size ∧ ∀ k, k < w.heap.size → w'.heap[k]? = w.heap[k]? := by
 have hlt : b < w.heap.size := by
  rcases Nat.lt_or_ge b w.heap.size with h' | h'
  ·exact h'
  ·simp [Array.getElem?_eq_none h'] at hbk
 have hUS := us_none
 have mixed := Tryz.lays169.mixed
 rcases hown.2 with ⟨rfl, _⟩ | ⟨g, cap, cur, fz, rfl, hbg, hg, hfz, hnc, hcm, hcs, htake⟩
 ·have c1 : w.drew.cell? ⟨b, 1, none⟩ = some (.slice none 0 0) := by
   have : w.drew.heap[b]? = some (.cells #[p, .slice none 0 0] 70 (0, 0)) := hbk
   rw [Lib.cell_of_heap this]; rfl
  have hSD : (Builtin.unsafeSliceData_ #[68] 115 #[.slice none 0 0]).run Tryz.prog w.drew = .ok (.pointer none) w.drew := rfl
  go_enter Tryz.func39, Tryz.ntmps39
  go_wp2
  go_region_o
  all_goals (go_wp2; go_ret; exact ⟨rfl, hbk, hown, rfl, rfl, rfl, Nat.le_refl _, fun _ _ => rfl⟩)
 ·by_cases hc0 : cap = 0
  ·subst hc0
   have c1 : w.drew.cell? ⟨b, 1, none⟩ = some (.slice (some ⟨g, 0, none⟩) 0 0) := by
    have : w.drew.heap[b]? = some (.cells #[p, .slice (some ⟨g, 0, none⟩) 0 0] 70 (0, 0)) := hbk
    rw [Lib.cell_of_heap this]; rfl
   have hSD : (Builtin.unsafeSliceData_ #[68] 115 #[.slice (some ⟨g, 0, none⟩) 0 0]).run Tryz.prog w.drew = .ok (.pointer (some ⟨w.drew.heap.size, 0, none⟩)) (w.drew.alloc (.view ⟨g, 0, none⟩ 5)) :=
    Lib.run_unsafeSliceData_zero w.drew _ _ 5 Tryz.underlying115 ⟨g, 0, none⟩ 0 (5, cur.size) (by have hg' : w.drew.heap[g]? = some (.cells cur 5 fz) := hg; simp [World.shape?, hg'])
   have c2 : (w.drew.alloc (.view ⟨g, 0, none⟩ 5)).cell? ⟨b, 1, none⟩ = some (.slice (some ⟨g, 0, none⟩) 0 0) := by
    have : (w.drew.alloc (.view ⟨g, 0, none⟩ 5)).heap[b]? = _ := (Lib.alloc_old w.drew _ b hlt).trans hbk
    rw [Lib.cell_of_heap this]; rfl
   have c3 : (w.alloc (.view ⟨g, 0, none⟩ 5)).drew.cell? ⟨b, 1, none⟩ = some (.slice (some ⟨g, 0, none⟩) 0 0) := c2
   have c0 : w.cell? ⟨b, 1, none⟩ = some (.slice (some ⟨g, 0, none⟩) 0 0) := c1
   have hrest : ∀ k, k < w.heap.size → (w.drew.alloc (.view ⟨g, 0, none⟩ 5)).heap[k]? = w.heap[k]? := fun k hk => Lib.alloc_old w.drew _ k hk
   have hglt : g < w.heap.size := by
    rcases Nat.lt_or_ge g w.heap.size with h' | h'
    ·exact h'
    ·simp [Array.getElem?_eq_none h'] at hg
   have hown' : (w.drew.alloc (.view ⟨g, 0, none⟩ 5)).ownsRowF 0 5 1 (.slice (some ⟨g, 0, none⟩) 0 0) 0 (Lib.byteCells []) := ⟨hown.1, .inr ⟨g, 0, cur, fz, rfl, hbg, (hrest g hglt).trans hg, hfz, hnc, hcm, hcs, htake⟩⟩
   go_enter Tryz.func39, Tryz.ntmps39
   go_wp2
   go_region_o
   all_goals (go_wp2; go_ret; exact ⟨rfl, (hrest b hlt).trans hbk, hown', rfl, rfl, rfl, (Same.alloc w.drew _).1, hrest⟩)
  ·have c1 : w.drew.cell? ⟨b, 1, none⟩ = some (.slice (some ⟨g, 0, none⟩) 0 cap) := by
    have : w.drew.heap[b]? = some (.cells #[p, .slice (some ⟨g, 0, none⟩) 0 cap] 70 (0, 0)) := hbk
    rw [Lib.cell_of_heap this]; rfl
   have hSD : (Builtin.unsafeSliceData_ #[68] 115 #[.slice (some ⟨g, 0, none⟩) 0 cap]).run Tryz.prog w.drew = .ok (.pointer (some ⟨g, 0, none⟩)) w.drew :=
    Lib.run_unsafeSliceData_row _ _ _ _ _ _ hc0
   clear hc0
   go_enter Tryz.func39, Tryz.ntmps39
   go_wp2
   go_region_o
   all_goals (go_wp2; go_ret; exact ⟨rfl, hbk, hown, rfl, rfl, rfl, Nat.le_refl _, fun _ _ => rfl⟩)
theorem strA_spec (nb nr gb gr : Nat) (l : List UInt8) (h1 : 900000 ≤ nb) (h2 : 900000 ≤ nr) (hd : nb ≠ nr) :
  ACall Tryz.prog 39 [.ptr nb gb 0] [(nb, (gb, .bld 70 nr gr)), (nr, (gr, .brow 5 l))] [nb, nr] fun ps r => ∃ gr', ps = [(gb, .bld 70 nr gr'), (gr', .brow 5 l)] ∧ r = dS l := by
 cases l with
 | cons x l => exact str_spec nb nr gb gr (x :: l) h1 h2 hd (by simp)
 | nil =>
  refine acall_bld (xs := []) (x := .string ⟨#[]⟩) ⟨_, Tryz.func39, rfl, rfl⟩ h1 h2 hd (fun C w => .v _) fun b p v w _ hb hp hown hne => ?_
  refine (str0_calls b p v w hb hown hne).mono ?_
  rintro e w' ⟨he, q1, q2, q3, q4, q5, q6, q7⟩
  refine ⟨he, p, v, q1, hp, q2, .inl rfl, hne, q3, q4, q5, q6, fun k hk _ _ => q7 k hk⟩
theorem len_spec (nb nr gb gr : Nat) (l : List UInt8) (h1 : 900000 ≤ nb) (h2 : 900000 ≤ nr) (hd : nb ≠ nr) :
  ACall Tryz.prog 50 [.ptr nb gb 0] [(nb, (gb, .bld 70 nr gr)), (nr, (gr, .brow 5 l))] [nb, nr] fun ps r => ∃ gr', ps = [(gb, .bld 70 nr gr'), (gr', .brow 5 l)] ∧ r = dI l.length := by
 refine acall_bld (xs := []) (x := .int .i64 l.length) ⟨_, Tryz.func50, rfl, rfl⟩ h1 h2 hd (fun C w => .v _) fun b p v w _ hb hp hown hne => ?_
 have hA : Lib.BuilderAtF 70 5 0 b p (Lib.byteCells l) w := ⟨Nat.zero_le _, _, hb, by rw [Lib.byteCells_length]; exact hown, hne⟩
 have hI : Lib.IsBuilderF 70 5 0 b (Lib.byteCells l) w := by
  rcases hp with rfl | rfl
  ·exact .inl hA
  ·exact .inr hA
 refine (Tryz.Builder_Len_f 0 b (Lib.byteCells l) w hI).mono ?_
 rintro e w' ⟨he, rfl⟩
 exact ⟨by rw [he, Lib.byteCells_length], p, v, hb, hp, hown, .inl rfl, hne, rfl, rfl, rfl, Nat.le_refl _, fun _ _ _ _ => rfl⟩
end Go.Proofs.YtelhdhofnohkcaaGreatDoor
