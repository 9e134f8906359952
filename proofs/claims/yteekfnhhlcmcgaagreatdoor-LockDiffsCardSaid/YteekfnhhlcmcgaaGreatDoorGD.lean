/- Part of a proof: see the last text. -/
import Derived.Test.YteekfnhhlcmcgaaGreatDoorGC
import Derived.Test.YteekfnhhlcmcgaaGreatDoorGB
import Derived.Lib.ItoaLen
set_option linter.unusedVariables false
set_option linter.unusedSimpArgs false
namespace Go.Proofs.YteekfnhhlcmcgaaGreatDoor
open Go.Eng Go.Wh Go.Ver Go.RowKit Go.Lk
set_option maxRecDepth 20000
attribute [local irreducible] AG CallA CallT AWp PCall ACall AgC
set_option maxHeartbeats 4000000 in
theorem back_spec (l : List Prs) (hl : l.length ≤ 1000000) : PCall Tryz.prog 43 [dPs l] fun r => r = dPs l := by 
 refine pcall_of Tryz.func43 rfl rfl Tryz.ntmps43 (rs := [.tmp 2]) (tys := [38]) rfl rfl (by simp) ?_
 (refine awp_sr fun Y Yh => ?_; simp [go_sem]; ((repeat' (first|(refine ag_x ?_;simp [go_sem])|intro _|apply And.intro|(apply Yh;clear Yh Y)));all_goals first|apply Hold.mk|omega|assumption|skip))
 (refine awp_sr fun Y Yh => ?_; simp [go_sem]; ((repeat' (first|(refine ag_x ?_;simp [go_sem])|intro _|apply And.intro|(apply Yh;clear Yh Y)));all_goals first|apply Hold.mk|omega|assumption|skip))
 refine awp_nilslot 3 3 114 2 rfl fun g3 => ?_
 simp only [go_sem]
 refine awp_seq_k fun K1 hK1 => ?_
 (refine awp_sr fun Y Yh => ?_; simp [go_sem]; ((repeat' (first|(refine ag_x ?_;simp [go_sem])|intro _|apply And.intro|(apply Yh;clear Yh Y)));all_goals first|apply Hold.mk|omega|assumption|skip))
 refine awp_block ?_
 refine awp_loop (σ := Nat × Nat) (fun x => ⟨[(0, dPs l), (3, .own 3 x.2), (4, dI x.1)], [(3, x.2, .row 114 2 ((l.take x.1).map cP))]⟩) (fun x => x.1 ≤ l.length) (fun x => l.length - x.1) (0, g3) ?_ ?_ ?_
 ·(refine cov_of ?_ ?_ <;> simp [go_sem])
 ·simp
 rintro ⟨i, g⟩ hi
 simp only at hi
 refine awp_seq_k fun K2 hK2 => ?_
 (refine awp_sr fun Y Yh => ?_; simp [go_sem]; ((repeat' (first|(refine ag_x ?_;simp [go_sem])|intro _|apply And.intro|(apply Yh;clear Yh Y)));all_goals first|apply Hold.mk|omega|assumption|skip))
 (refine awp_if fun T F hT hF => ?_; simp [go_sem]; refine BR.intro (fun h3 => hT ?_) (fun h3 => hF ?_); all_goals clear hT hF T F; try simp at h3) 
 ·refine awp_skip ?_
  refine hK2 _ ?_; clear hK2
  obtain ⟨x, hx⟩ : ∃ x, l[i]? = some x := ⟨_, List.getElem?_eq_getElem (by omega)⟩
  have htk : l.take (i + 1) = l.take i ++ [x] := by rw [List.take_add_one, hx]; rfl
  refine awp_seq_k fun K4 hK4 => ?_
  refine awp_block ?_
  ((refine awp_d (.qs [0, 1, 2, 3, 4, 6, 7, 8, 9, 5, 10, 11] (.one 12 (.one 13 (.qs [14] (.nil))))) (by kernel_rfl) ?_ ?_ ?_ ?_); (kernel_rfl); (exact (by decide +kernel)); (kernel_rfl); intro Y Yh; ((repeat' (first|(refine ag_x ?_;simp [go_sem, hx])|refine adr_nil ?_|((first|refine adr_qs fun Y Yh=>?_|refine adr_y fun Y Yh=>?_);simp [go_sem, hx])|intro _|apply And.intro|(apply Yh;clear Yh Y)));all_goals first|apply Hold.mk|omega|assumption|skip))
  refine hK4 _ ?_; clear hK4
  rename_i g' _
  refine awp_renrow 3 3 rfl rfl (by decide) fun g'' => ?_
  simp only [go_sem]
  (refine awp_r fun Y Yh => ?_; simp [go_sem]; ((repeat' (first|(refine ag_x ?_;simp [go_sem])|intro _|apply And.intro|(apply Yh;clear Yh Y)));all_goals first|apply Hold.mk|omega|assumption|skip))
  refine ⟨(i + 1, g''), ?_, by simp only; omega, by simp only; omega⟩
  simp only [htk]
  (refine cov_of ?_ ?_ <;> simp [go_sem])
 ·refine awp_exit ?_
  simp only [go_sem]
  refine hK1 _ ?_; clear hK1
  have : i = l.length := by omega
  subst this
  (refine awp_sr fun Y Yh => ?_; simp [go_sem]; ((repeat' (first|(refine ag_x ?_;simp [go_sem])|intro _|apply And.intro|(apply Yh;clear Yh Y)));all_goals first|apply Hold.mk|omega|assumption|skip))
  refine awp_frzrow 2 rfl rfl ?_
  simp only [go_sem]
  have htl : List.take l.length (l.map cP) = l.map cP := by
   conv => lhs; rw [← List.length_map (f := cP)]
   exact List.take_length
  (refine awp_ret ?_; simp [go_sem, htl])
set_option maxHeartbeats 8000000 in
theorem of_spec (L : Lck) (hL : LkOk L) : PCall Tryz.prog 21 [dLk L] fun r => r = dLk L := by 
 refine pcall_of Tryz.func21 rfl rfl Tryz.ntmps21 (rs := [.cell 2 53]) (tys := [53]) rfl rfl (by simp) ?_
 obtain ⟨P, N, W⟩ := L
 obtain ⟨hP, hN, hW, hP1, hN1, hW1⟩ := hL
 simp only at hP hN hW hP1 hN1 hW1
 have NW := back_spec W hW
 (refine awp_sr fun Y Yh => ?_; simp [go_sem]; ((repeat' (first|(refine ag_x ?_;simp [go_sem])|intro _|apply And.intro|(apply Yh;clear Yh Y)));all_goals first|apply Hold.mk|omega|assumption|skip))
 (refine awp_sr fun Y Yh => ?_; simp [go_sem]; ((repeat' (first|(refine ag_x ?_;simp [go_sem])|intro _|apply And.intro|(apply Yh;clear Yh Y)));all_goals first|apply Hold.mk|omega|assumption|skip))
 rename_i g1 g2 g3
 refine awp_nilbox 900003 41 2 0 (sb := 3) rfl rfl (by decide) fun gp0 => ?_
 refine awp_nilbox 900004 38 1 1 (sb := 3) rfl rfl (by decide) fun gn0 => ?_
 simp only [List.set, go_sem]
 refine awp_seq_k fun K1 hK1 => ?_
 (refine awp_sr fun Y Yh => ?_; simp [go_sem]; ((repeat' (first|(refine ag_x ?_;simp [go_sem])|intro _|apply And.intro|(apply Yh;clear Yh Y)));all_goals first|apply Hold.mk|omega|assumption|skip))
 refine awp_block ?_
 refine awp_loop (σ := Nat × Nat) (fun x => ⟨[(1, .ptr 1 g1 0), (2, .ptr 2 g2 0), (3, .ptr 3 g3 0), (4, dI x.1)], [(1, g1, .box [dPs P, dNs N, dPs W]), (2, g2, .box [.v (.slice none 0 0), .v (.slice none 0 0), .v (.slice none 0 0)]), (3, g3, .box [.own 900003 x.2, .own 900004 gn0, .v (.slice none 0 0)]), (900003, x.2, .row 41 2 ((P.take x.1).map cP)), (900004, gn0, .row 38 1 [])]⟩) (fun x => x.1 ≤ P.length) (fun x => P.length - x.1) (0, gp0) ?_ ?_ ?_
 ·(refine cov_of ?_ ?_ <;> simp [go_sem])
 ·simp
 rintro ⟨i, g⟩ hi
 simp only at hi
 refine awp_seq_k fun K2 hK2 => ?_
 (refine awp_sr fun Y Yh => ?_; simp [go_sem]; ((repeat' (first|(refine ag_x ?_;simp [go_sem])|intro _|apply And.intro|(apply Yh;clear Yh Y)));all_goals first|apply Hold.mk|omega|assumption|skip))
 (refine awp_if fun T F hT hF => ?_; simp [go_sem]; refine BR.intro (fun h3 => hT ?_) (fun h3 => hF ?_); all_goals clear hT hF T F; try simp at h3) 
 ·refine awp_skip ?_
  refine hK2 _ ?_; clear hK2
  obtain ⟨x, hx⟩ : ∃ x, P[i]? = some x := ⟨_, List.getElem?_eq_getElem (by omega)⟩
  have htk := map_take_snoc cP hx
  refine awp_seq_k fun K4 hK4 => ?_
  refine awp_block ?_
  ((refine awp_d (.qs [0, 2, 4, 8, 10, 1, 3, 5, 6, 7, 9, 11, 12, 13, 14] (.kp 15 (.one 16 (.qs [17] (.one 18 (.nil)))))) (by kernel_rfl) ?_ ?_ ?_ ?_); (kernel_rfl); (exact (by decide +kernel)); (kernel_rfl); intro Y Yh; ((repeat' (first|(refine ag_x ?_;simp [go_sem, hx])|refine adr_nil ?_|((first|refine adr_qs fun Y Yh=>?_|refine adr_y fun Y Yh=>?_);simp [go_sem, hx])|intro _|apply And.intro|(apply Yh;clear Yh Y)));all_goals first|apply Hold.mk|omega|assumption|skip))
  refine hK4 _ ?_; clear hK4
  (refine awp_r fun Y Yh => ?_; simp [go_sem]; ((repeat' (first|(refine ag_x ?_;simp [go_sem])|intro _|apply And.intro|(apply Yh;clear Yh Y)));all_goals first|apply Hold.mk|omega|assumption|skip))
  rename_i g' g''
  refine ⟨(i + 1, g''), ?_, by simp only; omega, by simp only; omega⟩
  simp only [htk]
  (refine cov_of ?_ ?_ <;> simp [go_sem])
 ·refine awp_exit ?_
  simp only [go_sem]
  refine hK1 _ ?_; clear hK1
  have : i = P.length := by omega
  subst this
  refine awp_seq_k fun K5 hK5 => ?_
  (refine awp_sr fun Y Yh => ?_; simp [go_sem]; ((repeat' (first|(refine ag_x ?_;simp [go_sem])|intro _|apply And.intro|(apply Yh;clear Yh Y)));all_goals first|apply Hold.mk|omega|assumption|skip))
  refine awp_block ?_
  refine awp_loop (σ := Nat × Nat) (fun x => ⟨[(1, .ptr 1 g1 0), (2, .ptr 2 g2 0), (3, .ptr 3 g3 0), (5, dI x.1)], [(1, g1, .box [dPs P, dNs N, dPs W]), (2, g2, .box [.v (.slice none 0 0), .v (.slice none 0 0), .v (.slice none 0 0)]), (3, g3, .box [.own 900003 g, .own 900004 x.2, .v (.slice none 0 0)]), (900003, g, .row 41 2 (P.map cP)), (900004, x.2, .row 38 1 ((N.take x.1).map fun n => [dPs n]))]⟩) (fun x => x.1 ≤ N.length) (fun x => N.length - x.1) (0, gn0) ?_ ?_ ?_
  ·(refine cov_of ?_ ?_ <;> simp [go_sem, take_map_len])
  ·simp
  rintro ⟨i, gn⟩ hi
  simp only at hi
  refine awp_seq_k fun K6 hK6 => ?_
  (refine awp_sr fun Y Yh => ?_; simp [go_sem]; ((repeat' (first|(refine ag_x ?_;simp [go_sem])|intro _|apply And.intro|(apply Yh;clear Yh Y)));all_goals first|apply Hold.mk|omega|assumption|skip))
  (refine awp_if fun T F hT hF => ?_; simp [go_sem]; refine BR.intro (fun h7 => hT ?_) (fun h7 => hF ?_); all_goals clear hT hF T F; try simp at h7) 
  ·refine awp_skip ?_
   refine hK6 _ ?_; clear hK6
   obtain ⟨x, hx⟩ : ∃ x, N[i]? = some x := ⟨_, List.getElem?_eq_getElem (by omega)⟩
   have htk := map_take_snoc (fun n => [dPs n]) hx
   have NX := back_spec x (hN1 x (List.mem_of_getElem? hx)).1
   refine awp_seq_k fun K8 hK8 => ?_
   refine awp_block ?_
   ((refine awp_d (.qs [0, 2, 4, 1, 3, 5, 6] (.kp 7 (.kp 8 (.one 9 (.qs [10] (.one 11 (.nil))))))) (by kernel_rfl) ?_ ?_ ?_ ?_); (kernel_rfl); (exact (by decide +kernel)); (kernel_rfl); intro Y Yh; ((repeat' (first|(refine ag_x ?_;simp [go_sem, hx])|refine adr_nil ?_|((first|refine adr_qs fun Y Yh=>?_|refine adr_y fun Y Yh=>?_);simp [go_sem, hx])|intro _|apply And.intro|(apply Yh;clear Yh Y)));all_goals first|apply Hold.mk|omega|assumption|skip))
   ((try refine CallT.toA ?_); refine callT_m (.inl ⟨rfl,rfl⟩) (by simp [go_sem]) ?_; intro args ha; simp [go_sem] at ha; subst ha; refine ⟨_, NX, ?_⟩; rintro _ rfl; simp [go_sem]; ((repeat' (first|(refine ag_x ?_;simp [go_sem])|refine adr_nil ?_|((first|refine adr_qs fun Y Yh=>?_|refine adr_y fun Y Yh=>?_);simp [go_sem])|intro _|apply And.intro|(apply Yh;clear Yh Y)));all_goals first|apply Hold.mk|omega|assumption|skip))
   refine hK8 _ ?_; clear hK8
   (refine awp_r fun Y Yh => ?_; simp [go_sem]; ((repeat' (first|(refine ag_x ?_;simp [go_sem])|intro _|apply And.intro|(apply Yh;clear Yh Y)));all_goals first|apply Hold.mk|omega|assumption|skip))
   rename_i g' g''
   refine ⟨(i + 1, g''), ?_, by simp only; omega, by simp only; omega⟩
   simp only [htk]
   (refine cov_of ?_ ?_ <;> simp [go_sem])
  ·refine awp_exit ?_
   simp only [go_sem]
   refine hK5 _ ?_; clear hK5
   have : i = N.length := by omega
   subst this
   (refine awp_sr fun Y Yh => ?_; simp [go_sem]; ((repeat' (first|(refine ag_x ?_;simp [go_sem])|intro _|apply And.intro|(apply Yh;clear Yh Y)));all_goals first|apply Hold.mk|omega|assumption|skip))
   ((try refine CallT.toA ?_); refine callT_m (.inl ⟨rfl,rfl⟩) (by simp [go_sem]) ?_; intro args ha; simp [go_sem] at ha; subst ha; refine ⟨_, NW, ?_⟩; rintro _ rfl; simp [go_sem]; ((repeat' (first|(refine ag_x ?_;simp [go_sem])|intro _|apply And.intro|(apply Yh;clear Yh Y)));all_goals first|apply Hold.mk|omega|assumption|skip))
   refine awp_frzin 900003 3 0 rfl rfl (by decide) rfl ?_
   simp only [go_sem, List.set]
   refine awp_frzin 900004 3 1 rfl rfl (by decide) rfl ?_
   simp only [go_sem, List.set]
   (refine awp_sr fun Y Yh => ?_; simp [go_sem]; ((repeat' (first|(refine ag_x ?_;simp [go_sem])|intro _|apply And.intro|(apply Yh;clear Yh Y)));all_goals first|apply Hold.mk|omega|assumption|skip))
   (refine awp_ret ?_; simp [go_sem, take_map_len])
set_option maxHeartbeats 4000000 in
theorem eqP_spec (a b : List Prs) (ha : a.length ≤ 1000000) (hb : b.length ≤ 1000000) : PCall Tryz.prog 64 [dPs a, dPs b] fun r => r = dB (decide (a = b)) := by 
 refine pcall_of Tryz.func64 rfl rfl Tryz.ntmps64 (rs := [.tmp 4]) (tys := [4]) rfl rfl (by simp) ?_
 (refine awp_sr fun Y Yh => ?_; simp [go_sem]; ((repeat' (first|(refine ag_x ?_;simp [go_sem])|intro _|apply And.intro|(apply Yh;clear Yh Y)));all_goals first|apply Hold.mk|omega|assumption|skip))
 refine awp_seq_k fun K1 hK1 => ?_
 (refine awp_sr fun Y Yh => ?_; simp [go_sem]; ((repeat' (first|(refine ag_x ?_;simp [go_sem])|intro _|apply And.intro|(apply Yh;clear Yh Y)));all_goals first|apply Hold.mk|omega|assumption|skip))
 (refine awp_if fun T F hT hF => ?_; simp [go_sem]; refine BR.intro (fun h2 => hT ?_) (fun h2 => hF ?_); all_goals clear hT hF T F; try simp at h2)
 ·(refine awp_sr fun Y Yh => ?_; simp [go_sem]; ((repeat' (first|(refine ag_x ?_;simp [go_sem])|intro _|apply And.intro|(apply Yh;clear Yh Y)));all_goals first|apply Hold.mk|omega|assumption|skip))
  have : ¬ a = b := fun q => h2 (by rw [q])
  (refine awp_ret ?_; simp [go_sem, h2, this])
 ·have hl : a.length = b.length := by omega
  refine awp_skip ?_
  refine hK1 _ ?_; clear hK1
  refine awp_seq_k fun K3 hK3 => ?_
  (refine awp_sr fun Y Yh => ?_; simp [go_sem]; ((repeat' (first|(refine ag_x ?_;simp [go_sem])|intro _|apply And.intro|(apply Yh;clear Yh Y)));all_goals first|apply Hold.mk|omega|assumption|skip))
  refine awp_block ?_
  refine awp_loop (σ := Nat) (fun i => ⟨[(0, dPs a), (1, dPs b), (12, dI a.length), (13, dI i)], []⟩) (fun i => i ≤ a.length ∧ a.take i = b.take i) (fun i => a.length - i) 0 ?_ ?_ ?_
  ·(refine cov_of ?_ ?_ <;> simp [go_sem])
  ·simp
  rintro i ⟨hi, ht⟩
  (refine awp_sr fun Y Yh => ?_; simp [go_sem]; ((repeat' (first|(refine ag_x ?_;simp [go_sem])|intro _|apply And.intro|(apply Yh;clear Yh Y)));all_goals first|apply Hold.mk|omega|assumption|skip))
  refine awp_seq_k fun K4 hK4 => ?_
  (refine awp_if fun T F hT hF => ?_; simp [go_sem]; refine BR.intro (fun h5 => hT ?_) (fun h5 => hF ?_); all_goals clear hT hF T F; try simp at h5)
  ·refine awp_skip ?_
   refine hK4 _ ?_; clear hK4
   obtain ⟨x, hx⟩ : ∃ x, a[i]? = some x := ⟨_, List.getElem?_eq_getElem (by omega)⟩
   obtain ⟨y, hy⟩ : ∃ y, b[i]? = some y := ⟨_, List.getElem?_eq_getElem (by omega)⟩
   have hs := take_eq_step hx hy ht
   have hn := take_ne hx hy
   refine awp_seq_k fun K6 hK6 => ?_
   refine awp_block ?_
   (refine awp_sr fun Y Yh => ?_; simp [go_sem]; ((repeat' (first|(refine ag_x ?_;simp [go_sem])|intro _|apply And.intro|(apply Yh;clear Yh Y)));all_goals first|apply Hold.mk|omega|assumption|skip))
   ((refine awp_dr (.qs [0, 1, 2, 4, 5, 6, 3, 7, 8] (.nil)) (by kernel_rfl) ?_ ?_ ?_ ?_); (kernel_rfl); (exact (by decide +kernel)); (kernel_rfl); intro Y Yh; ((repeat' (first|(refine ag_x ?_;simp [go_sem, hx, hy])|refine adr_nil ?_|((first|refine adr_qs fun Y Yh=>?_|refine adr_y fun Y Yh=>?_);simp [go_sem, hx, hy])|intro _|apply And.intro|(apply Yh;clear Yh Y)));all_goals first|apply Hold.mk|omega|assumption|skip))
   (refine awp_if fun T F hT hF => ?_; simp [go_sem]; refine BR.intro (fun h7 => hT ?_) (fun h7 => hF ?_); all_goals clear hT hF T F; try simp at h7)
   ·have hne : ¬ a = b := hn (fun q => by subst q; simp at h7)
    (refine awp_sr fun Y Yh => ?_; simp [go_sem]; ((repeat' (first|(refine ag_x ?_;simp [go_sem])|intro _|apply And.intro|(apply Yh;clear Yh Y)));all_goals first|apply Hold.mk|omega|assumption|skip))
    (refine awp_ret ?_; simp [go_sem, hne])
   ·refine awp_skip ?_
    refine hK6 _ ?_; clear hK6
    (refine awp_r fun Y Yh => ?_; simp [go_sem]; ((repeat' (first|(refine ag_x ?_;simp [go_sem])|intro _|apply And.intro|(apply Yh;clear Yh Y)));all_goals first|apply Hold.mk|omega|assumption|skip))
    refine ⟨i + 1, ?_, ⟨by omega, ?_⟩, by omega⟩
    ·(refine cov_of ?_ ?_ <;> simp [go_sem])
    ·exact hs.2 (Prod.ext h7.1 h7.2)
  ·refine awp_exit ?_
   simp only [go_sem]
   refine hK3 _ ?_; clear hK3
   have : i = a.length := by omega
   subst this
   have := take_all hl ht
   (refine awp_sr fun Y Yh => ?_; simp [go_sem]; ((repeat' (first|(refine ag_x ?_;simp [go_sem])|intro _|apply And.intro|(apply Yh;clear Yh Y)));all_goals first|apply Hold.mk|omega|assumption|skip))
   (refine awp_ret ?_; simp [go_sem, h2, h5, this])
set_option maxHeartbeats 4000000 in
theorem eqN_spec (a b : List Prs) (ha : a.length ≤ 1000000) (hb : b.length ≤ 1000000) : PCall Tryz.prog 65 [dPs a, dPs b] fun r => r = dB (decide (a = b)) := by 
 refine pcall_of Tryz.func65 rfl rfl Tryz.ntmps65 (rs := [.tmp 4]) (tys := [4]) rfl rfl (by simp) ?_
 (refine awp_sr fun Y Yh => ?_; simp [go_sem]; ((repeat' (first|(refine ag_x ?_;simp [go_sem])|intro _|apply And.intro|(apply Yh;clear Yh Y)));all_goals first|apply Hold.mk|omega|assumption|skip))
 refine awp_seq_k fun K1 hK1 => ?_
 (refine awp_sr fun Y Yh => ?_; simp [go_sem]; ((repeat' (first|(refine ag_x ?_;simp [go_sem])|intro _|apply And.intro|(apply Yh;clear Yh Y)));all_goals first|apply Hold.mk|omega|assumption|skip))
 (refine awp_if fun T F hT hF => ?_; simp [go_sem]; refine BR.intro (fun h2 => hT ?_) (fun h2 => hF ?_); all_goals clear hT hF T F; try simp at h2)
 ·(refine awp_sr fun Y Yh => ?_; simp [go_sem]; ((repeat' (first|(refine ag_x ?_;simp [go_sem])|intro _|apply And.intro|(apply Yh;clear Yh Y)));all_goals first|apply Hold.mk|omega|assumption|skip))
  have : ¬ a = b := fun q => h2 (by rw [q])
  (refine awp_ret ?_; simp [go_sem, h2, this])
 ·have hl : a.length = b.length := by omega
  refine awp_skip ?_
  refine hK1 _ ?_; clear hK1
  refine awp_seq_k fun K3 hK3 => ?_
  (refine awp_sr fun Y Yh => ?_; simp [go_sem]; ((repeat' (first|(refine ag_x ?_;simp [go_sem])|intro _|apply And.intro|(apply Yh;clear Yh Y)));all_goals first|apply Hold.mk|omega|assumption|skip))
  refine awp_block ?_
  refine awp_loop (σ := Nat) (fun i => ⟨[(0, dPs a), (1, dPs b), (12, dI a.length), (13, dI i)], []⟩) (fun i => i ≤ a.length ∧ a.take i = b.take i) (fun i => a.length - i) 0 ?_ ?_ ?_
  ·(refine cov_of ?_ ?_ <;> simp [go_sem])
  ·simp
  rintro i ⟨hi, ht⟩
  (refine awp_sr fun Y Yh => ?_; simp [go_sem]; ((repeat' (first|(refine ag_x ?_;simp [go_sem])|intro _|apply And.intro|(apply Yh;clear Yh Y)));all_goals first|apply Hold.mk|omega|assumption|skip))
  refine awp_seq_k fun K4 hK4 => ?_
  (refine awp_if fun T F hT hF => ?_; simp [go_sem]; refine BR.intro (fun h5 => hT ?_) (fun h5 => hF ?_); all_goals clear hT hF T F; try simp at h5)
  ·refine awp_skip ?_
   refine hK4 _ ?_; clear hK4
   obtain ⟨x, hx⟩ : ∃ x, a[i]? = some x := ⟨_, List.getElem?_eq_getElem (by omega)⟩
   obtain ⟨y, hy⟩ : ∃ y, b[i]? = some y := ⟨_, List.getElem?_eq_getElem (by omega)⟩
   have hs := take_eq_step hx hy ht
   have hn := take_ne hx hy
   refine awp_seq_k fun K6 hK6 => ?_
   refine awp_block ?_
   (refine awp_sr fun Y Yh => ?_; simp [go_sem]; ((repeat' (first|(refine ag_x ?_;simp [go_sem])|intro _|apply And.intro|(apply Yh;clear Yh Y)));all_goals first|apply Hold.mk|omega|assumption|skip))
   ((refine awp_dr (.qs [0, 1, 2, 4, 5, 6, 3, 7, 8] (.nil)) (by kernel_rfl) ?_ ?_ ?_ ?_); (kernel_rfl); (exact (by decide +kernel)); (kernel_rfl); intro Y Yh; ((repeat' (first|(refine ag_x ?_;simp [go_sem, hx, hy])|refine adr_nil ?_|((first|refine adr_qs fun Y Yh=>?_|refine adr_y fun Y Yh=>?_);simp [go_sem, hx, hy])|intro _|apply And.intro|(apply Yh;clear Yh Y)));all_goals first|apply Hold.mk|omega|assumption|skip))
   (refine awp_if fun T F hT hF => ?_; simp [go_sem]; refine BR.intro (fun h7 => hT ?_) (fun h7 => hF ?_); all_goals clear hT hF T F; try simp at h7)
   ·have hne : ¬ a = b := hn (fun q => by subst q; simp at h7)
    (refine awp_sr fun Y Yh => ?_; simp [go_sem]; ((repeat' (first|(refine ag_x ?_;simp [go_sem])|intro _|apply And.intro|(apply Yh;clear Yh Y)));all_goals first|apply Hold.mk|omega|assumption|skip))
    (refine awp_ret ?_; simp [go_sem, hne])
   ·refine awp_skip ?_
    refine hK6 _ ?_; clear hK6
    (refine awp_r fun Y Yh => ?_; simp [go_sem]; ((repeat' (first|(refine ag_x ?_;simp [go_sem])|intro _|apply And.intro|(apply Yh;clear Yh Y)));all_goals first|apply Hold.mk|omega|assumption|skip))
    refine ⟨i + 1, ?_, ⟨by omega, ?_⟩, by omega⟩
    ·(refine cov_of ?_ ?_ <;> simp [go_sem])
    ·exact hs.2 (Prod.ext h7.1 h7.2)
  ·refine awp_exit ?_
   simp only [go_sem]
   refine hK3 _ ?_; clear hK3
   have : i = a.length := by omega
   subst this
   have := take_all hl ht
   (refine awp_sr fun Y Yh => ?_; simp [go_sem]; ((repeat' (first|(refine ag_x ?_;simp [go_sem])|intro _|apply And.intro|(apply Yh;clear Yh Y)));all_goals first|apply Hold.mk|omega|assumption|skip))
   (refine awp_ret ?_; simp [go_sem, h2, h5, this])
theorem same1_spec (a b : List Prs) (ha : a.length ≤ 1000000) (hb : b.length ≤ 1000000) : PCall Tryz.prog 67 [dPs a, dPs b] fun r => r = dB (decide (a = b)) := by 
 refine pcall_of Tryz.func67 rfl rfl Tryz.ntmps67 (rs := [.tmp 4]) (tys := [4]) rfl rfl (by simp) ?_
 have E := eqN_spec a b ha hb
 (refine awp_sr fun Y Yh => ?_; simp [go_sem]; ((repeat' (first|(refine ag_x ?_;simp [go_sem])|intro _|apply And.intro|(apply Yh;clear Yh Y)));all_goals first|apply Hold.mk|omega|assumption|skip))
 (refine awp_sr fun Y Yh => ?_; simp [go_sem]; ((repeat' (first|(refine ag_x ?_;simp [go_sem])|intro _|apply And.intro|(apply Yh;clear Yh Y)));all_goals first|apply Hold.mk|omega|assumption|skip))
 ((try refine CallT.toA ?_); refine callT_m (.inl ⟨rfl,rfl⟩) (by simp [go_sem]) ?_; intro args ha; simp [go_sem] at ha; subst ha; refine ⟨_, E, ?_⟩; rintro _ rfl; simp [go_sem]; ((repeat' (first|(refine ag_x ?_;simp [go_sem])|intro _|apply And.intro|(apply Yh;clear Yh Y)));all_goals first|apply Hold.mk|omega|assumption|skip))
 (refine awp_ret ?_; simp [go_sem])
set_option maxHeartbeats 4000000 in
theorem eqF_spec (a b : List (List Prs)) (ha : a.length ≤ 1000000) (hb : b.length ≤ 1000000) (ha1 : ∀ r ∈ a, r.length ≤ 1000000) (hb1 : ∀ r ∈ b, r.length ≤ 1000000) : PCall Tryz.prog 66 [dNs a, dNs b, .v (.func (.func 67) #[] #[])] fun r => r = dB (decide (a = b)) := by 
 refine pcall_of Tryz.func66 rfl rfl Tryz.ntmps66 (rs := [.tmp 6]) (tys := [4]) rfl rfl (by simp) ?_
 (refine awp_sr fun Y Yh => ?_; simp [go_sem]; ((repeat' (first|(refine ag_x ?_;simp [go_sem])|intro _|apply And.intro|(apply Yh;clear Yh Y)));all_goals first|apply Hold.mk|omega|assumption|skip))
 refine awp_seq_k fun K1 hK1 => ?_
 (refine awp_sr fun Y Yh => ?_; simp [go_sem]; ((repeat' (first|(refine ag_x ?_;simp [go_sem])|intro _|apply And.intro|(apply Yh;clear Yh Y)));all_goals first|apply Hold.mk|omega|assumption|skip))
 (refine awp_if fun T F hT hF => ?_; simp [go_sem]; refine BR.intro (fun h2 => hT ?_) (fun h2 => hF ?_); all_goals clear hT hF T F; try simp at h2)
 ·(refine awp_sr fun Y Yh => ?_; simp [go_sem]; ((repeat' (first|(refine ag_x ?_;simp [go_sem])|intro _|apply And.intro|(apply Yh;clear Yh Y)));all_goals first|apply Hold.mk|omega|assumption|skip))
  have : ¬ a = b := fun q => h2 (by rw [q])
  (refine awp_ret ?_; simp [go_sem, h2, this])
 ·have hl : a.length = b.length := by omega
  refine awp_skip ?_
  refine hK1 _ ?_; clear hK1
  refine awp_seq_k fun K3 hK3 => ?_
  (refine awp_sr fun Y Yh => ?_; simp [go_sem]; ((repeat' (first|(refine ag_x ?_;simp [go_sem])|intro _|apply And.intro|(apply Yh;clear Yh Y)));all_goals first|apply Hold.mk|omega|assumption|skip))
  refine awp_block ?_
  refine awp_loop (σ := Nat) (fun i => ⟨[(1, dNs b), (2, .v (.func (.func 67) #[] #[])), (15, dNs a), (16, dI a.length), (17, dI i)], []⟩) (fun i => i ≤ a.length ∧ a.take i = b.take i) (fun i => a.length - i) 0 ?_ ?_ ?_
  ·(refine cov_of ?_ ?_ <;> simp [go_sem])
  ·simp
  rintro i ⟨hi, ht⟩
  (refine awp_sr fun Y Yh => ?_; simp [go_sem]; ((repeat' (first|(refine ag_x ?_;simp [go_sem])|intro _|apply And.intro|(apply Yh;clear Yh Y)));all_goals first|apply Hold.mk|omega|assumption|skip))
  refine awp_seq_k fun K4 hK4 => ?_
  (refine awp_if fun T F hT hF => ?_; simp [go_sem]; refine BR.intro (fun h5 => hT ?_) (fun h5 => hF ?_); all_goals clear hT hF T F; try simp at h5)
  ·refine awp_skip ?_
   refine hK4 _ ?_; clear hK4
   obtain ⟨x, hx⟩ : ∃ x, a[i]? = some x := ⟨_, List.getElem?_eq_getElem (by omega)⟩
   obtain ⟨y, hy⟩ : ∃ y, b[i]? = some y := ⟨_, List.getElem?_eq_getElem (by omega)⟩
   have hs := take_eq_step hx hy ht
   have hn := take_ne hx hy
   have S1 := same1_spec x y (ha1 x (List.mem_of_getElem? hx)) (hb1 y (List.mem_of_getElem? hy))
   refine awp_seq_k fun K6 hK6 => ?_
   refine awp_block ?_
   (refine awp_sr fun Y Yh => ?_; simp [go_sem, hx]; ((repeat' (first|(refine ag_x ?_;simp [go_sem, hx])|intro _|apply And.intro|(apply Yh;clear Yh Y)));all_goals first|apply Hold.mk|omega|assumption|skip))
   (refine awp_sr fun Y Yh => ?_; simp [go_sem, hy]; ((repeat' (first|(refine ag_x ?_;simp [go_sem, hy])|intro _|apply And.intro|(apply Yh;clear Yh Y)));all_goals first|apply Hold.mk|omega|assumption|skip))
   (refine awp_sr fun Y Yh => ?_; simp [go_sem]; ((repeat' (first|(refine ag_x ?_;simp [go_sem])|intro _|apply And.intro|(apply Yh;clear Yh Y)));all_goals first|apply Hold.mk|omega|assumption|skip))
   ((try refine CallT.toA ?_); refine callT_m (.inl ⟨rfl,rfl⟩) (by simp [go_sem]) ?_; intro args ha; simp [go_sem] at ha; subst ha; refine ⟨_, S1, ?_⟩; rintro _ rfl; simp [go_sem]; ((repeat' (first|(refine ag_x ?_;simp [go_sem])|intro _|apply And.intro|(apply Yh;clear Yh Y)));all_goals first|apply Hold.mk|omega|assumption|skip))
   (refine awp_if fun T F hT hF => ?_; simp [go_sem]; refine BR.intro (fun h7 => hT ?_) (fun h7 => hF ?_); all_goals clear hT hF T F; try simp at h7)
   ·have hne := hn h7
    (refine awp_sr fun Y Yh => ?_; simp [go_sem]; ((repeat' (first|(refine ag_x ?_;simp [go_sem])|intro _|apply And.intro|(apply Yh;clear Yh Y)));all_goals first|apply Hold.mk|omega|assumption|skip))
    (refine awp_ret ?_; simp [go_sem, hne])
   ·refine awp_skip ?_
    refine hK6 _ ?_; clear hK6
    (refine awp_r fun Y Yh => ?_; simp [go_sem]; ((repeat' (first|(refine ag_x ?_;simp [go_sem])|intro _|apply And.intro|(apply Yh;clear Yh Y)));all_goals first|apply Hold.mk|omega|assumption|skip))
    refine ⟨i + 1, ?_, ⟨by omega, hs.2 h7⟩, by omega⟩
    (refine cov_of ?_ ?_ <;> simp [go_sem])
  ·refine awp_exit ?_
   simp only [go_sem]
   refine hK3 _ ?_; clear hK3
   have : i = a.length := by omega
   subst this
   have := take_all hl ht
   (refine awp_sr fun Y Yh => ?_; simp [go_sem]; ((repeat' (first|(refine ag_x ?_;simp [go_sem])|intro _|apply And.intro|(apply Yh;clear Yh Y)));all_goals first|apply Hold.mk|omega|assumption|skip))
   (refine awp_ret ?_; simp [go_sem, h2, h5, this])
set_option maxHeartbeats 4000000 in
theorem lSame_spec (L M : Lck) (hL : LkOk L) (hM : LkOk M) : PCall Tryz.prog 27 [dLk L, dLk M] fun r => r = dB (decide (L = M)) := by 
 refine pcall_of Tryz.func27 rfl rfl Tryz.ntmps27 (rs := [.tmp 4]) (tys := [4]) rfl rfl (by simp) ?_
 obtain ⟨P, N, W⟩ := L
 obtain ⟨P', N', W'⟩ := M
 obtain ⟨hP, hN, hW, hP1, hN1, hW1⟩ := hL
 obtain ⟨kP, kN, kW, kP1, kN1, kW1⟩ := hM
 simp only at hP hN hW hP1 hN1 hW1 kP kN kW kP1 kN1 kW1
 have E1 := eqP_spec P P' hP kP
 have E2 := eqN_spec W W' hW kW
 have E3 := eqF_spec N N' hN kN (fun r h => (hN1 r h).1) (fun r h => (kN1 r h).1)
 simp only [Prod.mk.injEq]
 by_cases h1 : P = P'
 ·subst h1
  rw [decide_eq_true rfl] at E1
  by_cases h2 : W = W'
  ·subst h2
   rw [decide_eq_true rfl] at E2
   (refine awp_sr fun Y Yh => ?_; simp [go_sem]; ((repeat' (first|(refine ag_x ?_;simp [go_sem])|intro _|apply And.intro|(apply Yh;clear Yh Y)));all_goals first|apply Hold.mk|omega|assumption|skip))
   (refine awp_sr fun Y Yh => ?_; simp [go_sem]; ((repeat' (first|(refine ag_false ?_ ?_ ?_;(focus (simp [go_sem, undef];done));(focus (simp [go_sem];done));simp [go_sem])|(refine ag_true ?_ ?_;(focus (simp [go_sem, undef];done));simp [go_sem])|(refine ag_x ?_;simp [go_sem, undef])|intro _|apply And.intro|(apply Yh;clear Yh Y)));all_goals first|apply Hold.mk|omega|assumption|skip))
   ((try refine CallT.toA ?_); refine callT_m (.inl ⟨rfl,rfl⟩) (by simp [go_sem]) ?_; intro args ha; simp [go_sem] at ha; subst ha; refine ⟨_, E1, ?_⟩; rintro _ rfl; simp [go_sem]; ((repeat' (first|(refine ag_false ?_ ?_ ?_;(focus (simp [go_sem, undef];done));(focus (simp [go_sem];done));simp [go_sem])|(refine ag_true ?_ ?_;(focus (simp [go_sem, undef];done));simp [go_sem])|(refine ag_x ?_;simp [go_sem, undef])|intro _|apply And.intro|(apply Yh;clear Yh Y)));all_goals first|apply Hold.mk|omega|assumption|skip))
   ((try refine CallT.toA ?_); refine callT_m (.inl ⟨rfl,rfl⟩) (by simp [go_sem]) ?_; intro args ha; simp [go_sem] at ha; subst ha; refine ⟨_, E2, ?_⟩; rintro _ rfl; simp [go_sem]; ((repeat' (first|(refine ag_false ?_ ?_ ?_;(focus (simp [go_sem, undef];done));(focus (simp [go_sem];done));simp [go_sem])|(refine ag_true ?_ ?_;(focus (simp [go_sem, undef];done));simp [go_sem])|(refine ag_x ?_;simp [go_sem, undef])|intro _|apply And.intro|(apply Yh;clear Yh Y)));all_goals first|apply Hold.mk|omega|assumption|skip))
   ((try refine CallT.toA ?_); refine callT_m (.inl ⟨rfl,rfl⟩) (by simp [go_sem]) ?_; intro args ha; simp [go_sem] at ha; subst ha; refine ⟨_, E3, ?_⟩; rintro _ rfl; simp [go_sem]; ((repeat' (first|(refine ag_false ?_ ?_ ?_;(focus (simp [go_sem, undef];done));(focus (simp [go_sem];done));simp [go_sem])|(refine ag_true ?_ ?_;(focus (simp [go_sem, undef];done));simp [go_sem])|(refine ag_x ?_;simp [go_sem, undef])|intro _|apply And.intro|(apply Yh;clear Yh Y)));all_goals first|apply Hold.mk|omega|assumption|skip))
   (refine awp_ret ?_; simp [go_sem])
  ·rw [decide_eq_false h2] at E2
   (refine awp_sr fun Y Yh => ?_; simp [go_sem]; ((repeat' (first|(refine ag_x ?_;simp [go_sem])|intro _|apply And.intro|(apply Yh;clear Yh Y)));all_goals first|apply Hold.mk|omega|assumption|skip))
   (refine awp_sr fun Y Yh => ?_; simp [go_sem]; ((repeat' (first|(refine ag_false ?_ ?_ ?_;(focus (simp [go_sem, undef];done));(focus (simp [go_sem];done));simp [go_sem])|(refine ag_true ?_ ?_;(focus (simp [go_sem, undef];done));simp [go_sem])|(refine ag_x ?_;simp [go_sem, undef])|intro _|apply And.intro|(apply Yh;clear Yh Y)));all_goals first|apply Hold.mk|omega|assumption|skip))
   ((try refine CallT.toA ?_); refine callT_m (.inl ⟨rfl,rfl⟩) (by simp [go_sem]) ?_; intro args ha; simp [go_sem] at ha; subst ha; refine ⟨_, E1, ?_⟩; rintro _ rfl; simp [go_sem]; ((repeat' (first|(refine ag_false ?_ ?_ ?_;(focus (simp [go_sem, undef];done));(focus (simp [go_sem];done));simp [go_sem])|(refine ag_true ?_ ?_;(focus (simp [go_sem, undef];done));simp [go_sem])|(refine ag_x ?_;simp [go_sem, undef])|intro _|apply And.intro|(apply Yh;clear Yh Y)));all_goals first|apply Hold.mk|omega|assumption|skip))
   ((try refine CallT.toA ?_); refine callT_m (.inl ⟨rfl,rfl⟩) (by simp [go_sem]) ?_; intro args ha; simp [go_sem] at ha; subst ha; refine ⟨_, E2, ?_⟩; rintro _ rfl; simp [go_sem]; ((repeat' (first|(refine ag_false ?_ ?_ ?_;(focus (simp [go_sem, undef];done));(focus (simp [go_sem];done));simp [go_sem])|(refine ag_true ?_ ?_;(focus (simp [go_sem, undef];done));simp [go_sem])|(refine ag_x ?_;simp [go_sem, undef])|intro _|apply And.intro|(apply Yh;clear Yh Y)));all_goals first|apply Hold.mk|omega|assumption|skip))
   (refine awp_ret ?_; simp [go_sem, h2])
 ·rw [decide_eq_false h1] at E1
  (refine awp_sr fun Y Yh => ?_; simp [go_sem]; ((repeat' (first|(refine ag_x ?_;simp [go_sem])|intro _|apply And.intro|(apply Yh;clear Yh Y)));all_goals first|apply Hold.mk|omega|assumption|skip))
  (refine awp_sr fun Y Yh => ?_; simp [go_sem]; ((repeat' (first|(refine ag_false ?_ ?_ ?_;(focus (simp [go_sem, undef];done));(focus (simp [go_sem];done));simp [go_sem])|(refine ag_true ?_ ?_;(focus (simp [go_sem, undef];done));simp [go_sem])|(refine ag_x ?_;simp [go_sem, undef])|intro _|apply And.intro|(apply Yh;clear Yh Y)));all_goals first|apply Hold.mk|omega|assumption|skip))
  ((try refine CallT.toA ?_); refine callT_m (.inl ⟨rfl,rfl⟩) (by simp [go_sem]) ?_; intro args ha; simp [go_sem] at ha; subst ha; refine ⟨_, E1, ?_⟩; rintro _ rfl; simp [go_sem]; ((repeat' (first|(refine ag_false ?_ ?_ ?_;(focus (simp [go_sem, undef];done));(focus (simp [go_sem];done));simp [go_sem])|(refine ag_true ?_ ?_;(focus (simp [go_sem, undef];done));simp [go_sem])|(refine ag_x ?_;simp [go_sem, undef])|intro _|apply And.intro|(apply Yh;clear Yh Y)));all_goals first|apply Hold.mk|omega|assumption|skip))
  (refine awp_ret ?_; simp [go_sem, h1])
end Go.Proofs.YteekfnhhlcmcgaaGreatDoor
set_option maxRecDepth 20000
namespace Go.Lk
open Go.Lib Go.Wh Go.Ver
/-! the order of names; a lock of a solution is valid -/
theorem bl_irr : ∀ a : Bs, Op.bytesLess a a = false
 | [] => rfl
 | x :: a => by
  unfold Op.bytesLess
  rw [bl_irr a]
  simp
theorem bl_trans : ∀ {a b c : Bs}, Op.bytesLess a b = true → Op.bytesLess b c = true → Op.bytesLess a c = true
 | a, [], c, h, _ => by cases a <;> simp [Op.bytesLess] at h
 | a, y :: b, [], _, h => by simp [Op.bytesLess] at h
 | [], y :: b, z :: c, _, _ => rfl
 | x :: a, y :: b, z :: c, h1, h2 => by
  simp only [Op.bytesLess, Bool.or_eq_true, Bool.and_eq_true, decide_eq_true_eq, beq_iff_eq] at h1 h2 ⊢
  rcases h1 with h1 | ⟨rfl, h1⟩
  ·rcases h2 with h2 | ⟨rfl, h2⟩
   ·exact .inl (UInt8.lt_trans h1 h2)
   ·exact .inl h1
  ·rcases h2 with h2 | ⟨rfl, h2⟩
   ·exact .inl h2
   ·exact .inr ⟨rfl, bl_trans h1 h2⟩
theorem bl_tri : ∀ a b : Bs, a = b ∨ Op.bytesLess a b = true ∨ Op.bytesLess b a = true
 | [], [] => .inl rfl
 | [], y :: b => .inr (.inl rfl)
 | x :: a, [] => .inr (.inr rfl)
 | x :: a, y :: b => by
  simp only [Op.bytesLess, Bool.or_eq_true, Bool.and_eq_true, decide_eq_true_eq, beq_iff_eq, List.cons.injEq]
  rcases Nat.lt_trichotomy x.toNat y.toNat with h | h | h
  ·exact .inr (.inl (.inl (UInt8.lt_iff_toNat_lt.2 h)))
  ·have e : x = y := UInt8.toNat_inj.1 h
   rcases bl_tri a b with q | q | q
   ·exact .inl ⟨e, q⟩
   ·exact .inr (.inl (.inr ⟨e, q⟩))
   ·exact .inr (.inr (.inr ⟨e.symm, q⟩))
  ·exact .inr (.inr (.inl (UInt8.lt_iff_toNat_lt.2 h)))
abbrev Asc (l : List Prs) : Prop := l.Pairwise fun x y => Op.bytesLess x.1 y.1 = true
theorem posP_spec (x : Prs) (out : List Prs) : ∀ n, n ≤ out.length → (∀ j y, posP x out n ≤ j → j < n → out[j]? = some y → Op.bytesLess x.1 y.1 = true) ∧ (∀ y, 0 < posP x out n → out[posP x out n - 1]? = some y → Op.bytesLess x.1 y.1 = false)
 | 0, _ => ⟨fun j y _ h => by omega, fun y h => by simp [posP] at h⟩
 | n + 1, hn => by
  obtain ⟨z, hz⟩ : ∃ z, out[n]? = some z := ⟨_, List.getElem?_eq_getElem (by omega)⟩
  obtain ⟨h1, h2⟩ := posP_spec x out n (by omega)
  rw [posP_step hz]
  split
  ·rename_i hb
   refine ⟨fun j y hj hjn hy => ?_, h2⟩
   by_cases e : j = n
   ·subst e; rw [hz] at hy; rw [← Option.some.inj hy]; exact hb
   ·exact h1 j y hj (by omega) hy
  ·rename_i hb
   refine ⟨fun j y hj hjn => by omega, fun y _ hy => ?_⟩
   rw [Nat.add_sub_cancel, hz] at hy
   rw [← Option.some.inj hy]
   simpa using hb
theorem insP_asc {x : Prs} {out : List Prs} (h : Asc out) (hx : x.1 ∉ out.map (·.1)) : Asc (insP x out) := by
 obtain ⟨h1, h2⟩ := posP_spec x out out.length (Nat.le_refl _)
 have hle := posP_le x out out.length
 unfold insP
 generalize posP x out out.length = a at *
 have hap : Asc (out.take a ++ out.drop a) := by rw [List.take_append_drop]; exact h
 obtain ⟨p1, p2, p3⟩ := List.pairwise_append.1 hap
 refine List.pairwise_append.2 ⟨p1, List.pairwise_cons.2 ⟨fun y hy => ?_, p2⟩, fun y hy z hz => ?_⟩
 ·obtain ⟨j, hj⟩ := List.getElem?_of_mem hy
  rw [List.getElem?_drop] at hj
  exact h1 (a + j) y (by omega) (List.getElem?_eq_some_iff.1 hj).1 hj
 ·rcases List.mem_cons.1 hz with rfl | hz
  ·
   have ha : 0 < a := by
    rcases Nat.eq_zero_or_pos a with q | q
    ·subst q; simp at hy
    ·exact q
   obtain ⟨w, hw⟩ : ∃ w, out[a - 1]? = some w := ⟨_, List.getElem?_eq_getElem (by omega)⟩
   have hwx : Op.bytesLess w.1 z.1 = true := by
    rcases bl_tri z.1 w.1 with q | q | q
    ·exact absurd (List.mem_map.2 ⟨w, List.mem_of_getElem? hw, q.symm⟩) hx
    ·have := h2 w ha hw; rw [q] at this; cases this
    ·exact q
   obtain ⟨j, hj⟩ := List.getElem?_of_mem hy
   rw [List.getElem?_take] at hj
   split at hj
   ·rename_i hja
    by_cases e : j = a - 1
    ·subst e; rw [hw] at hj; rw [← Option.some.inj hj]; exact hwx
    ·have hlt := (List.getElem?_eq_some_iff.1 hj).1
     have := List.pairwise_iff_getElem.1 h j (a - 1) hlt (by omega) (by omega)
     rw [(List.getElem?_eq_some_iff.1 hj).2, (List.getElem?_eq_some_iff.1 hw).2] at this
     exact bl_trans this hwx
   ·cases hj
  ·exact p3 y hy z hz
theorem srt_asc' : ∀ (l o : List Prs), Asc o → (l.map (·.1)).Nodup → (∀ x ∈ l, x.1 ∉ o.map (·.1)) → Asc (l.foldl (fun o x => insP x o) o)
 | [], o, h, _, _ => h
 | x :: l, o, h, hn, hd => by
  rw [List.foldl_cons]
  rw [List.map_cons, List.nodup_cons] at hn
  refine srt_asc' l _ (insP_asc h (hd x (by simp))) hn.2 fun y hy hm => ?_
  obtain ⟨z, hz, e⟩ := List.mem_map.1 hm
  rcases insP_mem.1 hz with rfl | hz
  ·exact hn.1 (List.mem_map.2 ⟨y, hy, e.symm⟩)
  ·exact hd y (by simp [hy]) (List.mem_map.2 ⟨z, hz, e⟩)
theorem srt_asc {l : List Prs} (h : (l.map (·.1)).Nodup) : Asc (srtP l) := srt_asc' l [] List.Pairwise.nil h (by simp)
theorem asc_at {l : List Prs} (h : Asc l) {i : Nat} {x y : Prs} (hi : i ≠ 0) (hx : l[i]? = some x) (hy : l[i - 1]? = some y) : Op.bytesLess y.1 x.1 = true := by
 have h1 := (List.getElem?_eq_some_iff.1 hx)
 have h2 := (List.getElem?_eq_some_iff.1 hy)
 have := List.pairwise_iff_getElem.1 h (i - 1) i h2.1 h1.1 (by omega)
 rw [h1.2, h2.2] at this
 exact this
theorem needsV_of {m : Nat} {l : List Prs} (h : Asc l) (hl : l.length ≤ m) (hn : ∀ n ∈ l, nameV n.1 = true ∧ (condsV n.2).isSome = true) : needsV m l = true := by
 unfold needsV
 rw [Bool.and_eq_true]
 refine ⟨?_, by simpa using hl⟩
 have key : ∀ k, needTo l k = true := by
  intro k
  induction k with
  | zero => rfl
  | succ k ih =>
   rw [needTo, ih, Bool.true_and]
   unfold needAt
   cases hx : l[k]? with
   | none => rfl
   | some x =>
    simp only
    obtain ⟨a, b⟩ := hn x (List.mem_of_getElem? hx)
    rw [a, b]
    simp only [Bool.and_self, Bool.true_and, Bool.or_eq_true, decide_eq_true_eq]
    by_cases h0 : k = 0
    ·exact .inl h0
    ·right
     cases hy : l[k - 1]? with
     | none => rfl
     | some y => exact asc_at h h0 hx hy
 exact key _
theorem lockV_of {P : List Prs} {N : List (List Prs)} {W : List Prs} (h60 : P.length ≤ 60) (hl : N.length = P.length) (hw : needsV 8 W = true) (hP : Asc P) (hp : ∀ x ∈ P, nameV x.1 = true ∧ (readV x.2).isSome = true) (hN : ∀ r ∈ N, needsV 6 r = true) : lockV (P, N, W) = true := by
 unfold lockV
 simp only [Bool.and_eq_true, decide_eq_true_eq]
 refine ⟨⟨⟨h60, hl⟩, hw⟩, ?_⟩
 have key : ∀ k, k ≤ P.length → pickTo (P, N, W) k = true := by
  intro k
  induction k with
  | zero => intro _; rfl
  | succ k ih =>
   intro hk
   rw [pickTo, ih (by omega), Bool.true_and]
   unfold pickAt
   obtain ⟨x, hx⟩ : ∃ x, P[k]? = some x := ⟨_, List.getElem?_eq_getElem (by omega)⟩
   obtain ⟨r, hr⟩ : ∃ r, N[k]? = some r := ⟨_, List.getElem?_eq_getElem (by omega)⟩
   have e : N.getD k [] = r := by simp [List.getD, hr]
   simp only [hx, e]
   obtain ⟨a, b⟩ := hp x (List.mem_of_getElem? hx)
   rw [a, b, hN r (List.mem_of_getElem? hr)]
   simp only [Bool.and_self, Bool.true_and, Bool.and_true, Bool.or_eq_true, decide_eq_true_eq]
   by_cases h0 : k = 0
   ·exact .inl h0
   ·right
    cases hy : P[k - 1]? with
    | none => rfl
    | some y => exact asc_at hP h0 hx hy
 exact key _ (Nat.le_refl _)
theorem nuV_nodup {m : Nat} {l : List Prs} (h : nuV m l = true) : (l.map (·.1)).Nodup := by
 unfold nuV at h
 rw [Bool.and_eq_true] at h
 refine List.pairwise_iff_getElem.2 fun i j hi hj hij => ?_
 simp only [List.length_map] at hi hj
 have hj' := upTo_at h.2 hj
 have hx := List.getElem?_eq_getElem hj
 unfold nuAt at hj'
 rw [hx] at hj'
 simp only [Bool.and_eq_true] at hj'
 have := upTo_at hj'.2 hij
 unfold apartAt at this
 rw [List.getElem?_eq_getElem hi] at this
 simpa using this
theorem nu_srt {m : Nat} {l : List Prs} (h : nuV m l = true) : needsV m (srtP l) = true := by
 obtain ⟨h1, h2⟩ := nuV_parts h
 exact needsV_of (srt_asc (nuV_nodup h)) (by rw [srtP_len]; exact h1) fun n hn => h2 n (srtP_mem.1 hn)
theorem own_ok {s : Src} (hs : suV s = true) (p : Prs) : needsV 6 (ownV s p) = true := by
 unfold ownV fndP
 cases h : fndV s p with
 | none => rfl
 | some v =>
  obtain ⟨g, hg, _, hv, _⟩ := fndV_mem h
  exact nu_srt ((vuV_parts ((suV_parts hs).2 g hg).2).2 v hv).2
theorem solV_asc {s : Src} {w : List Prs} {b : Int} (hs : suV s = true) : Asc (solV s w b).1 := by
 unfold solV
 split
 ·exact srt_asc (restV_pick hs _ [] 0 ⟨by simp, by simp⟩).2
 ·exact List.Pairwise.nil
theorem solV_ok {s : Src} {w : List Prs} {b : Int} (hs : suV s = true) : ∀ x ∈ (solV s w b).1, nameV x.1 = true ∧ (readV x.2).isSome = true := fun x hx => by
 obtain ⟨g, hg, e, v, hv, e2⟩ := solV_pick hs x hx
 obtain ⟨a, c⟩ := (suV_parts hs).2 g hg
 have := ((vuV_parts c).2 v hv).1
 exact ⟨by rw [← e]; exact a, by rw [← e2]; exact this⟩
theorem ofV_ok {s : Src} {w : List Prs} {b : Int} (h : (ofV s w b).2 = 0) : lockV (ofV s w b).1 = true := by
 unfold ofV at h ⊢
 split at h
 ·rename_i h0
  rw [if_pos h0]
  obtain ⟨hc, _⟩ := solV_chk h0
  unfold chkV at hc
  rw [Bool.and_eq_true] at hc
  have hln := solV_len (s := s) (w := w) (b := b)
  refine lockV_of (by omega) (by simp) (nu_srt hc.2) (solV_asc hc.1) (solV_ok hc.1) fun r hr => ?_
  obtain ⟨p, _, rfl⟩ := List.mem_map.1 hr
  exact own_ok hc.1 p
 ·rename_i h0
  exact absurd h h0
/-! sizes -/
def SzL (L : Lck) : Prop := SzN L.1 ∧ (L.2.1.length ≤ 1000000 ∧ ∀ r ∈ L.2.1, SzN r) ∧ SzN L.2.2
theorem needsV_sz {m : Nat} {l : List Prs} (h : needsV m l = true) (hm : m ≤ 1000) : SzN l := by
 refine ⟨by have := needsV_len h; omega, fun x hx => ?_⟩
 obtain ⟨a, b⟩ := needsV_each h x hx
 have := (name_nm a).2.2
 have := condsV_len b
 exact ⟨by omega, by omega⟩
theorem lockV_sz {L : Lck} (h : lockV L = true) : SzL L := by
 obtain ⟨v1, v2, v3, v4⟩ := lockV_parts h
 refine ⟨⟨by omega, fun x hx => ?_⟩, ⟨by omega, fun r hr => ?_⟩, needsV_sz v3 (by decide)⟩
 ·obtain ⟨i, hi⟩ := List.getElem?_of_mem hx
  have hlt := (List.getElem?_eq_some_iff.1 hi).1
  obtain ⟨r, hr⟩ : ∃ r, L.2.1[i]? = some r := ⟨_, List.getElem?_eq_getElem (by omega)⟩
  obtain ⟨a, b, _⟩ := lockV_pick h hi hr
  have := (name_nm a).2.2
  have := readV_len b
  exact ⟨by omega, by omega⟩
 ·obtain ⟨i, hi⟩ := List.getElem?_of_mem hr
  have hlt := (List.getElem?_eq_some_iff.1 hi).1
  obtain ⟨x, hx⟩ : ∃ x, L.1[i]? = some x := ⟨_, List.getElem?_eq_getElem (by omega)⟩
  exact needsV_sz (lockV_pick h hx hi).2.2 (by decide)
/-! the first version of each gem -/
def fst1 (g : Gm) : Option (Bs × Vrs) := g.2.head?.map fun v => (g.1, v)
def fstP (s : Src) : List Prs := (s.filterMap fst1).map fun x => (x.1, x.2.1)
def fstN (s : Src) : List (List Prs) := (s.filterMap fst1).map fun x => x.2.2
theorem fst_step {s : Src} {i : Nat} {g : Gm} (h : s[i]? = some g) : fstP (s.take (i + 1)) = fstP (s.take i) ++ (match g.2.head? with | some v => [(g.1, v.1)] | none => []) ∧ fstN (s.take (i + 1)) = fstN (s.take i) ++ (match g.2.head? with | some v => [v.2] | none => []) := by
 unfold fstP fstN
 rw [List.take_add_one, h, List.filterMap_append, List.map_append, List.map_append]
 simp only [Option.toList]
 cases hv : g.2.head? <;> simp [fst1, hv]
theorem fst_len (s : Src) : (fstN s).length = (fstP s).length := by simp [fstN, fstP]
theorem fst_le : ∀ s : Src, (fstP s).length ≤ s.length := fun s => by
 unfold fstP; rw [List.length_map]; exact List.length_filterMap_le _ _
theorem fst_asc : ∀ {s : Src}, (s.Pairwise fun g h => Op.bytesLess g.1 h.1 = true) → Asc (fstP s)
 | [], _ => List.Pairwise.nil
 | g :: s, h => by
  obtain ⟨h1, h2⟩ := List.pairwise_cons.1 h
  have ih := fst_asc h2
  unfold fstP at ih ⊢
  rw [List.filterMap_cons]
  cases hg : fst1 g with
  | none => exact ih
  | some x =>
   simp only [List.map_cons]
   refine List.pairwise_cons.2 ⟨fun y hy => ?_, ih⟩
   obtain ⟨z, hz, rfl⟩ := List.mem_map.1 hy
   obtain ⟨k, hk, e⟩ := List.mem_filterMap.1 hz
   have a : x.1 = g.1 := by unfold fst1 at hg; cases hv : g.2.head? <;> rw [hv] at hg <;> simp at hg; rw [← hg]
   have b : z.1 = k.1 := by unfold fst1 at e; cases hv : k.2.head? <;> rw [hv] at e <;> simp at e; rw [← e]
   show Op.bytesLess x.1 z.1 = true
   rw [a, b]
   exact h1 k hk
theorem fst_mem {s : Src} {x : Prs} (h : x ∈ fstP s) : ∃ g ∈ s, x.1 = g.1 ∧ ∃ v ∈ g.2, x.2 = v.1 := by
 unfold fstP at h
 obtain ⟨z, hz, rfl⟩ := List.mem_map.1 h
 obtain ⟨k, hk, e⟩ := List.mem_filterMap.1 hz
 unfold fst1 at e
 cases hv : k.2.head? with
 | none => rw [hv] at e; simp at e
 | some v =>
  rw [hv] at e; simp at e
  exact ⟨k, hk, by rw [← e], v, List.mem_of_mem_head? hv, by rw [← e]⟩
theorem fstN_mem {s : Src} {r : List Prs} (h : r ∈ fstN s) : ∃ g ∈ s, ∃ v ∈ g.2, r = v.2 := by
 unfold fstN at h
 obtain ⟨z, hz, rfl⟩ := List.mem_map.1 h
 obtain ⟨k, hk, e⟩ := List.mem_filterMap.1 hz
 unfold fst1 at e
 cases hv : k.2.head? with
 | none => rw [hv] at e; simp at e
 | some v =>
  rw [hv] at e; simp at e
  exact ⟨k, hk, v, List.mem_of_mem_head? hv, by rw [← e]⟩
theorem fst_lock {s : Src} (hs : suV s = true) (hp : s.Pairwise fun g h => Op.bytesLess g.1 h.1 = true) : lockV (fstP s, List.replicate (fstP s).length [], []) = true := by
 obtain ⟨h1, h2⟩ := suV_parts hs
 refine lockV_of (by have := fst_le s; omega) (by simp) rfl (fst_asc hp) (fun x hx => ?_) (fun r hr => ?_)
 ·obtain ⟨g, hg, e, v, hv, e2⟩ := fst_mem hx
  obtain ⟨a, c⟩ := h2 g hg
  rw [e, e2]
  exact ⟨a, ((vuV_parts c).2 v hv).1⟩
 ·rw [List.eq_of_mem_replicate hr]; rfl
theorem fst_sz {s : Src} (hs : suV s = true) : SzL (fstP s, fstN s, []) := by
 have hz := suV_sz hs
 obtain ⟨h1, h2⟩ := suV_parts hs
 refine ⟨⟨by have := fst_le s; simp only; omega, fun x hx => ?_⟩, ⟨by have := fst_le s; have := fst_len s; simp only; omega, fun r hr => ?_⟩, ⟨by simp, by simp⟩⟩
 ·obtain ⟨g, hg, e, v, hv, e2⟩ := fst_mem hx
  obtain ⟨a, b, c⟩ := hz.2 g hg
  exact ⟨by rw [e]; exact a, by rw [e2]; exact (c v hv).1⟩
 ·obtain ⟨g, hg, v, hv, e⟩ := fstN_mem hr
  rw [e]
  exact ((hz.2 g hg).2.2 v hv).2
end Go.Lk
namespace Go.Proofs.YteekfnhhlcmcgaaGreatDoor
open Go.Eng Go.Wh Go.Ver Go.RowKit Go.Lk
set_option maxRecDepth 20000
attribute [local irreducible] AG CallA CallT AWp PCall ACall AgC
theorem pcall_weakE {α : Type} {f : FuncId} {args : List D} {p : α → Prop} {d : α → D} (h : PCall Tryz.prog f args fun r => ∃ x, p x ∧ Weak r (d x)) : PCall Tryz.prog f args fun r => ∃ x, p x ∧ r = d x := by
 unfold PCall at h ⊢
 refine ⟨h.1, fun C w us a b c => (h.2 C w us a b c).mono ?_⟩
 rintro e w' ⟨u, r, C', h1, ⟨x, hx, hw⟩, h3, h4⟩
 exact ⟨u, d x, C', h1, ⟨x, hx, rfl⟩, hw _ _ _ h3, h4⟩
theorem lkOk_of {L : Lck} (h : SzL L) : LkOk L := by
 obtain ⟨a, b, c⟩ := h
 exact ⟨a.1, b.1, c.1, fun x hx => a.2 x hx, fun r hr => ⟨(b.2 r hr).1, fun x hx => (b.2 r hr).2 x hx⟩, fun x hx => c.2 x hx⟩
theorem grOk_pw {s : Src} {w : List Prs} (h : GrOk s w) : s.Pairwise fun g h => Op.bytesLess g.1 h.1 = true := by
 have h1 : (s.map (·.1)).Pairwise fun a b => Op.bytesLess a b = true := by rw [h.nm]; simp [gnmL]; decide
 exact List.pairwise_map.1 h1
theorem weak_nils : ∀ n : Nat, WeakLL (List.replicate n [D.v (.slice none 0 0)]) ((List.replicate n ([] : List Prs)).map fun n => [dPs n])
 | 0 => trivial
 | n + 1 => ⟨⟨Weak.nil 2, trivial⟩, weak_nils n⟩
def nilN (N : List (List Prs)) (j : Nat) : List (List D) := List.replicate j [D.v (.slice none 0 0)] ++ (N.drop j).map fun n => [dPs n]
theorem nilN_len {N : List (List Prs)} {j : Nat} (h : j ≤ N.length) : (nilN N j).length = N.length := by unfold nilN; simp; omega
theorem nilN_step {N : List (List Prs)} {j : Nat} (h : j < N.length) : (nilN N j).set j [D.v (.slice none 0 0)] = nilN N (j + 1) := by
 unfold nilN
 rw [drop_cons (List.getElem?_eq_getElem h), List.map_cons]
 rw [List.set_append_right _ _ (by simp)]
 simp only [List.length_replicate, Nat.sub_self, List.set_cons_zero]
 rw [List.replicate_succ', List.append_assoc]
 rfl
theorem nilN_zero (N : List (List Prs)) : nilN N 0 = N.map fun n => [dPs n] := rfl
theorem nilN_end (N : List (List Prs)) : nilN N N.length = List.replicate N.length [D.v (.slice none 0 0)] := by unfold nilN; simp
theorem nilN_at {N : List (List Prs)} {j : Nat} (h : j < N.length) : ∃ y, (nilN N j)[j]? = some [y] := by
 unfold nilN
 refine ⟨dPs N[j], ?_⟩
 rw [List.getElem?_append_right (by simp), drop_cons (List.getElem?_eq_getElem h)]
 simp
 exact ⟨_, List.getElem?_eq_getElem h, rfl⟩
set_option maxHeartbeats 16000000 in
theorem grownW (l : List Int) (hl : l.length ≤ 9223372036854775807) : PCall Tryz.prog 22 [dIs l] fun r => ∃ L, lockV L = true ∧ Weak r (dLk L) := by 
 refine pcall_of Tryz.func22 rfl rfl Tryz.ntmps22 (rs := [.cell 2 61]) (tys := [61]) rfl rfl (by simp) ?_
 have GR := rGrown_spec l hl
 (refine awp_sr fun Y Yh => ?_; simp [go_sem]; ((repeat' (first|(refine ag_x ?_;simp [go_sem])|intro _|apply And.intro|(apply Yh;clear Yh Y)));all_goals first|apply Hold.mk|omega|assumption|skip))
 rename_i g2
 (refine awp_sr fun Y Yh => ?_; simp [go_sem]; ((repeat' (first|(refine ag_x ?_;simp [go_sem])|intro _|apply And.intro|(apply Yh;clear Yh Y)));all_goals first|apply Hold.mk|omega|assumption|skip))
 ((try refine CallT.toA ?_); refine callT_m (.inl ⟨rfl,rfl⟩) (by simp [go_sem]) ?_; intro args ha; simp [go_sem] at ha; subst ha; refine ⟨_, GR, ?_⟩; rintro _ ⟨s, w, hgr, rfl⟩; simp [go_sem]; ((repeat' (first|(refine ag_x ?_;simp [go_sem])|intro _|apply And.intro|(apply Yh;clear Yh Y)));all_goals first|apply Hold.mk|omega|assumption|skip))
 rename_i g3
 have hsu := grOk_su hgr
 have hsz := suV_sz hsu
 have hwz := nuV_sz hgr.wi (by decide)
 have hs5 : s.length = 5 := by have := congrArg List.length hgr.nm; simpa [gnmL] using this
 have OF := rOf_spec s w 500 hsz hwz
 have hok := @ofV_ok s w 500
 generalize ofV s w 500 = q at *
 obtain ⟨L, e⟩ := q
 simp only at OF hok
 (refine awp_sr fun Y Yh => ?_; simp [go_sem]; ((repeat' (first|(refine ag_x ?_;simp [go_sem])|intro _|apply And.intro|(apply Yh;clear Yh Y)));all_goals first|apply Hold.mk|omega|assumption|skip))
 ((try refine CallT.toA ?_); refine callT_m (.inl ⟨rfl,rfl⟩) (by simp [go_sem]) ?_; intro args ha; simp [go_sem] at ha; subst ha; refine ⟨_, OF, ?_⟩; rintro _ rfl; simp [go_sem]; ((repeat' (first|(refine ag_x ?_;simp [go_sem])|intro _|apply And.intro|(apply Yh;clear Yh Y)));all_goals first|apply Hold.mk|omega|assumption|skip))
 rename_i g5
 refine awp_seq_k fun K1 hK1 => ?_
 have tl1 : ∀ S', Cov S' ⟨[(2, .ptr 2 g2 0), (3, .ptr 3 g3 0)], [(2, (g2, .box [.v (.slice none 0 0), .v (.slice none 0 0), .v (.slice none 0 0)])), (3, (g3, .box [dGms s]))]⟩ → K1 S' := fun S' hS => by
  refine hK1 _ ?_; clear hK1
  refine awp_cov hS ?_; clear hS
  have hst := fun i g => @fst_step s i g
  have hfe : fstP (s.take s.length) = fstP s ∧ fstN (s.take s.length) = fstN s := by rw [List.take_length]; exact ⟨rfl, rfl⟩
  have hfl := fun i => fst_len (s.take i)
  have hf5 := fun i => fst_le (s.take i)
  have hlk := fst_lock hsu (grOk_pw hgr)
  have CK := rLValid_spec (fstP s, fstN s, []) (lkOk_of (fst_sz hsu))
  have hNl := fst_len s
  have hPl := fst_le s
  obtain ⟨FP, hFP⟩ : ∃ F : Nat → List Prs, ∀ i, fstP (s.take i) = F i := ⟨_, fun _ => rfl⟩
  obtain ⟨FN, hFN⟩ : ∃ F : Nat → List (List Prs), ∀ i, fstN (s.take i) = F i := ⟨_, fun _ => rfl⟩
  have hP0 : FP 0 = [] := by rw [← hFP]; rfl
  have hN0 : FN 0 = [] := by rw [← hFN]; rfl
  simp only [hFP, hFN] at hst hfe hfl hf5
  clear hFP hFN
  generalize fstP s = P at *
  generalize fstN s = N at *
  (refine awp_sr fun Y Yh => ?_; simp [go_sem]; ((repeat' (first|(refine ag_x ?_;simp [go_sem])|intro _|apply And.intro|(apply Yh;clear Yh Y)));all_goals first|apply Hold.mk|omega|assumption|skip))
  rename_i g7
  refine awp_nilbox 900003 95 2 0 (sb := 7) rfl rfl (by decide) fun gp => ?_
  refine awp_nilbox 900004 26 1 1 (sb := 7) rfl rfl (by decide) fun gn => ?_
  simp only [List.set, go_sem]
  refine awp_seq_k fun K3 hK3 => ?_
  (refine awp_sr fun Y Yh => ?_; simp [go_sem]; ((repeat' (first|(refine ag_x ?_;simp [go_sem])|intro _|apply And.intro|(apply Yh;clear Yh Y)));all_goals first|apply Hold.mk|omega|assumption|skip))
  refine awp_block ?_
  refine awp_loop (σ := Nat × Nat × Nat) (fun x => ⟨[(2, .ptr 2 g2 0), (3, .ptr 3 g3 0), (7, .ptr 7 g7 0), (8, dI x.1)], [(2, (g2, .box [.v (.slice none 0 0), .v (.slice none 0 0), .v (.slice none 0 0)])), (3, (g3, .box [dGms s])), (7, (g7, .box [.own 900003 x.2.1, .own 900004 x.2.2, .v (.slice none 0 0)])), (900003, (x.2.1, .row 95 2 ((FP x.1).map cP))), (900004, (x.2.2, .row 26 1 ((FN x.1).map fun n => [dPs n])))]⟩) (fun x => x.1 ≤ s.length) (fun x => s.length - x.1) (0, gp, gn) ?_ ?_ ?_
  ·(refine cov_of ?_ ?_ <;> simp [go_sem, hP0, hN0])
  ·simp
  rintro ⟨i, gp, gn⟩ hi
  simp only at hi
  refine awp_seq_k fun K4 hK4 => ?_
  (refine awp_sr fun Y Yh => ?_; simp [go_sem]; ((repeat' (first|(refine ag_x ?_;simp [go_sem])|intro _|apply And.intro|(apply Yh;clear Yh Y)));all_goals first|apply Hold.mk|omega|assumption|skip))
  (refine awp_if fun T F hT hF => ?_; simp [go_sem]; refine BR.intro (fun h5 => hT ?_) (fun h5 => hF ?_); all_goals clear hT hF T F; try simp at h5)
  ·refine awp_skip ?_
   refine hK4 _ ?_; clear hK4
   obtain ⟨x, hx⟩ : ∃ x, s[i]? = some x := ⟨_, List.getElem?_eq_getElem (by omega)⟩
   obtain ⟨hst1, hst2⟩ := hst i x hx
   have hfl1 := hfl i
   have hf51 := hf5 i
   have hti : (s.take i).length = i := by rw [List.length_take]; omega
   rw [hti] at hf51
   generalize FP i = P0 at *
   generalize FN i = N0 at *
   refine awp_seq_j (α := Nat × Nat) (fun z => ⟨[(2, .ptr 2 g2 0), (3, .ptr 3 g3 0), (7, .ptr 7 g7 0), (8, dI i)], [(2, (g2, .box [.v (.slice none 0 0), .v (.slice none 0 0), .v (.slice none 0 0)])), (3, (g3, .box [dGms s])), (7, (g7, .box [.own 900003 z.1, .own 900004 z.2, .v (.slice none 0 0)])), (900003, (z.1, .row 95 2 ((FP (i + 1)).map cP))), (900004, (z.2, .row 26 1 ((FN (i + 1)).map fun n => [dPs n])))]⟩) (fun K6 hK6 hM6 => ?_) (fun z => ?_)
   rotate_left
   ·obtain ⟨gp', gn'⟩ := z
    (refine awp_r fun Y Yh => ?_; simp [go_sem]; ((repeat' (first|(refine ag_x ?_;simp [go_sem])|intro _|apply And.intro|(apply Yh;clear Yh Y)));all_goals first|apply Hold.mk|omega|assumption|skip))
    refine ⟨(i + 1, gp', gn'), ?_, by simp only; omega, by simp only; omega⟩
    (refine cov_of ?_ ?_ <;> simp [go_sem])
   refine awp_block ?_
   obtain ⟨nm, vs⟩ := x
   cases vs with
   | nil =>
    simp only [List.head?_nil, List.append_nil] at hst1 hst2
    (refine awp_sr fun Y Yh => ?_; simp [go_sem, hx]; ((repeat' (first|(refine ag_x ?_;simp [go_sem, hx])|intro _|apply And.intro|(apply Yh;clear Yh Y)));all_goals first|apply Hold.mk|omega|assumption|skip))
    (refine awp_if fun T F hT hF => ?_; simp [go_sem]; refine hF ?_; clear hT hF T F)
    refine awp_skip ?_
    refine hK6 _ ?_
    refine hM6 (gp, gn) _ ?_
    rw [hst1, hst2]
    (refine cov_of ?_ ?_ <;> simp [go_sem])
   | cons v vs =>
    obtain ⟨num, nds⟩ := v
    simp only [List.head?_cons] at hst1 hst2
    have hpos : (0 : Int) < (vs.length : Int) + 1 := by omega
    (refine awp_sr fun Y Yh => ?_; simp [go_sem, hx, hpos]; ((repeat' (first|(refine ag_x ?_;simp [go_sem, hx, hpos])|intro _|apply And.intro|(apply Yh;clear Yh Y)));all_goals first|apply Hold.mk|omega|assumption|skip))
    (refine awp_if fun T F hT hF => ?_; simp [go_sem, hpos]; refine hT ?_; clear hT hF T F)
    (refine awp_sr fun Y Yh => ?_; simp [go_sem, hx]; ((repeat' (first|(refine ag_x ?_;simp [go_sem, hx])|intro _|apply And.intro|(apply Yh;clear Yh Y)));all_goals first|apply Hold.mk|omega|assumption|skip))
    rename_i g9
    ((refine awp_dr (.qs [0, 2, 4, 8, 1, 3, 5, 6, 7, 9, 10] (.kp 11 (.one 12 (.qs [13] (.one 14 (.nil)))))) (by kernel_rfl) ?_ ?_ ?_ ?_); (kernel_rfl); (exact (by decide +kernel)); (kernel_rfl); intro Y Yh; ((repeat' (first|(refine ag_x ?_;simp [go_sem, hx])|refine adr_nil ?_|((first|refine adr_qs fun Y Yh=>?_|refine adr_y fun Y Yh=>?_);simp [go_sem, hx])|intro _|apply And.intro|(apply Yh;clear Yh Y)));all_goals first|apply Hold.mk|omega|assumption|skip))
    (refine awp_r fun Y Yh => ?_; simp [go_sem]; ((repeat' (first|(refine ag_x ?_;simp [go_sem])|intro _|apply And.intro|(apply Yh;clear Yh Y)));all_goals first|apply Hold.mk|omega|assumption|skip))
    rename_i a1 a2 a3 a4
    refine hK6 _ ?_
    refine hM6 (a2, a4) _ ?_
    rw [hst1, hst2]
    (refine cov_of ?_ ?_ <;> simp [go_sem])
  ·refine awp_exit ?_
   simp only [go_sem]
   refine hK3 _ ?_; clear hK3
   have hie : i = s.length := by omega
   subst hie
   rw [hfe.1, hfe.2]
   clear hst hfe hfl hf5 hP0 hN0
   refine awp_seq_k fun K8 hK8 => ?_
   (refine awp_sr fun Y Yh => ?_; simp [go_sem]; ((repeat' (first|(refine ag_x ?_;simp [go_sem])|intro _|apply And.intro|(apply Yh;clear Yh Y)));all_goals first|apply Hold.mk|omega|assumption|skip))
   ((try refine CallT.toA ?_); refine callT_f (.inl ⟨rfl,rfl⟩) ?_; intro args ha; simp [go_sem] at ha; subst ha; refine ⟨_, CK, ?_⟩; rintro _ rfl; refine ⟨rfl, ?_⟩; simp [go_sem]; ((repeat' (first|(refine ag_x ?_;simp [go_sem])|intro _|apply And.intro|(apply Yh;clear Yh Y)));all_goals first|apply Hold.mk|omega|assumption|skip))
   by_cases hv : lockV (P, N, []) = true
   ·rw [hv]
    (refine awp_if fun T F hT hF => ?_; simp [go_sem]; refine hF ?_; clear hT hF T F)
    refine awp_skip ?_
    refine hK8 _ ?_; clear hK8
    refine awp_frzin 900003 7 0 rfl rfl (by decide) rfl ?_
    simp only [go_sem, List.set]
    refine awp_frzin 900004 7 1 rfl rfl (by decide) rfl ?_
    simp only [go_sem, List.set]
    (refine awp_sr fun Y Yh => ?_; simp [go_sem]; ((repeat' (first|(refine ag_x ?_;simp [go_sem])|intro _|apply And.intro|(apply Yh;clear Yh Y)));all_goals first|apply Hold.mk|omega|assumption|skip))
    (refine awp_ret ?_; simp [go_sem])
    exact ⟨P, N, [], hv, Weak.agg ⟨Weak.refl _, Weak.refl _, Weak.refl _, trivial⟩⟩
   ·have hvf : lockV (P, N, []) = false := by simpa using hv
    rw [hvf]
    (refine awp_if fun T F hT hF => ?_; simp [go_sem]; refine hT ?_; clear hT hF T F)
    (refine awp_sr fun Y Yh => ?_; simp [go_sem]; ((repeat' (first|(refine ag_x ?_;simp [go_sem])|intro _|apply And.intro|(apply Yh;clear Yh Y)));all_goals first|apply Hold.mk|omega|assumption|skip))
    refine awp_block ?_
    refine awp_loop (σ := Nat) (fun j => ⟨[(2, .ptr 2 g2 0), (7, .ptr 7 g7 0), (10, dI j)], [(2, (g2, .box [.v (.slice none 0 0), .v (.slice none 0 0), .v (.slice none 0 0)])), (7, (g7, .box [.own 900003 gp, .own 900004 gn, .v (.slice none 0 0)])), (900003, (gp, .row 95 2 (P.map cP))), (900004, (gn, .row 26 1 (nilN N j)))]⟩) (fun j => j ≤ N.length) (fun j => N.length - j) 0 ?_ ?_ ?_
    ·(refine cov_of ?_ ?_ <;> simp [go_sem, nilN_zero])
    ·simp
    intro j hj
    have hlen := nilN_len hj
    refine awp_seq_k fun K10 hK10 => ?_
    (refine awp_sr fun Y Yh => ?_; simp [go_sem, hlen]; ((repeat' (first|(refine ag_x ?_;simp [go_sem, hlen])|intro _|apply And.intro|(apply Yh;clear Yh Y)));all_goals first|apply Hold.mk|omega|assumption|skip))
    (refine awp_if fun T F hT hF => ?_; simp [go_sem]; refine BR.intro (fun h11 => hT ?_) (fun h11 => hF ?_); all_goals clear hT hF T F; try simp at h11)
    ·refine awp_skip ?_
     refine hK10 _ ?_; clear hK10
     have hjl : j < N.length := by omega
     obtain ⟨y, hy⟩ := nilN_at hjl
     have hstp := nilN_step hjl
     generalize nilN N j = nl at *
     refine awp_seq_k fun K12 hK12 => ?_
     refine awp_block ?_
     (refine awp_r fun Y Yh => ?_; simp [go_sem, hy, hlen]; ((repeat' (first|(refine ag_x ?_;simp [go_sem, hy, hlen])|intro _|apply And.intro|(apply Yh;clear Yh Y)));all_goals first|apply Hold.mk|omega|assumption|skip))
     refine hK12 _ ?_; clear hK12
     (refine awp_r fun Y Yh => ?_; simp [go_sem]; ((repeat' (first|(refine ag_x ?_;simp [go_sem])|intro _|apply And.intro|(apply Yh;clear Yh Y)));all_goals first|apply Hold.mk|omega|assumption|skip))
     refine ⟨j + 1, ?_, by omega, by omega⟩
     (refine cov_of ?_ ?_ <;> simp [go_sem, hstp])
    ·refine awp_exit ?_
     simp only [go_sem]
     refine hK8 _ ?_; clear hK8
     have hje : j = N.length := by omega
     subst hje
     rw [nilN_end]
     refine awp_frzin 900003 7 0 rfl rfl (by decide) rfl ?_
     simp only [go_sem, List.set]
     refine awp_frzin 900004 7 1 rfl rfl (by decide) rfl ?_
     simp only [go_sem, List.set]
     (refine awp_sr fun Y Yh => ?_; simp [go_sem]; ((repeat' (first|(refine ag_x ?_;simp [go_sem])|intro _|apply And.intro|(apply Yh;clear Yh Y)));all_goals first|apply Hold.mk|omega|assumption|skip))
     (refine awp_ret ?_; simp [go_sem])
     rw [hNl]
     exact ⟨P, List.replicate P.length [], [], hlk, Weak.agg ⟨Weak.refl _, Weak.sl (weak_nils _), Weak.refl _, trivial⟩⟩
 by_cases he : e = 0
 ·subst he
  by_cases hp : 0 < L.1.length
  ·have hpi : (0 : Int) < L.1.length := by omega
   (refine awp_sr fun Y Yh => ?_; simp [go_sem, hp, hpi]; ((repeat' (first|(refine ag_x ?_;simp [go_sem, hp, hpi])|intro _|apply And.intro|(apply Yh;clear Yh Y)));all_goals first|apply Hold.mk|omega|assumption|skip))
   (refine awp_if fun T F hT hF => ?_; simp [go_sem, hp, hpi]; refine hT ?_; clear hT hF T F)
   (refine awp_sr fun Y Yh => ?_; simp [go_sem]; ((repeat' (first|(refine ag_x ?_;simp [go_sem])|intro _|apply And.intro|(apply Yh;clear Yh Y)));all_goals first|apply Hold.mk|omega|assumption|skip))
   (refine awp_ret ?_; simp [go_sem])
   obtain ⟨P, N, W⟩ := L
   exact ⟨P, N, W, hok rfl, Weak.refl _⟩
  ·have hpi : ¬ (0 : Int) < L.1.length := by omega
   (refine awp_sr fun Y Yh => ?_; simp [go_sem, hp, hpi]; ((repeat' (first|(refine ag_x ?_;simp [go_sem, hp, hpi])|intro _|apply And.intro|(apply Yh;clear Yh Y)));all_goals first|apply Hold.mk|omega|assumption|skip))
   (refine awp_if fun T F hT hF => ?_; simp [go_sem, hp, hpi]; refine hF ?_; clear hT hF T F)
   refine awp_skip ?_
   refine tl1 _ ?_
   (refine cov_of ?_ ?_ <;> simp [go_sem])
 ·have hei : ¬ (e : Int) = 0 := by omega
  (refine awp_sr fun Y Yh => ?_; simp [go_sem, he, hei]; ((repeat' (first|(refine ag_false ?_ ?_ ?_;(focus (simp [go_sem, undef, he, hei];done));(focus (simp [go_sem];done));simp [go_sem, he, hei])|(refine ag_true ?_ ?_;(focus (simp [go_sem, undef, he, hei];done));simp [go_sem, he, hei])|(refine ag_x ?_;simp [go_sem, undef, he, hei])|intro _|apply And.intro|(apply Yh;clear Yh Y)));all_goals first|apply Hold.mk|omega|assumption|skip))
  (refine awp_if fun T F hT hF => ?_; simp [go_sem, he, hei]; refine hF ?_; clear hT hF T F)
  refine awp_skip ?_
  refine tl1 _ ?_
  (refine cov_of ?_ ?_ <;> simp [go_sem])
theorem grown_spec (l : List Int) (hl : l.length ≤ 9223372036854775807) : PCall Tryz.prog 22 [dIs l] fun r => ∃ L, lockV L = true ∧ r = dLk L := pcall_weakE (grownW l hl)
end Go.Proofs.YteekfnhhlcmcgaaGreatDoor
set_option maxRecDepth 20000
namespace Go.Lk
open Go.Lib Go.Wh Go.Ver
/-! how long a valid lock's text is, and of how many lines -/
end Go.Lk
