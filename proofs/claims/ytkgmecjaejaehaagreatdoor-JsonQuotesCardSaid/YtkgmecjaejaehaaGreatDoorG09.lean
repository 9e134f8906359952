/- Part of a proof: see the last text. -/
import Derived.Test.YtkgmecjaejaehaaGreatDoorG08
import Derived.Test.YtkgmecjaejaehaaGreatDoorG04
import Derived.Test.YtkgmecjaejaehaaGreatDoorG05
import Derived.Laws.Pointers
import Derived.Laws.LoneSync
import Derived.RegionTactic
import Derived.RegionCalls
import Derived.ChangeAlike
set_option linter.unusedVariables false
set_option linter.unusedSimpArgs false
namespace Go.Proofs.YtkgmecjaejaehaaGreatDoor
open Go.Eng Go.Js
set_option maxRecDepth 20000
attribute [local irreducible] AG CallA CallT AWp PCall ACall XCall AgC
theorem contains2_spec (gl : Nat) (xs : List JV) (left deep : Int) (hd : 0 ≤ deep ∧ deep ≤ 50) (h0 : 0 ≤ left) (hl : xs.length ≤ 10000000)
  (H : ∀ x ∈ xs, ∀ lf, 0 ≤ lf → lf ≤ left → ACall Tryz.prog 96 [dJ x, .ptr 900006 gl 0, dI (deep + 1)] [(900006, bL gl lf)] [900006] fun ps r => r = dB (vldV x lf (deep + 1)).1 ∧ ps = [bL gl (vldV x lf (deep + 1)).2]) :
  ACall Tryz.prog 107 [.sl 4 (xs.map cJ), .fn 144 [.rd [.ptr 900006 gl 0], .rd [dI deep]]] [(900006, bL gl left)] [900006] fun ps r => r = dB (!(vldL xs left (deep + 1)).1) ∧ ps = [bL gl (vldL xs left (deep + 1)).2] := by
 refine acall_of Tryz.func107 rfl rfl Tryz.ntmps107 (rs := [.tmp 4]) (tys := [4]) rfl rfl (by simp) (by simp [notFroz]) ?_
 (refine awp_sr fun Y Yh => ?_; simp [go_sem]; ((repeat' (first|(refine ag_x ?_;simp [go_sem])|intro _|apply And.intro|(apply Yh;clear Yh Y)));all_goals first|apply Hold.mk|omega|with_reducible assumption|skip))
 (refine awp_sr fun Y Yh => ?_; simp [go_sem]; ((repeat' (first|(refine ag_x ?_;simp [go_sem])|intro _|apply And.intro|(apply Yh;clear Yh Y)));all_goals first|apply Hold.mk|omega|with_reducible assumption|skip))
 (refine callA_l [900006] (by first|exact .inl ⟨rfl,rfl⟩|exact .inr rfl) (by simp [go_sem]) ?_; intro args ha; simp [go_sem] at ha; subst ha; refine ⟨_, _, (index2_spec gl xs left deep hd h0 hl H), (by simp [go_sem]), ?_⟩; rintro ps r hps ⟨j, rfl, hj, rfl⟩; simp [go_sem]; ((repeat' (first|(refine ag_x ?_;simp [go_sem])|intro _|apply And.intro|(apply Yh;clear Yh Y)));all_goals first|apply Hold.mk|omega|with_reducible assumption|skip))
 (refine awp_ret ?_; simp [go_sem, retA])
 cases q : (vldL xs left (deep + 1)).1 with
 | true => rw [q] at hj; simpa using hj
 | false => rw [q] at hj; simpa using hj
set_option maxHeartbeats 8000000 in
theorem valid_all : ∀ (N : Nat) (v : JV), sizeJ v ≤ N → N ≤ 1000000 → ∀ (gl : Nat) (left deep : Int), 0 ≤ left → left ≤ 1000000 → 0 ≤ deep → deep ≤ 51 → longJ v ≤ 4611686018427387904 →
  ACall Tryz.prog 96 [dJ v, .ptr 900006 gl 0, dI deep] [(900006, bL gl left)] [900006] fun ps r => r = dB (vldV v left deep).1 ∧ ps = [bL gl (vldV v left deep).2] := by
 intro N
 induction N using Nat.strongRecOn with
 | _ N ih =>
 intro v hv hN gl left deep hl0 hl1 hd0 hd1 hlong
 obtain ⟨k, t, ns, xs⟩ := v
 have hlen := sizeJ_names k t ns xs
 have HI : ∀ x ∈ xs, ∀ lf dp, 0 ≤ lf → lf ≤ 1000000 → 0 ≤ dp → dp ≤ 51 → ACall Tryz.prog 96 [dJ x, .ptr 900006 gl 0, dI dp] [(900006, bL gl lf)] [900006] fun ps r => r = dB (vldV x lf dp).1 ∧ ps = [bL gl (vldV x lf dp).2] := fun x hx lf dp q1 q2 q3 q4 =>
  ih (sizeJ x) (by have := sizeJ_item (k := k) (t := t) (ns := ns) hx; omega) x (Nat.le_refl _) (by have := sizeJ_item (k := k) (t := t) (ns := ns) hx; omega) gl lf dp q1 q2 q3 q4 (by have := longJ_item (k := k) (t := t) (ns := ns) hx; omega)
 have htl : t.length ≤ 4611686018427387904 := by have := longJ_text k t ns xs; omega
 have hnl : ∀ s ∈ ns, s.length ≤ 9223372036854775807 := fun s hs => by have := longJ_name (k := k) (t := t) (xs := xs) hs; omega
 clear ih
 rw [dJ_mk]
 refine acall_of Tryz.func96 rfl rfl Tryz.ntmps96 (rs := [.tmp 6]) (tys := [4]) rfl rfl (by simp) (by simp [notFroz]) ?_
 refine awp_seq ?_
 refine awp_r fun Y Yh => ?_
 simp [go_sem]
 intro g3 g4 g5
 apply Yh; clear Yh Y
 refine Hold.mk ?_
 refine awp_frzbox 4 rfl rfl ?_
 refine awp_frzbox 5 rfl rfl ?_
 simp only [go_sem]
 (refine awp_sr fun Y Yh => ?_; simp [go_sem]; ((repeat' (first|(refine ag_x ?_;simp [go_sem])|intro _|apply And.intro|(apply Yh;clear Yh Y)));all_goals first|apply Hold.mk|omega|with_reducible assumption|skip))
 refine awp_seq_k fun K1 hK1 => ?_
 by_cases h2 : left - 1 < 0 ∨ 50 < deep
 ·have e : vldV (.mk k t ns xs) left deep = (false, left - 1) := by simp only [vldV]; rw [if_pos h2]
  rw [e]
  by_cases h2a : left - 1 < 0
  ·(refine awp_sr fun Y Yh => ?_; simp [go_sem, h2a]; ((repeat' (first|(refine ag_false ?_ ?_ ?_;(focus (simp [go_sem, undef, h2a];done));(focus (simp [go_sem];done));simp [go_sem, h2a])|(refine ag_x ?_;simp [go_sem, undef, h2a])|intro _|apply And.intro|(apply Yh;clear Yh Y)));all_goals first|apply Hold.mk|omega|with_reducible assumption|skip))
   (refine awp_if fun T F hT hF => ?_; simp [go_sem]; refine hT ?_; clear hT hF T F)
   (refine awp_sr fun Y Yh => ?_; simp [go_sem]; ((repeat' (first|(refine ag_x ?_;simp [go_sem])|intro _|apply And.intro|(apply Yh;clear Yh Y)));all_goals first|apply Hold.mk|omega|with_reducible assumption|skip))
   (refine awp_ret ?_; simp [go_sem, retA])
  ·have h2b : 50 < deep := by omega
   (refine awp_sr fun Y Yh => ?_; simp [go_sem, h2a, h2b]; ((repeat' (first|(refine ag_false ?_ ?_ ?_;(focus (simp [go_sem, undef, h2a, h2b];done));(focus (simp [go_sem];done));simp [go_sem, h2a, h2b])|(refine ag_x ?_;simp [go_sem, undef, h2a, h2b])|intro _|apply And.intro|(apply Yh;clear Yh Y)));all_goals first|apply Hold.mk|omega|with_reducible assumption|skip))
   (refine awp_if fun T F hT hF => ?_; simp [go_sem]; refine hT ?_; clear hT hF T F)
   (refine awp_sr fun Y Yh => ?_; simp [go_sem]; ((repeat' (first|(refine ag_x ?_;simp [go_sem])|intro _|apply And.intro|(apply Yh;clear Yh Y)));all_goals first|apply Hold.mk|omega|with_reducible assumption|skip))
   (refine awp_ret ?_; simp [go_sem, retA])
 have h2a : ¬ left - 1 < 0 := by omega
 have h2b : ¬ 50 < deep := by omega
 (refine awp_sr fun Y Yh => ?_; simp [go_sem, h2a, h2b]; ((repeat' (first|(refine ag_false ?_ ?_ ?_;(focus (simp [go_sem, undef, h2a, h2b];done));(focus (simp [go_sem];done));simp [go_sem, h2a, h2b])|(refine ag_true ?_ ?_;(focus (simp [go_sem, undef, h2a, h2b];done));simp [go_sem, h2a, h2b])|(refine ag_x ?_;simp [go_sem, undef, h2a, h2b])|intro _|apply And.intro|(apply Yh;clear Yh Y)));all_goals first|apply Hold.mk|omega|with_reducible assumption|skip))
 (refine awp_if fun T F hT hF => ?_; simp [go_sem]; refine hF ?_; clear hT hF T F)
 refine awp_skip ?_
 refine hK1 _ ?_; clear hK1
 refine awp_seq_k fun K2 hK2 => ?_
 have tl2 : ∀ S', Cov S' ⟨[(3, .ptr 3 g3 0), (4, .rd [.ptr 900006 gl 0]), (5, .rd [dI deep]), (7, dB (decide (ns = []) && decide (xs = [])))], [(3, (g3, .box [dI k, dS t, dSs ns, .sl 4 (xs.map cJ)])), (900006, bL gl (left - 1))]⟩ → K2 S' := fun S' hS => by
  refine hK2 _ ?_; clear hK2
  refine awp_cov hS ?_; clear hS
  refine awp_seq_k fun K3 hK3 => ?_
  have e : ∀ b : Bool × Int, ((if k = 0 ∨ k = 1 ∨ k = 2 ∨ k = 3 ∨ k = 4 then (decide (ns = []) && decide (xs = []) && leafV k t, left - 1)
   else if k = 5 then
    if ns ≠ [] then (false, left - 1) else if t ≠ [] then (false, left - 1) else vldL xs (left - 1) (deep + 1)
   else if k = 6 then
    if okNames ns xs.length = false then (false, left - 1) else if t ≠ [] then (false, left - 1) else vldL xs (left - 1) (deep + 1)
   else (false, left - 1)) = b) → vldV (.mk k t ns xs) left deep = b := fun b hb => by simp only [vldV]; rw [if_neg h2]; exact hb
  have tl3 : (vldV (.mk k t ns xs) left deep = if t ≠ [] then (false, left - 1) else vldL xs (left - 1) (deep + 1)) → ∀ S', Cov S' ⟨[(3, .ptr 3 g3 0), (4, .rd [.ptr 900006 gl 0]), (5, .rd [dI deep])], [(3, (g3, .box [dI k, dS t, dSs ns, .sl 4 (xs.map cJ)])), (900006, bL gl (left - 1))]⟩ → K3 S' := fun hq S' hS => by
   refine hK3 _ ?_; clear hK3
   rw [hq]
   refine awp_cov hS ?_; clear hS
   by_cases ht : t = []
   ·have HC := contains2_spec gl xs (left - 1) deep ⟨hd0, by omega⟩ (by omega) (by omega) (fun x hx lf q1 q2 => HI x hx lf (deep + 1) q1 (by omega) (by omega) (by omega))
    (refine awp_sr fun Y Yh => ?_; simp [go_sem, ht]; ((repeat' (first|(refine ag_false ?_ ?_ ?_;(focus (simp [go_sem, undef, ht];done));(focus (simp [go_sem];done));simp [go_sem, ht])|(refine ag_true ?_ ?_;(focus (simp [go_sem, undef, ht];done));simp [go_sem, ht])|(refine ag_x ?_;simp [go_sem, undef, ht])|intro _|apply And.intro|(apply Yh;clear Yh Y)));all_goals first|apply Hold.mk|omega|with_reducible assumption|skip))
    (refine callA_l [900006] (by first|exact .inl ⟨rfl,rfl⟩|exact .inr rfl) (by simp [go_sem]) ?_; intro args ha; simp [go_sem] at ha; subst ha; refine ⟨_, _, HC, (by simp [go_sem, ht]), ?_⟩; rintro ps r hps ⟨rfl, rfl⟩; simp [go_sem, ht]; ((repeat' (first|(refine ag_false ?_ ?_ ?_;(focus (simp [go_sem, undef, ht];done));(focus (simp [go_sem];done));simp [go_sem, ht])|(refine ag_true ?_ ?_;(focus (simp [go_sem, undef, ht];done));simp [go_sem, ht])|(refine ag_x ?_;simp [go_sem, undef, ht])|intro _|apply And.intro|(apply Yh;clear Yh Y)));all_goals first|apply Hold.mk|omega|with_reducible assumption|skip))
    (refine awp_ret ?_; simp [go_sem, retA, ht])
   ·(refine awp_sr fun Y Yh => ?_; simp [go_sem, ht]; ((repeat' (first|(refine ag_false ?_ ?_ ?_;(focus (simp [go_sem, undef, ht];done));(focus (simp [go_sem];done));simp [go_sem, ht])|(refine ag_true ?_ ?_;(focus (simp [go_sem, undef, ht];done));simp [go_sem, ht])|(refine ag_x ?_;simp [go_sem, undef, ht])|intro _|apply And.intro|(apply Yh;clear Yh Y)));all_goals first|apply Hold.mk|omega|with_reducible assumption|skip))
    (refine awp_ret ?_; simp [go_sem, retA, ht])
  clear hK3
  (refine awp_sr fun Y Yh => ?_; simp [go_sem]; ((repeat' (first|(refine ag_x ?_;simp [go_sem])|intro _|apply And.intro|(apply Yh;clear Yh Y)));all_goals first|apply Hold.mk|omega|with_reducible assumption|skip))
  refine awp_block ?_
  refine awp_seq_k fun K4 hK4 => ?_
  have tlL : (k = 0 ∨ k = 1 ∨ k = 2) → ∀ S', Cov S' ⟨[(3, .ptr 3 g3 0), (7, dB (decide (ns = []) && decide (xs = []))), (34, dB true)], [(3, (g3, .box [dI k, dS t, dSs ns, .sl 4 (xs.map cJ)])), (900006, bL gl (left - 1))]⟩ → K4 S' := fun hk S' hS => by
   refine hK4 _ ?_; clear hK4
   refine awp_cov hS ?_; clear hS
   rw [e _ (by rw [if_pos (by omega)])]
   have el : leafV k t = decide (t = []) := by unfold leafV; rw [if_pos hk]
   rw [el]
   (refine awp_if fun T F hT hF => ?_; simp [go_sem]; refine hT ?_; clear hT hF T F)
   cases hb : (decide (ns = []) && decide (xs = [])) with
   | true =>
    (refine awp_sr fun Y Yh => ?_; simp [go_sem]; ((repeat' (first|(refine ag_false ?_ ?_ ?_;(focus (simp [go_sem, undef];done));(focus (simp [go_sem];done));simp [go_sem])|(refine ag_true ?_ ?_;(focus (simp [go_sem, undef];done));simp [go_sem])|(refine ag_x ?_;simp [go_sem, undef])|intro _|apply And.intro|(apply Yh;clear Yh Y)));all_goals first|apply Hold.mk|omega|with_reducible assumption|skip))
    (refine awp_ret ?_; simp [go_sem, retA])
    cases t <;> rfl
   | false =>
    (refine awp_sr fun Y Yh => ?_; simp [go_sem]; ((repeat' (first|(refine ag_false ?_ ?_ ?_;(focus (simp [go_sem, undef];done));(focus (simp [go_sem];done));simp [go_sem])|(refine ag_true ?_ ?_;(focus (simp [go_sem, undef];done));simp [go_sem])|(refine ag_x ?_;simp [go_sem, undef])|intro _|apply And.intro|(apply Yh;clear Yh Y)));all_goals first|apply Hold.mk|omega|with_reducible assumption|skip))
    (refine awp_ret ?_; simp [go_sem, retA])
  have tlR : ¬ (k = 0 ∨ k = 1 ∨ k = 2) → ∀ S', Cov S' ⟨[(3, .ptr 3 g3 0), (4, .rd [.ptr 900006 gl 0]), (5, .rd [dI deep]), (7, dB (decide (ns = []) && decide (xs = []))), (33, dI k), (34, dB false)], [(3, (g3, .box [dI k, dS t, dSs ns, .sl 4 (xs.map cJ)])), (900006, bL gl (left - 1))]⟩ → K4 S' := fun hk S' hS => by
   refine hK4 _ ?_; clear hK4
   refine awp_cov hS ?_; clear hS
   (refine awp_if fun T F hT hF => ?_; simp [go_sem]; refine hF ?_; clear hT hF T F)
   (refine awp_sr fun Y Yh => ?_; simp [go_sem]; ((repeat' (first|(refine ag_x ?_;simp [go_sem])|intro _|apply And.intro|(apply Yh;clear Yh Y)));all_goals first|apply Hold.mk|omega|with_reducible assumption|skip))
   by_cases k3 : k = 3
   ·subst k3
    rw [e _ (by rw [if_pos (by omega)])]
    have el : leafV 3 t = isNumV t := by unfold leafV; rw [if_neg (by omega), if_pos rfl]
    rw [el]
    (refine awp_if fun T F hT hF => ?_; simp [go_sem]; refine hT ?_; clear hT hF T F)
    cases hb : (decide (ns = []) && decide (xs = [])) with
    | true =>
     (refine awp_sr fun Y Yh => ?_; simp [go_sem]; ((repeat' (first|(refine ag_false ?_ ?_ ?_;(focus (simp [go_sem, undef];done));(focus (simp [go_sem];done));simp [go_sem])|(refine ag_true ?_ ?_;(focus (simp [go_sem, undef];done));simp [go_sem])|(refine ag_x ?_;simp [go_sem, undef])|intro _|apply And.intro|(apply Yh;clear Yh Y)));all_goals first|apply Hold.mk|omega|with_reducible assumption|skip))
     ((try refine CallT.toA ?_); refine callT_m (by first|exact .inl ⟨rfl,rfl⟩|exact .inr rfl) (by simp [go_sem]) ?_; intro args ha; simp [go_sem] at ha; subst ha; refine ⟨_, (isNum_spec t htl), ?_⟩; rintro _ rfl; simp [go_sem]; ((repeat' (first|(refine ag_false ?_ ?_ ?_;(focus (simp [go_sem, undef];done));(focus (simp [go_sem];done));simp [go_sem])|(refine ag_true ?_ ?_;(focus (simp [go_sem, undef];done));simp [go_sem])|(refine ag_x ?_;simp [go_sem, undef])|intro _|apply And.intro|(apply Yh;clear Yh Y)));all_goals first|apply Hold.mk|omega|with_reducible assumption|skip))
     (refine awp_ret ?_; simp [go_sem, retA])
    | false =>
     (refine awp_sr fun Y Yh => ?_; simp [go_sem]; ((repeat' (first|(refine ag_false ?_ ?_ ?_;(focus (simp [go_sem, undef];done));(focus (simp [go_sem];done));simp [go_sem])|(refine ag_true ?_ ?_;(focus (simp [go_sem, undef];done));simp [go_sem])|(refine ag_x ?_;simp [go_sem, undef])|intro _|apply And.intro|(apply Yh;clear Yh Y)));all_goals first|apply Hold.mk|omega|with_reducible assumption|skip))
     (refine awp_ret ?_; simp [go_sem, retA])
   (refine awp_if fun T F hT hF => ?_; simp [go_sem, k3]; refine hF ?_; clear hT hF T F)
   (refine awp_sr fun Y Yh => ?_; simp [go_sem]; ((repeat' (first|(refine ag_x ?_;simp [go_sem])|intro _|apply And.intro|(apply Yh;clear Yh Y)));all_goals first|apply Hold.mk|omega|with_reducible assumption|skip))
   by_cases k4 : k = 4
   ·subst k4
    rw [e _ (by rw [if_pos (by omega)])]
    have el : leafV 4 t = Lib.validD t := by unfold leafV; rw [if_neg (by omega), if_neg (by omega), if_pos rfl]
    rw [el]
    (refine awp_if fun T F hT hF => ?_; simp [go_sem]; refine hT ?_; clear hT hF T F)
    cases hb : (decide (ns = []) && decide (xs = [])) with
    | true =>
     (refine awp_sr fun Y Yh => ?_; simp [go_sem]; ((repeat' (first|(refine ag_false ?_ ?_ ?_;(focus (simp [go_sem, undef];done));(focus (simp [go_sem];done));simp [go_sem])|(refine ag_true ?_ ?_;(focus (simp [go_sem, undef];done));simp [go_sem])|(refine ag_x ?_;simp [go_sem, undef])|intro _|apply And.intro|(apply Yh;clear Yh Y)));all_goals first|apply Hold.mk|omega|with_reducible assumption|skip))
     ((try refine CallT.toA ?_); refine callT_m (by first|exact .inl ⟨rfl,rfl⟩|exact .inr rfl) (by simp [go_sem]) ?_; intro args ha; simp [go_sem] at ha; subst ha; refine ⟨_, (vstr_spec t (by omega)), ?_⟩; rintro _ rfl; simp [go_sem]; ((repeat' (first|(refine ag_false ?_ ?_ ?_;(focus (simp [go_sem, undef];done));(focus (simp [go_sem];done));simp [go_sem])|(refine ag_true ?_ ?_;(focus (simp [go_sem, undef];done));simp [go_sem])|(refine ag_x ?_;simp [go_sem, undef])|intro _|apply And.intro|(apply Yh;clear Yh Y)));all_goals first|apply Hold.mk|omega|with_reducible assumption|skip))
     (refine awp_ret ?_; simp [go_sem, retA])
    | false =>
     (refine awp_sr fun Y Yh => ?_; simp [go_sem]; ((repeat' (first|(refine ag_false ?_ ?_ ?_;(focus (simp [go_sem, undef];done));(focus (simp [go_sem];done));simp [go_sem])|(refine ag_true ?_ ?_;(focus (simp [go_sem, undef];done));simp [go_sem])|(refine ag_x ?_;simp [go_sem, undef])|intro _|apply And.intro|(apply Yh;clear Yh Y)));all_goals first|apply Hold.mk|omega|with_reducible assumption|skip))
     (refine awp_ret ?_; simp [go_sem, retA])
   (refine awp_if fun T F hT hF => ?_; simp [go_sem, k4]; refine hF ?_; clear hT hF T F)
   (refine awp_sr fun Y Yh => ?_; simp [go_sem]; ((repeat' (first|(refine ag_x ?_;simp [go_sem])|intro _|apply And.intro|(apply Yh;clear Yh Y)));all_goals first|apply Hold.mk|omega|with_reducible assumption|skip))
   by_cases k5 : k = 5
   ·subst k5
    (refine awp_if fun T F hT hF => ?_; simp [go_sem]; refine hT ?_; clear hT hF T F)
    (refine awp_sr fun Y Yh => ?_; simp [go_sem]; ((repeat' (first|(refine ag_x ?_;simp [go_sem])|intro _|apply And.intro|(apply Yh;clear Yh Y)));all_goals first|apply Hold.mk|omega|with_reducible assumption|skip))
    by_cases hn : ns = []
    ·subst hn
     (refine awp_if fun T F hT hF => ?_; simp [go_sem]; refine hF ?_; clear hT hF T F)
     refine awp_skip ?_
     refine tl3 (e _ (by rw [if_neg (by omega), if_pos rfl, if_neg (by simp)])) _ ?_
     (refine cov_of ?_ ?_ <;> simp [go_sem])
    ·have hn2 : 0 < ns.length := List.length_pos_iff.2 hn
     (refine awp_if fun T F hT hF => ?_; simp [go_sem, hn2]; refine hT ?_; clear hT hF T F)
     rw [e (false, left - 1) (by rw [if_neg (by omega), if_pos rfl, if_pos hn])]
     (refine awp_sr fun Y Yh => ?_; simp [go_sem]; ((repeat' (first|(refine ag_x ?_;simp [go_sem])|intro _|apply And.intro|(apply Yh;clear Yh Y)));all_goals first|apply Hold.mk|omega|with_reducible assumption|skip))
     (refine awp_ret ?_; simp [go_sem, retA])
   (refine awp_if fun T F hT hF => ?_; simp [go_sem, k5]; refine hF ?_; clear hT hF T F)
   (refine awp_sr fun Y Yh => ?_; simp [go_sem]; ((repeat' (first|(refine ag_x ?_;simp [go_sem])|intro _|apply And.intro|(apply Yh;clear Yh Y)));all_goals first|apply Hold.mk|omega|with_reducible assumption|skip))
   by_cases k6 : k = 6
   ·subst k6
    (refine awp_if fun T F hT hF => ?_; simp [go_sem]; refine hT ?_; clear hT hF T F)
    (refine awp_sr fun Y Yh => ?_; simp [go_sem]; ((repeat' (first|(refine ag_x ?_;simp [go_sem])|intro _|apply And.intro|(apply Yh;clear Yh Y)));all_goals first|apply Hold.mk|omega|with_reducible assumption|skip))
    ((try refine CallT.toA ?_); refine callT_m (by first|exact .inl ⟨rfl,rfl⟩|exact .inr rfl) (by simp [go_sem]) ?_; intro args ha; simp [go_sem] at ha; subst ha; refine ⟨_, (seqV_spec ns), ?_⟩; rintro _ rfl; simp [go_sem]; ((repeat' (first|(refine ag_x ?_;simp [go_sem])|intro _|apply And.intro|(apply Yh;clear Yh Y)));all_goals first|apply Hold.mk|omega|with_reducible assumption|skip))
    (refine callA_l [900030] (by first|exact .inl ⟨rfl,rfl⟩|exact .inr rfl) (by simp [go_sem]) ?_; intro args ha; simp [go_sem] at ha; subst ha; refine ⟨_, _, (sortedV_spec 900030 ns (by omega) (by omega)), (by simp [go_sem]), ?_⟩; rintro ps r hps ⟨gs, rfl, rfl⟩; simp [go_sem]; ((repeat' (first|(refine ag_x ?_;simp [go_sem])|intro _|apply And.intro|(apply Yh;clear Yh Y)));all_goals first|apply Hold.mk|omega|with_reducible assumption|skip))
    by_cases n1 : ns.length = xs.length
    ·by_cases n2 : (Lib.compact (srtS ns)).length = ns.length
     ·have hok : okNames ns xs.length = true ↔ (ns.any fun s => !Lib.validD s) = false := by
       unfold okNames
       rw [show (ns.mergeSort fun x y => decide (x ≤ y)) = srtS ns from rfl, n2]
       simp [n1]
      ((refine awp_dr (.qs [0, 3, 1, 2, 4, 5, 6, 7, 8, 11] (.kq 12 (.qs [13] (.one 9 (.qs [10, 14, 15, 16, 17, 18] (.one 19 (.qs [20] .nil))))) 9 (.qs [10, 12, 13, 14, 15, 16, 17, 18] (.one 19 (.qs [20] .nil))))) (by kernel_rfl) ?_ ?_ ?_ ?_); (kernel_rfl); (exact (by decide +kernel)); (kernel_rfl); intro Y Yh; ((repeat' (first|(refine ag_false ?_ ?_ ?_;(focus (simp [go_sem, undef, n1, n2];done));(focus (simp [go_sem];done));simp [go_sem, n1, n2])|(refine ag_true ?_ ?_;(focus (simp [go_sem, undef, n1, n2];done));simp [go_sem, n1, n2])|(refine ag_x ?_;simp [go_sem, undef, n1, n2])|refine adr_nil ?_|refine adr_kq ?_ ?_|((first|refine adr_qs fun Y Yh=>?_|refine adr_y fun Y Yh=>?_);simp [go_sem, undef, n1, n2])|intro _|apply And.intro|(apply Yh;clear Yh Y)));all_goals first|apply Hold.mk|omega|with_reducible assumption|skip))
      all_goals (refine callA_l [900030] (by first|exact .inl ⟨rfl,rfl⟩|exact .inr rfl) (by simp [go_sem]) ?_; intro args ha; simp [go_sem] at ha; subst ha; refine ⟨_, _, (compact_spec 900030 gs (srtS ns) (by omega)), (by simp [go_sem, n1, n2]), ?_⟩; rintro ps r hps ⟨gc, rfl, rfl⟩; simp [go_sem, n1, n2]; ((repeat' (first|(refine ag_false ?_ ?_ ?_;(focus (simp [go_sem, undef, n1, n2];done));(focus (simp [go_sem];done));simp [go_sem, n1, n2])|(refine ag_true ?_ ?_;(focus (simp [go_sem, undef, n1, n2];done));simp [go_sem, n1, n2])|(refine ag_x ?_;simp [go_sem, undef, n1, n2])|refine adr_nil ?_|refine adr_kq ?_ ?_|((first|refine adr_qs fun Y Yh=>?_|refine adr_y fun Y Yh=>?_);simp [go_sem, undef, n1, n2])|intro _|apply And.intro|(apply Yh;clear Yh Y)));all_goals first|apply Hold.mk|omega|with_reducible assumption|skip))
      all_goals ((try refine CallT.toA ?_); refine callT_m (by first|exact .inl ⟨rfl,rfl⟩|exact .inr rfl) (by simp [go_sem]) ?_; intro args ha; simp [go_sem] at ha; subst ha; refine ⟨_, (containsS_spec ns 143 (fun s => !Lib.validD s) (fun s hs => badName_spec s (hnl s hs)) (by omega)), ?_⟩; rintro _ rfl; simp [go_sem, n1, n2]; ((repeat' (first|(refine ag_false ?_ ?_ ?_;(focus (simp [go_sem, undef, n1, n2];done));(focus (simp [go_sem];done));simp [go_sem, n1, n2])|(refine ag_true ?_ ?_;(focus (simp [go_sem, undef, n1, n2];done));simp [go_sem, n1, n2])|(refine ag_x ?_;simp [go_sem, undef, n1, n2])|refine adr_nil ?_|refine adr_kq ?_ ?_|((first|refine adr_qs fun Y Yh=>?_|refine adr_y fun Y Yh=>?_);simp [go_sem, undef, n1, n2])|intro _|apply And.intro|(apply Yh;clear Yh Y)));all_goals first|apply Hold.mk|omega|with_reducible assumption|skip))
      all_goals cases hA : (ns.any fun s => !Lib.validD s) with
       | true =>
        have hok2 : okNames ns xs.length = false := by
         cases q : okNames ns xs.length with
         | false => rfl
         | true => rw [hok.1 q] at hA; cases hA
        (refine awp_if fun T F hT hF => ?_; simp [go_sem]; refine hT ?_; clear hT hF T F)
        rw [e (false, left - 1) (by rw [if_neg (by omega), if_neg (by omega), if_pos rfl, if_pos hok2])]
        (refine awp_sr fun Y Yh => ?_; simp [go_sem]; ((repeat' (first|(refine ag_x ?_;simp [go_sem])|intro _|apply And.intro|(apply Yh;clear Yh Y)));all_goals first|apply Hold.mk|omega|with_reducible assumption|skip))
        (refine awp_ret ?_; simp [go_sem, retA])
       | false =>
        have hok2 : okNames ns xs.length = true := hok.2 hA
        (refine awp_if fun T F hT hF => ?_; simp [go_sem]; refine hF ?_; clear hT hF T F)
        refine awp_skip ?_
        refine tl3 (e _ (by rw [if_neg (by omega), if_neg (by omega), if_pos rfl, if_neg (by simp [hok2])])) _ ?_
        (refine cov_of ?_ ?_ <;> simp [go_sem])
     ·have n2' : ¬ (Lib.compact (srtS ns)).length = xs.length := by rw [← n1]; exact n2
      have hok2 : okNames ns xs.length = false := by
       unfold okNames
       rw [show (ns.mergeSort fun x y => decide (x ≤ y)) = srtS ns from rfl]
       simp [n2]
      ((refine awp_dr (.qs [0, 3, 1, 2, 4, 5, 6, 7, 8, 11] (.kq 12 (.qs [13] (.one 9 (.qs [10, 14, 15, 16, 17, 18] (.one 19 (.qs [20] .nil))))) 9 (.qs [10, 12, 13, 14, 15, 16, 17, 18] (.one 19 (.qs [20] .nil))))) (by kernel_rfl) ?_ ?_ ?_ ?_); (kernel_rfl); (exact (by decide +kernel)); (kernel_rfl); intro Y Yh; ((repeat' (first|(refine ag_false ?_ ?_ ?_;(focus (simp [go_sem, undef, n1, n2'];done));(focus (simp [go_sem];done));simp [go_sem, n1, n2'])|(refine ag_true ?_ ?_;(focus (simp [go_sem, undef, n1, n2'];done));simp [go_sem, n1, n2'])|(refine ag_x ?_;simp [go_sem, undef, n1, n2'])|refine adr_nil ?_|refine adr_kq ?_ ?_|((first|refine adr_qs fun Y Yh=>?_|refine adr_y fun Y Yh=>?_);simp [go_sem, undef, n1, n2'])|intro _|apply And.intro|(apply Yh;clear Yh Y)));all_goals first|apply Hold.mk|omega|with_reducible assumption|skip))
      all_goals (refine callA_l [900030] (by first|exact .inl ⟨rfl,rfl⟩|exact .inr rfl) (by simp [go_sem]) ?_; intro args ha; simp [go_sem] at ha; subst ha; refine ⟨_, _, (compact_spec 900030 gs (srtS ns) (by omega)), (by simp [go_sem, n1, n2']), ?_⟩; rintro ps r hps ⟨gc, rfl, rfl⟩; simp [go_sem, n1, n2']; ((repeat' (first|(refine ag_false ?_ ?_ ?_;(focus (simp [go_sem, undef, n1, n2'];done));(focus (simp [go_sem];done));simp [go_sem, n1, n2'])|(refine ag_true ?_ ?_;(focus (simp [go_sem, undef, n1, n2'];done));simp [go_sem, n1, n2'])|(refine ag_x ?_;simp [go_sem, undef, n1, n2'])|refine adr_nil ?_|refine adr_kq ?_ ?_|((first|refine adr_qs fun Y Yh=>?_|refine adr_y fun Y Yh=>?_);simp [go_sem, undef, n1, n2'])|intro _|apply And.intro|(apply Yh;clear Yh Y)));all_goals first|apply Hold.mk|omega|with_reducible assumption|skip))
      all_goals (refine awp_if fun T F hT hF => ?_; simp [go_sem]; refine hT ?_; clear hT hF T F)
      all_goals rw [e (false, left - 1) (by rw [if_neg (by omega), if_neg (by omega), if_pos rfl, if_pos hok2])]
      all_goals (refine awp_sr fun Y Yh => ?_; simp [go_sem]; ((repeat' (first|(refine ag_x ?_;simp [go_sem])|intro _|apply And.intro|(apply Yh;clear Yh Y)));all_goals first|apply Hold.mk|omega|with_reducible assumption|skip))
      all_goals (refine awp_ret ?_; simp [go_sem, retA])
    ·have hok2 : okNames ns xs.length = false := by
      unfold okNames
      simp [n1]
     ((refine awp_dr (.qs [0, 3, 1, 2, 4, 5, 6, 7, 8, 11, 12, 13] (.kp 9 (.qs [10, 14, 15, 16, 17] (.nb (.qs [18] (.one 19 (.qs [20] (.nil)))))))) (by kernel_rfl) ?_ ?_ ?_ ?_); (kernel_rfl); (exact (by decide +kernel)); (kernel_rfl); intro Y Yh; ((repeat' (first|(refine ag_x ?_;simp [go_sem, n1])|refine adr_nil ?_|((first|refine adr_qs fun Y Yh=>?_|refine adr_y fun Y Yh=>?_);simp [go_sem, n1])|intro _|apply And.intro|(apply Yh;clear Yh Y)));all_goals first|apply Hold.mk|omega|with_reducible assumption|skip))
     refine agc_n (.sl 1 []) ?_
     ((repeat' (first|(refine ag_x ?_;simp [go_sem, n1])|refine adr_nil ?_|refine adr_two ?_ ?_|refine adr_kq ?_ ?_|refine adr_three ?_ ?_ ?_|refine adr_four ?_ ?_ ?_ ?_|refine adr_kp2 ?_ ?_|refine adr_kp3 ?_ ?_ ?_|((first|refine adr_qs fun Y Yh=>?_|refine adr_y fun Y Yh=>?_);simp [go_sem, n1])|intro _|apply And.intro|(apply Yh;clear Yh Y)));all_goals first|apply Hold.mk|omega|with_reducible assumption|skip)
     refine agc_n (dB false) ?_
     ((repeat' (first|(refine ag_x ?_;simp [go_sem, n1])|refine adr_nil ?_|refine adr_two ?_ ?_|refine adr_kq ?_ ?_|refine adr_three ?_ ?_ ?_|refine adr_four ?_ ?_ ?_ ?_|refine adr_kp2 ?_ ?_|refine adr_kp3 ?_ ?_ ?_|((first|refine adr_qs fun Y Yh=>?_|refine adr_y fun Y Yh=>?_);simp [go_sem, n1])|intro _|apply And.intro|(apply Yh;clear Yh Y)));all_goals first|apply Hold.mk|omega|with_reducible assumption|skip)
     (refine awp_if fun T F hT hF => ?_; simp [go_sem]; refine hT ?_; clear hT hF T F)
     rw [e (false, left - 1) (by rw [if_neg (by omega), if_neg (by omega), if_pos rfl, if_pos hok2])]
     (refine awp_sr fun Y Yh => ?_; simp [go_sem]; ((repeat' (first|(refine ag_x ?_;simp [go_sem])|intro _|apply And.intro|(apply Yh;clear Yh Y)));all_goals first|apply Hold.mk|omega|with_reducible assumption|skip))
     (refine awp_ret ?_; simp [go_sem, retA])
   (refine awp_if fun T F hT hF => ?_; simp [go_sem, k6]; refine hF ?_; clear hT hF T F)
   rw [e (false, left - 1) (by rw [if_neg (by omega), if_neg k5, if_neg k6])]
   (refine awp_sr fun Y Yh => ?_; simp [go_sem]; ((repeat' (first|(refine ag_x ?_;simp [go_sem])|intro _|apply And.intro|(apply Yh;clear Yh Y)));all_goals first|apply Hold.mk|omega|with_reducible assumption|skip))
   (refine awp_ret ?_; simp [go_sem, retA])
  clear hK4
  (refine awp_sr fun Y Yh => ?_; simp [go_sem]; ((repeat' (first|(refine ag_x ?_;simp [go_sem])|intro _|apply And.intro|(apply Yh;clear Yh Y)));all_goals first|apply Hold.mk|omega|with_reducible assumption|skip))
  by_cases k0 : k = 0
  ·(refine awp_if fun T F hT hF => ?_; simp [go_sem, k0]; refine hT ?_; clear hT hF T F)
   refine awp_skip ?_
   refine tlL (.inl k0) _ ?_
   (refine cov_of ?_ ?_ <;> simp [go_sem])
   exact k0
  (refine awp_if fun T F hT hF => ?_; simp [go_sem, k0]; refine hF ?_; clear hT hF T F)
  (refine awp_sr fun Y Yh => ?_; simp [go_sem]; ((repeat' (first|(refine ag_x ?_;simp [go_sem])|intro _|apply And.intro|(apply Yh;clear Yh Y)));all_goals first|apply Hold.mk|omega|with_reducible assumption|skip))
  by_cases k1 : k = 1
  ·(refine awp_if fun T F hT hF => ?_; simp [go_sem, k1]; refine hT ?_; clear hT hF T F)
   refine awp_skip ?_
   refine tlL (.inr (.inl k1)) _ ?_
   (refine cov_of ?_ ?_ <;> simp [go_sem])
   exact k1
  (refine awp_if fun T F hT hF => ?_; simp [go_sem, k1]; refine hF ?_; clear hT hF T F)
  (refine awp_r fun Y Yh => ?_; simp [go_sem]; ((repeat' (first|(refine ag_x ?_;simp [go_sem])|intro _|apply And.intro|(apply Yh;clear Yh Y)));all_goals first|apply Hold.mk|omega|with_reducible assumption|skip))
  by_cases k2 : k = 2
  ·refine tlL (.inr (.inr k2)) _ ?_
   (refine cov_of ?_ ?_ <;> simp [go_sem])
   exact k2
  ·refine tlR (by omega) _ ?_
   (refine cov_of ?_ ?_ <;> simp [go_sem])
   exact k2
 clear hK2
 by_cases c1 : ns = []
 ·by_cases c2 : xs = []
  ·subst c1 c2
   (refine awp_r fun Y Yh => ?_; simp [go_sem]; ((repeat' (first|(refine ag_false ?_ ?_ ?_;(focus (simp [go_sem, undef];done));(focus (simp [go_sem];done));simp [go_sem])|(refine ag_true ?_ ?_;(focus (simp [go_sem, undef];done));simp [go_sem])|(refine ag_x ?_;simp [go_sem, undef])|intro _|apply And.intro|(apply Yh;clear Yh Y)));all_goals first|apply Hold.mk|omega|with_reducible assumption|skip))
   refine tl2 _ ?_
   (refine cov_of ?_ ?_ <;> simp [go_sem])
  ·subst c1
   (refine awp_r fun Y Yh => ?_; simp [go_sem, c2]; ((repeat' (first|(refine ag_false ?_ ?_ ?_;(focus (simp [go_sem, undef, c2];done));(focus (simp [go_sem];done));simp [go_sem, c2])|(refine ag_true ?_ ?_;(focus (simp [go_sem, undef, c2];done));simp [go_sem, c2])|(refine ag_x ?_;simp [go_sem, undef, c2])|intro _|apply And.intro|(apply Yh;clear Yh Y)));all_goals first|apply Hold.mk|omega|with_reducible assumption|skip))
   refine tl2 _ ?_
   (refine cov_of ?_ ?_ <;> simp [go_sem])
   simp [c2]
 ·(refine awp_r fun Y Yh => ?_; simp [go_sem, c1]; ((repeat' (first|(refine ag_false ?_ ?_ ?_;(focus (simp [go_sem, undef, c1];done));(focus (simp [go_sem];done));simp [go_sem, c1])|(refine ag_true ?_ ?_;(focus (simp [go_sem, undef, c1];done));simp [go_sem, c1])|(refine ag_x ?_;simp [go_sem, undef, c1])|intro _|apply And.intro|(apply Yh;clear Yh Y)));all_goals first|apply Hold.mk|omega|with_reducible assumption|skip))
  refine tl2 _ ?_
  (refine cov_of ?_ ?_ <;> simp [go_sem])
  simp [c1]
def okV (v : JV) : Bool := (vldV v 2000 1).1
theorem check_spec (v : JV) (h1 : sizeJ v ≤ 1000000) (h2 : longJ v ≤ 4611686018427387904) : PCall Tryz.prog 49 [dJ v] fun r => r = dI (if okV v then 0 else 1) := by
 have HV := fun gl => valid_all (sizeJ v) v (Nat.le_refl _) h1 gl 2000 1 (by omega) (by omega) (by omega) (by omega) h2
 unfold okV
 generalize vldV v 2000 1 = q at HV ⊢
 obtain ⟨k, t, ns, xs⟩ := v
 rw [dJ_mk] at HV ⊢
 refine pcall_of Tryz.func49 rfl rfl Tryz.ntmps49 (rs := [.tmp 2]) (tys := [27]) rfl rfl (by simp) ?_
 refine awp_seq ?_
 refine awp_r fun Y Yh => ?_
 simp [go_sem]
 intro g1
 apply Yh; clear Yh Y
 refine Hold.mk ?_
 (refine awp_sr fun Y Yh => ?_; simp [go_sem]; ((repeat' (first|(refine ag_x ?_;simp [go_sem])|intro _|apply And.intro|(apply Yh;clear Yh Y)));all_goals first|apply Hold.mk|omega|with_reducible assumption|skip))
 refine awp_renbox 3 900006 rfl rfl (by decide) fun gl => ?_
 simp only [go_sem]
 refine awp_seq_k fun K1 hK1 => ?_
 (refine awp_sr fun Y Yh => ?_; simp [go_sem]; ((repeat' (first|(refine ag_x ?_;simp [go_sem])|intro _|apply And.intro|(apply Yh;clear Yh Y)));all_goals first|apply Hold.mk|omega|with_reducible assumption|skip))
 (refine callA_l [900006] (by first|exact .inl ⟨rfl,rfl⟩|exact .inr rfl) (by simp [go_sem]) ?_; intro args ha; simp [go_sem] at ha; subst ha; refine ⟨_, _, (HV gl), (by simp [go_sem]), ?_⟩; rintro ps r hps ⟨rfl, rfl⟩; simp [go_sem]; ((repeat' (first|(refine ag_x ?_;simp [go_sem])|intro _|apply And.intro|(apply Yh;clear Yh Y)));all_goals first|apply Hold.mk|omega|with_reducible assumption|skip))
 cases hq : q.1 with
 | false =>
  (refine awp_if fun T F hT hF => ?_; simp [go_sem]; refine hT ?_; clear hT hF T F)
  (refine awp_sr fun Y Yh => ?_; simp [go_sem]; ((repeat' (first|(refine ag_x ?_;simp [go_sem])|intro _|apply And.intro|(apply Yh;clear Yh Y)));all_goals first|apply Hold.mk|omega|with_reducible assumption|skip))
  (refine awp_ret ?_; simp [go_sem, hq])
 | true =>
  (refine awp_if fun T F hT hF => ?_; simp [go_sem]; refine hF ?_; clear hT hF T F)
  refine awp_skip ?_
  refine hK1 _ ?_; clear hK1
  (refine awp_sr fun Y Yh => ?_; simp [go_sem]; ((repeat' (first|(refine ag_x ?_;simp [go_sem])|intro _|apply And.intro|(apply Yh;clear Yh Y)));all_goals first|apply Hold.mk|omega|with_reducible assumption|skip))
  (refine awp_ret ?_; simp [go_sem, hq])
end Go.Proofs.YtkgmecjaejaehaaGreatDoor
namespace Go.Eng
set_option linter.unusedSectionVars false
variable {P : Program} [HasGlob P] [HasPan P]
variable {n : Nat} {S : St} {Q : Exit → St → Prop}
theorem awp_renpb {c : Code} (s s' sb j : Nat) {g gb : Nat} {xs cs : List D} (hx : look S.heap s = some (g, .box xs)) (hb : look S.heap sb = some (gb, .box cs)) (hne : sb ≠ s) (hne' : s' ≠ sb) (hj : cs[j]? = some (.ptr s g 0)) (h9 : 900000 ≤ s → 900000 ≤ s')
  (h : ∀ g', AWp P n c (((S.drop s).hput s' g' (.box xs)).hput sb gb (.box (cs.set j (.ptr s' g' 0)))) Q) : AWp P n c S Q := by
 intro w0 B C0 C a w E I
 obtain ⟨g', C', u, I', hu, hv, ext⟩ := I.rename hx rfl s' h9
 refine h g' E (I'.boxSet (cs := cs) ?_ (by simp) fun i cc cc' v q1 q2 hr hone => ?_)
 ·rw [look_hput, if_neg hne']
  exact (look_erase_ne hne).trans hb
 ·rw [List.getElem?_set] at q2
  split at q2
  ·rename_i e1
   subst e1
   split at q2
   ·simp only [Option.some.injEq] at q2
    subst q2
    rw [hj] at q1
    simp only [Option.some.injEq] at q1
    subst q1
    cases hr with
    | ptr _ _ _ b p1 =>
     have := ext.val _ _ _ hu
     rw [p1] at this
     simp only [Option.some.injEq] at this
     subst this
     exact .ptr _ _ _ _ hv
   ·cases q2
  ·rw [q1] at q2
   simp only [Option.some.injEq] at q2
   subst q2
   exact hr
theorem awp_renpr {c : Code} (s s' so i : Nat) {g go eo : Nat} {xs : List D} {ces : List (List D)} (hx : look S.heap s = some (g, .box xs)) (ho : look S.heap so = some (go, .row eo 1 ces)) (hne : so ≠ s) (hne' : s' ≠ so) (hj : ces[i]? = some [.ptr s g 0]) (h9 : 900000 ≤ s → 900000 ≤ s')
  (h : ∀ g', AWp P n c (((S.drop s).hput s' g' (.box xs)).hput so go (.row eo 1 (ces.set i [.ptr s' g' 0]))) Q) : AWp P n c S Q := by
 intro w0 B C0 C a w E I
 obtain ⟨g', C', u, I', hu, hv, ext⟩ := I.rename hx rfl s' h9
 obtain ⟨_, _, _, _, _, hk, _⟩ := I.heap _ _ _ ho
 refine h g' E (I'.rowSet (so := so) (go := go) (e := eo) (k := 1) (es := ces) ?_ (by simp) (fun x hx' => ?_) fun i m x x' cc cc' v h1 h2 h3 h4 hr hone => ?_)
 ·rw [look_hput, if_neg hne']
  exact (look_erase_ne hne).trans ho
 ·rcases List.mem_or_eq_of_mem_set hx' with q | q
  ·exact hk x q
  ·rw [q]; rfl
 ·rw [List.getElem?_set] at h3
  split at h3
  ·rename_i e1
   subst e1
   split at h3
   ·simp only [Option.some.injEq] at h3
    subst h3
    rw [hj] at h1
    simp only [Option.some.injEq] at h1
    subst h1
    match m, h2, h4 with
    | 0, h2, h4 =>
     simp only [List.getElem?_cons_zero, Option.some.injEq] at h2 h4
     subst h2 h4
     cases hr with
     | ptr _ _ _ b p1 =>
      have := ext.val _ _ _ hu
      rw [p1] at this
      simp only [Option.some.injEq] at this
      subst this
      exact .ptr _ _ _ _ hv
    | m + 1, h2, h4 => simp at h2
   ·cases h3
  ·rw [h1] at h3
   simp only [Option.some.injEq] at h3
   subst h3
   rw [h2] at h4
   simp only [Option.some.injEq] at h4
   subst h4
   exact hr
theorem Inv.boxRd {w0 : World} {B : Nat → Nat → Prop} {C0 C : Ctx} {a : Act} {w : World} (I : Inv w0 B C0 n S C a w) {s g : Nat} {xs : List D} (hx : look S.heap s = some (g, .box xs)) {v : Value} (hr : Rep (C.kill s g) w (.ptr s g 0) v) : Rep (C.kill s g) w (.rd xs) v := by
 obtain ⟨b, arr, ty, h1, h2, h3, h4, h5⟩ := I.heap s g _ hx
 cases hr with
 | ptr _ _ _ b' q1 =>
  have q1 : C.val s g = some (.pointer (some ⟨b', 0, none⟩)) := q1
  rw [h1] at q1
  simp only [Option.some.injEq, Value.pointer.injEq, Addr.mk.injEq, and_true] at q1
  subst q1
  refine .rd xs b 0 (fun j => arr.getD j undef) (fun j c hj => ⟨fun ⟨s', g', u', p1, p2, p3⟩ => ?_, ?_⟩) fun j c hj => ?_
  ·simp only [Ctx.kill] at p1 p2
   split at p2
   ·cases p2
   ·rename_i hne
    exact hne (I.apart s' g' u' s g _ b p1 p2 h1 h2 p3 rfl)
  ·have hj' : j < arr.size := by rw [h4]; exact (List.getElem?_eq_some_iff.1 hj).1
   simp [World.cell?, h3, hj']
  ·have hj' : j < arr.size := by rw [h4]; exact (List.getElem?_eq_some_iff.1 hj).1
   have := (h5 j c arr[j] hj (by simp [hj'])).1.mono (Ext.kill C w s g)
   simpa [hj'] using this
theorem awp_frzpb {c : Code} (s sb j : Nat) {g gb : Nat} {xs cs : List D} (hx : look S.heap s = some (g, .box xs)) (hb : look S.heap sb = some (gb, .box cs)) (hne : sb ≠ s) (hj : cs[j]? = some (.ptr s g 0))
  (h : AWp P n c ((S.drop s).hput sb gb (.box (cs.set j (.rd xs)))) Q) : AWp P n c S Q := by
 intro w0 B C0 C a w E I
 refine h E ((I.leave hx).boxSet (cs := cs) ((look_erase_ne hne).trans hb) (by simp) fun i cc cc' v q1 q2 hr hone => ?_)
 rw [List.getElem?_set] at q2
 split at q2
 ·rename_i e1
  subst e1
  split at q2
  ·simp only [Option.some.injEq] at q2
   subst q2
   rw [hj] at q1
   simp only [Option.some.injEq] at q1
   subst q1
   exact I.boxRd hx hr
  ·cases q2
 ·rw [q1] at q2
  simp only [Option.some.injEq] at q2
  subst q2
  exact hr
theorem awp_frzpr {c : Code} (s so i : Nat) {g go eo : Nat} {xs : List D} {ces : List (List D)} (hx : look S.heap s = some (g, .box xs)) (ho : look S.heap so = some (go, .row eo 1 ces)) (hne : so ≠ s) (hj : ces[i]? = some [.ptr s g 0])
  (h : AWp P n c ((S.drop s).hput so go (.row eo 1 (ces.set i [.rd xs]))) Q) : AWp P n c S Q := by
 intro w0 B C0 C a w E I
 obtain ⟨_, _, _, _, _, hk, _⟩ := I.heap _ _ _ ho
 refine h E ((I.leave hx).rowSet (es := ces) ((look_erase_ne hne).trans ho) (by simp) (fun x hx' => ?_) fun i m x x' cc cc' v h1 h2 h3 h4 hr hone => ?_)
 ·rcases List.mem_or_eq_of_mem_set hx' with q | q
  ·exact hk x q
  ·rw [q]; rfl
 ·rw [List.getElem?_set] at h3
  split at h3
  ·rename_i e1
   subst e1
   split at h3
   ·simp only [Option.some.injEq] at h3
    subst h3
    rw [hj] at h1
    simp only [Option.some.injEq] at h1
    subst h1
    match m, h2, h4 with
    | 0, h2, h4 =>
     simp only [List.getElem?_cons_zero, Option.some.injEq] at h2 h4
     subst h2 h4
     exact I.boxRd hx hr
    | m + 1, h2, h4 => simp at h2
   ·cases h3
  ·rw [h1] at h3
   simp only [Option.some.injEq] at h3
   subst h3
   rw [h2] at h4
   simp only [Option.some.injEq] at h4
   subst h4
   exact hr
theorem awp_renrb {c : Code} (s s' sb j : Nat) {g gb e k : Nat} {es : List (List D)} {cs : List D} (hx : look S.heap s = some (g, .row e k es)) (hb : look S.heap sb = some (gb, .box cs)) (hne : sb ≠ s) (hne' : s' ≠ sb) (hj : cs[j]? = some (.own s g)) (h9 : 900000 ≤ s → 900000 ≤ s')
  (h : ∀ g', AWp P n c (((S.drop s).hput s' g' (.row e k es)).hput sb gb (.box (cs.set j (.own s' g')))) Q) : AWp P n c S Q := by
 intro w0 B C0 C a w E I
 obtain ⟨g', C', u, I', hu, hv, ext⟩ := I.rename hx rfl s' h9
 refine h g' E (I'.boxSet (cs := cs) ?_ (by simp) fun i cc cc' v q1 q2 hr hone => ?_)
 ·rw [look_hput, if_neg hne']
  exact (look_erase_ne hne).trans hb
 ·rw [List.getElem?_set] at q2
  split at q2
  ·rename_i e1
   subst e1
   split at q2
   ·simp only [Option.some.injEq] at q2
    subst q2
    rw [hj] at q1
    simp only [Option.some.injEq] at q1
    subst q1
    cases hr with
    | own _ _ _ p1 p2 =>
     have := ext.val _ _ _ hu
     rw [p1] at this
     simp only [Option.some.injEq] at this
     subst this
     exact .own _ _ _ hv p2
   ·cases q2
  ·rw [q1] at q2
   simp only [Option.some.injEq] at q2
   subst q2
   exact hr
set_option linter.unusedSectionVars false
variable {P : Program} [HasGlob P] [HasPan P]
variable {n : Nat} {S : St} {Q : Exit → St → Prop}
/-! pointers and slices against nil, where it is known -/
def isNilD : Value → D → Option Bool
 | .pointer none, .v (.pointer none) => some true
 | .pointer none, .ptr _ _ _ => some false
 | .pointer none, .rd _ => some false
 | .slice none 0 0, .v (.slice none 0 0) => some true
 | .slice none 0 0, .sl _ (_ :: _) => some false
 | _, _ => none
def nOp (op : BinOp) (b : Bool) : Bool := match op with
 | .eql => b
 | _ => !b
def isSl (P : Program) (t : TypeId) : Bool := match P.underlying t with
 | some (.slice _) => true
 | _ => false
theorem isSl_spec {t : TypeId} (h : isSl P t = true) : ∃ e, P.underlying t = some (.slice e) := by
 unfold isSl at h
 split at h
 ·exact ⟨_, ‹_›⟩
 ·cases h
theorem ptrnil_run {t : TypeId} (ht : ptrOf P t = true) (x : Operand) (ao : Option Addr) (w : World) :
  (do eqGuard .eql t x (.const (.pointer none)) (.pointer ao) (.pointer none); binOp .eql t (.pointer ao) (.pointer none) : Sem Value).run P w = .ok (.bool ao.isNone) w ∧
  (do eqGuard .neq t x (.const (.pointer none)) (.pointer ao) (.pointer none); binOp .neq t (.pointer ao) (.pointer none) : Sem Value).run P w = .ok (.bool (!ao.isNone)) w := by
 obtain ⟨e, i, h1, h2, h3⟩ := ptrOf_spec ht
 have he : ∀ d, (Op.equalIn (d + 1) t (.pointer ao) (.pointer none)).run P w = .ok ao.isNone w := fun d => by
  cases ao <;> simp [Op.equalIn, run_underlying h1]
 have gd : ∀ op, eqGuard op t x (.const (.pointer none)) (.pointer ao) (.pointer none) = pure () := fun op => by unfold eqGuard; split <;> rfl
 constructor
 ·rw [gd]
  simp only [binOp, Op.equal, Op.maxDepth]
  simp [he 9999]
 ·rw [gd]
  simp only [binOp, Op.equal, Op.maxDepth]
  simp [he 9999]
theorem ag_nil {ops : List Oper} {dst : Option Nat} {op : BinOp} {t yt ty : TypeId} {x : Operand} {nv : Value} {pos : String} {after : Array Edge} {guard : Option (Nat × Bool)} {K : St → Prop} (b : Bool)
  (hg : gcond ops S ⟨dst, .binOp op t x (.const nv) yt, ty, pos, after, guard⟩ = some true) (hd : dstOk n dst) (hop : op = .eql ∨ op = .neq)
  (ht : (ptrOf P t = true ∧ nv = .pointer none) ∨ (isSl P t = true ∧ nv = .slice none 0 0))
  (h : evK true S x fun d => isNilD nv d = some b ∧ K (S.set dst (.v (.bool (nOp op b))))) : AG P n ops ⟨dst, .binOp op t x (.const nv) yt, ty, pos, after, guard⟩ S K := by
 intro w0 B C0 C a w E I N Q hN _
 rw [gcond_ok I hg, if_pos rfl]
 obtain ⟨d, ⟨hb, hk⟩, hr⟩ := evK_ok I h
 have hr := hr rfl
 refine wp_val (u := .bool (nOp op b)) (w' := w) ?_ (hN _ _ ⟨_, C, hk, I.set (dstOk_spec hd) (.v _)⟩)
 rcases ht with ⟨ht, rfl⟩ | ⟨ht, rfl⟩
 ·have key : ∃ ao, a.eval x = .pointer ao ∧ ao.isNone = b := by
   generalize a.eval x = ux at hr
   cases hr with
   | v u =>
    unfold isNilD at hb
    split at hb <;> simp_all
   | ptr s g off bb hv => simp [isNilD] at hb; subst hb; exact ⟨_, rfl, rfl⟩
   | rd cs bb o us hc hh => simp [isNilD] at hb; subst hb; exact ⟨_, rfl, rfl⟩
   | _ => simp [isNilD] at hb
  obtain ⟨ao, e1, rfl⟩ := key
  have e2 : a.eval (.const (.pointer none)) = .pointer none := rfl
  have R := ptrnil_run ht x ao w
  rcases hop with rfl | rfl
  ·have hr := R.1
   simp only [execOp, e1, e2, Sem.run_bind] at hr ⊢
   rw [hr]
   simp [nOp]
  ·have hr := R.2
   simp only [execOp, e1, e2, Sem.run_bind] at hr ⊢
   rw [hr]
   simp [nOp]
 ·obtain ⟨e, ht⟩ := isSl_spec ht
  have key : ∃ ao m cap, a.eval x = .slice ao m cap ∧ ao.isNone = b := by
   generalize a.eval x = ux at hr
   cases hr with
   | v u =>
    unfold isNilD at hb
    split at hb <;> simp_all
   | slE => simp [isNilD] at hb
   | sl k es bb o cap us =>
    cases es with
    | nil => simp [isNilD] at hb
    | cons e es => simp [isNilD] at hb; subst hb; exact ⟨_, _, _, rfl, rfl⟩
   | _ => simp [isNilD] at hb
  obtain ⟨ao, m, cap, e1, rfl⟩ := key
  have e2 : a.eval (.const (.slice none 0 0)) = .slice none 0 0 := rfl
  have R := bin_nil (x := x) (y := .const (.slice none 0 0)) ht ao m cap w
  rcases hop with rfl | rfl
  ·have hr := R.1
   simp only [execOp, e1, e2, Sem.run_bind] at hr ⊢
   rw [hr]
   simp [nOp]
  ·have hr := R.2
   simp only [execOp, e1, e2, Sem.run_bind] at hr ⊢
   rw [hr]
   simp [nOp]
end Go.Eng
namespace Go.Proofs.YtkgmecjaejaehaaGreatDoor
open Go.Eng Go.Js
set_option maxRecDepth 20000
attribute [local irreducible] AG CallA CallT AWp PCall ACall XCall AgC
abbrev nP : D := .v (.pointer none)
abbrev nS : D := .v (.slice none 0 0)
abbrev zN : List D := [dS [], dI 0, dS [], nP, nS]
abbrev lfN (v : Bs) (p : Int) : List D := [dS v, dI p, dS [], nP, nS]
abbrev chN (c : UInt8) (v : Bs) (p : Int) : List D := [dS [], dI 0, dS [c], .rd (lfN v p), nS]
abbrev chM (c : UInt8) (g2 : Nat) : List D := [dS [], dI 0, dS [c], .ptr 900042 g2 0, nS]
theorem leaf_spec (g gR : Nat) (v : Bs) (p : Int) (rc : List D) : ACall Tryz.prog 221 [.ptr 900042 g 0, dS [], dS v, dI p, .ptr 900040 gR 0] [(900042, (g, .box zN)), (900040, (gR, .box rc))] [900042, 900040] fun ps r => ps = [(g, .box (lfN v p)), (gR, .box rc)] ∧ r = .tup [] := by
 refine acall_of Tryz.func221 rfl rfl Tryz.ntmps221 (rs := []) (tys := []) rfl rfl (by simp) (by simp [notFroz]) ?_
 refine awp_seq_k fun K1 hK1 => ?_
 (refine awp_sr fun Y Yh => ?_; simp [go_sem]; ((repeat' (first|(refine ag_x ?_;simp [go_sem])|intro _|apply And.intro|(apply Yh;clear Yh Y)));all_goals first|apply Hold.mk|omega|with_reducible assumption|skip))
 (refine awp_if fun T F hT hF => ?_; simp [go_sem]; refine hT ?_; clear hT hF T F)
 refine awp_seq_k fun K2 hK2 => ?_
 (refine awp_sr fun Y Yh => ?_; simp [go_sem]; ((repeat' (first|(refine ag_x ?_;simp [go_sem])|intro _|apply And.intro|(apply Yh;clear Yh Y)));all_goals first|apply Hold.mk|omega|with_reducible assumption|skip))
 (refine awp_if fun T F hT hF => ?_; simp [go_sem]; refine hT ?_; clear hT hF T F)
 (refine awp_sr fun Y Yh => ?_; simp [go_sem]; ((repeat' (first|(refine ag_x ?_;simp [go_sem])|intro _|apply And.intro|(apply Yh;clear Yh Y)));all_goals first|apply Hold.mk|omega|with_reducible assumption|skip))
 (refine awp_r fun Y Yh => ?_; simp [go_sem]; ((repeat' (first|(refine ag_x ?_;simp [go_sem])|intro _|apply And.intro|(apply Yh;clear Yh Y)));all_goals first|apply Hold.mk|omega|with_reducible assumption|skip))
 refine hK2 _ ?_; clear hK2
 (refine awp_ret ?_; simp [go_sem, retA])
theorem chain_spec (g gR : Nat) (c : UInt8) (v : Bs) (p : Int) (rc : List D) : ACall Tryz.prog 221 [.ptr 900043 g 0, dS [c], dS v, dI p, .ptr 900040 gR 0] [(900043, (g, .box zN)), (900040, (gR, .box rc))] [900043, 900042, 900040] fun ps r => ∃ g2, ps = [(g, .box (chM c g2)), (g2, .box (lfN v p)), (gR, .box rc)] ∧ r = .tup [] := by
 refine acall_of Tryz.func221 rfl rfl Tryz.ntmps221 (rs := []) (tys := []) rfl rfl (by simp) (by simp [notFroz]) ?_
 refine awp_seq_k fun K1 hK1 => ?_
 (refine awp_sr fun Y Yh => ?_; simp [go_sem]; ((repeat' (first|(refine ag_x ?_;simp [go_sem])|intro _|apply And.intro|(apply Yh;clear Yh Y)));all_goals first|apply Hold.mk|omega|with_reducible assumption|skip))
 (refine awp_if fun T F hT hF => ?_; simp [go_sem]; refine hF ?_; clear hT hF T F)
 refine awp_skip ?_
 refine hK1 _ ?_; clear hK1
 (refine awp_sr fun Y Yh => ?_; simp [go_sem]; ((repeat' (first|(refine ag_x ?_;simp [go_sem])|intro _|apply And.intro|(apply Yh;clear Yh Y)));all_goals first|apply Hold.mk|omega|with_reducible assumption|skip))
 (refine awp_if fun T F hT hF => ?_; simp [go_sem]; refine hF ?_; clear hT hF T F)
 (refine awp_seq ?_; refine awp_ags ?_; simp only [AGs])
 (refine ag_true rfl ?_; simp [go_sem])
 (refine ag_true rfl ?_; simp [go_sem])
 (refine ag_true rfl ?_; simp [go_sem])
 (refine ag_true rfl ?_; simp [go_sem])
 (refine ag_nil true rfl (by simp [dstOk]) (by simp) (by first | exact .inl ⟨by kernel_rfl, rfl⟩ | exact .inr ⟨by kernel_rfl, rfl⟩) ?_; simp [go_sem, isNilD, nOp])
 (refine awp_if fun T F hT hF => ?_; simp [go_sem]; refine hF ?_; clear hT hF T F)
 (refine awp_sr fun Y Yh => ?_; simp [go_sem]; ((repeat' (first|(refine ag_x ?_;simp [go_sem])|intro _|apply And.intro|(apply Yh;clear Yh Y)));all_goals first|apply Hold.mk|omega|with_reducible assumption|skip))
 (refine awp_sr fun Y Yh => ?_; simp [go_sem]; ((repeat' (first|(refine ag_x ?_;simp [go_sem])|intro _|apply And.intro|(apply Yh;clear Yh Y)));all_goals first|apply Hold.mk|omega|with_reducible assumption|skip))
 refine awp_renpb 230 900042 900043 3 rfl rfl (by decide) (by decide) rfl (by decide) fun g2 => ?_
 simp only [go_sem, List.set]
 (refine awp_r fun Y Yh => ?_; simp [go_sem]; ((repeat' (first|(refine ag_x ?_;simp [go_sem])|intro _|apply And.intro|(apply Yh;clear Yh Y)));all_goals first|apply Hold.mk|omega|with_reducible assumption|skip))
 (refine callA_l [900042, 900040] (by first|exact .inl ⟨rfl,rfl⟩|exact .inr rfl) (by simp [go_sem]) ?_; intro args ha; simp [go_sem] at ha; subst ha; refine ⟨_, _, (leaf_spec g2 gR v p rc), (by simp [go_sem]), ?_⟩; rintro ps r hps ⟨rfl, rfl⟩; simp [go_sem]; ((repeat' (first|(refine ag_x ?_;simp [go_sem])|intro _|apply And.intro|(apply Yh;clear Yh Y)));all_goals first|apply Hold.mk|omega|with_reducible assumption|skip))
 unfold retA
 simp [go_sem, notFroz]
def mpL (f : Nat → Int) : List D := (List.range 256).map fun i => .v (.int .u8 (f i))
def rC (t0 ts : D) (f : Nat → Int) : List D := dS [] :: dI 0 :: dS [] :: nP :: t0 :: ts :: mpL f
@[go_sem] theorem mpL_len (f : Nat → Int) : (mpL f).length = 256 := by simp [mpL]
@[go_sem] theorem rC_len (t0 ts : D) (f : Nat → Int) : (rC t0 ts f).length = 262 := by simp [rC, mpL_len]
theorem mpL_get (f : Nat → Int) {c : Nat} (h : c < 256) : (mpL f)[c]? = some (.v (.int .u8 (f c))) := by simp [mpL, h]
theorem mpL_drop (f : Nat → Int) {c : Nat} (h : c < 256) : (mpL f).drop c = .v (.int .u8 (f c)) :: (mpL f).drop (c + 1) := by
 rw [List.drop_eq_getElem_cons (by rw [mpL_len]; exact h)]
 congr 1
 simp [mpL]
theorem rC_drop (t0 ts : D) (f : Nat → Int) {c : Nat} (h : c < 256) : (rC t0 ts f).drop (6 + c) = .v (.int .u8 (f c)) :: (rC t0 ts f).drop (6 + c + 1) := by
 have e : 6 + c = c + 6 := Nat.add_comm _ _
 rw [e]
 unfold rC
 simp only [List.drop_succ_cons]
 exact mpL_drop f h
theorem rC_put (t0 ts : D) (f : Nat → Int) {c : Nat} (h : c < 256) (x : Int) : (rC t0 ts f).take (6 + c) ++ (.v (.int .u8 x) :: (rC t0 ts f).drop (6 + c + 1)) = rC t0 ts (fun i => if i = c then x else f i) := by
 have e : 6 + c = c + 6 := Nat.add_comm _ _
 rw [e]
 unfold rC
 simp only [List.drop_succ_cons, List.take_succ_cons, List.cons_append]
 congr 6
 have e2 : (mpL f).take c ++ (.v (.int .u8 x) :: (mpL f).drop (c + 1)) = (mpL f).set c (.v (.int .u8 x)) := by
  rw [List.set_eq_take_append_cons_drop, if_pos (by rw [mpL_len]; exact h)]
 rw [e2]
 apply List.ext_getElem?
 intro i
 rw [List.getElem?_set, mpL_len]
 by_cases hi : i < 256
 ·rw [mpL_get _ hi, mpL_get _ hi]
  by_cases e : c = i
  ·subst e; simp [h]
  ·rw [if_neg e, if_neg (Ne.symm e)]
 ·rw [if_neg (by omega), List.getElem?_eq_none (by rw [mpL_len]; omega), List.getElem?_eq_none (by rw [mpL_len]; omega)]
@[go_sem] theorem rC_d4 (t0 ts : D) (f : Nat → Int) : (rC t0 ts f).drop 4 = t0 :: ts :: mpL f := rfl
@[go_sem] theorem rC_d5 (t0 ts : D) (f : Nat → Int) : (rC t0 ts f).drop 5 = ts :: mpL f := rfl
@[go_sem] theorem rC_d6 (t0 ts : D) (f : Nat → Int) : (rC t0 ts f).drop 6 = mpL f := rfl
@[go_sem] theorem rC_g4 (t0 ts : D) (f : Nat → Int) : (rC t0 ts f)[4]? = some t0 := rfl
@[go_sem] theorem rC_g5 (t0 ts : D) (f : Nat → Int) : (rC t0 ts f)[5]? = some ts := rfl
set_option maxHeartbeats 8000000 in
theorem split_spec (g gR i j : Nat) (hij : (i = 0 ∧ j = 1) ∨ (i = 1 ∧ j = 0)) (c c' : UInt8) (v v' : Bs) (p p' : Int) (t0 : D) (f : Nat → Int) (hc : c ≠ c') (h1 : f c.toNat = i) (h2 : f c'.toNat = j) :
  ACall Tryz.prog 221 [.ptr 900043 g 0, dS [c'], dS v', dI p', .ptr 900040 gR 0] [(900043, (g, .box (chN c v p))), (900040, (gR, .box (rC t0 (dI 3) f)))] [900043, 900044, 900042, 900040] fun ps r =>
   ∃ gt g2, ps = [(g, .box [dS [], dI 0, dS [], nP, .own 900044 gt]), (gt, .row 270 1 (((List.replicate 3 [nP]).set i [.rd (lfN v p)]).set j [.ptr 900042 g2 0])), (g2, .box (lfN v' p')), (gR, .box (rC t0 (dI 3) f))] ∧ r = .tup [] := by
 refine acall_of Tryz.func221 rfl rfl Tryz.ntmps221 (rs := []) (tys := []) rfl rfl (by simp) (by simp [notFroz]) ?_
 refine awp_seq_k fun K1 hK1 => ?_
 (refine awp_sr fun Y Yh => ?_; simp [go_sem]; ((repeat' (first|(refine ag_x ?_;simp [go_sem])|intro _|apply And.intro|(apply Yh;clear Yh Y)));all_goals first|apply Hold.mk|omega|with_reducible assumption|skip))
 (refine awp_if fun T F hT hF => ?_; simp [go_sem]; refine hF ?_; clear hT hF T F)
 refine awp_skip ?_
 refine hK1 _ ?_; clear hK1
 (refine awp_sr fun Y Yh => ?_; simp [go_sem]; ((repeat' (first|(refine ag_x ?_;simp [go_sem])|intro _|apply And.intro|(apply Yh;clear Yh Y)));all_goals first|apply Hold.mk|omega|with_reducible assumption|skip))
 (refine awp_if fun T F hT hF => ?_; simp [go_sem]; refine hT ?_; clear hT hF T F)
 (refine awp_sr fun Y Yh => ?_; simp [go_sem]; ((repeat' (first|(refine ag_x ?_;simp [go_sem])|intro _|apply And.intro|(apply Yh;clear Yh Y)));all_goals first|apply Hold.mk|omega|with_reducible assumption|skip))
 refine awp_seq_k fun K2 hK2 => ?_
 refine awp_block ?_
 refine awp_loop (σ := Unit) (fun _ => ⟨[(10, dI 0), (0, .ptr 900043 g 0), (1, dS [c']), (2, dS v'), (3, dI p'), (4, .ptr 900040 gR 0)], [(900043, (g, .box (chN c v p))), (900040, (gR, .box (rC t0 (dI 3) f)))]⟩) (fun _ => True) (fun _ => 0) () (by (refine cov_of ?_ ?_ <;> simp [go_sem])) trivial ?_
 rintro ⟨⟩ _
 refine awp_seq_k fun K3 hK3 => ?_
 (refine awp_sr fun Y Yh => ?_; simp [go_sem]; ((repeat' (first|(refine ag_false ?_ ?_ ?_;(focus (simp [go_sem, undef];done));(focus (simp [go_sem];done));simp [go_sem])|(refine ag_true ?_ ?_;(focus (simp [go_sem, undef];done));simp [go_sem])|(refine ag_x ?_;simp [go_sem, undef])|intro _|apply And.intro|(apply Yh;clear Yh Y)));all_goals first|apply Hold.mk|omega|with_reducible assumption|skip))
 (refine awp_if fun T F hT hF => ?_; simp [go_sem]; refine hT ?_; clear hT hF T F)
 refine awp_skip ?_
 refine hK3 _ ?_; clear hK3
 refine awp_seq_k fun K4 hK4 => ?_
 refine awp_block ?_
 ((refine awp_dr (.qs [0, 1, 2, 4, 6, 7, 8, 3, 5, 9] (.nil)) (by kernel_rfl) ?_ ?_ ?_ ?_); (kernel_rfl); (exact (by decide +kernel)); (kernel_rfl); intro Y Yh; ((repeat' (first|(refine ag_x ?_;simp [go_sem])|refine adr_nil ?_|((first|refine adr_qs fun Y Yh=>?_|refine adr_y fun Y Yh=>?_);simp [go_sem])|intro _|apply And.intro|(apply Yh;clear Yh Y)));all_goals first|apply Hold.mk|omega|with_reducible assumption|skip))
 have hne : ¬ c.toNat = c'.toNat := fun h => hc (UInt8.toNat_inj.1 h)
 (refine awp_if fun T F hT hF => ?_; simp [go_sem, hne]; refine hT ?_; clear hT hF T F)
 refine awp_exit ?_
 simp only [go_sem]
 refine hK2 _ ?_; clear hK2
 (refine awp_sr fun Y Yh => ?_; simp [go_sem]; ((repeat' (first|(refine ag_x ?_;simp [go_sem])|intro _|apply And.intro|(apply Yh;clear Yh Y)));all_goals first|apply Hold.mk|omega|with_reducible assumption|skip))
 (refine awp_if fun T F hT hF => ?_; simp [go_sem]; refine hF ?_; clear hT hF T F)
 (refine awp_sr fun Y Yh => ?_; simp [go_sem]; ((repeat' (first|(refine ag_x ?_;simp [go_sem])|intro _|apply And.intro|(apply Yh;clear Yh Y)));all_goals first|apply Hold.mk|omega|with_reducible assumption|skip))
 (refine awp_if fun T F hT hF => ?_; simp [go_sem]; refine hT ?_; clear hT hF T F)
 (refine awp_sr fun Y Yh => ?_; simp [go_sem]; ((repeat' (first|(refine ag_x ?_;simp [go_sem])|intro _|apply And.intro|(apply Yh;clear Yh Y)));all_goals first|apply Hold.mk|omega|with_reducible assumption|skip))
 refine awp_seq_k fun K5 hK5 => ?_
 (refine awp_sr fun Y Yh => ?_; simp [go_sem]; ((repeat' (first|(refine ag_x ?_;simp [go_sem])|intro _|apply And.intro|(apply Yh;clear Yh Y)));all_goals first|apply Hold.mk|omega|with_reducible assumption|skip))
 (refine awp_if fun T F hT hF => ?_; simp [go_sem]; refine hT ?_; clear hT hF T F)
 (refine awp_r fun Y Yh => ?_; simp [go_sem]; ((repeat' (first|(refine ag_x ?_;simp [go_sem])|intro _|apply And.intro|(apply Yh;clear Yh Y)));all_goals first|apply Hold.mk|omega|with_reducible assumption|skip))
 refine hK5 _ ?_; clear hK5
 (refine awp_sr fun Y Yh => ?_; simp [go_sem]; ((repeat' (first|(refine ag_x ?_;simp [go_sem])|intro _|apply And.intro|(apply Yh;clear Yh Y)));all_goals first|apply Hold.mk|omega|with_reducible assumption|skip))
 refine awp_renbox 12 900042 rfl rfl (by decide) fun g2 => ?_
 simp only [go_sem]
 (refine awp_sr fun Y Yh => ?_; simp [go_sem]; ((repeat' (first|(refine ag_x ?_;simp [go_sem])|intro _|apply And.intro|(apply Yh;clear Yh Y)));all_goals first|apply Hold.mk|omega|with_reducible assumption|skip))
 refine awp_renrb 107 900044 900043 4 rfl rfl (by decide) (by decide) rfl (by decide) fun gt => ?_
 simp only [go_sem, List.set]
 have hcl : c.toNat < 256 := c.toNat_lt
 have hcl' : c'.toNat < 256 := c'.toNat_lt
 rcases hij with ⟨rfl, rfl⟩ | ⟨rfl, rfl⟩
 ·((refine awp_dr (.qs [0, 1, 2, 4, 5, 6, 7, 10, 11, 14, 3, 8, 9, 12, 13, 15] (.one 16 (.nil))) (by kernel_rfl) ?_ ?_ ?_ ?_); (kernel_rfl); (exact (by decide +kernel)); (kernel_rfl); intro Y Yh; ((repeat' (first|(refine ag_x ?_;simp [go_sem, rC_drop t0 (dI 3) f hcl, h1])|refine adr_nil ?_|((first|refine adr_qs fun Y Yh=>?_|refine adr_y fun Y Yh=>?_);simp [go_sem, rC_drop t0 (dI 3) f hcl, h1])|intro _|apply And.intro|(apply Yh;clear Yh Y)));all_goals first|apply Hold.mk|omega|with_reducible assumption|skip))
  ((refine awp_dr (.qs [0, 1, 2, 4, 5, 6, 7, 8, 9, 11, 3, 10, 12] (.one 13 (.nil))) (by kernel_rfl) ?_ ?_ ?_ ?_); (kernel_rfl); (exact (by decide +kernel)); (kernel_rfl); intro Y Yh; ((repeat' (first|(refine ag_x ?_;simp [go_sem, rC_drop t0 (dI 3) f hcl', h2])|refine adr_nil ?_|((first|refine adr_qs fun Y Yh=>?_|refine adr_y fun Y Yh=>?_);simp [go_sem, rC_drop t0 (dI 3) f hcl', h2])|intro _|apply And.intro|(apply Yh;clear Yh Y)));all_goals first|apply Hold.mk|omega|with_reducible assumption|skip))
  (refine awp_sr fun Y Yh => ?_; simp [go_sem]; ((repeat' (first|(refine ag_x ?_;simp [go_sem])|intro _|apply And.intro|(apply Yh;clear Yh Y)));all_goals first|apply Hold.mk|omega|with_reducible assumption|skip))
  (refine awp_sr fun Y Yh => ?_; simp [go_sem]; ((repeat' (first|(refine ag_x ?_;simp [go_sem])|intro _|apply And.intro|(apply Yh;clear Yh Y)));all_goals first|apply Hold.mk|omega|with_reducible assumption|skip))
  (refine awp_r fun Y Yh => ?_; simp [go_sem]; ((repeat' (first|(refine ag_x ?_;simp [go_sem])|intro _|apply And.intro|(apply Yh;clear Yh Y)));all_goals first|apply Hold.mk|omega|with_reducible assumption|skip))
  (refine callA_l [900042, 900040] (by first|exact .inl ⟨rfl,rfl⟩|exact .inr rfl) (by simp [go_sem]) ?_; intro args ha; simp [go_sem] at ha; subst ha; refine ⟨_, _, (leaf_spec g2 gR v' p' (rC t0 (dI 3) f)), (by simp [go_sem]), ?_⟩; rintro ps r hps ⟨rfl, rfl⟩; simp [go_sem]; ((repeat' (first|(refine ag_x ?_;simp [go_sem])|intro _|apply And.intro|(apply Yh;clear Yh Y)));all_goals first|apply Hold.mk|omega|with_reducible assumption|skip))
  unfold retA
  simp [go_sem, notFroz]
 ·((refine awp_dr (.qs [0, 1, 2, 4, 5, 6, 7, 10, 11, 14, 3, 8, 9, 12, 13, 15] (.one 16 (.nil))) (by kernel_rfl) ?_ ?_ ?_ ?_); (kernel_rfl); (exact (by decide +kernel)); (kernel_rfl); intro Y Yh; ((repeat' (first|(refine ag_x ?_;simp [go_sem, rC_drop t0 (dI 3) f hcl, h1])|refine adr_nil ?_|((first|refine adr_qs fun Y Yh=>?_|refine adr_y fun Y Yh=>?_);simp [go_sem, rC_drop t0 (dI 3) f hcl, h1])|intro _|apply And.intro|(apply Yh;clear Yh Y)));all_goals first|apply Hold.mk|omega|with_reducible assumption|skip))
  ((refine awp_dr (.qs [0, 1, 2, 4, 5, 6, 7, 8, 9, 11, 3, 10, 12] (.one 13 (.nil))) (by kernel_rfl) ?_ ?_ ?_ ?_); (kernel_rfl); (exact (by decide +kernel)); (kernel_rfl); intro Y Yh; ((repeat' (first|(refine ag_x ?_;simp [go_sem, rC_drop t0 (dI 3) f hcl', h2])|refine adr_nil ?_|((first|refine adr_qs fun Y Yh=>?_|refine adr_y fun Y Yh=>?_);simp [go_sem, rC_drop t0 (dI 3) f hcl', h2])|intro _|apply And.intro|(apply Yh;clear Yh Y)));all_goals first|apply Hold.mk|omega|with_reducible assumption|skip))
  (refine awp_sr fun Y Yh => ?_; simp [go_sem]; ((repeat' (first|(refine ag_x ?_;simp [go_sem])|intro _|apply And.intro|(apply Yh;clear Yh Y)));all_goals first|apply Hold.mk|omega|with_reducible assumption|skip))
  (refine awp_sr fun Y Yh => ?_; simp [go_sem]; ((repeat' (first|(refine ag_x ?_;simp [go_sem])|intro _|apply And.intro|(apply Yh;clear Yh Y)));all_goals first|apply Hold.mk|omega|with_reducible assumption|skip))
  (refine awp_r fun Y Yh => ?_; simp [go_sem]; ((repeat' (first|(refine ag_x ?_;simp [go_sem])|intro _|apply And.intro|(apply Yh;clear Yh Y)));all_goals first|apply Hold.mk|omega|with_reducible assumption|skip))
  (refine callA_l [900042, 900040] (by first|exact .inl ⟨rfl,rfl⟩|exact .inr rfl) (by simp [go_sem]) ?_; intro args ha; simp [go_sem] at ha; subst ha; refine ⟨_, _, (leaf_spec g2 gR v' p' (rC t0 (dI 3) f)), (by simp [go_sem]), ?_⟩; rintro ps r hps ⟨rfl, rfl⟩; simp [go_sem]; ((repeat' (first|(refine ag_x ?_;simp [go_sem])|intro _|apply And.intro|(apply Yh;clear Yh Y)));all_goals first|apply Hold.mk|omega|with_reducible assumption|skip))
  unfold retA
  simp [go_sem, notFroz]
@[go_sem] theorem rC_d0 (t0 ts : D) (f : Nat → Int) : (rC t0 ts f).drop 0 = dS [] :: dI 0 :: dS [] :: nP :: t0 :: ts :: mpL f := rfl
@[go_sem] theorem rC_d1 (t0 ts : D) (f : Nat → Int) : (rC t0 ts f).drop 1 = dI 0 :: dS [] :: nP :: t0 :: ts :: mpL f := rfl
@[go_sem] theorem rC_d2 (t0 ts : D) (f : Nat → Int) : (rC t0 ts f).drop 2 = dS [] :: nP :: t0 :: ts :: mpL f := rfl
@[go_sem] theorem rC_d3 (t0 ts : D) (f : Nat → Int) : (rC t0 ts f).drop 3 = nP :: t0 :: ts :: mpL f := rfl
@[go_sem] theorem rC_g0 (t0 ts : D) (f : Nat → Int) : (rC t0 ts f)[0]? = some (dS []) := rfl
@[go_sem] theorem rC_g1 (t0 ts : D) (f : Nat → Int) : (rC t0 ts f)[1]? = some (dI 0) := rfl
@[go_sem] theorem rC_g2 (t0 ts : D) (f : Nat → Int) : (rC t0 ts f)[2]? = some (dS []) := rfl
@[go_sem] theorem rC_g3 (t0 ts : D) (f : Nat → Int) : (rC t0 ts f)[3]? = some nP := rfl
set_option maxHeartbeats 8000000 in
theorem root1_spec (gR gt : Nat) (c : UInt8) (v : Bs) (p : Int) (f : Nat → Int) (h2 : f 126 = 2) :
  ACall Tryz.prog 221 [.ptr 900040 gR 0, dS [126, c], dS v, dI p, .ptr 900040 gR 0] [(900040, (gR, .box (rC (.own 900041 gt) (dI 3) f))), (900041, (gt, .row 270 1 [[nP], [nP], [nP]]))] [900040, 900041, 900043, 900042] fun ps r =>
   ∃ gN g2, ps = [(gR, .box (rC (.own 900041 gt) (dI 3) f)), (gt, .row 270 1 [[nP], [nP], [.ptr 900043 gN 0]]), (gN, .box (chM c g2)), (g2, .box (lfN v p))] ∧ r = .tup [] := by
 refine acall_of Tryz.func221 rfl rfl Tryz.ntmps221 (rs := []) (tys := []) rfl rfl (by simp) (by simp [notFroz]) ?_
 have hr := rC_drop (.own 900041 gt) (dI 3) f (show 126 < 256 by decide)
 refine awp_seq_k fun K1 hK1 => ?_
 (refine awp_sr fun Y Yh => ?_; simp [go_sem]; ((repeat' (first|(refine ag_x ?_;simp [go_sem])|intro _|apply And.intro|(apply Yh;clear Yh Y)));all_goals first|apply Hold.mk|omega|with_reducible assumption|skip))
 (refine awp_if fun T F hT hF => ?_; simp [go_sem]; refine hF ?_; clear hT hF T F)
 refine awp_skip ?_
 refine hK1 _ ?_; clear hK1
 (refine awp_sr fun Y Yh => ?_; simp [go_sem]; ((repeat' (first|(refine ag_x ?_;simp [go_sem])|intro _|apply And.intro|(apply Yh;clear Yh Y)));all_goals first|apply Hold.mk|omega|with_reducible assumption|skip))
 (refine awp_if fun T F hT hF => ?_; simp [go_sem]; refine hF ?_; clear hT hF T F)
 (refine awp_sr fun Y Yh => ?_; simp [go_sem]; ((repeat' (first|(refine ag_x ?_;simp [go_sem])|intro _|apply And.intro|(apply Yh;clear Yh Y)));all_goals first|apply Hold.mk|omega|with_reducible assumption|skip))
 (refine awp_if fun T F hT hF => ?_; simp [go_sem]; refine hT ?_; clear hT hF T F)
 ((refine awp_dr (.qs [0, 1, 2, 3, 4, 5, 6, 7] (.nil)) (by kernel_rfl) ?_ ?_ ?_ ?_); (kernel_rfl); (exact (by decide +kernel)); (kernel_rfl); intro Y Yh; ((repeat' (first|(refine ag_x ?_;simp [go_sem, hr, h2])|refine adr_nil ?_|((first|refine adr_qs fun Y Yh=>?_|refine adr_y fun Y Yh=>?_);simp [go_sem, hr, h2])|intro _|apply And.intro|(apply Yh;clear Yh Y)));all_goals first|apply Hold.mk|omega|with_reducible assumption|skip))
 refine awp_seq_k fun K2 hK2 => ?_
 (refine awp_seq ?_; refine awp_ags ?_; simp only [AGs])
 (refine ag_true rfl ?_; simp [go_sem])
 (refine ag_true rfl ?_; simp [go_sem])
 (refine ag_true rfl ?_; simp [go_sem])
 (refine ag_true rfl ?_; simp [go_sem])
 (refine ag_true rfl ?_; simp [go_sem])
 (refine ag_true rfl ?_; simp [go_sem])
 (refine ag_true rfl ?_; simp [go_sem])
 (refine ag_nil true rfl (by simp [dstOk]) (by simp) (by first | exact .inl ⟨by kernel_rfl, rfl⟩ | exact .inr ⟨by kernel_rfl, rfl⟩) ?_; simp [go_sem, isNilD, nOp])
 (refine awp_if fun T F hT hF => ?_; simp [go_sem]; refine hT ?_; clear hT hF T F)
 (refine awp_r fun Y Yh => ?_; simp [go_sem]; ((repeat' (first|(refine ag_x ?_;simp [go_sem])|intro _|apply And.intro|(apply Yh;clear Yh Y)));all_goals first|apply Hold.mk|omega|with_reducible assumption|skip))
 refine hK2 _ ?_; clear hK2
 refine awp_renpr 210 900043 900041 2 rfl rfl (by decide) (by decide) rfl (by decide) fun gN => ?_
 simp only [go_sem, List.set]
 ((refine awp_d (.qs [0, 1, 2, 4, 7, 8, 9, 10, 11, 3, 5, 6] (.one 12 (.nil))) (by kernel_rfl) ?_ ?_ ?_ ?_); (kernel_rfl); (exact (by decide +kernel)); (kernel_rfl); intro Y Yh; ((repeat' (first|(refine ag_x ?_;simp [go_sem])|refine adr_nil ?_|((first|refine adr_qs fun Y Yh=>?_|refine adr_y fun Y Yh=>?_);simp [go_sem])|intro _|apply And.intro|(apply Yh;clear Yh Y)));all_goals first|apply Hold.mk|omega|with_reducible assumption|skip))
 (refine callA_l [900043, 900042, 900040] (by first|exact .inl ⟨rfl,rfl⟩|exact .inr rfl) (by simp [go_sem]) ?_; intro args ha; simp [go_sem] at ha; subst ha; refine ⟨_, _, (chain_spec gN gR c v p (rC (.own 900041 gt) (dI 3) f)), (by simp [go_sem]), ?_⟩; rintro ps r hps ⟨g2, rfl, rfl⟩; simp [go_sem]; ((repeat' (first|(refine ag_x ?_;simp [go_sem])|refine adr_nil ?_|((first|refine adr_qs fun Y Yh=>?_|refine adr_y fun Y Yh=>?_);simp [go_sem])|intro _|apply And.intro|(apply Yh;clear Yh Y)));all_goals first|apply Hold.mk|omega|with_reducible assumption|skip))
 unfold retA
 simp [go_sem, notFroz]
set_option maxHeartbeats 8000000 in
theorem root2_spec (gR gt gN i j : Nat) (hij : (i = 0 ∧ j = 1) ∨ (i = 1 ∧ j = 0)) (c c' : UInt8) (v v' : Bs) (p p' : Int) (f : Nat → Int) (h2 : f 126 = 2) (hc : c ≠ c') (hi : f c.toNat = i) (hj : f c'.toNat = j) :
  ACall Tryz.prog 221 [.ptr 900040 gR 0, dS [126, c'], dS v', dI p', .ptr 900040 gR 0] [(900040, (gR, .box (rC (.own 900041 gt) (dI 3) f))), (900041, (gt, .row 270 1 [[nP], [nP], [.ptr 900043 gN 0]])), (900043, (gN, .box (chN c v p)))] [900040, 900041, 900043, 900044, 900042] fun ps r =>
   ∃ g1 g2, ps = [(gR, .box (rC (.own 900041 gt) (dI 3) f)), (gt, .row 270 1 [[nP], [nP], [.ptr 900043 gN 0]]), (gN, .box [dS [], dI 0, dS [], nP, .own 900044 g1]), (g1, .row 270 1 (((List.replicate 3 [nP]).set i [.rd (lfN v p)]).set j [.ptr 900042 g2 0])), (g2, .box (lfN v' p'))] ∧ r = .tup [] := by
 refine acall_of Tryz.func221 rfl rfl Tryz.ntmps221 (rs := []) (tys := []) rfl rfl (by simp) (by simp [notFroz]) ?_
 have hr := rC_drop (.own 900041 gt) (dI 3) f (show 126 < 256 by decide)
 have HS := fun i j hij hi hj => split_spec gN gR i j hij c c' v v' p p' (.own 900041 gt) f hc hi hj
 generalize hT : (((List.replicate 3 [nP]).set i [D.rd (lfN v p)]).set j) = T
 have HS := HS i j hij hi hj
 rw [hT] at HS
 refine awp_seq_k fun K1 hK1 => ?_
 (refine awp_sr fun Y Yh => ?_; simp [go_sem]; ((repeat' (first|(refine ag_x ?_;simp [go_sem])|intro _|apply And.intro|(apply Yh;clear Yh Y)));all_goals first|apply Hold.mk|omega|with_reducible assumption|skip))
 (refine awp_if fun T F hT hF => ?_; simp [go_sem]; refine hF ?_; clear hT hF T F)
 refine awp_skip ?_
 refine hK1 _ ?_; clear hK1
 (refine awp_sr fun Y Yh => ?_; simp [go_sem]; ((repeat' (first|(refine ag_x ?_;simp [go_sem])|intro _|apply And.intro|(apply Yh;clear Yh Y)));all_goals first|apply Hold.mk|omega|with_reducible assumption|skip))
 (refine awp_if fun T F hT hF => ?_; simp [go_sem]; refine hF ?_; clear hT hF T F)
 (refine awp_sr fun Y Yh => ?_; simp [go_sem]; ((repeat' (first|(refine ag_x ?_;simp [go_sem])|intro _|apply And.intro|(apply Yh;clear Yh Y)));all_goals first|apply Hold.mk|omega|with_reducible assumption|skip))
 (refine awp_if fun T F hT hF => ?_; simp [go_sem]; refine hT ?_; clear hT hF T F)
 ((refine awp_dr (.qs [0, 1, 2, 3, 4, 5, 6, 7] (.nil)) (by kernel_rfl) ?_ ?_ ?_ ?_); (kernel_rfl); (exact (by decide +kernel)); (kernel_rfl); intro Y Yh; ((repeat' (first|(refine ag_x ?_;simp [go_sem, hr, h2])|refine adr_nil ?_|((first|refine adr_qs fun Y Yh=>?_|refine adr_y fun Y Yh=>?_);simp [go_sem, hr, h2])|intro _|apply And.intro|(apply Yh;clear Yh Y)));all_goals first|apply Hold.mk|omega|with_reducible assumption|skip))
 refine awp_seq_k fun K2 hK2 => ?_
 (refine awp_seq ?_; refine awp_ags ?_; simp only [AGs])
 (refine ag_true rfl ?_; simp [go_sem])
 (refine ag_true rfl ?_; simp [go_sem])
 (refine ag_true rfl ?_; simp [go_sem])
 (refine ag_true rfl ?_; simp [go_sem])
 (refine ag_true rfl ?_; simp [go_sem])
 (refine ag_true rfl ?_; simp [go_sem])
 (refine ag_true rfl ?_; simp [go_sem])
 (refine ag_nil false rfl (by simp [dstOk]) (by simp) (by first | exact .inl ⟨by kernel_rfl, rfl⟩ | exact .inr ⟨by kernel_rfl, rfl⟩) ?_; simp [go_sem, isNilD, nOp])
 (refine awp_if fun T F hT hF => ?_; simp [go_sem]; refine hF ?_; clear hT hF T F)
 refine awp_skip ?_
 refine hK2 _ ?_; clear hK2
 ((refine awp_d (.qs [0, 1, 2, 4, 7, 8, 9, 10, 11, 3, 5, 6] (.one 12 (.nil))) (by kernel_rfl) ?_ ?_ ?_ ?_); (kernel_rfl); (exact (by decide +kernel)); (kernel_rfl); intro Y Yh; ((repeat' (first|(refine ag_x ?_;simp [go_sem])|refine adr_nil ?_|((first|refine adr_qs fun Y Yh=>?_|refine adr_y fun Y Yh=>?_);simp [go_sem])|intro _|apply And.intro|(apply Yh;clear Yh Y)));all_goals first|apply Hold.mk|omega|with_reducible assumption|skip))
 (refine callA_l [900043, 900044, 900042, 900040] (by first|exact .inl ⟨rfl,rfl⟩|exact .inr rfl) (by simp [go_sem]) ?_; intro args ha; simp [go_sem] at ha; subst ha; refine ⟨_, _, HS, (by simp [go_sem]), ?_⟩; rintro ps r hps ⟨g1, g2, rfl, rfl⟩; simp [go_sem]; ((repeat' (first|(refine ag_x ?_;simp [go_sem])|refine adr_nil ?_|((first|refine adr_qs fun Y Yh=>?_|refine adr_y fun Y Yh=>?_);simp [go_sem])|intro _|apply And.intro|(apply Yh;clear Yh Y)));all_goals first|apply Hold.mk|omega|with_reducible assumption|skip))
 unfold retA
 simp [go_sem, notFroz]
end Go.Proofs.YtkgmecjaejaehaaGreatDoor
namespace Go.Eng
set_option linter.unusedSectionVars false
variable {P : Program} [HasGlob P] [HasPan P]
variable {n : Nat} {S : St} {Q : Exit → St → Prop}
def arrI (P : Program) (t : TypeId) (m : Nat) : Bool := match P.underlying t with
 | some (.array m' e) => m' == m && (match P.underlying e with | some (.int _) => true | _ => false) && (match P.info? e with | some i => i.size == 1 | none => false)
 | _ => false
theorem arrI_spec {t : TypeId} {m : Nat} (h : arrI P t m = true) : ∃ e q i, P.underlying t = some (.array m e) ∧ P.underlying e = some (.int q) ∧ P.info? e = some i ∧ i.size = 1 := by
 unfold arrI at h
 split at h
 ·rename_i m' e h1
  simp only [Bool.and_eq_true, beq_iff_eq] at h
  obtain ⟨⟨rfl, h2⟩, h3⟩ := h
  split at h2
  ·rename_i q h4
   split at h3
   ·rename_i i h5
    exact ⟨e, q, i, h1, h4, h5, by simpa using h3⟩
   ·cases h3
  ·cases h2
 ·cases h
theorem ag_idxagg {ops : List Oper} {dst : Option Nat} {t ty : TypeId} {x y : Operand} {pos : String} {after : Array Edge} {guard : Option (Nat × Bool)} {K : St → Prop} (m : Nat)
  (hg : gcond ops S ⟨dst, .index t x y, ty, pos, after, guard⟩ = some true) (hd : dstOk n dst) (ht : arrI P t m = true)
  (h : evK true S x fun dx => ∃ cs, dx = .agg cs ∧ evK true S y fun dy => ∃ (i : Nat) (d : D), dy = .v (.int .i64 i) ∧ i < m ∧ cs[i]? = some d ∧ K (S.set dst d)) : AG P n ops ⟨dst, .index t x y, ty, pos, after, guard⟩ S K := by
 intro w0 B C0 C a w E I N Q hN _
 rw [gcond_ok I hg, if_pos rfl]
 obtain ⟨e, q, inf, h1, h2, h3, h4⟩ := arrI_spec ht
 obtain ⟨dx, ⟨cs, rfl, hy⟩, hrx⟩ := evK_ok I h
 obtain ⟨dy, ⟨i, d, rfl, hi, hc, hk⟩, hry⟩ := evK_ok I hy
 have rx := hrx rfl
 have ry := (hry rfl).v_inv
 generalize hux : a.eval x = ux at rx
 cases rx with
 | agg _ us hn hh =>
  have hlt : i < us.size := by rw [hn]; exact (List.getElem?_eq_some_iff.1 hc).1
  have hu : us[i]? = some us[i] := Array.getElem?_eq_getElem hlt
  refine wp_val (u := us[i]) (w' := w) ?_ (hN _ _ ⟨_, C, hk, I.set (dstOk_spec hd) (hh i d _ hc hu)⟩)
  have hi2 : (i : Int) < (m : Int) := by omega
  simp [execOp, hux, ry, Instr.index, asIntOf, run_underlying h1, run_sizeOf' h3, h4, part, isAgg, run_underlying h2, hu, hi2, hlt]
  intro h; omega
end Go.Eng
namespace Go.Proofs.YtkgmecjaejaehaaGreatDoor
open Go.Eng Go.Js
set_option maxRecDepth 20000
attribute [local irreducible] AG CallA CallT AWp PCall ACall XCall AgC
def rV : List Value := [.string ⟨#[]⟩, .int .i64 0, .string ⟨#[]⟩, .pointer none, .slice none 0 0, .int .i64 0] ++ List.replicate 256 (.int .u8 0)
attribute [-go_sem] zr275
theorem rV_one : ∀ x ∈ rV, x.oneCell' = true := by
 intro x hx
 unfold rV at hx
 rw [List.mem_append] at hx
 rcases hx with hx | hx
 ·simp only [List.mem_cons, List.mem_nil_iff, or_false] at hx
  rcases hx with rfl | rfl | rfl | rfl | rfl | rfl <;> rfl
 ·rw [List.mem_replicate] at hx
  rw [hx.2]; rfl
@[go_sem] theorem zr275' : zeroOf Tryz.prog 275 = some rV := by kernel_rfl
@[go_sem] theorem rV_map : rV.map D.v = rC nS (dI 0) (fun _ => 0) := by
 have h : List.map D.v rV = rC nS (dI 0) (fun _ => 0) := by
  unfold rV rC mpL
  simp [List.map_const']
 exact h
theorem rC_set4 (t0 ts t : D) (f : Nat → Int) : (rC t0 ts f).set 4 t = rC t ts f := rfl
@[go_sem] theorem rC_p4 (t0 ts t : D) (f : Nat → Int) : (rC t0 ts f).take 4 ++ (t :: ts :: mpL f) = rC t ts f := rfl
@[go_sem] theorem rC_p5 (t0 ts t : D) (f : Nat → Int) : (rC t0 ts f).take 5 ++ (t :: mpL f) = rC t0 t f := rfl
@[go_sem] theorem mpL_take (f : Nat → Int) : (mpL f).take 256 = mpL f := List.take_of_length_le (by rw [mpL_len]; omega)
def mkB (l : List Nat) : Nat → Int := fun i => if i ∈ l then 1 else 0
theorem mkB_put (l : List Nat) (c : Nat) : (fun i => if i = c then 1 else mkB l i) = mkB (c :: l) := by
 funext i
 unfold mkB
 by_cases h : i = c
 ·simp [h]
 ·simp [h]
def sumI (f : Nat → Int) : Nat → Int
 | 0 => 0
 | k + 1 => sumI f k + f k
def mkA : Nat → Int := mkB [48, 49, 126]
theorem mkA_of {a b : Nat} (h : (a = 48 ∧ b = 49) ∨ (a = 49 ∧ b = 48)) : mkB [b, 126, a, 126] = mkA := by
 funext i
 unfold mkA mkB
 congr 1
 rcases h with ⟨rfl, rfl⟩ | ⟨rfl, rfl⟩
 ·simp; omega
 ·simp; omega
theorem mkA_01 (i : Nat) : mkA i = 0 ∨ mkA i = 1 := by
 unfold mkA mkB
 split
 ·exact .inr rfl
 ·exact .inl rfl
theorem sumA_nn : ∀ k, 0 ≤ sumI mkA k
 | 0 => by simp [sumI]
 | k + 1 => by have := sumA_nn k; have := mkA_01 k; simp only [sumI]; omega
theorem sumA_mono : ∀ k j, sumI mkA k ≤ sumI mkA (k + j)
 | k, 0 => by simp
 | k, j + 1 => by have := sumA_mono k j; have := mkA_01 (k + j); rw [← Nat.add_assoc]; simp only [sumI]; omega
theorem sumA_256 : sumI mkA 256 = 3 := by decide +kernel
theorem sumA_le {k : Nat} (h : k ≤ 256) : sumI mkA k ≤ 3 := by
 have := sumA_mono k (256 - k)
 rw [show k + (256 - k) = 256 by omega, sumA_256] at this
 exact this
def finB (i : Nat) : Int := if mkA i = 0 then 3 else sumI mkA i
def hB (k : Nat) (i : Nat) : Int := if i < k then finB i else mkA i
theorem hB_0 : hB 0 = mkA := by funext i; simp [hB]
theorem mpL_congr {f g : Nat → Int} (h : ∀ i, i < 256 → f i = g i) : mpL f = mpL g := by
 unfold mpL
 apply List.map_congr_left
 intro i hi
 rw [h i (by simpa using hi)]
theorem rC_congr (t0 ts : D) {f g : Nat → Int} (h : ∀ i, i < 256 → f i = g i) : rC t0 ts f = rC t0 ts g := by
 unfold rC; rw [mpL_congr h]
theorem hB_256 (t0 ts : D) : rC t0 ts (hB 256) = rC t0 ts finB := rC_congr _ _ fun i hi => by simp [hB, hi]
theorem hB_put {k : Nat} : (fun i => if i = k then finB k else hB k i) = hB (k + 1) := by
 funext i
 unfold hB
 by_cases h : i = k
 ·subst h; simp
 ·rw [if_neg h]
  by_cases h2 : i < k
  ·rw [if_pos h2, if_pos (by omega)]
  ·rw [if_neg h2, if_neg (by omega)]
theorem fin_48 : finB 48 = 0 := by decide +kernel
theorem fin_49 : finB 49 = 1 := by decide +kernel
theorem fin_126 : finB 126 = 2 := by decide +kernel
abbrev onD (a b : UInt8) (va vb : Bs) : D := .sl 1 [[dS [126, a]], [dS va], [dS [126, b]], [dS vb]]
set_option maxHeartbeats 16000000 in
theorem mkgen_spec (a b : UInt8) (va vb : Bs) (i j : Nat) (hab : (a = 48 ∧ b = 49 ∧ i = 0 ∧ j = 1) ∨ (a = 49 ∧ b = 48 ∧ i = 1 ∧ j = 0)) : PCall Tryz.prog 188 [onD a b va vb] fun r =>
  r = .rd (rC (.sl 1 [[nP], [nP], [.rd [dS [], dI 0, dS [], nP, .sl 1 (((List.replicate 3 [nP]).set i [.rd (lfN va 4)]).set j [.rd (lfN vb 2)])]]]) (dI 3) finB) := by
 refine pcall_of Tryz.func188 rfl rfl Tryz.ntmps188 (rs := [.tmp 2]) (tys := [235]) rfl rfl (by simp) ?_
 have hp : ∀ (l : List Nat) (c : Nat), c < 256 → (rC nS (dI 0) (mkB l)).take (6 + c) ++ (.v (.int .u8 1) :: (rC nS (dI 0) (mkB l)).drop (6 + c + 1)) = rC nS (dI 0) (mkB (c :: l)) := fun l c h => by rw [rC_put _ _ _ h, mkB_put]
 have hp126 : ∀ (l : List Nat), (rC nS (dI 0) (mkB l)).take 132 ++ (.v (.int .u8 1) :: (rC nS (dI 0) (mkB l)).drop 133) = rC nS (dI 0) (mkB (126 :: l)) := fun l => hp l 126 (by decide)
 have h0 : (fun _ : Nat => (0 : Int)) = mkB [] := by funext i; simp [mkB]
 have hab' : (a.toNat = 48 ∧ b.toNat = 49) ∨ (a.toNat = 49 ∧ b.toNat = 48) := by
  rcases hab with ⟨rfl, rfl, _⟩ | ⟨rfl, rfl, _⟩
  ·exact .inl ⟨rfl, rfl⟩
  ·exact .inr ⟨rfl, rfl⟩
 (refine awp_sr fun Y Yh => ?_; simp [go_sem]; ((repeat' (first|(refine ag_x ?_;simp [go_sem])|intro _|apply And.intro|(apply Yh;clear Yh Y)));all_goals first|apply Hold.mk|omega|with_reducible assumption|skip))
 (refine awp_sr fun Y Yh => ?_; simp [go_sem]; ((repeat' (first|(refine ag_x ?_;simp [go_sem])|intro _|apply And.intro|(apply Yh;clear Yh Y)));all_goals first|apply Hold.mk|omega|with_reducible assumption|skip))
 all_goals first | (exact rV_one _ (by assumption)) | skip
 refine awp_renbox 3 900040 rfl rfl (by decide) fun gR => ?_
 simp only [go_sem]
 rw [h0]
 refine awp_seq_k fun K1 hK1 => ?_
 (refine awp_sr fun Y Yh => ?_; simp [go_sem]; ((repeat' (first|(refine ag_x ?_;simp [go_sem])|intro _|apply And.intro|(apply Yh;clear Yh Y)));all_goals first|apply Hold.mk|omega|with_reducible assumption|skip))
 refine awp_block ?_
 refine awp_loop (σ := Nat) (fun x => ⟨[(0, onD a b va vb), (3, .ptr 900040 gR 0), (4, dI (2 * x : Nat))], [(900040, (gR, .box (rC nS (dI 0) (mkB (match x with | 0 => [] | 1 => [a.toNat, 126] | _ => [b.toNat, 126, a.toNat, 126])))))]⟩) (fun x => x ≤ 2) (fun x => 2 - x) 0 ?_ (by simp) ?_
 ·(refine cov_of ?_ ?_ <;> simp [go_sem])
 intro x hx
 refine awp_seq_k fun K2 hK2 => ?_
 have hx' : x = 0 ∨ x = 1 ∨ x = 2 := by omega
 rcases hx' with rfl | rfl | rfl
 ·(refine awp_sr fun Y Yh => ?_; simp [go_sem]; ((repeat' (first|(refine ag_x ?_;simp [go_sem])|intro _|apply And.intro|(apply Yh;clear Yh Y)));all_goals first|apply Hold.mk|omega|with_reducible assumption|skip))
  (refine awp_if fun T F hT hF => ?_; simp [go_sem]; refine hT ?_; clear hT hF T F)
  refine awp_skip ?_
  refine hK2 _ ?_; clear hK2
  refine awp_seq_k fun K3 hK3 => ?_
  refine awp_block ?_
  (refine awp_sr fun Y Yh => ?_; simp [go_sem]; ((repeat' (first|(refine ag_x ?_;simp [go_sem])|intro _|apply And.intro|(apply Yh;clear Yh Y)));all_goals first|apply Hold.mk|omega|with_reducible assumption|skip))
  (refine awp_sr fun Y Yh => ?_; simp [go_sem]; ((repeat' (first|(refine ag_x ?_;simp [go_sem])|intro _|apply And.intro|(apply Yh;clear Yh Y)));all_goals first|apply Hold.mk|omega|with_reducible assumption|skip))
  refine awp_block ?_
  refine awp_loop (σ := Nat) (fun y => ⟨[(0, onD a b va vb), (3, .ptr 900040 gR 0), (4, dI (0 : Nat)), (5, dS [126, a]), (6, dI y)], [(900040, (gR, .box (rC nS (dI 0) (mkB (match y with | 0 => [] | 1 => [126] | _ => [a.toNat, 126])))))]⟩) (fun y => y ≤ 2) (fun y => 2 - y) 0 ?_ (by simp) ?_
  ·(refine cov_of ?_ ?_ <;> simp [go_sem])
  intro y hy
  refine awp_seq_k fun K4 hK4 => ?_
  have hy' : y = 0 ∨ y = 1 ∨ y = 2 := by omega
  rcases hy' with rfl | rfl | rfl
  ·(refine awp_sr fun Y Yh => ?_; simp [go_sem]; ((repeat' (first|(refine ag_x ?_;simp [go_sem])|intro _|apply And.intro|(apply Yh;clear Yh Y)));all_goals first|apply Hold.mk|omega|with_reducible assumption|skip))
   (refine awp_if fun T F hT hF => ?_; simp [go_sem]; refine hT ?_; clear hT hF T F)
   refine awp_skip ?_
   refine hK4 _ ?_; clear hK4
   refine awp_seq_k fun K5 hK5 => ?_
   refine awp_block ?_
   ((refine awp_d (.qs [0, 1, 2, 3, 4, 5, 6] (.one 7 (.nil))) (by kernel_rfl) ?_ ?_ ?_ ?_); (kernel_rfl); (exact (by decide +kernel)); (kernel_rfl); intro Y Yh; ((repeat' (first|(refine ag_x ?_;simp [go_sem, hp126 []])|refine adr_nil ?_|((first|refine adr_qs fun Y Yh=>?_|refine adr_y fun Y Yh=>?_);simp [go_sem, hp126 []])|intro _|apply And.intro|(apply Yh;clear Yh Y)));all_goals first|apply Hold.mk|omega|with_reducible assumption|skip))
   show K5 _
   refine hK5 _ ?_; clear hK5
   (refine awp_r fun Y Yh => ?_; simp [go_sem]; ((repeat' (first|(refine ag_x ?_;simp [go_sem])|intro _|apply And.intro|(apply Yh;clear Yh Y)));all_goals first|apply Hold.mk|omega|with_reducible assumption|skip))
   refine ⟨(1 : Nat), ?_, by omega, by omega⟩
   (refine cov_of ?_ ?_ <;> simp [go_sem])
  ·(refine awp_sr fun Y Yh => ?_; simp [go_sem]; ((repeat' (first|(refine ag_x ?_;simp [go_sem])|intro _|apply And.intro|(apply Yh;clear Yh Y)));all_goals first|apply Hold.mk|omega|with_reducible assumption|skip))
   (refine awp_if fun T F hT hF => ?_; simp [go_sem]; refine hT ?_; clear hT hF T F)
   refine awp_skip ?_
   refine hK4 _ ?_; clear hK4
   refine awp_seq_k fun K5 hK5 => ?_
   refine awp_block ?_
   ((refine awp_d (.qs [0, 1, 2, 3, 4, 5, 6] (.one 7 (.nil))) (by kernel_rfl) ?_ ?_ ?_ ?_); (kernel_rfl); (exact (by decide +kernel)); (kernel_rfl); intro Y Yh; ((repeat' (first|(refine ag_x ?_;simp [go_sem, hp [126] a.toNat a.toNat_lt])|refine adr_nil ?_|((first|refine adr_qs fun Y Yh=>?_|refine adr_y fun Y Yh=>?_);simp [go_sem, hp [126] a.toNat a.toNat_lt])|intro _|apply And.intro|(apply Yh;clear Yh Y)));all_goals first|apply Hold.mk|omega|with_reducible assumption|skip))
   show K5 _
   refine hK5 _ ?_; clear hK5
   (refine awp_r fun Y Yh => ?_; simp [go_sem]; ((repeat' (first|(refine ag_x ?_;simp [go_sem])|intro _|apply And.intro|(apply Yh;clear Yh Y)));all_goals first|apply Hold.mk|omega|with_reducible assumption|skip))
   refine ⟨(2 : Nat), ?_, by omega, by omega⟩
   (refine cov_of ?_ ?_ <;> simp [go_sem])
  ·(refine awp_sr fun Y Yh => ?_; simp [go_sem]; ((repeat' (first|(refine ag_x ?_;simp [go_sem])|intro _|apply And.intro|(apply Yh;clear Yh Y)));all_goals first|apply Hold.mk|omega|with_reducible assumption|skip))
   (refine awp_if fun T F hT hF => ?_; simp [go_sem]; refine hF ?_; clear hT hF T F)
   refine awp_exit ?_
   simp only [go_sem]
   refine hK3 _ ?_; clear hK3
   (refine awp_r fun Y Yh => ?_; simp [go_sem]; ((repeat' (first|(refine ag_x ?_;simp [go_sem])|intro _|apply And.intro|(apply Yh;clear Yh Y)));all_goals first|apply Hold.mk|omega|with_reducible assumption|skip))
   refine ⟨(1 : Nat), ?_, by omega, by omega⟩
   (refine cov_of ?_ ?_ <;> simp [go_sem])
 ·(refine awp_sr fun Y Yh => ?_; simp [go_sem]; ((repeat' (first|(refine ag_x ?_;simp [go_sem])|intro _|apply And.intro|(apply Yh;clear Yh Y)));all_goals first|apply Hold.mk|omega|with_reducible assumption|skip))
  (refine awp_if fun T F hT hF => ?_; simp [go_sem]; refine hT ?_; clear hT hF T F)
  refine awp_skip ?_
  refine hK2 _ ?_; clear hK2
  refine awp_seq_k fun K3 hK3 => ?_
  refine awp_block ?_
  (refine awp_sr fun Y Yh => ?_; simp [go_sem]; ((repeat' (first|(refine ag_x ?_;simp [go_sem])|intro _|apply And.intro|(apply Yh;clear Yh Y)));all_goals first|apply Hold.mk|omega|with_reducible assumption|skip))
  (refine awp_sr fun Y Yh => ?_; simp [go_sem]; ((repeat' (first|(refine ag_x ?_;simp [go_sem])|intro _|apply And.intro|(apply Yh;clear Yh Y)));all_goals first|apply Hold.mk|omega|with_reducible assumption|skip))
  refine awp_block ?_
  refine awp_loop (σ := Nat) (fun y => ⟨[(0, onD a b va vb), (3, .ptr 900040 gR 0), (4, dI (2 : Nat)), (5, dS [126, b]), (6, dI y)], [(900040, (gR, .box (rC nS (dI 0) (mkB (match y with | 0 => [a.toNat, 126] | 1 => [126, a.toNat, 126] | _ => [b.toNat, 126, a.toNat, 126])))))]⟩) (fun y => y ≤ 2) (fun y => 2 - y) 0 ?_ (by simp) ?_
  ·(refine cov_of ?_ ?_ <;> simp [go_sem])
  intro y hy
  refine awp_seq_k fun K4 hK4 => ?_
  have hy' : y = 0 ∨ y = 1 ∨ y = 2 := by omega
  rcases hy' with rfl | rfl | rfl
  ·(refine awp_sr fun Y Yh => ?_; simp [go_sem]; ((repeat' (first|(refine ag_x ?_;simp [go_sem])|intro _|apply And.intro|(apply Yh;clear Yh Y)));all_goals first|apply Hold.mk|omega|with_reducible assumption|skip))
   (refine awp_if fun T F hT hF => ?_; simp [go_sem]; refine hT ?_; clear hT hF T F)
   refine awp_skip ?_
   refine hK4 _ ?_; clear hK4
   refine awp_seq_k fun K5 hK5 => ?_
   refine awp_block ?_
   ((refine awp_d (.qs [0, 1, 2, 3, 4, 5, 6] (.one 7 (.nil))) (by kernel_rfl) ?_ ?_ ?_ ?_); (kernel_rfl); (exact (by decide +kernel)); (kernel_rfl); intro Y Yh; ((repeat' (first|(refine ag_x ?_;simp [go_sem, hp126 [a.toNat, 126]])|refine adr_nil ?_|((first|refine adr_qs fun Y Yh=>?_|refine adr_y fun Y Yh=>?_);simp [go_sem, hp126 [a.toNat, 126]])|intro _|apply And.intro|(apply Yh;clear Yh Y)));all_goals first|apply Hold.mk|omega|with_reducible assumption|skip))
   show K5 _
   refine hK5 _ ?_; clear hK5
   (refine awp_r fun Y Yh => ?_; simp [go_sem]; ((repeat' (first|(refine ag_x ?_;simp [go_sem])|intro _|apply And.intro|(apply Yh;clear Yh Y)));all_goals first|apply Hold.mk|omega|with_reducible assumption|skip))
   refine ⟨(1 : Nat), ?_, by omega, by omega⟩
   (refine cov_of ?_ ?_ <;> simp [go_sem])
  ·(refine awp_sr fun Y Yh => ?_; simp [go_sem]; ((repeat' (first|(refine ag_x ?_;simp [go_sem])|intro _|apply And.intro|(apply Yh;clear Yh Y)));all_goals first|apply Hold.mk|omega|with_reducible assumption|skip))
   (refine awp_if fun T F hT hF => ?_; simp [go_sem]; refine hT ?_; clear hT hF T F)
   refine awp_skip ?_
   refine hK4 _ ?_; clear hK4
   refine awp_seq_k fun K5 hK5 => ?_
   refine awp_block ?_
   ((refine awp_d (.qs [0, 1, 2, 3, 4, 5, 6] (.one 7 (.nil))) (by kernel_rfl) ?_ ?_ ?_ ?_); (kernel_rfl); (exact (by decide +kernel)); (kernel_rfl); intro Y Yh; ((repeat' (first|(refine ag_x ?_;simp [go_sem, hp [126, a.toNat, 126] b.toNat b.toNat_lt])|refine adr_nil ?_|((first|refine adr_qs fun Y Yh=>?_|refine adr_y fun Y Yh=>?_);simp [go_sem, hp [126, a.toNat, 126] b.toNat b.toNat_lt])|intro _|apply And.intro|(apply Yh;clear Yh Y)));all_goals first|apply Hold.mk|omega|with_reducible assumption|skip))
   show K5 _
   refine hK5 _ ?_; clear hK5
   (refine awp_r fun Y Yh => ?_; simp [go_sem]; ((repeat' (first|(refine ag_x ?_;simp [go_sem])|intro _|apply And.intro|(apply Yh;clear Yh Y)));all_goals first|apply Hold.mk|omega|with_reducible assumption|skip))
   refine ⟨(2 : Nat), ?_, by omega, by omega⟩
   (refine cov_of ?_ ?_ <;> simp [go_sem])
  ·(refine awp_sr fun Y Yh => ?_; simp [go_sem]; ((repeat' (first|(refine ag_x ?_;simp [go_sem])|intro _|apply And.intro|(apply Yh;clear Yh Y)));all_goals first|apply Hold.mk|omega|with_reducible assumption|skip))
   (refine awp_if fun T F hT hF => ?_; simp [go_sem]; refine hF ?_; clear hT hF T F)
   refine awp_exit ?_
   simp only [go_sem]
   refine hK3 _ ?_; clear hK3
   (refine awp_r fun Y Yh => ?_; simp [go_sem]; ((repeat' (first|(refine ag_x ?_;simp [go_sem])|intro _|apply And.intro|(apply Yh;clear Yh Y)));all_goals first|apply Hold.mk|omega|with_reducible assumption|skip))
   refine ⟨(2 : Nat), ?_, by omega, by omega⟩
   (refine cov_of ?_ ?_ <;> simp [go_sem])
 ·(refine awp_sr fun Y Yh => ?_; simp [go_sem]; ((repeat' (first|(refine ag_x ?_;simp [go_sem])|intro _|apply And.intro|(apply Yh;clear Yh Y)));all_goals first|apply Hold.mk|omega|with_reducible assumption|skip))
  (refine awp_if fun T F hT hF => ?_; simp [go_sem]; refine hF ?_; clear hT hF T F)
  refine awp_exit ?_
  simp only [go_sem]
  refine hK1 _ ?_; clear hK1
  simp only [mkA_of hab']
  clear hp hp126
  refine awp_seq_k fun K6 hK6 => ?_
  (refine awp_sr fun Y Yh => ?_; simp [go_sem]; ((repeat' (first|(refine ag_x ?_;simp [go_sem])|intro _|apply And.intro|(apply Yh;clear Yh Y)));all_goals first|apply Hold.mk|omega|with_reducible assumption|skip))
  refine awp_block ?_
  refine awp_loop (σ := Nat) (fun k => ⟨[(0, onD a b va vb), (3, .ptr 900040 gR 0), (40, .agg (mpL mkA)), (41, dI k)], [(900040, (gR, .box (rC nS (dI (sumI mkA k)) mkA)))]⟩) (fun k => k ≤ 256) (fun k => 256 - k) 0 ?_ (by simp) ?_
  ·(refine cov_of ?_ ?_ <;> simp [go_sem])
   simp [sumI]
  intro k hk
  (refine awp_sr fun Y Yh => ?_; simp [go_sem]; ((repeat' (first|(refine ag_x ?_;simp [go_sem])|intro _|apply And.intro|(apply Yh;clear Yh Y)));all_goals first|apply Hold.mk|omega|with_reducible assumption|skip))
  refine awp_seq_k fun K7 hK7 => ?_
  have hs1 := sumA_nn k
  have hs2 := sumA_le hk
  (refine awp_if fun T F hT hF => ?_; simp [go_sem]; refine BR.intro (fun h7 => hT ?_) (fun h7 => hF ?_); all_goals clear hT hF T F; try simp at h7)
  ·have hlt : k < 256 := by omega
   have hg := mpL_get mkA hlt
   have hd := mpL_drop mkA hlt
   have hm := mkA_01 k
   refine awp_skip ?_
   refine hK7 _ ?_; clear hK7
   refine awp_seq_k fun K8 hK8 => ?_
   refine awp_block ?_
   (refine awp_seq ?_; refine awp_ags ?_; simp only [AGs])
   refine ag_idxagg 256 rfl (by simp [dstOk]) (by kernel_rfl) ?_
   simp [go_sem]
   refine ⟨hlt, _, hg, ?_⟩
   (refine ag_true rfl ?_; simp [go_sem])
   (refine awp_r fun Y Yh => ?_; simp [go_sem]; ((repeat' (first|(refine ag_x ?_;simp [go_sem])|intro _|apply And.intro|(apply Yh;clear Yh Y)));all_goals first|apply Hold.mk|omega|with_reducible assumption|skip))
   refine hK8 _ ?_; clear hK8
   (refine awp_r fun Y Yh => ?_; simp [go_sem]; ((repeat' (first|(refine ag_x ?_;simp [go_sem])|intro _|apply And.intro|(apply Yh;clear Yh Y)));all_goals first|apply Hold.mk|omega|with_reducible assumption|skip))
   refine ⟨k + 1, ?_, by omega, by omega⟩
   (refine cov_of ?_ ?_ <;> simp [go_sem])
   rfl
  ·refine awp_exit ?_
   simp only [go_sem]
   refine hK6 _ ?_; clear hK6
   have e : k = 256 := by omega
   subst e
   rw [sumA_256]
   (refine awp_sr fun Y Yh => ?_; simp [go_sem]; ((repeat' (first|(refine ag_x ?_;simp [go_sem])|intro _|apply And.intro|(apply Yh;clear Yh Y)));all_goals first|apply Hold.mk|omega|with_reducible assumption|skip))
   refine awp_seq_k fun K9 hK9 => ?_
   (refine awp_sr fun Y Yh => ?_; simp [go_sem]; ((repeat' (first|(refine ag_x ?_;simp [go_sem])|intro _|apply And.intro|(apply Yh;clear Yh Y)));all_goals first|apply Hold.mk|omega|with_reducible assumption|skip))
   refine awp_block ?_
   refine awp_loop (σ := Nat) (fun k => ⟨[(0, onD a b va vb), (3, .ptr 900040 gR 0), (9, .v (.int .u8 (sumI mkA k))), (57, .agg (mpL mkA)), (58, dI k)], [(900040, (gR, .box (rC nS (dI 3) (hB k))))]⟩) (fun k => k ≤ 256) (fun k => 256 - k) 0 ?_ (by simp) ?_
   ·rw [hB_0]
    (refine cov_of ?_ ?_ <;> simp [go_sem])
    simp [sumI]
   intro k hk
   (refine awp_sr fun Y Yh => ?_; simp [go_sem]; ((repeat' (first|(refine ag_x ?_;simp [go_sem])|intro _|apply And.intro|(apply Yh;clear Yh Y)));all_goals first|apply Hold.mk|omega|with_reducible assumption|skip))
   refine awp_seq_k fun K10 hK10 => ?_
   have hs1 := sumA_nn k
   have hs2 := sumA_le hk
   (refine awp_if fun T F hT hF => ?_; simp [go_sem]; refine BR.intro (fun h8 => hT ?_) (fun h8 => hF ?_); all_goals clear hT hF T F; try simp at h8)
   ·have hlt : k < 256 := by omega
    have hg := mpL_get mkA hlt
    have hm := mkA_01 k
    refine awp_skip ?_
    refine hK10 _ ?_; clear hK10
    refine awp_seq_k fun K11 hK11 => ?_
    refine awp_block ?_
    (refine awp_seq ?_; refine awp_ags ?_; simp only [AGs])
    (refine ag_true rfl ?_; simp [go_sem])
    refine ag_idxagg 256 rfl (by simp [dstOk]) (by kernel_rfl) ?_
    simp [go_sem]
    refine ⟨hlt, _, hg, ?_⟩
    (refine ag_true rfl ?_; simp [go_sem])
    (refine ag_true rfl ?_; simp [go_sem])
    (refine awp_sr fun Y Yh => ?_; simp [go_sem]; ((repeat' (first|(refine ag_x ?_;simp [go_sem])|intro _|apply And.intro|(apply Yh;clear Yh Y)));all_goals first|apply Hold.mk|omega|with_reducible assumption|skip))
    by_cases hm0 : mkA k = 0
    ·have hf : finB k = 3 := by unfold finB; rw [if_pos hm0]
     have hput : (rC nS (dI 3) (hB k)).take (6 + k) ++ (.v (.int .u8 3) :: (rC nS (dI 3) (hB k)).drop (6 + k + 1)) = rC nS (dI 3) (hB (k + 1)) := by
      rw [rC_put _ _ _ hlt, ← hB_put, hf]
     have hs3 : sumI mkA (k + 1) = sumI mkA k := by simp [sumI, hm0]
     have hw3 : IntKind.u8.wrap 3 = 3 := by decide
     (refine awp_if fun T F hT hF => ?_; simp [go_sem, hm0]; refine hT ?_; clear hT hF T F)
     ((refine awp_d (.qs [0, 1, 2, 3, 4, 7, 8, 5, 6, 9] (.one 10 (.nil))) (by kernel_rfl) ?_ ?_ ?_ ?_); (kernel_rfl); (exact (by decide +kernel)); (kernel_rfl); intro Y Yh; ((repeat' (first|(refine ag_x ?_;simp [go_sem, hw3, hput, hlt])|refine adr_nil ?_|((first|refine adr_qs fun Y Yh=>?_|refine adr_y fun Y Yh=>?_);simp [go_sem, hw3, hput, hlt])|intro _|apply And.intro|(apply Yh;clear Yh Y)));all_goals first|apply Hold.mk|omega|with_reducible assumption|skip))
     show K11 _
     refine hK11 _ ?_; clear hK11
     (refine awp_r fun Y Yh => ?_; simp [go_sem]; ((repeat' (first|(refine ag_x ?_;simp [go_sem])|intro _|apply And.intro|(apply Yh;clear Yh Y)));all_goals first|apply Hold.mk|omega|with_reducible assumption|skip))
     refine ⟨k + 1, ?_, by omega, by omega⟩
     (refine cov_of ?_ ?_ <;> simp [go_sem, hs3])
    ·have hm1 : mkA k = 1 := by omega
     have hf : finB k = sumI mkA k := by unfold finB; rw [if_neg hm0]
     have hput : (rC nS (dI 3) (hB k)).take (6 + k) ++ (.v (.int .u8 (sumI mkA k)) :: (rC nS (dI 3) (hB k)).drop (6 + k + 1)) = rC nS (dI 3) (hB (k + 1)) := by
      rw [rC_put _ _ _ hlt, ← hB_put, hf]
     have hw : IntKind.u8.wrap (sumI mkA k + 1) = sumI mkA (k + 1) := by
      rw [IntKind.wrap_u8]; simp only [sumI, hm1]; omega
     (refine awp_if fun T F hT hF => ?_; simp [go_sem, hm0]; refine hF ?_; clear hT hF T F)
     (refine awp_sr fun Y Yh => ?_; simp [go_sem, hput, hlt]; ((repeat' (first|(refine ag_x ?_;simp [go_sem, hput, hlt])|intro _|apply And.intro|(apply Yh;clear Yh Y)));all_goals first|apply Hold.mk|omega|with_reducible assumption|skip))
     (refine awp_r fun Y Yh => ?_; simp [go_sem, hw]; ((repeat' (first|(refine ag_x ?_;simp [go_sem, hw])|intro _|apply And.intro|(apply Yh;clear Yh Y)));all_goals first|apply Hold.mk|omega|with_reducible assumption|skip))
     refine hK11 _ ?_; clear hK11
     (refine awp_r fun Y Yh => ?_; simp [go_sem]; ((repeat' (first|(refine ag_x ?_;simp [go_sem])|intro _|apply And.intro|(apply Yh;clear Yh Y)));all_goals first|apply Hold.mk|omega|with_reducible assumption|skip))
     refine ⟨k + 1, ?_, by omega, by omega⟩
     (refine cov_of ?_ ?_ <;> simp [go_sem])
   ·refine awp_exit ?_
    simp only [go_sem]
    refine hK9 _ ?_; clear hK9
    have e : k = 256 := by omega
    subst e
    rw [hB_256]
    (refine awp_sr fun Y Yh => ?_; simp [go_sem]; ((repeat' (first|(refine ag_x ?_;simp [go_sem])|intro _|apply And.intro|(apply Yh;clear Yh Y)));all_goals first|apply Hold.mk|omega|with_reducible assumption|skip))
    refine awp_renrb 88 900041 900040 4 rfl rfl (by decide) (by decide) rfl (by decide) fun gt => ?_
    simp only [go_sem, rC_set4]
    refine awp_seq_k fun K12 hK12 => ?_
    (refine awp_sr fun Y Yh => ?_; simp [go_sem]; ((repeat' (first|(refine ag_x ?_;simp [go_sem])|intro _|apply And.intro|(apply Yh;clear Yh Y)));all_goals first|apply Hold.mk|omega|with_reducible assumption|skip))
    refine awp_block ?_
    refine awp_loop (σ := Nat × Nat) (fun x => match x with
     | (0, _) => ⟨[(0, onD a b va vb), (3, .ptr 900040 gR 0), (12, dI (0 : Nat))], [(900040, (gR, .box (rC (.own 900041 gt) (dI 3) finB))), (900041, (gt, .row 270 1 [[nP], [nP], [nP]]))]⟩
     | (1, gN) => ⟨[(0, onD a b va vb), (3, .ptr 900040 gR 0), (12, dI (2 : Nat))], [(900040, (gR, .box (rC (.own 900041 gt) (dI 3) finB))), (900041, (gt, .row 270 1 [[nP], [nP], [.ptr 900043 gN 0]])), (900043, (gN, .box (chN a va 4)))]⟩
     | (_, _) => ⟨[(0, onD a b va vb), (3, .ptr 900040 gR 0), (12, dI (4 : Nat))], [(900040, (gR, .box (rC (.own 900041 gt) (dI 3) finB))), (900041, (gt, .row 270 1 [[nP], [nP], [.rd [dS [], dI 0, dS [], nP, .sl 1 (((List.replicate 3 [nP]).set i [.rd (lfN va 4)]).set j [.rd (lfN vb 2)])]]]))]⟩) (fun x => x.1 ≤ 2) (fun x => 2 - x.1) (0, 0) ?_ (by simp) ?_
    ·(refine cov_of ?_ ?_ <;> simp [go_sem])
    rintro ⟨x, gN⟩ hx
    simp only at hx
    refine awp_seq_k fun K13 hK13 => ?_
    have hx' : x = 0 ∨ x = 1 ∨ x = 2 := by omega
    rcases hx' with rfl | rfl | rfl
    ·simp only
     (refine awp_sr fun Y Yh => ?_; simp [go_sem]; ((repeat' (first|(refine ag_x ?_;simp [go_sem])|intro _|apply And.intro|(apply Yh;clear Yh Y)));all_goals first|apply Hold.mk|omega|with_reducible assumption|skip))
     (refine awp_if fun T F hT hF => ?_; simp [go_sem]; refine hT ?_; clear hT hF T F)
     refine awp_skip ?_
     refine hK13 _ ?_; clear hK13
     refine awp_seq_k fun K14 hK14 => ?_
     refine awp_block ?_
     ((refine awp_d (.qs [0, 1, 2, 3, 4, 5, 7, 8, 9, 10, 12, 13, 14, 15, 16, 6, 11] (.one 17 (.nil))) (by kernel_rfl) ?_ ?_ ?_ ?_); (kernel_rfl); (exact (by decide +kernel)); (kernel_rfl); intro Y Yh; ((repeat' (first|(refine ag_x ?_;simp [go_sem])|refine adr_nil ?_|((first|refine adr_qs fun Y Yh=>?_|refine adr_y fun Y Yh=>?_);simp [go_sem])|intro _|apply And.intro|(apply Yh;clear Yh Y)));all_goals first|apply Hold.mk|omega|with_reducible assumption|skip))
     (refine callA_l [900040, 900041, 900043, 900042] (by first|exact .inl ⟨rfl,rfl⟩|exact .inr rfl) (by simp [go_sem]) ?_; intro args ha; simp [go_sem] at ha; subst ha; refine ⟨_, _, (root1_spec gR gt a va 4 finB fin_126), (by simp [go_sem]), ?_⟩; rintro ps r hps ⟨gN, g2, rfl, rfl⟩; simp [go_sem]; ((repeat' (first|(refine ag_x ?_;simp [go_sem])|refine adr_nil ?_|((first|refine adr_qs fun Y Yh=>?_|refine adr_y fun Y Yh=>?_);simp [go_sem])|intro _|apply And.intro|(apply Yh;clear Yh Y)));all_goals first|apply Hold.mk|omega|with_reducible assumption|skip))
     show K14 _
     refine hK14 _ ?_; clear hK14
     refine awp_frzpb 900042 900043 3 rfl rfl (by decide) rfl ?_
     simp only [go_sem, List.set]
     (refine awp_r fun Y Yh => ?_; simp [go_sem]; ((repeat' (first|(refine ag_x ?_;simp [go_sem])|intro _|apply And.intro|(apply Yh;clear Yh Y)));all_goals first|apply Hold.mk|omega|with_reducible assumption|skip))
     refine ⟨(1, gN), ?_, by simp, by simp⟩
     (refine cov_of ?_ ?_ <;> simp [go_sem])
    ·simp only
     rcases hab with ⟨rfl, rfl, rfl, rfl⟩ | ⟨rfl, rfl, rfl, rfl⟩
     ·have H := root2_spec gR gt gN 0 1 (by omega) 48 49 va vb 4 2 finB fin_126 (by decide) fin_48 fin_49
      (refine awp_sr fun Y Yh => ?_; simp [go_sem]; ((repeat' (first|(refine ag_x ?_;simp [go_sem])|intro _|apply And.intro|(apply Yh;clear Yh Y)));all_goals first|apply Hold.mk|omega|with_reducible assumption|skip))
      (refine awp_if fun T F hT hF => ?_; simp [go_sem]; refine hT ?_; clear hT hF T F)
      refine awp_skip ?_
      refine hK13 _ ?_; clear hK13
      refine awp_seq_k fun K14 hK14 => ?_
      refine awp_block ?_
      ((refine awp_d (.qs [0, 1, 2, 3, 4, 5, 7, 8, 9, 10, 12, 13, 14, 15, 16, 6, 11] (.one 17 (.nil))) (by kernel_rfl) ?_ ?_ ?_ ?_); (kernel_rfl); (exact (by decide +kernel)); (kernel_rfl); intro Y Yh; ((repeat' (first|(refine ag_x ?_;simp [go_sem])|refine adr_nil ?_|((first|refine adr_qs fun Y Yh=>?_|refine adr_y fun Y Yh=>?_);simp [go_sem])|intro _|apply And.intro|(apply Yh;clear Yh Y)));all_goals first|apply Hold.mk|omega|with_reducible assumption|skip))
      (refine callA_l [900040, 900041, 900043, 900044, 900042] (by first|exact .inl ⟨rfl,rfl⟩|exact .inr rfl) (by simp [go_sem]) ?_; intro args ha; simp [go_sem] at ha; subst ha; refine ⟨_, _, H, (by simp [go_sem]), ?_⟩; rintro ps r hps ⟨g1, g2, rfl, rfl⟩; simp [go_sem]; ((repeat' (first|(refine ag_x ?_;simp [go_sem])|refine adr_nil ?_|((first|refine adr_qs fun Y Yh=>?_|refine adr_y fun Y Yh=>?_);simp [go_sem])|intro _|apply And.intro|(apply Yh;clear Yh Y)));all_goals first|apply Hold.mk|omega|with_reducible assumption|skip))
      show K14 _
      refine hK14 _ ?_; clear hK14
      refine awp_frzpr 900042 900044 1 rfl rfl (by decide) rfl ?_
      simp only [go_sem, List.set]
      refine awp_frzin 900044 900043 4 rfl rfl (by decide) rfl ?_
      simp only [go_sem, List.set]
      refine awp_frzpr 900043 900041 2 rfl rfl (by decide) rfl ?_
      simp only [go_sem, List.set]
      (refine awp_r fun Y Yh => ?_; simp [go_sem]; ((repeat' (first|(refine ag_x ?_;simp [go_sem])|intro _|apply And.intro|(apply Yh;clear Yh Y)));all_goals first|apply Hold.mk|omega|with_reducible assumption|skip))
      refine ⟨(2, 0), ?_, by simp, by simp⟩
      (refine cov_of ?_ ?_ <;> simp [go_sem])
     ·have H := root2_spec gR gt gN 1 0 (by omega) 49 48 va vb 4 2 finB fin_126 (by decide) fin_49 fin_48
      (refine awp_sr fun Y Yh => ?_; simp [go_sem]; ((repeat' (first|(refine ag_x ?_;simp [go_sem])|intro _|apply And.intro|(apply Yh;clear Yh Y)));all_goals first|apply Hold.mk|omega|with_reducible assumption|skip))
      (refine awp_if fun T F hT hF => ?_; simp [go_sem]; refine hT ?_; clear hT hF T F)
      refine awp_skip ?_
      refine hK13 _ ?_; clear hK13
      refine awp_seq_k fun K14 hK14 => ?_
      refine awp_block ?_
      ((refine awp_d (.qs [0, 1, 2, 3, 4, 5, 7, 8, 9, 10, 12, 13, 14, 15, 16, 6, 11] (.one 17 (.nil))) (by kernel_rfl) ?_ ?_ ?_ ?_); (kernel_rfl); (exact (by decide +kernel)); (kernel_rfl); intro Y Yh; ((repeat' (first|(refine ag_x ?_;simp [go_sem])|refine adr_nil ?_|((first|refine adr_qs fun Y Yh=>?_|refine adr_y fun Y Yh=>?_);simp [go_sem])|intro _|apply And.intro|(apply Yh;clear Yh Y)));all_goals first|apply Hold.mk|omega|with_reducible assumption|skip))
      (refine callA_l [900040, 900041, 900043, 900044, 900042] (by first|exact .inl ⟨rfl,rfl⟩|exact .inr rfl) (by simp [go_sem]) ?_; intro args ha; simp [go_sem] at ha; subst ha; refine ⟨_, _, H, (by simp [go_sem]), ?_⟩; rintro ps r hps ⟨g1, g2, rfl, rfl⟩; simp [go_sem]; ((repeat' (first|(refine ag_x ?_;simp [go_sem])|refine adr_nil ?_|((first|refine adr_qs fun Y Yh=>?_|refine adr_y fun Y Yh=>?_);simp [go_sem])|intro _|apply And.intro|(apply Yh;clear Yh Y)));all_goals first|apply Hold.mk|omega|with_reducible assumption|skip))
      show K14 _
      refine hK14 _ ?_; clear hK14
      refine awp_frzpr 900042 900044 0 rfl rfl (by decide) rfl ?_
      simp only [go_sem, List.set]
      refine awp_frzin 900044 900043 4 rfl rfl (by decide) rfl ?_
      simp only [go_sem, List.set]
      refine awp_frzpr 900043 900041 2 rfl rfl (by decide) rfl ?_
      simp only [go_sem, List.set]
      (refine awp_r fun Y Yh => ?_; simp [go_sem]; ((repeat' (first|(refine ag_x ?_;simp [go_sem])|intro _|apply And.intro|(apply Yh;clear Yh Y)));all_goals first|apply Hold.mk|omega|with_reducible assumption|skip))
      refine ⟨(2, 0), ?_, by simp, by simp⟩
      (refine cov_of ?_ ?_ <;> simp [go_sem])
    ·simp only
     (refine awp_sr fun Y Yh => ?_; simp [go_sem]; ((repeat' (first|(refine ag_x ?_;simp [go_sem])|intro _|apply And.intro|(apply Yh;clear Yh Y)));all_goals first|apply Hold.mk|omega|with_reducible assumption|skip))
     (refine awp_if fun T F hT hF => ?_; simp [go_sem]; refine hF ?_; clear hT hF T F)
     refine awp_exit ?_
     simp only [go_sem]
     refine hK12 _ ?_; clear hK12
     refine awp_frzin 900041 900040 4 rfl rfl (by decide) rfl ?_
     simp only [go_sem, rC_set4]
     refine awp_frzbox 3 rfl rfl ?_
     simp only [go_sem]
     (refine awp_sr fun Y Yh => ?_; simp [go_sem]; ((repeat' (first|(refine ag_x ?_;simp [go_sem])|intro _|apply And.intro|(apply Yh;clear Yh Y)));all_goals first|apply Hold.mk|omega|with_reducible assumption|skip))
     (refine awp_ret ?_; simp [go_sem])
set_option maxHeartbeats 8000000 in
theorem newr_spec (a b : UInt8) (va vb : Bs) : ACall Tryz.prog 54 [onD a b va vb] [] [900010] fun ps r => ∃ g, ps = [(g, .box [.v (.int .u32 0), .v (.int .i32 0), .v (.int .u32 0), .v .nilIface, onD a b va vb])] ∧ r = .ptr 900010 g 0 := by 
 refine acall_of Tryz.func54 rfl rfl Tryz.ntmps54 (rs := [.tmp 2]) (tys := [94]) rfl rfl (by simp) (by simp) ?_
 (refine awp_sr fun Y Yh => ?_; simp [go_sem]; ((repeat' (first|(refine ag_x ?_;simp [go_sem])|intro _|apply And.intro|(apply Yh;clear Yh Y)));all_goals first|apply Hold.mk|omega|with_reducible assumption|skip))
 refine awp_seq_k fun K1 hK1 => ?_
 (refine awp_sr fun Y Yh => ?_; simp [go_sem]; ((repeat' (first|(refine ag_x ?_;simp [go_sem])|intro _|apply And.intro|(apply Yh;clear Yh Y)));all_goals first|apply Hold.mk|omega|with_reducible assumption|skip))
 (refine awp_if fun T F hT hF => ?_; simp [go_sem]; refine hF ?_; clear hT hF T F)
 refine awp_skip ?_
 refine hK1 _ ?_; clear hK1
 (refine awp_sr fun Y Yh => ?_; simp [go_sem]; ((repeat' (first|(refine ag_x ?_;simp [go_sem])|intro _|apply And.intro|(apply Yh;clear Yh Y)));all_goals first|apply Hold.mk|omega|with_reducible assumption|skip))
 refine awp_renbox 2 900010 rfl rfl (by decide) fun g => ?_
 simp only [go_sem]
 refine awp_frzin 9 900010 4 rfl rfl (by decide) rfl ?_
 simp only [go_sem, List.set]
 (refine awp_ret ?_; simp [go_sem])
def gC (i j : Nat) (va vb : Bs) : List D := rC (.sl 1 [[nP], [nP], [.rd [dS [], dI 0, dS [], nP, .sl 1 (((List.replicate 3 [nP]).set i [.rd (lfN va 4)]).set j [.rd (lfN vb 2)])]]]) (dI 3) finB
abbrev gRd (i j : Nat) (va vb : Bs) : D := .rd (gC i j va vb)
abbrev abOk (a b : UInt8) (i j : Nat) : Prop := (a = 48 ∧ b = 49 ∧ i = 0 ∧ j = 1) ∨ (a = 49 ∧ b = 48 ∧ i = 1 ∧ j = 0)
set_option maxHeartbeats 8000000 in
theorem build_spec (g : Nat) (c0 c1 c2 : Value) (a b : UInt8) (va vb : Bs) (i j : Nat) (hab : abOk a b i j) : ACall Tryz.prog 150 [.ptr 900010 g 0] [(900010, (g, .box [.v c0, .v c1, .v c2, .v .nilIface, onD a b va vb]))] [900010] fun ps r =>
  ps = [(g, .box [.v c0, .v c1, .v c2, .v .nilIface, onD a b va vb])] ∧ r = .ifc 235 (gRd i j va vb) := by 
 refine acall_of Tryz.func150 rfl rfl Tryz.ntmps150 (rs := [.tmp 2]) (tys := [163]) rfl rfl (by simp) (by simp [notFroz]) ?_
 have H := mkgen_spec a b va vb i j hab
 change PCall Tryz.prog 188 [onD a b va vb] fun r => r = gRd i j va vb at H
 simp only [gRd] at H ⊢
 generalize gC i j va vb = G at *
 (refine awp_sr fun Y Yh => ?_; simp [go_sem]; ((repeat' (first|(refine ag_x ?_;simp [go_sem])|intro _|apply And.intro|(apply Yh;clear Yh Y)));all_goals first|apply Hold.mk|omega|with_reducible assumption|skip))
 (refine awp_sr fun Y Yh => ?_; simp [go_sem]; ((repeat' (first|(refine ag_x ?_;simp [go_sem])|intro _|apply And.intro|(apply Yh;clear Yh Y)));all_goals first|apply Hold.mk|omega|with_reducible assumption|skip))
 refine awp_seq_k fun K1 hK1 => ?_
 (refine awp_sr fun Y Yh => ?_; simp [go_sem]; ((repeat' (first|(refine ag_x ?_;simp [go_sem])|intro _|apply And.intro|(apply Yh;clear Yh Y)));all_goals first|apply Hold.mk|omega|with_reducible assumption|skip))
 (refine awp_if fun T F hT hF => ?_; simp [go_sem]; refine hF ?_; clear hT hF T F)
 refine awp_skip ?_
 refine hK1 _ ?_; clear hK1
 (refine awp_sr fun Y Yh => ?_; simp [go_sem]; ((repeat' (first|(refine ag_x ?_;simp [go_sem])|intro _|apply And.intro|(apply Yh;clear Yh Y)));all_goals first|apply Hold.mk|omega|with_reducible assumption|skip))
 refine awp_seq_k fun K3 hK3 => ?_
 (refine awp_sr fun Y Yh => ?_; simp [go_sem]; ((repeat' (first|(refine ag_x ?_;simp [go_sem])|intro _|apply And.intro|(apply Yh;clear Yh Y)));all_goals first|apply Hold.mk|omega|with_reducible assumption|skip))
 refine awp_block ?_
 refine awp_loop (σ := Unit) (fun _ => ⟨[(0, .ptr 900010 g 0), (3, onD a b va vb), (5, dI 0)], [(900010, (g, .box [.v c0, .v c1, .v c2, .v .nilIface, onD a b va vb]))]⟩) (fun _ => True) (fun _ => 0) () (by (refine cov_of ?_ ?_ <;> simp [go_sem])) trivial ?_
 rintro ⟨⟩ _
 refine awp_seq_k fun K4 hK4 => ?_
 (refine awp_sr fun Y Yh => ?_; simp [go_sem]; ((repeat' (first|(refine ag_x ?_;simp [go_sem])|intro _|apply And.intro|(apply Yh;clear Yh Y)));all_goals first|apply Hold.mk|omega|with_reducible assumption|skip))
 (refine awp_if fun T F hT hF => ?_; simp [go_sem]; refine hT ?_; clear hT hF T F)
 refine awp_skip ?_
 refine hK4 _ ?_; clear hK4
 refine awp_seq_k fun K6 hK6 => ?_
 refine awp_block ?_
 refine awp_seq_k fun K7 hK7 => ?_
 (refine awp_sr fun Y Yh => ?_; simp [go_sem]; ((repeat' (first|(refine ag_x ?_;simp [go_sem])|intro _|apply And.intro|(apply Yh;clear Yh Y)));all_goals first|apply Hold.mk|omega|with_reducible assumption|skip))
 (refine awp_if fun T F hT hF => ?_; simp [go_sem]; refine hT ?_; clear hT hF T F)
 (refine awp_seq ?_; refine awp_ags ?_; simp only [AGs])
 (refine ag_true rfl ?_; simp [go_sem])
 (refine ag_true rfl ?_; simp [go_sem])
 refine CallT.toA ?_
 refine callT_m (.inl ⟨rfl, rfl⟩) (by simp [go_sem]) ?_
 intro args ha
 simp [go_sem] at ha
 subst ha
 refine ⟨_, H, ?_⟩
 rintro _ rfl
 refine ag_mkifc (by simp [dstOk]) (by kernel_rfl) ?_
 simp [go_sem]
 (refine ag_true rfl ?_; simp [go_sem])
 (refine awp_ret ?_; simp [go_sem, retA])
set_option maxHeartbeats 8000000 in
theorem bonce_spec (g : Nat) (c0 c1 c2 : Value) (a b : UInt8) (va vb : Bs) (i j : Nat) (hab : abOk a b i j) : ACall Tryz.prog 103 [.ptr 900010 g 0] [(900010, (g, .box [.v c0, .v c1, .v c2, .v .nilIface, onD a b va vb]))] [900010] fun ps r =>
  ps = [(g, .box [.v c0, .v c1, .v c2, .ifc 235 (gRd i j va vb), nS])] ∧ r = .tup [] := by 
 refine acall_of Tryz.func103 rfl rfl Tryz.ntmps103 (rs := []) (tys := []) rfl rfl (by simp) (by simp [notFroz]) ?_
 have H := build_spec g c0 c1 c2 a b va vb i j hab
 simp only [gRd] at H ⊢
 generalize gC i j va vb = G at *
 (refine awp_sr fun Y Yh => ?_; simp [go_sem]; ((repeat' (first|(refine ag_x ?_;simp [go_sem])|intro _|apply And.intro|(apply Yh;clear Yh Y)));all_goals first|apply Hold.mk|omega|with_reducible assumption|skip))
 (refine callA_l [900010] (by first|exact .inl ⟨rfl,rfl⟩|exact .inr rfl) (by simp [go_sem]) ?_; intro args ha; simp [go_sem] at ha; subst ha; refine ⟨_, _, H, (by simp [go_sem]), ?_⟩; rintro ps r hps ⟨rfl, rfl⟩; simp [go_sem]; ((repeat' (first|(refine ag_x ?_;simp [go_sem])|intro _|apply And.intro|(apply Yh;clear Yh Y)));all_goals first|apply Hold.mk|omega|with_reducible assumption|skip))
 (refine awp_r fun Y Yh => ?_; simp [go_sem]; ((repeat' (first|(refine ag_x ?_;simp [go_sem])|intro _|apply And.intro|(apply Yh;clear Yh Y)));all_goals first|apply Hold.mk|omega|with_reducible assumption|skip))
 unfold retA
 simp [go_sem, notFroz]
end Go.Proofs.YtkgmecjaejaehaaGreatDoor
namespace Go.Proofs.YtkgmecjaejaehaaGreatDoor
set_option maxRecDepth 100000
theorem rdisable (w : World) : (callFunc 236 #[]).run Tryz.prog w = .ok (.value (.tuple #[])) w := run_call_mark0 Tryz.func236 (by kernel_rfl) (by kernel_rfl) (by kernel_rfl) .disable (by kernel_rfl) w
theorem renable (w : World) : (callFunc 238 #[]).run Tryz.prog w = .ok (.value (.tuple #[])) w := run_call_mark0 Tryz.func238 (by kernel_rfl) (by kernel_rfl) (by kernel_rfl) .enable (by kernel_rfl) w
theorem racquire (a : Addr) (w : World) : (callFunc 239 #[.pointer (some a)]).run Tryz.prog w = .ok (.value (.tuple #[])) w := run_call_marked Tryz.func239 (by kernel_rfl) (by kernel_rfl) (by kernel_rfl) .acquire (by kernel_rfl) a w
theorem rrelease (a : Addr) (w : World) : (callFunc 241 #[.pointer (some a)]).run Tryz.prog w = .ok (.value (.tuple #[])) w := run_call_marked Tryz.func241 (by kernel_rfl) (by kernel_rfl) (by kernel_rfl) .releaseMerge (by kernel_rfl) a w
theorem store_deferred (a : Addr) (x : Value) (u : FrameMode) (w : World) (hc : w.cell? a = some x) (hz : w.frozen? a = false) :
  CallsD Tryz.prog 186 #[.pointer (some a), .bool true] u w fun e u' w' => u' = u ∧ (e = .returned (.tuple #[]) ∧ w' = w.drew.setCell a (.int .u32 1)) := by
 have hc' : w.drew.cell? a = some x := by go_simp
 have hz' : w.drew.frozen? a = false := by go_simp
 have hst := run_call_store (P := Tryz.prog) Tryz.func218 (by kernel_rfl) (by kernel_rfl) (by kernel_rfl) (by kernel_rfl) (k := .u32) (y := 1) hc' hz'
 go_enter_d Tryz.func186, Tryz.ntmps186
 go_wp2
 go_region_calls
 all_goals (go_end0; exact ⟨rfl, rfl⟩)
theorem unlock_deferred (a : Addr) (u : FrameMode) (w : World) (hc : w.cell? a = some (.int .i32 1)) (hz : w.frozen? a = false) :
  CallsD Tryz.prog 185 #[.pointer (some a)] u w fun e u' w' => u' = u ∧ (e = .returned (.tuple #[]) ∧ w' = w.setCell a (.int .i32 0)) := by
 have hd := rdisable
 have he := renable
 have hr := rrelease
 have hadd := run_call_add (P := Tryz.prog) Tryz.func242 (by kernel_rfl) (by kernel_rfl) (by kernel_rfl) .i32 (by kernel_rfl) (y := -1) (s := 0) hc hz (by simp [go_sem]; rfl)
 have hcv := run_convert_to_unsafe (P := Tryz.prog) (src := 286) (dst := 223) Tryz.underlying286 Tryz.underlying223 (by kernel_rfl) hc
 go_enter_d Tryz.func185, Tryz.ntmps185
 go_wp2
 go_end0
 go_wp2
 go_end0
 exact ⟨rfl, rfl⟩
theorem lock_free (a : Addr) (w : World) (hc : w.cell? a = some (.int .i32 0)) (hz : w.frozen? a = false) :
  Calls Tryz.prog 184 #[.pointer (some a)] w fun e w' => e = .returned (.tuple #[]) ∧ w' = w.setCell a (.int .i32 1) := by
 have hd := rdisable
 have he := renable
 have ha := racquire
 have hcas := run_call_cas_hit (P := Tryz.prog) Tryz.func237 (by kernel_rfl) (by kernel_rfl) (by kernel_rfl) .i32 (by kernel_rfl) (y := 1) hc hz
 have hc' : (w.setCell a (.int .i32 1)).cell? a = some (.int .i32 1) := World.cell?_setCell_same w a _ hc
 have hcv := run_convert_to_unsafe (P := Tryz.prog) (src := 286) (dst := 223) Tryz.underlying286 Tryz.underlying223 (by kernel_rfl) hc'
 go_enter Tryz.func184, Tryz.ntmps184
 go_wp2
 first | go_end0 | (simp only [Exit.inBlock, Exit.then]; refine bodyPost_ret (results_none rfl _ _ _) rfl ?_) | refine bodyPost_ret (results_none rfl _ _ _) rfl ?_
 go_wp2
 go_end0
 exact ⟨rfl, rfl⟩
end Go.Proofs.YtkgmecjaejaehaaGreatDoor
