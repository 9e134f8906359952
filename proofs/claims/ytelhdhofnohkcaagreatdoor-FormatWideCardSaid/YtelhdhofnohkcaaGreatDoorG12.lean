/- Part of a proof: see the last text. -/
import Derived.Test.YtelhdhofnohkcaaGreatDoorG11
import Derived.Test.YtelhdhofnohkcaaGreatDoorG08
import Derived.Test.YtelhdhofnohkcaaGreatDoorG10
set_option linter.unusedVariables false
set_option linter.unusedSimpArgs false
namespace Go.Proofs.YtelhdhofnohkcaaGreatDoor
open Go.Eng Go.Fm
set_option maxRecDepth 20000
attribute [local irreducible] AG CallA CallT AWp PCall ACall AgC
theorem rflds_step {L : List Rf} {i : Nat} {f : Rf} (h : L[i]? = some f) : rfldsV (L.take (i + 1)) = rfldsV (L.take i) + rfld1 f := by
 rw [List.take_add_one, h]
 simp [rfldsV]
theorem rfld1_le (f : Rf) : rfld1 f ≤ 3 := by
 unfold rfld1
 (repeat' split) <;> omega
theorem rflds_le (L : List Rf) : rfldsV L ≤ 3 * L.length := by
 induction L with
 | nil => simp [rfldsV]
 | cons f L ih =>
  have e : rfldsV (f :: L) = rfld1 f + rfldsV L := by simp [rfldsV]
  have := rfld1_le f
  rw [e, List.length_cons]; omega
set_option maxHeartbeats 16000000 in
theorem rfields_spec (form : Bs) (hfl : form.length ≤ 9223372036854775807) : PCall Tryz.prog 25 [dS form] fun r => r = .tup [dI (rfldN form).1, dI (rfldN form).2] := by 
 refine pcall_of Tryz.func25 rfl rfl Tryz.ntmps25 (rs := [.tmp 2, .tmp 3]) (tys := [3, 34]) rfl rfl (by simp) ?_
 have hD := rread_spec form hfl
 unfold rfldN
 cases hr : rReadV form with
 | none =>
  rw [hr] at hD
  simp only [rrR] at hD
  simp only
  (refine awp_sr fun Y Yh => ?_; simp [go_sem]; ((repeat' (first|(refine ag_x ?_;simp [go_sem])|intro _|apply And.intro|(apply Yh;clear Yh Y)));all_goals first|apply Hold.mk|omega|with_reducible assumption|skip))
  (refine awp_sr fun Y Yh => ?_; simp [go_sem]; ((repeat' (first|(refine ag_x ?_;simp [go_sem])|intro _|apply And.intro|(apply Yh;clear Yh Y)));all_goals first|apply Hold.mk|omega|with_reducible assumption|skip))
  ((try refine CallT.toA ?_); refine callT_m (.inl ⟨rfl,rfl⟩) (by simp [go_sem]) ?_; intro args ha; simp [go_sem] at ha; subst ha; refine ⟨_, hD, ?_⟩; rintro _ rfl; simp [go_sem]; ((repeat' (first|(refine ag_x ?_;simp [go_sem])|intro _|apply And.intro|(apply Yh;clear Yh Y)));all_goals first|apply Hold.mk|omega|with_reducible assumption|skip))
  refine awp_seq_k fun K1 hK1 => ?_
  (refine awp_sr fun Y Yh => ?_; simp [go_sem]; ((repeat' (first|(refine ag_x ?_;simp [go_sem])|intro _|apply And.intro|(apply Yh;clear Yh Y)));all_goals first|apply Hold.mk|omega|with_reducible assumption|skip))
  (refine awp_if fun T F hT hF => ?_; simp [go_sem]; refine hT ?_; clear hT hF T F)
  (refine awp_sr fun Y Yh => ?_; simp [go_sem]; ((repeat' (first|(refine ag_x ?_;simp [go_sem])|intro _|apply And.intro|(apply Yh;clear Yh Y)));all_goals first|apply Hold.mk|omega|with_reducible assumption|skip))
  (refine awp_ret ?_; simp [go_sem])
 | some q =>
  obtain ⟨L, a, b⟩ := q
  have hlen := (rReadV_ok hr).2
  rw [hr] at hD
  simp only [rrR] at hD
  simp only
  by_cases hab : 0 < a ∧ 0 < b
  ·have hb : (decide (a = 0) || decide (b = 0)) = false := by
    rw [Bool.or_eq_false_iff, decide_eq_false_iff_not, decide_eq_false_iff_not]; omega
   rw [hb] at hD
   rw [if_pos hab]
   (refine awp_sr fun Y Yh => ?_; simp [go_sem]; ((repeat' (first|(refine ag_x ?_;simp [go_sem])|intro _|apply And.intro|(apply Yh;clear Yh Y)));all_goals first|apply Hold.mk|omega|with_reducible assumption|skip))
   (refine awp_sr fun Y Yh => ?_; simp [go_sem]; ((repeat' (first|(refine ag_x ?_;simp [go_sem])|intro _|apply And.intro|(apply Yh;clear Yh Y)));all_goals first|apply Hold.mk|omega|with_reducible assumption|skip))
   ((try refine CallT.toA ?_); refine callT_m (.inl ⟨rfl,rfl⟩) (by simp [go_sem]) ?_; intro args ha; simp [go_sem] at ha; subst ha; refine ⟨_, hD, ?_⟩; rintro _ rfl; simp [go_sem]; ((repeat' (first|(refine ag_x ?_;simp [go_sem])|intro _|apply And.intro|(apply Yh;clear Yh Y)));all_goals first|apply Hold.mk|omega|with_reducible assumption|skip))
   refine awp_seq_k fun K1 hK1 => ?_
   (refine awp_sr fun Y Yh => ?_; simp [go_sem]; ((repeat' (first|(refine ag_x ?_;simp [go_sem])|intro _|apply And.intro|(apply Yh;clear Yh Y)));all_goals first|apply Hold.mk|omega|with_reducible assumption|skip))
   (refine awp_if fun T F hT hF => ?_; simp [go_sem]; refine hT ?_; clear hT hF T F)
   (refine awp_sr fun Y Yh => ?_; simp [go_sem]; ((repeat' (first|(refine ag_x ?_;simp [go_sem])|intro _|apply And.intro|(apply Yh;clear Yh Y)));all_goals first|apply Hold.mk|omega|with_reducible assumption|skip))
   (refine awp_ret ?_; simp [go_sem])
  ·have hb : (decide (a = 0) || decide (b = 0)) = true := by
    rw [Bool.or_eq_true, decide_eq_true_eq, decide_eq_true_eq]; omega
   rw [hb] at hD
   rw [if_neg hab]
   (refine awp_sr fun Y Yh => ?_; simp [go_sem]; ((repeat' (first|(refine ag_x ?_;simp [go_sem])|intro _|apply And.intro|(apply Yh;clear Yh Y)));all_goals first|apply Hold.mk|omega|with_reducible assumption|skip))
   (refine awp_sr fun Y Yh => ?_; simp [go_sem]; ((repeat' (first|(refine ag_x ?_;simp [go_sem])|intro _|apply And.intro|(apply Yh;clear Yh Y)));all_goals first|apply Hold.mk|omega|with_reducible assumption|skip))
   ((try refine CallT.toA ?_); refine callT_m (.inl ⟨rfl,rfl⟩) (by simp [go_sem]) ?_; intro args ha; simp [go_sem] at ha; subst ha; refine ⟨_, hD, ?_⟩; rintro _ rfl; simp [go_sem]; ((repeat' (first|(refine ag_x ?_;simp [go_sem])|intro _|apply And.intro|(apply Yh;clear Yh Y)));all_goals first|apply Hold.mk|omega|with_reducible assumption|skip))
   refine awp_seq_k fun K1 hK1 => ?_
   (refine awp_sr fun Y Yh => ?_; simp [go_sem]; ((repeat' (first|(refine ag_x ?_;simp [go_sem])|intro _|apply And.intro|(apply Yh;clear Yh Y)));all_goals first|apply Hold.mk|omega|with_reducible assumption|skip))
   (refine awp_if fun T F hT hF => ?_; simp [go_sem]; refine hF ?_; clear hT hF T F)
   refine awp_skip ?_
   refine hK1 _ ?_; clear hK1
   (refine awp_sr fun Y Yh => ?_; simp [go_sem]; ((repeat' (first|(refine ag_x ?_;simp [go_sem])|intro _|apply And.intro|(apply Yh;clear Yh Y)));all_goals first|apply Hold.mk|omega|with_reducible assumption|skip))
   refine awp_seq_k fun K3 hK3 => ?_
   (refine awp_sr fun Y Yh => ?_; simp [go_sem]; ((repeat' (first|(refine ag_x ?_;simp [go_sem])|intro _|apply And.intro|(apply Yh;clear Yh Y)));all_goals first|apply Hold.mk|omega|with_reducible assumption|skip))
   refine awp_block ?_
   refine awp_loop (σ := Nat) (fun i => ⟨[(4, dRfs L), (5, dB (decide (0 < a))), (7, dI (rfldsV (L.take i))), (8, dI i)], []⟩) (fun i => i ≤ L.length ∧ (0 < a → i = 0)) (fun i => L.length - i) 0 ?_ ?_ ?_
   ·(refine cov_of ?_ ?_ <;> simp [go_sem])
    rfl
   ·simp
   rintro i ⟨hi, hia⟩
   have hfi := rflds_le (L.take i)
   have htl : (L.take i).length ≤ L.length := by rw [List.length_take]; omega
   refine awp_seq_k fun K4 hK4 => ?_
   have fin : rfldsV (L.take i) = (if 0 < a then 0 else rfldsV L) → ∀ S', Cov S' ⟨[(7, dI (rfldsV (L.take i)))], []⟩ → K3 S' := fun e S' hS => by
    refine hK3 _ ?_; clear hK3
    refine awp_cov hS ?_; clear hS
    rw [e]
    (refine awp_sr fun Y Yh => ?_; simp [go_sem]; ((repeat' (first|(refine ag_x ?_;simp [go_sem])|intro _|apply And.intro|(apply Yh;clear Yh Y)));all_goals first|apply Hold.mk|omega|with_reducible assumption|skip))
    (refine awp_ret ?_; simp [go_sem])
   by_cases ha : 0 < a
   ·have h0 := hia ha
    subst h0
    (refine awp_sr fun Y Yh => ?_; simp [go_sem, ha]; ((repeat' (first|(refine ag_x ?_;simp [go_sem, ha])|intro _|apply And.intro|(apply Yh;clear Yh Y)));all_goals first|apply Hold.mk|omega|with_reducible assumption|skip))
    (refine awp_if fun T F hT hF => ?_; simp [go_sem, ha]; refine hF ?_; clear hT hF T F)
    refine awp_exit ?_
    simp only [go_sem]
    refine fin (by rw [if_pos ha]; rfl) _ ?_
    (refine cov_of ?_ ?_ <;> simp [go_sem])
   ·by_cases hend : i < L.length
    ·obtain ⟨f, hf⟩ : ∃ f, L[i]? = some f := ⟨_, List.getElem?_eq_getElem hend⟩
     have hst := rflds_step hf
     generalize rfldsV (L.take i) = N at *
     have b0 : (f.lt.toNat = 0) = (f.lt = 0) := propext ⟨fun q => UInt8.toNat_inj.1 q, fun q => by rw [q]; rfl⟩
     (refine awp_sr fun Y Yh => ?_; simp [go_sem, ha]; ((repeat' (first|(refine ag_x ?_;simp [go_sem, ha])|intro _|apply And.intro|(apply Yh;clear Yh Y)));all_goals first|apply Hold.mk|omega|with_reducible assumption|skip))
     (refine awp_if fun T F hT hF => ?_; simp [go_sem, ha, hend]; refine hT ?_; clear hT hF T F)
     refine awp_skip ?_
     refine hK4 _ ?_; clear hK4
     refine awp_seq_k fun K6 hK6 => ?_
     have tl6 : ∀ S', Cov S' ⟨[(4, dRfs L), (5, dB (decide (0 < a))), (7, dI (N + rfld1 f : Nat)), (8, dI i)], []⟩ → K6 S' := fun S' hS => by
      refine hK6 _ ?_; clear hK6
      refine awp_cov hS ?_; clear hS
      (refine awp_r fun Y Yh => ?_; simp [go_sem]; ((repeat' (first|(refine ag_x ?_;simp [go_sem])|intro _|apply And.intro|(apply Yh;clear Yh Y)));all_goals first|apply Hold.mk|omega|with_reducible assumption|skip))
      refine ⟨i + 1, ?_, ⟨by omega, fun q => absurd q ha⟩, by omega⟩
      rw [hst]
      (refine cov_of ?_ ?_ <;> simp [go_sem])
     clear hK6
     refine awp_block ?_
     refine awp_seq_k fun K7 hK7 => ?_
     (refine awp_sr fun Y Yh => ?_; simp [go_sem, hf]; ((repeat' (first|(refine ag_x ?_;simp [go_sem, hf])|intro _|apply And.intro|(apply Yh;clear Yh Y)));all_goals first|apply Hold.mk|omega|with_reducible assumption|skip))
     by_cases hz : f.lt = 0
     ·have e1 : rfld1 f = 0 := by unfold rfld1; rw [if_pos hz]
      rw [e1] at tl6
      (refine awp_if fun T F hT hF => ?_; simp [go_sem, b0, hz]; refine hT ?_; clear hT hF T F)
      refine awp_exit ?_
      simp only [go_sem]
      refine tl6 _ ?_
      (refine cov_of ?_ ?_ <;> simp [go_sem])
      omega
     ·have e1 : rfld1 f = 1 + (if f.wd = -2 then 1 else 0) + (if f.pr = -2 then 1 else 0) := by unfold rfld1; rw [if_neg hz]
      rw [e1] at tl6
      have hW : (if f.wd = -2 then 1 else 0) ≤ 1 := by split <;> omega
      have hP : (if f.pr = -2 then 1 else 0) ≤ 1 := by split <;> omega
      (refine awp_if fun T F hT hF => ?_; simp [go_sem, b0, hz]; refine hF ?_; clear hT hF T F)
      refine awp_skip ?_
      refine hK7 _ ?_; clear hK7
      (refine awp_sr fun Y Yh => ?_; simp [go_sem]; ((repeat' (first|(refine ag_x ?_;simp [go_sem])|intro _|apply And.intro|(apply Yh;clear Yh Y)));all_goals first|apply Hold.mk|omega|with_reducible assumption|skip))
      refine awp_seq_k fun K9 hK9 => ?_
      have tl9 : ∀ S', Cov S' ⟨[(4, dRfs L), (5, dB (decide (0 < a))), (7, dI (N + (1 + (if f.wd = -2 then 1 else 0)) : Nat)), (8, dI i)], []⟩ → K9 S' := fun S' hS => by
       refine hK9 _ ?_; clear hK9
       refine awp_cov hS ?_; clear hS
       generalize (if f.wd = -2 then 1 else 0) = W at *
       (refine awp_sr fun Y Yh => ?_; simp [go_sem, hf]; ((repeat' (first|(refine ag_x ?_;simp [go_sem, hf])|intro _|apply And.intro|(apply Yh;clear Yh Y)));all_goals first|apply Hold.mk|omega|with_reducible assumption|skip))
       by_cases hp : f.pr = -2
       ·rw [if_pos hp] at tl6
        (refine awp_if fun T F hT hF => ?_; simp [go_sem, hp]; refine hT ?_; clear hT hF T F)
        (refine awp_r fun Y Yh => ?_; simp [go_sem]; ((repeat' (first|(refine ag_x ?_;simp [go_sem])|intro _|apply And.intro|(apply Yh;clear Yh Y)));all_goals first|apply Hold.mk|omega|with_reducible assumption|skip))
        refine tl6 _ ?_
        (refine cov_of ?_ ?_ <;> simp [go_sem])
        omega
       ·rw [if_neg hp] at tl6
        (refine awp_if fun T F hT hF => ?_; simp [go_sem, hp]; refine hF ?_; clear hT hF T F)
        refine awp_skip ?_
        refine tl6 _ ?_
        (refine cov_of ?_ ?_ <;> simp [go_sem])
        all_goals omega
      clear hK9
      (refine awp_sr fun Y Yh => ?_; simp [go_sem, hf]; ((repeat' (first|(refine ag_x ?_;simp [go_sem, hf])|intro _|apply And.intro|(apply Yh;clear Yh Y)));all_goals first|apply Hold.mk|omega|with_reducible assumption|skip))
      by_cases hw : f.wd = -2
      ·rw [if_pos hw] at tl9
       (refine awp_if fun T F hT hF => ?_; simp [go_sem, hw]; refine hT ?_; clear hT hF T F)
       (refine awp_r fun Y Yh => ?_; simp [go_sem]; ((repeat' (first|(refine ag_x ?_;simp [go_sem])|intro _|apply And.intro|(apply Yh;clear Yh Y)));all_goals first|apply Hold.mk|omega|with_reducible assumption|skip))
       refine tl9 _ ?_
       (refine cov_of ?_ ?_ <;> simp [go_sem])
       omega
      ·rw [if_neg hw] at tl9
       (refine awp_if fun T F hT hF => ?_; simp [go_sem, hw]; refine hF ?_; clear hT hF T F)
       refine awp_skip ?_
       refine tl9 _ ?_
       (refine cov_of ?_ ?_ <;> simp [go_sem])
       omega
    ·have : i = L.length := by omega
     subst this
     (refine awp_sr fun Y Yh => ?_; simp [go_sem, ha]; ((repeat' (first|(refine ag_x ?_;simp [go_sem, ha])|intro _|apply And.intro|(apply Yh;clear Yh Y)));all_goals first|apply Hold.mk|omega|with_reducible assumption|skip))
     (refine awp_if fun T F hT hF => ?_; simp [go_sem, ha, hend]; refine hF ?_; clear hT hF T F)
     refine awp_exit ?_
     simp only [go_sem]
     refine fin (by rw [if_neg ha, List.take_length]) _ ?_
     (refine cov_of ?_ ?_ <;> simp [go_sem])
def nmsV (L : List Rf) : List Bs := (L.map (·.nm)).foldl withV []
theorem nms_step {L : List Rf} {i : Nat} {f : Rf} (h : L[i]? = some f) : nmsV (L.take (i + 1)) = withV (nmsV (L.take i)) f.nm := by
 unfold nmsV
 rw [List.take_add_one, h]
 simp
theorem insS_len (s : Bs) : ∀ l : List Bs, (insS s l).length ≤ l.length + 1
 | [] => by simp [insS]
 | x :: r => by
  unfold insS
  have := insS_len s r
  (repeat' split) <;> simp <;> omega
theorem nms_len (L : List Rf) : (nmsV L).length ≤ L.length := by
 have : ∀ (ns ks : List Bs), (ns.foldl withV ks).length ≤ ks.length + ns.length := by
  intro ns
  induction ns with
  | nil => intro ks; simp
  | cons s r ih =>
   intro ks
   have h1 := ih (withV ks s)
   have h2 : (withV ks s).length ≤ ks.length + 1 := by
    unfold withV
    have := insS_len s ks
    split <;> omega
   simp only [List.foldl_cons, List.length_cons]; omega
 have := this (L.map (·.nm)) []
 simpa [nmsV] using this
set_option maxHeartbeats 16000000 in
theorem rnames_spec (form : Bs) (hfl : form.length ≤ 9223372036854775807) : PCall Tryz.prog 27 [dS form] fun r => r = .tup [dSs (rnamesV form).1, dI (rnamesV form).2] := by 
 refine pcall_of Tryz.func27 rfl rfl Tryz.ntmps27 (rs := [.tmp 2, .tmp 3]) (tys := [23, 34]) rfl rfl (by simp) ?_
 have hD := rread_spec form hfl
 unfold rnamesV
 cases hr : rReadV form with
 | none =>
  rw [hr] at hD
  simp only [rrR] at hD
  simp only
  (refine awp_sr fun Y Yh => ?_; simp [go_sem]; ((repeat' (first|(refine ag_x ?_;simp [go_sem])|intro _|apply And.intro|(apply Yh;clear Yh Y)));all_goals first|apply Hold.mk|omega|with_reducible assumption|skip))
  (refine awp_sr fun Y Yh => ?_; simp [go_sem]; ((repeat' (first|(refine ag_x ?_;simp [go_sem])|intro _|apply And.intro|(apply Yh;clear Yh Y)));all_goals first|apply Hold.mk|omega|with_reducible assumption|skip))
  ((try refine CallT.toA ?_); refine callT_m (.inl ⟨rfl,rfl⟩) (by simp [go_sem]) ?_; intro args ha; simp [go_sem] at ha; subst ha; refine ⟨_, hD, ?_⟩; rintro _ rfl; simp [go_sem]; ((repeat' (first|(refine ag_x ?_;simp [go_sem])|intro _|apply And.intro|(apply Yh;clear Yh Y)));all_goals first|apply Hold.mk|omega|with_reducible assumption|skip))
  refine awp_seq_k fun K1 hK1 => ?_
  (refine awp_sr fun Y Yh => ?_; simp [go_sem]; ((repeat' (first|(refine ag_x ?_;simp [go_sem])|intro _|apply And.intro|(apply Yh;clear Yh Y)));all_goals first|apply Hold.mk|omega|with_reducible assumption|skip))
  (refine awp_if fun T F hT hF => ?_; simp [go_sem]; refine hT ?_; clear hT hF T F)
  (refine awp_sr fun Y Yh => ?_; simp [go_sem]; ((repeat' (first|(refine ag_x ?_;simp [go_sem])|intro _|apply And.intro|(apply Yh;clear Yh Y)));all_goals first|apply Hold.mk|omega|with_reducible assumption|skip))
  (refine awp_ret ?_; simp [go_sem])
 | some q =>
  obtain ⟨L, a, b⟩ := q
  have hlen := (rReadV_ok hr).2
  rw [hr] at hD
  simp only [rrR] at hD
  simp only
  have hVe : (List.map (fun x => x.nm) L).foldl withV [] = nmsV L := rfl
  rw [hVe]
  by_cases hab : 0 < a ∧ 0 < b
  ·have hb : (decide (a = 0) || decide (b = 0)) = false := by
    rw [Bool.or_eq_false_iff, decide_eq_false_iff_not, decide_eq_false_iff_not]; omega
   rw [hb] at hD
   rw [if_pos hab]
   (refine awp_sr fun Y Yh => ?_; simp [go_sem]; ((repeat' (first|(refine ag_x ?_;simp [go_sem])|intro _|apply And.intro|(apply Yh;clear Yh Y)));all_goals first|apply Hold.mk|omega|with_reducible assumption|skip))
   (refine awp_sr fun Y Yh => ?_; simp [go_sem]; ((repeat' (first|(refine ag_x ?_;simp [go_sem])|intro _|apply And.intro|(apply Yh;clear Yh Y)));all_goals first|apply Hold.mk|omega|with_reducible assumption|skip))
   ((try refine CallT.toA ?_); refine callT_m (.inl ⟨rfl,rfl⟩) (by simp [go_sem]) ?_; intro args ha; simp [go_sem] at ha; subst ha; refine ⟨_, hD, ?_⟩; rintro _ rfl; simp [go_sem]; ((repeat' (first|(refine ag_x ?_;simp [go_sem])|intro _|apply And.intro|(apply Yh;clear Yh Y)));all_goals first|apply Hold.mk|omega|with_reducible assumption|skip))
   refine awp_seq_k fun K1 hK1 => ?_
   (refine awp_sr fun Y Yh => ?_; simp [go_sem]; ((repeat' (first|(refine ag_x ?_;simp [go_sem])|intro _|apply And.intro|(apply Yh;clear Yh Y)));all_goals first|apply Hold.mk|omega|with_reducible assumption|skip))
   (refine awp_if fun T F hT hF => ?_; simp [go_sem]; refine hT ?_; clear hT hF T F)
   (refine awp_sr fun Y Yh => ?_; simp [go_sem]; ((repeat' (first|(refine ag_x ?_;simp [go_sem])|intro _|apply And.intro|(apply Yh;clear Yh Y)));all_goals first|apply Hold.mk|omega|with_reducible assumption|skip))
   (refine awp_ret ?_; simp [go_sem])
  ·have hb : (decide (a = 0) || decide (b = 0)) = true := by
    rw [Bool.or_eq_true, decide_eq_true_eq, decide_eq_true_eq]; omega
   rw [hb] at hD
   rw [if_neg hab]
   (refine awp_sr fun Y Yh => ?_; simp [go_sem]; ((repeat' (first|(refine ag_x ?_;simp [go_sem])|intro _|apply And.intro|(apply Yh;clear Yh Y)));all_goals first|apply Hold.mk|omega|with_reducible assumption|skip))
   (refine awp_sr fun Y Yh => ?_; simp [go_sem]; ((repeat' (first|(refine ag_x ?_;simp [go_sem])|intro _|apply And.intro|(apply Yh;clear Yh Y)));all_goals first|apply Hold.mk|omega|with_reducible assumption|skip))
   ((try refine CallT.toA ?_); refine callT_m (.inl ⟨rfl,rfl⟩) (by simp [go_sem]) ?_; intro args ha; simp [go_sem] at ha; subst ha; refine ⟨_, hD, ?_⟩; rintro _ rfl; simp [go_sem]; ((repeat' (first|(refine ag_x ?_;simp [go_sem])|intro _|apply And.intro|(apply Yh;clear Yh Y)));all_goals first|apply Hold.mk|omega|with_reducible assumption|skip))
   refine awp_seq_k fun K1 hK1 => ?_
   (refine awp_sr fun Y Yh => ?_; simp [go_sem]; ((repeat' (first|(refine ag_x ?_;simp [go_sem])|intro _|apply And.intro|(apply Yh;clear Yh Y)));all_goals first|apply Hold.mk|omega|with_reducible assumption|skip))
   (refine awp_if fun T F hT hF => ?_; simp [go_sem]; refine hF ?_; clear hT hF T F)
   refine awp_skip ?_
   refine hK1 _ ?_; clear hK1
   (refine awp_sr fun Y Yh => ?_; simp [go_sem]; ((repeat' (first|(refine ag_x ?_;simp [go_sem])|intro _|apply And.intro|(apply Yh;clear Yh Y)));all_goals first|apply Hold.mk|omega|with_reducible assumption|skip))
   refine awp_nilsl 7 1 rfl ?_
   simp only [go_sem]
   refine awp_seq_k fun K3 hK3 => ?_
   (refine awp_sr fun Y Yh => ?_; simp [go_sem]; ((repeat' (first|(refine ag_x ?_;simp [go_sem])|intro _|apply And.intro|(apply Yh;clear Yh Y)));all_goals first|apply Hold.mk|omega|with_reducible assumption|skip))
   refine awp_block ?_
   refine awp_loop (σ := Nat) (fun i => ⟨[(4, dRfs L), (7, dSs (nmsV (L.take i))), (8, dI i)], []⟩) (fun i => i ≤ L.length) (fun i => L.length - i) 0 ?_ ?_ ?_
   ·(refine cov_of ?_ ?_ <;> simp [go_sem])
    rfl
   ·simp
   intro i hi
   have hfi := nms_len (L.take i)
   have htl : (L.take i).length ≤ L.length := by rw [List.length_take]; omega
   refine awp_seq_k fun K4 hK4 => ?_
   (refine awp_sr fun Y Yh => ?_; simp [go_sem]; ((repeat' (first|(refine ag_x ?_;simp [go_sem])|intro _|apply And.intro|(apply Yh;clear Yh Y)));all_goals first|apply Hold.mk|omega|with_reducible assumption|skip))
   by_cases hend : i < L.length
   ·obtain ⟨f, hf⟩ : ∃ f, L[i]? = some f := ⟨_, List.getElem?_eq_getElem hend⟩
    have hst := nms_step hf
    have hW := with_spec (nmsV (L.take i)) f.nm (by omega)
    generalize nmsV (L.take i) = N at *
    (refine awp_if fun T F hT hF => ?_; simp [go_sem, hend]; refine hT ?_; clear hT hF T F)
    refine awp_skip ?_
    refine hK4 _ ?_; clear hK4
    refine awp_seq_k fun K6 hK6 => ?_
    refine awp_block ?_
    (refine awp_r fun Y Yh => ?_; simp [go_sem, hf]; ((repeat' (first|(refine ag_x ?_;simp [go_sem, hf])|intro _|apply And.intro|(apply Yh;clear Yh Y)));all_goals first|apply Hold.mk|omega|with_reducible assumption|skip))
    ((try refine CallT.toA ?_); refine callT_m (.inl ⟨rfl,rfl⟩) (by simp [go_sem]) ?_; intro args ha; simp [go_sem] at ha; subst ha; refine ⟨_, hW, ?_⟩; rintro _ rfl; simp [go_sem]; ((repeat' (first|(refine ag_x ?_;simp [go_sem])|intro _|apply And.intro|(apply Yh;clear Yh Y)));all_goals first|apply Hold.mk|omega|with_reducible assumption|skip))
    refine hK6 _ ?_; clear hK6
    (refine awp_r fun Y Yh => ?_; simp [go_sem]; ((repeat' (first|(refine ag_x ?_;simp [go_sem])|intro _|apply And.intro|(apply Yh;clear Yh Y)));all_goals first|apply Hold.mk|omega|with_reducible assumption|skip))
    refine ⟨i + 1, ?_, by omega, by omega⟩
    rw [hst]
    (refine cov_of ?_ ?_ <;> simp [go_sem])
   ·have : i = L.length := by omega
    subst this
    rw [List.take_length] at *
    (refine awp_if fun T F hT hF => ?_; simp [go_sem, hend]; refine hF ?_; clear hT hF T F)
    refine awp_exit ?_
    simp only [go_sem]
    refine hK3 _ ?_; clear hK3
    (refine awp_sr fun Y Yh => ?_; simp [go_sem]; ((repeat' (first|(refine ag_x ?_;simp [go_sem])|intro _|apply And.intro|(apply Yh;clear Yh Y)));all_goals first|apply Hold.mk|omega|with_reducible assumption|skip))
    (refine awp_ret ?_; simp [go_sem])
set_option maxHeartbeats 16000000 in
theorem as_spec (l : List Ag) (hl : l.length ≤ 1000000) : PCall Tryz.prog 24 [dAs l] fun r => r = dAs l := by 
 refine pcall_of Tryz.func24 rfl rfl Tryz.ntmps24 (rs := [.tmp 2]) (tys := [57]) rfl rfl (by simp) ?_
 (refine awp_sr fun Y Yh => ?_; simp [go_sem]; ((repeat' (first|(refine ag_x ?_;simp [go_sem])|intro _|apply And.intro|(apply Yh;clear Yh Y)));all_goals first|apply Hold.mk|omega|with_reducible assumption|skip))
 (refine awp_sr fun Y Yh => ?_; simp [go_sem]; ((repeat' (first|(refine ag_x ?_;simp [go_sem])|intro _|apply And.intro|(apply Yh;clear Yh Y)));all_goals first|apply Hold.mk|omega|with_reducible assumption|skip))
 refine awp_nilslot 3 3 83 4 rfl fun go => ?_
 simp only [go_sem]
 refine awp_seq_k fun K1 hK1 => ?_
 (refine awp_sr fun Y Yh => ?_; simp [go_sem]; ((repeat' (first|(refine ag_x ?_;simp [go_sem])|intro _|apply And.intro|(apply Yh;clear Yh Y)));all_goals first|apply Hold.mk|omega|with_reducible assumption|skip))
 refine awp_block ?_
 refine awp_loop (σ := Nat × Nat) (fun x => ⟨[(0, dAs l), (3, .own 3 x.2), (4, dI x.1)], [(3, (x.2, .row 83 4 ((l.take x.1).map cA)))]⟩) (fun x => x.1 ≤ l.length) (fun x => l.length - x.1) (0, go) ?_ ?_ ?_
 ·(refine cov_of ?_ ?_ <;> simp [go_sem])
 ·simp
 rintro ⟨i, go⟩ hi
 simp only at hi ⊢
 refine awp_seq_k fun K2 hK2 => ?_
 (refine awp_sr fun Y Yh => ?_; simp [go_sem]; ((repeat' (first|(refine ag_x ?_;simp [go_sem])|intro _|apply And.intro|(apply Yh;clear Yh Y)));all_goals first|apply Hold.mk|omega|with_reducible assumption|skip))
 by_cases h3 : i < l.length
 ·obtain ⟨a, ha⟩ : ∃ a, l[i]? = some a := ⟨_, List.getElem?_eq_getElem h3⟩
  have hta : l.take (i + 1) = l.take i ++ [a] := by rw [List.take_add_one, ha]; rfl
  have htl : (l.take i).length = i := by rw [List.length_take]; omega
  have hmap : (l.take (i + 1)).map cA = (l.take i).map cA ++ [cA a] := by rw [hta]; simp
  generalize hT : l.take i = T at *
  (refine awp_if fun T F hT hF => ?_; simp [go_sem, h3]; refine hT ?_; clear hT hF T F)
  refine awp_skip ?_
  refine hK2 _ ?_; clear hK2
  refine awp_seq_k fun K4 hK4 => ?_
  refine awp_block ?_
  ((refine awp_d (.qs [0, 1, 2, 3, 4, 6, 7, 8, 9, 11, 12, 13, 14, 16, 17, 18, 19, 5, 10, 15, 20, 21] (.one 22 (.one 23 (.qs [24] (.nil))))) (by kernel_rfl) ?_ ?_ ?_ ?_); (kernel_rfl); (exact (by decide +kernel)); (kernel_rfl); intro Y Yh; ((repeat' (first|(refine ag_x ?_;simp [go_sem, ha])|refine adr_nil ?_|((first|refine adr_qs fun Y Yh=>?_|refine adr_y fun Y Yh=>?_);simp [go_sem, ha])|intro _|apply And.intro|(apply Yh;clear Yh Y)));all_goals first|apply Hold.mk|omega|with_reducible assumption|skip))
  refine hK4 _ ?_; clear hK4
  (refine awp_r fun Y Yh => ?_; simp [go_sem]; ((repeat' (first|(refine ag_x ?_;simp [go_sem])|intro _|apply And.intro|(apply Yh;clear Yh Y)));all_goals first|apply Hold.mk|omega|with_reducible assumption|skip))
  rename_i gq
  refine ⟨(i + 1, gq), ?_, by simp only; omega, by simp only; omega⟩
  rw [hmap]
  (refine cov_of ?_ ?_ <;> simp [go_sem])
  rw [← hT, List.map_take]
 ·have : i = l.length := by omega
  subst this
  (refine awp_if fun T F hT hF => ?_; simp [go_sem, h3]; refine hF ?_; clear hT hF T F)
  refine awp_exit ?_
  simp only [go_sem]
  refine hK1 _ ?_; clear hK1
  (refine awp_sr fun Y Yh => ?_; simp [go_sem]; ((repeat' (first|(refine ag_x ?_;simp [go_sem])|intro _|apply And.intro|(apply Yh;clear Yh Y)));all_goals first|apply Hold.mk|omega|with_reducible assumption|skip))
  (refine awp_ret ?_; simp [go_sem])
  rw [List.take_of_length_le (by simp)]
set_option maxHeartbeats 16000000 in
theorem formats_spec (form : Bs) (args : List Ag) (hA : AgsOk args) (hfl : form.length ≤ 9223372036854775807) : PCall Tryz.prog 11 [dS form, dAs args] fun r => r = dB true := by 
 refine pcall_of Tryz.func11 rfl rfl Tryz.ntmps11 (rs := [.tmp 4]) (tys := [4]) rfl rfl (by simp) ?_
 have c1 := format_spec form args hA hfl
 have c2 := rformat_spec form args hA hfl
 have c3 := fields_spec form hfl
 have e3 : fieldsN form = rfldN form := fields_same form
 rw [e3] at c3
 have c4 := rfields_spec form hfl
 have c5 := names_spec form hfl
 rw [names_same] at c5
 have c6 := rnames_spec form hfl
 have c7 := left_spec form args hA hfl
 have c8 := rleft_spec form args hA hfl
 have c9 := check_spec form hfl
 have c10 := rcheck_spec form hfl
 have cA := as_spec args hA.1
 have hnl : (rnamesV form).1.length ≤ 1000000 := by
  unfold rnamesV
  cases hr : rReadV form with
  | none => simp
  | some q =>
   obtain ⟨L, a, b⟩ := q
   simp only
   split
   ·simp
   ·have h1 := nms_len L
    have h2 := (rReadV_ok hr).2
    unfold nmsV at h1
    simp only; omega
 have cT := texts_spec (rnamesV form).1 (by omega)
 clear e3
 generalize runV form args = q1 at *
 generalize rfldN form = q2 at *
 generalize rnamesV form = q3 at *
 generalize leftV form args = q4 at *
 generalize (if (readV form).isSome then (0 : Int) else 4) = q5 at *
 obtain ⟨t, u, e⟩ := q1
 obtain ⟨n, g⟩ := q2
 obtain ⟨nl, ne⟩ := q3
 obtain ⟨x, o⟩ := q4
 simp only at c1 c2 c3 c4 c5 c6 c7 c8 cT
 (refine awp_sr fun Y Yh => ?_; simp [go_sem]; ((repeat' (first|(refine ag_x ?_;simp [go_sem])|intro _|apply And.intro|(apply Yh;clear Yh Y)));all_goals first|apply Hold.mk|omega|with_reducible assumption|skip))
 (refine awp_sr fun Y Yh => ?_; simp [go_sem]; ((repeat' (first|(refine ag_x ?_;simp [go_sem])|intro _|apply And.intro|(apply Yh;clear Yh Y)));all_goals first|apply Hold.mk|omega|with_reducible assumption|skip))
 ((try refine CallT.toA ?_); refine callT_m (.inl ⟨rfl,rfl⟩) (by simp [go_sem]) ?_; intro args ha; simp [go_sem] at ha; subst ha; refine ⟨_, c1, ?_⟩; rintro _ rfl; simp [go_sem]; ((repeat' (first|(refine ag_x ?_;simp [go_sem])|intro _|apply And.intro|(apply Yh;clear Yh Y)));all_goals first|apply Hold.mk|omega|with_reducible assumption|skip))
 (refine awp_sr fun Y Yh => ?_; simp [go_sem]; ((repeat' (first|(refine ag_x ?_;simp [go_sem])|intro _|apply And.intro|(apply Yh;clear Yh Y)));all_goals first|apply Hold.mk|omega|with_reducible assumption|skip))
 ((try refine CallT.toA ?_); refine callT_m (.inl ⟨rfl,rfl⟩) (by simp [go_sem]) ?_; intro args ha; simp [go_sem] at ha; subst ha; refine ⟨_, cA, ?_⟩; rintro _ rfl; simp [go_sem]; ((repeat' (first|(refine ag_x ?_;simp [go_sem])|intro _|apply And.intro|(apply Yh;clear Yh Y)));all_goals first|apply Hold.mk|omega|with_reducible assumption|skip))
 ((try refine CallT.toA ?_); refine callT_m (.inl ⟨rfl,rfl⟩) (by simp [go_sem]) ?_; intro args ha; simp [go_sem] at ha; subst ha; refine ⟨_, c2, ?_⟩; rintro _ rfl; simp [go_sem]; ((repeat' (first|(refine ag_x ?_;simp [go_sem])|intro _|apply And.intro|(apply Yh;clear Yh Y)));all_goals first|apply Hold.mk|omega|with_reducible assumption|skip))
 (refine awp_sr fun Y Yh => ?_; simp [go_sem]; ((repeat' (first|(refine ag_x ?_;simp [go_sem])|intro _|apply And.intro|(apply Yh;clear Yh Y)));all_goals first|apply Hold.mk|omega|with_reducible assumption|skip))
 ((try refine CallT.toA ?_); refine callT_m (.inl ⟨rfl,rfl⟩) (by simp [go_sem]) ?_; intro args ha; simp [go_sem] at ha; subst ha; refine ⟨_, c3, ?_⟩; rintro _ rfl; simp [go_sem]; ((repeat' (first|(refine ag_x ?_;simp [go_sem])|intro _|apply And.intro|(apply Yh;clear Yh Y)));all_goals first|apply Hold.mk|omega|with_reducible assumption|skip))
 (refine awp_sr fun Y Yh => ?_; simp [go_sem]; ((repeat' (first|(refine ag_x ?_;simp [go_sem])|intro _|apply And.intro|(apply Yh;clear Yh Y)));all_goals first|apply Hold.mk|omega|with_reducible assumption|skip))
 ((try refine CallT.toA ?_); refine callT_m (.inl ⟨rfl,rfl⟩) (by simp [go_sem]) ?_; intro args ha; simp [go_sem] at ha; subst ha; refine ⟨_, c4, ?_⟩; rintro _ rfl; simp [go_sem]; ((repeat' (first|(refine ag_x ?_;simp [go_sem])|intro _|apply And.intro|(apply Yh;clear Yh Y)));all_goals first|apply Hold.mk|omega|with_reducible assumption|skip))
 (refine awp_sr fun Y Yh => ?_; simp [go_sem]; ((repeat' (first|(refine ag_x ?_;simp [go_sem])|intro _|apply And.intro|(apply Yh;clear Yh Y)));all_goals first|apply Hold.mk|omega|with_reducible assumption|skip))
 ((try refine CallT.toA ?_); refine callT_m (.inl ⟨rfl,rfl⟩) (by simp [go_sem]) ?_; intro args ha; simp [go_sem] at ha; subst ha; refine ⟨_, c5, ?_⟩; rintro _ rfl; simp [go_sem]; ((repeat' (first|(refine ag_x ?_;simp [go_sem])|intro _|apply And.intro|(apply Yh;clear Yh Y)));all_goals first|apply Hold.mk|omega|with_reducible assumption|skip))
 (refine awp_sr fun Y Yh => ?_; simp [go_sem]; ((repeat' (first|(refine ag_x ?_;simp [go_sem])|intro _|apply And.intro|(apply Yh;clear Yh Y)));all_goals first|apply Hold.mk|omega|with_reducible assumption|skip))
 ((try refine CallT.toA ?_); refine callT_m (.inl ⟨rfl,rfl⟩) (by simp [go_sem]) ?_; intro args ha; simp [go_sem] at ha; subst ha; refine ⟨_, c6, ?_⟩; rintro _ rfl; simp [go_sem]; ((repeat' (first|(refine ag_x ?_;simp [go_sem])|intro _|apply And.intro|(apply Yh;clear Yh Y)));all_goals first|apply Hold.mk|omega|with_reducible assumption|skip))
 (refine awp_sr fun Y Yh => ?_; simp [go_sem]; ((repeat' (first|(refine ag_x ?_;simp [go_sem])|intro _|apply And.intro|(apply Yh;clear Yh Y)));all_goals first|apply Hold.mk|omega|with_reducible assumption|skip))
 ((try refine CallT.toA ?_); refine callT_m (.inl ⟨rfl,rfl⟩) (by simp [go_sem]) ?_; intro args ha; simp [go_sem] at ha; subst ha; refine ⟨_, c7, ?_⟩; rintro _ rfl; simp [go_sem]; ((repeat' (first|(refine ag_x ?_;simp [go_sem])|intro _|apply And.intro|(apply Yh;clear Yh Y)));all_goals first|apply Hold.mk|omega|with_reducible assumption|skip))
 (refine awp_sr fun Y Yh => ?_; simp [go_sem]; ((repeat' (first|(refine ag_x ?_;simp [go_sem])|intro _|apply And.intro|(apply Yh;clear Yh Y)));all_goals first|apply Hold.mk|omega|with_reducible assumption|skip))
 ((try refine CallT.toA ?_); refine callT_m (.inl ⟨rfl,rfl⟩) (by simp [go_sem]) ?_; intro args ha; simp [go_sem] at ha; subst ha; refine ⟨_, cA, ?_⟩; rintro _ rfl; simp [go_sem]; ((repeat' (first|(refine ag_x ?_;simp [go_sem])|intro _|apply And.intro|(apply Yh;clear Yh Y)));all_goals first|apply Hold.mk|omega|with_reducible assumption|skip))
 ((try refine CallT.toA ?_); refine callT_m (.inl ⟨rfl,rfl⟩) (by simp [go_sem]) ?_; intro args ha; simp [go_sem] at ha; subst ha; refine ⟨_, c8, ?_⟩; rintro _ rfl; simp [go_sem]; ((repeat' (first|(refine ag_x ?_;simp [go_sem])|intro _|apply And.intro|(apply Yh;clear Yh Y)));all_goals first|apply Hold.mk|omega|with_reducible assumption|skip))
 (refine awp_sr fun Y Yh => ?_; simp [go_sem]; ((repeat' (first|(refine ag_false ?_ ?_ ?_;(focus (simp [go_sem, undef];done));(focus (simp [go_sem];done));simp [go_sem])|(refine ag_true ?_ ?_;(focus (simp [go_sem, undef];done));simp [go_sem])|(refine ag_x ?_;simp [go_sem, undef])|intro _|apply And.intro|(apply Yh;clear Yh Y)));all_goals first|apply Hold.mk|omega|with_reducible assumption|skip))
 ((try refine CallT.toA ?_); refine callT_m (.inl ⟨rfl,rfl⟩) (by simp [go_sem]) ?_; intro args ha; simp [go_sem] at ha; subst ha; refine ⟨_, cT, ?_⟩; rintro _ rfl; simp [go_sem]; ((repeat' (first|(refine ag_false ?_ ?_ ?_;(focus (simp [go_sem, undef];done));(focus (simp [go_sem];done));simp [go_sem])|(refine ag_true ?_ ?_;(focus (simp [go_sem, undef];done));simp [go_sem])|(refine ag_x ?_;simp [go_sem, undef])|intro _|apply And.intro|(apply Yh;clear Yh Y)));all_goals first|apply Hold.mk|omega|with_reducible assumption|skip))
 ((try refine CallT.toA ?_); refine callT_m (.inl ⟨rfl,rfl⟩) (by simp [go_sem]) ?_; intro args ha; simp [go_sem] at ha; subst ha; refine ⟨_, c9, ?_⟩; rintro _ rfl; simp [go_sem]; ((repeat' (first|(refine ag_false ?_ ?_ ?_;(focus (simp [go_sem, undef];done));(focus (simp [go_sem];done));simp [go_sem])|(refine ag_true ?_ ?_;(focus (simp [go_sem, undef];done));simp [go_sem])|(refine ag_x ?_;simp [go_sem, undef])|intro _|apply And.intro|(apply Yh;clear Yh Y)));all_goals first|apply Hold.mk|omega|with_reducible assumption|skip))
 ((try refine CallT.toA ?_); refine callT_m (.inl ⟨rfl,rfl⟩) (by simp [go_sem]) ?_; intro args ha; simp [go_sem] at ha; subst ha; refine ⟨_, c10, ?_⟩; rintro _ rfl; simp [go_sem]; ((repeat' (first|(refine ag_false ?_ ?_ ?_;(focus (simp [go_sem, undef];done));(focus (simp [go_sem];done));simp [go_sem])|(refine ag_true ?_ ?_;(focus (simp [go_sem, undef];done));simp [go_sem])|(refine ag_x ?_;simp [go_sem, undef])|intro _|apply And.intro|(apply Yh;clear Yh Y)));all_goals first|apply Hold.mk|omega|with_reducible assumption|skip))
 (refine awp_ret ?_; simp [go_sem])
end Go.Proofs.YtelhdhofnohkcaaGreatDoor
namespace Go.Fm
structure Pk where
 fl : Int
 wd : Int
 pr : Int
 lt : Int
 n : Int
 kd : Int
 tx : List UInt8
end Go.Fm
namespace Go.Proofs.YtelhdhofnohkcaaGreatDoor
open Go.Eng Go.Fm
set_option maxRecDepth 20000
attribute [local irreducible] AG CallA CallT AWp PCall ACall AgC
abbrev PkOk (p : Pk) : Prop := InR p.fl ∧ InR p.wd ∧ InR p.pr ∧ InR p.lt ∧ InR p.n ∧ InR p.kd
@[go_sem] abbrev cPk (p : Pk) : List D := [dI p.fl, dI p.wd, dI p.pr, dI p.lt, dI p.n, dI p.kd, dS p.tx]
@[go_sem] abbrev dPk (p : Pk) : D := .agg [dI p.fl, dI p.wd, dI p.pr, dI p.lt, dI p.n, dI p.kd, dS p.tx]
def flagQ (fl : Int) (i : Nat) : Bool := decide (andI IntKind.i64 (shrI IntKind.i64 fl (IntKind.u64.wrap i)) 3 = 1)
def flagC (i : Nat) : Bs := (([45, 48, 43, 32, 35] : Bs).drop i).take 1
def flagsV (fl : Int) : Nat → Bs
 | 0 => []
 | i + 1 => flagsV fl i ++ if flagQ fl i then flagC i else []
def mdU (x : Int) (m : Nat) : Nat := (IntKind.u64.wrap x % m).toNat
theorem mdU_lt (x : Int) {m : Nat} (h : 0 < m) : mdU x m < m := by
 unfold mdU
 have h1 := Int.emod_nonneg (IntKind.u64.wrap x) (b := (m : Int)) (by omega)
 have h2 := Int.emod_lt_of_pos (IntKind.u64.wrap x) (b := (m : Int)) (by omega)
 omega
theorem wrap64_nn (x : Int) : 0 ≤ IntKind.u64.wrap x := by
 simp [IntKind.wrap, IntKind.signed, IntKind.bits]
 try omega
theorem mdU_eq (x : Int) (m : Nat) (h : 0 < m) : Int.tmod (IntKind.u64.wrap x) m = (mdU x m : Nat) := by
 rw [Int.tmod_eq_emod_of_nonneg (wrap64_nn x)]
 unfold mdU
 have h1 := Int.emod_nonneg (IntKind.u64.wrap x) (b := (m : Int)) (by omega)
 omega
def nameK (kd : Int) : Bs := if mdU kd 3 = 0 then [97] else if mdU kd 3 = 1 then [98, 95, 99] else [100]
def widT (named : Bool) (w : Nat) : Bs := if w < 6 then [] else if w < 14 ∨ named = true then showB 10 (w - 3 : Int) else [42]
def preT (named : Bool) (q : Nat) : Bs := if q < 7 then [] else if q = 7 then [46] else if q < 14 ∨ named = true then 46 :: showB 10 (q - 8 : Int) else [46, 42]
def widA (named : Bool) (p : Pk) : List Ag := if mdU p.wd 16 < 14 ∨ named = true then [] else [⟨[], false, p.wd.tmod 20, []⟩]
def preA (named : Bool) (p : Pk) : List Ag := if mdU p.pr 16 < 14 ∨ named = true then [] else [⟨[], false, p.pr.tmod 9, []⟩]
def lastN (p : Pk) : Int := if mdU p.lt 16 < 12 then p.n.tmod 1000 else p.n
def lastX (p : Pk) : Bs := if mdU p.kd 8 = 0 ∧ mdU p.lt 8 < 5 ∧ mdU p.kd 16 = 0 then showB 10 p.n else p.tx.take 40
def lastA (p : Pk) : Ag := ⟨[], decide (mdU p.kd 8 = 0), lastN p, lastX p⟩
def madeA (p : Pk) (named : Bool) : List Ag := widA named p ++ preA named p ++ [lastA p]
def letT (p : Pk) : Bs := (([100, 120, 88, 111, 98, 115, 99, 112] : Bs).drop (mdU p.lt 8)).take 1
def headT (p : Pk) (named : Bool) : Bs := if named then [37, 60] ++ nameK p.kd ++ [62] else [37]
def madeT (p : Pk) (named : Bool) : Bs := headT p named ++ flagsV p.fl 5 ++ widT named (mdU p.wd 16) ++ preT named (mdU p.pr 16) ++ letT p
theorem flags_len (fl : Int) (i : Nat) : (flagsV fl i).length ≤ i := by
 induction i with
 | zero => simp [flagsV]
 | succ i ih =>
  simp only [flagsV, List.length_append]
  have : (if flagQ fl i then flagC i else []).length ≤ 1 := by
   split
   ·simp [flagC]; omega
   ·simp
  omega
theorem head_len (p : Pk) (named : Bool) : (headT p named).length ≤ 6 := by
 unfold headT nameK
 repeat' split
 all_goals simp
theorem show_all : ((List.range 13).all fun k => decide ((showB 10 (k : Nat)).length ≤ 2)) = true := by decide +kernel
theorem show_small {n : Int} (h0 : 0 ≤ n) (h : n < 13) : (showB 10 n).length ≤ 2 := by
 obtain ⟨k, rfl⟩ := Int.eq_ofNat_of_zero_le h0
 exact of_decide_eq_true (List.all_eq_true.1 show_all k (List.mem_range.2 (by omega)))
theorem w3 (x : Int) : Int.tmod (IntKind.u64.wrap x) 3 = (mdU x 3 : Nat) := mdU_eq x 3 (by decide)
theorem w8 (x : Int) : Int.tmod (IntKind.u64.wrap x) 8 = (mdU x 8 : Nat) := mdU_eq x 8 (by decide)
theorem w16 (x : Int) : Int.tmod (IntKind.u64.wrap x) 16 = (mdU x 16 : Nat) := mdU_eq x 16 (by decide)
set_option maxHeartbeats 16000000 in
theorem made_spec (p : Pk) (named : Bool) (hp : PkOk p) : ACall Tryz.prog 10 [dPk p, dB named] [] [900030] fun ps r => ∃ g, ps = [(g, .row 25 4 ((madeA p named).map cA))] ∧ r = .tup [dS (madeT p named), .own 900030 g] := by 
 refine acall_of Tryz.func10 rfl rfl Tryz.ntmps10 (rs := [.tmp 4, .tmp 5]) (tys := [9, 26]) rfl rfl (by simp) (by simp) ?_
 obtain ⟨p1, p2, p3, p4, p5, p6⟩ := hp
 (refine awp_sr fun Y Yh => ?_; simp [go_sem]; ((repeat' (first|(refine ag_x ?_;simp [go_sem])|intro _|apply And.intro|(apply Yh;clear Yh Y)));all_goals first|apply Hold.mk|omega|with_reducible assumption|skip))
 refine awp_frzbox 2 rfl rfl ?_
 simp only [go_sem]
 (refine awp_sr fun Y Yh => ?_; simp [go_sem]; ((repeat' (first|(refine ag_x ?_;simp [go_sem])|intro _|apply And.intro|(apply Yh;clear Yh Y)));all_goals first|apply Hold.mk|omega|with_reducible assumption|skip))
 (refine awp_sr fun Y Yh => ?_; simp [go_sem]; ((repeat' (first|(refine ag_x ?_;simp [go_sem])|intro _|apply And.intro|(apply Yh;clear Yh Y)));all_goals first|apply Hold.mk|omega|with_reducible assumption|skip))
 refine awp_seq_k fun K1 hK1 => ?_
 have tl1 : ∀ S' (s0 : Bs), s0 = headT p named → Cov S' ⟨[(1, dB named), (2, .rd (cPk p)), (6, dS s0), (7, .v (.slice none 0 0))], []⟩ → K1 S' := fun S' s0 hs0 hS => by
  refine hK1 _ ?_; clear hK1
  refine awp_cov hS ?_; clear hS
  refine awp_nilslot 7 7 25 4 rfl fun go => ?_
  simp only [go_sem]
  refine awp_seq_k fun K2 hK2 => ?_
  (refine awp_sr fun Y Yh => ?_; simp [go_sem]; ((repeat' (first|(refine ag_x ?_;simp [go_sem])|intro _|apply And.intro|(apply Yh;clear Yh Y)));all_goals first|apply Hold.mk|omega|with_reducible assumption|skip))
  refine awp_block ?_
  refine awp_loop (σ := Nat) (fun x => ⟨[(1, dB named), (2, .rd (cPk p)), (6, dS (s0 ++ flagsV p.fl x)), (7, .own 7 go), (8, dI x)], [(7, (go, .row 25 4 []))]⟩) (fun x => x ≤ 5) (fun x => 5 - x) 0 ?_ ?_ ?_
  ·(refine cov_of ?_ ?_ <;> simp [go_sem])
   simp [flagsV]
  ·simp
  intro i hi
  have hsl : (s0 ++ flagsV p.fl i).length ≤ 11 := by
   have h1 := flags_len p.fl i
   have h2 := head_len p named
   rw [List.length_append, hs0]; omega
  generalize hs : s0 ++ flagsV p.fl i = s
  rw [hs] at hsl
  have hs1 : s0 ++ flagsV p.fl (i + 1) = s ++ if flagQ p.fl i then flagC i else [] := by rw [← hs]; simp [flagsV]
  refine awp_seq_k fun K3 hK3 => ?_
  (refine awp_sr fun Y Yh => ?_; simp [go_sem]; ((repeat' (first|(refine ag_x ?_;simp [go_sem])|intro _|apply And.intro|(apply Yh;clear Yh Y)));all_goals first|apply Hold.mk|omega|with_reducible assumption|skip))
  by_cases h4 : (i : Int) < 5
  ·(refine awp_if fun T F hT hF => ?_; simp [go_sem, h4]; refine hT ?_; clear hT hF T F)
   refine awp_skip ?_
   refine hK3 _ ?_; clear hK3
   refine awp_seq_k fun K5 hK5 => ?_
   have tl5 : ∀ S' (s : Bs), s = s0 ++ flagsV p.fl (i + 1) → Cov S' ⟨[(1, dB named), (2, .rd (cPk p)), (6, dS s), (7, .own 7 go), (8, dI i)], [(7, (go, .row 25 4 []))]⟩ → K5 S' := fun S' s hs hS => by
    refine hK5 _ ?_; clear hK5
    refine awp_cov hS ?_; clear hS
    (refine awp_r fun Y Yh => ?_; simp [go_sem]; ((repeat' (first|(refine ag_x ?_;simp [go_sem])|intro _|apply And.intro|(apply Yh;clear Yh Y)));all_goals first|apply Hold.mk|omega|with_reducible assumption|skip))
    refine ⟨i + 1, ?_, by omega, by omega⟩
    rw [← hs]
    (refine cov_of ?_ ?_ <;> simp [go_sem])
   clear hK5
   refine awp_block ?_
   (refine awp_sr fun Y Yh => ?_; simp [go_sem]; ((repeat' (first|(refine ag_x ?_;simp [go_sem])|intro _|apply And.intro|(apply Yh;clear Yh Y)));all_goals first|apply Hold.mk|omega|with_reducible assumption|skip))
   by_cases hf : flagQ p.fl i = true
   ·have hf' : andI IntKind.i64 (shrI IntKind.i64 p.fl (IntKind.u64.wrap i)) 3 = 1 := of_decide_eq_true hf
    (refine awp_if fun T F hT hF => ?_; simp [go_sem, hf']; refine hT ?_; clear hT hF T F)
    (refine awp_r fun Y Yh => ?_; simp [go_sem]; ((repeat' (first|(refine ag_x ?_;simp [go_sem])|intro _|apply And.intro|(apply Yh;clear Yh Y)));all_goals first|apply Hold.mk|omega|with_reducible assumption|skip))
    refine tl5 _ (s ++ flagC i) ?_ ?_
    ·rw [hs1, if_pos hf]
    (refine cov_of ?_ ?_ <;> simp [go_sem])
    have : i = 0 ∨ i = 1 ∨ i = 2 ∨ i = 3 ∨ i = 4 := by omega
    rcases this with rfl | rfl | rfl | rfl | rfl <;> rfl
   ·have hf' : ¬ andI IntKind.i64 (shrI IntKind.i64 p.fl (IntKind.u64.wrap i)) 3 = 1 := fun h => hf (decide_eq_true h)
    (refine awp_if fun T F hT hF => ?_; simp [go_sem, hf']; refine hF ?_; clear hT hF T F)
    refine awp_skip ?_
    refine tl5 _ s ?_ ?_
    ·rw [hs1, if_neg hf]; simp
    (refine cov_of ?_ ?_ <;> simp [go_sem])
  ·have : i = 5 := by omega
   subst this
   (refine awp_if fun T F hT hF => ?_; simp [go_sem, h4]; refine hF ?_; clear hT hF T F)
   refine awp_exit ?_
   simp only [go_sem]
   refine hK2 _ ?_; clear hK2
   have hw := mdU_lt p.wd (m := 16) (by decide)
   have hs2 : s = headT p named ++ flagsV p.fl 5 := by rw [← hs, hs0]
   clear hs hs1
   (refine awp_sr fun Y Yh => ?_; simp [go_sem, w16]; ((repeat' (first|(refine ag_x ?_;simp [go_sem, w16])|intro _|apply And.intro|(apply Yh;clear Yh Y)));all_goals first|apply Hold.mk|omega|with_reducible assumption|skip))
   refine awp_seq_k fun K7 hK7 => ?_
   have tl7 : ∀ S' (s1 : Bs) gx, s1 = s ++ widT named (mdU p.wd 16) → s1.length ≤ 20 → Cov S' ⟨[(1, dB named), (2, .rd (cPk p)), (6, dS s1), (7, .own 7 gx)], [(7, (gx, .row 25 4 ((widA named p).map cA)))]⟩ → K7 S' := fun S' s1 gx hs1 hl1 hS => by
    refine hK7 _ ?_; clear hK7
    refine awp_cov hS ?_; clear hS
    have hq := mdU_lt p.pr (m := 16) (by decide)
    have hs3 : s1 = headT p named ++ flagsV p.fl 5 ++ widT named (mdU p.wd 16) := by rw [hs1, hs2]
    clear hs1 hs2 hsl
    have hla : (widA named p).length ≤ 1 := by unfold widA; split <;> simp
    (refine awp_sr fun Y Yh => ?_; simp [go_sem, w16]; ((repeat' (first|(refine ag_x ?_;simp [go_sem, w16])|intro _|apply And.intro|(apply Yh;clear Yh Y)));all_goals first|apply Hold.mk|omega|with_reducible assumption|skip))
    refine awp_seq_k fun K8 hK8 => ?_
    have tl8 : ∀ S' (s2 : Bs) gx, s2 = s1 ++ preT named (mdU p.pr 16) → s2.length ≤ 30 → Cov S' ⟨[(2, .rd (cPk p)), (6, dS s2), (7, .own 7 gx)], [(7, (gx, .row 25 4 ((widA named p ++ preA named p).map cA)))]⟩ → K8 S' := fun S' s2 gx hs2 hl2 hS => by
     refine hK8 _ ?_; clear hK8
     refine awp_cov hS ?_; clear hS
     have hk := mdU_lt p.lt (m := 8) (by decide)
     have hs4 : s2 = headT p named ++ flagsV p.fl 5 ++ widT named (mdU p.wd 16) ++ preT named (mdU p.pr 16) := by rw [hs2, hs3]
     clear hs2 hs3 hl1
     have hlb : (widA named p ++ preA named p).length ≤ 2 := by
      rw [List.length_append]; unfold widA preA; split <;> split <;> simp
     have hmade : madeT p named = s2 ++ letT p := by unfold madeT; rw [hs4]
     have hmadA : madeA p named = (widA named p ++ preA named p) ++ [lastA p] := rfl
     generalize hL : widA named p ++ preA named p = L at *
     clear hs4
     have hcut : ({ data := #[100, 120, 88, 111, 98, 115, 99, 112] } : ByteArray).extract (mdU p.lt 8) (mdU p.lt 8 + 1) = { data := (letT p).toArray } := by
      unfold letT
      have : mdU p.lt 8 = 0 ∨ mdU p.lt 8 = 1 ∨ mdU p.lt 8 = 2 ∨ mdU p.lt 8 = 3 ∨ mdU p.lt 8 = 4 ∨ mdU p.lt 8 = 5 ∨ mdU p.lt 8 = 6 ∨ mdU p.lt 8 = 7 := by omega
      rcases this with h | h | h | h | h | h | h | h <;> rw [h] <;> rfl
     (refine awp_sr fun Y Yh => ?_; simp [go_sem, w8]; ((repeat' (first|(refine ag_x ?_;simp [go_sem, w8])|intro _|apply And.intro|(apply Yh;clear Yh Y)));all_goals first|apply Hold.mk|omega|with_reducible assumption|skip))
     have hll : (letT p).length ≤ 1 := by unfold letT; simp; omega
     (refine awp_sr fun Y Yh => ?_; simp [go_sem, hcut, ba_app]; ((repeat' (first|(refine ag_x ?_;simp [go_sem, hcut, ba_app])|intro _|apply And.intro|(apply Yh;clear Yh Y)));all_goals first|apply Hold.mk|omega|with_reducible assumption|skip))
     rw [← hmade]
     (refine awp_sr fun Y Yh => ?_; simp [go_sem]; ((repeat' (first|(refine ag_x ?_;simp [go_sem])|intro _|apply And.intro|(apply Yh;clear Yh Y)));all_goals first|apply Hold.mk|omega|with_reducible assumption|skip))
     refine awp_seq_k fun K9 hK9 => ?_
     have tl9 : ∀ S', Cov S' ⟨[(2, .rd (cPk p)), (6, dS (madeT p named)), (7, .own 7 gx), (11, dI (mdU p.lt 8)), (12, dI (lastN p))], [(7, (gx, .row 25 4 (L.map cA)))]⟩ → K9 S' := fun S' hS => by
      refine hK9 _ ?_; clear hK9
      refine awp_cov hS ?_; clear hS
      (refine awp_sr fun Y Yh => ?_; simp [go_sem, w8]; ((repeat' (first|(refine ag_x ?_;simp [go_sem, w8])|intro _|apply And.intro|(apply Yh;clear Yh Y)));all_goals first|apply Hold.mk|omega|with_reducible assumption|skip))
      rename_i ga
      refine awp_seq_k fun K10 hK10 => ?_
      have tl10 : ∀ S' (x : Bs), x = p.tx.take 40 → Cov S' ⟨[(2, .rd (cPk p)), (6, dS (madeT p named)), (7, .own 7 gx), (11, dI (mdU p.lt 8)), (13, .ptr 13 ga 0)], [(7, (gx, .row 25 4 (L.map cA))), (13, (ga, .box [dS [], dB (decide (mdU p.kd 8 = 0)), dI (lastN p), dS x]))]⟩ → K10 S' := fun S' x hx hS => by
       refine hK10 _ ?_; clear hK10
       refine awp_cov hS ?_; clear hS
       refine awp_seq_k fun K11 hK11 => ?_
       have tl11 : ∀ S' (y : Bs), y = lastX p → Cov S' ⟨[(6, dS (madeT p named)), (7, .own 7 gx), (13, .ptr 13 ga 0)], [(7, (gx, .row 25 4 (L.map cA))), (13, (ga, .box [dS [], dB (decide (mdU p.kd 8 = 0)), dI (lastN p), dS y]))]⟩ → K11 S' := fun S' y hy hS => by
        refine hK11 _ ?_; clear hK11
        refine awp_cov hS ?_; clear hS
        have hfin : madeA p named = L ++ [⟨[], decide (mdU p.kd 8 = 0), lastN p, y⟩] := by rw [hmadA, hy]; rfl
        rw [hfin]
        generalize madeT p named = T at *
        (refine awp_sr fun Y Yh => ?_; simp [go_sem]; ((repeat' (first|(refine ag_x ?_;simp [go_sem])|intro _|apply And.intro|(apply Yh;clear Yh Y)));all_goals first|apply Hold.mk|omega|with_reducible assumption|skip))
        refine awp_renrow 5 900030 rfl rfl (by decide) fun g => ?_
        simp only [go_sem]
        refine awp_ret ?_
        simp [go_sem]
       clear hK11
       have hk16 := mdU_lt p.kd (m := 16) (by decide)
       by_cases hT : mdU p.kd 8 = 0
       ·by_cases h5 : (mdU p.lt 8 : Int) < 5
        ·by_cases hz : mdU p.kd 16 = 0
         ·(refine awp_sr fun Y Yh => ?_; simp [go_sem, w16, hT, h5, hz]; ((repeat' (first|(refine ag_false ?_ ?_ ?_;(focus (simp [go_sem, undef, w16, hT, h5, hz];done));(focus (simp [go_sem];done));simp [go_sem, w16, hT, h5, hz])|(refine ag_true ?_ ?_;(focus (simp [go_sem, undef, w16, hT, h5, hz];done));simp [go_sem, w16, hT, h5, hz])|(refine ag_x ?_;simp [go_sem, undef, w16, hT, h5, hz])|intro _|apply And.intro|(apply Yh;clear Yh Y)));all_goals first|apply Hold.mk|omega|with_reducible assumption|skip))
          (refine awp_if fun T F hT hF => ?_; simp [go_sem]; refine hT ?_; clear hT hF T F)
          (refine awp_r fun Y Yh => ?_; simp [go_sem]; ((repeat' (first|(refine ag_x ?_;simp [go_sem])|intro _|apply And.intro|(apply Yh;clear Yh Y)));all_goals first|apply Hold.mk|omega|with_reducible assumption|skip))
          ((try refine CallT.toA ?_); refine callT_m (.inl ⟨rfl,rfl⟩) (by simp [go_sem]) ?_; intro args ha; simp [go_sem] at ha; subst ha; refine ⟨_, (itoa_spec p.n p5), ?_⟩; rintro _ rfl; simp [go_sem]; ((repeat' (first|(refine ag_x ?_;simp [go_sem])|intro _|apply And.intro|(apply Yh;clear Yh Y)));all_goals first|apply Hold.mk|omega|with_reducible assumption|skip))
          refine tl11 _ (showB 10 p.n) ?_ ?_
          ·rw [lastX, if_pos ⟨hT, by omega, by omega⟩]
          (refine cov_of ?_ ?_ <;> simp [go_sem])
          simp [hT]
         ·(refine awp_sr fun Y Yh => ?_; simp [go_sem, w16, hT, h5, hz]; ((repeat' (first|(refine ag_false ?_ ?_ ?_;(focus (simp [go_sem, undef, w16, hT, h5, hz];done));(focus (simp [go_sem];done));simp [go_sem, w16, hT, h5, hz])|(refine ag_true ?_ ?_;(focus (simp [go_sem, undef, w16, hT, h5, hz];done));simp [go_sem, w16, hT, h5, hz])|(refine ag_x ?_;simp [go_sem, undef, w16, hT, h5, hz])|intro _|apply And.intro|(apply Yh;clear Yh Y)));all_goals first|apply Hold.mk|omega|with_reducible assumption|skip))
          (refine awp_if fun T F hT hF => ?_; simp [go_sem, hz]; refine hF ?_; clear hT hF T F)
          refine awp_skip ?_
          refine tl11 _ x ?_ ?_
          ·rw [lastX, if_neg (by omega), hx]
          (refine cov_of ?_ ?_ <;> simp [go_sem])
          simp [hT]
        ·(refine awp_sr fun Y Yh => ?_; simp [go_sem, w16, hT, h5]; ((repeat' (first|(refine ag_false ?_ ?_ ?_;(focus (simp [go_sem, undef, w16, hT, h5];done));(focus (simp [go_sem];done));simp [go_sem, w16, hT, h5])|(refine ag_true ?_ ?_;(focus (simp [go_sem, undef, w16, hT, h5];done));simp [go_sem, w16, hT, h5])|(refine ag_x ?_;simp [go_sem, undef, w16, hT, h5])|intro _|apply And.intro|(apply Yh;clear Yh Y)));all_goals first|apply Hold.mk|omega|with_reducible assumption|skip))
         (refine awp_if fun T F hT hF => ?_; simp [go_sem, h5]; refine hF ?_; clear hT hF T F)
         refine awp_skip ?_
         refine tl11 _ x ?_ ?_
         ·rw [lastX, if_neg (by omega), hx]
         (refine cov_of ?_ ?_ <;> simp [go_sem])
         simp [hT]
       ·(refine awp_sr fun Y Yh => ?_; simp [go_sem, w16, hT]; ((repeat' (first|(refine ag_false ?_ ?_ ?_;(focus (simp [go_sem, undef, w16, hT];done));(focus (simp [go_sem];done));simp [go_sem, w16, hT])|(refine ag_true ?_ ?_;(focus (simp [go_sem, undef, w16, hT];done));simp [go_sem, w16, hT])|(refine ag_x ?_;simp [go_sem, undef, w16, hT])|intro _|apply And.intro|(apply Yh;clear Yh Y)));all_goals first|apply Hold.mk|omega|with_reducible assumption|skip))
        (refine awp_if fun T F hT hF => ?_; simp [go_sem, hT]; refine hF ?_; clear hT hF T F)
        refine awp_skip ?_
        refine tl11 _ x ?_ ?_
        ·rw [lastX, if_neg (by omega), hx]
        (refine cov_of ?_ ?_ <;> simp [go_sem])
        simp [hT]
      clear hK10
      (refine awp_sr fun Y Yh => ?_; simp [go_sem]; ((repeat' (first|(refine ag_x ?_;simp [go_sem])|intro _|apply And.intro|(apply Yh;clear Yh Y)));all_goals first|apply Hold.mk|omega|with_reducible assumption|skip))
      by_cases h40 : (40 : Int) < p.tx.length
      ·(refine awp_if fun T F hT hF => ?_; simp [go_sem, h40]; refine hT ?_; clear hT hF T F)
       (refine awp_r fun Y Yh => ?_; simp [go_sem]; ((repeat' (first|(refine ag_x ?_;simp [go_sem])|intro _|apply And.intro|(apply Yh;clear Yh Y)));all_goals first|apply Hold.mk|omega|with_reducible assumption|skip))
       refine tl10 _ (p.tx.take 40) rfl ?_
       (refine cov_of ?_ ?_ <;> simp [go_sem])
       rw [ba_cut]; simp
      ·(refine awp_if fun T F hT hF => ?_; simp [go_sem, h40]; refine hF ?_; clear hT hF T F)
       refine awp_skip ?_
       refine tl10 _ p.tx ?_ ?_
       ·rw [List.take_of_length_le (by omega)]
       (refine cov_of ?_ ?_ <;> simp [go_sem])
     clear hK9
     have h16 := mdU_lt p.lt (m := 16) (by decide)
     (refine awp_sr fun Y Yh => ?_; simp [go_sem, w16]; ((repeat' (first|(refine ag_x ?_;simp [go_sem, w16])|intro _|apply And.intro|(apply Yh;clear Yh Y)));all_goals first|apply Hold.mk|omega|with_reducible assumption|skip))
     by_cases h12 : (mdU p.lt 16 : Int) < 12
     ·(refine awp_if fun T F hT hF => ?_; simp [go_sem, h12]; refine hT ?_; clear hT hF T F)
      (refine awp_r fun Y Yh => ?_; simp [go_sem]; ((repeat' (first|(refine ag_x ?_;simp [go_sem])|intro _|apply And.intro|(apply Yh;clear Yh Y)));all_goals first|apply Hold.mk|omega|with_reducible assumption|skip))
      refine tl9 _ ?_
      rw [lastN, if_pos (by omega)]
      (refine cov_of ?_ ?_ <;> simp [go_sem])
     ·(refine awp_if fun T F hT hF => ?_; simp [go_sem, h12]; refine hF ?_; clear hT hF T F)
      refine awp_skip ?_
      refine tl9 _ ?_
      rw [lastN, if_neg (by omega)]
      (refine cov_of ?_ ?_ <;> simp [go_sem])
    clear hK8
    generalize hqe : mdU p.pr 16 = q at *
    refine awp_block ?_
    (refine awp_sr fun Y Yh => ?_; simp [go_sem]; ((repeat' (first|(refine ag_x ?_;simp [go_sem])|intro _|apply And.intro|(apply Yh;clear Yh Y)));all_goals first|apply Hold.mk|omega|with_reducible assumption|skip))
    by_cases h7 : (q : Int) < 7
    ·(refine awp_if fun T F hT hF => ?_; simp [go_sem, h7]; refine hT ?_; clear hT hF T F)
     refine awp_skip ?_
     refine tl8 _ s1 gx ?_ (by omega) ?_
     ·rw [preT, if_pos (by omega)]; simp
     rw [preA, hqe, if_pos (by omega), List.append_nil]
     (refine cov_of ?_ ?_ <;> simp [go_sem])
    ·(refine awp_if fun T F hT hF => ?_; simp [go_sem, h7]; refine hF ?_; clear hT hF T F)
     (refine awp_sr fun Y Yh => ?_; simp [go_sem]; ((repeat' (first|(refine ag_x ?_;simp [go_sem])|intro _|apply And.intro|(apply Yh;clear Yh Y)));all_goals first|apply Hold.mk|omega|with_reducible assumption|skip))
     by_cases h77 : (q : Int) = 7
     ·(refine awp_if fun T F hT hF => ?_; simp [go_sem, h77]; refine hT ?_; clear hT hF T F)
      (refine awp_r fun Y Yh => ?_; simp [go_sem]; ((repeat' (first|(refine ag_x ?_;simp [go_sem])|intro _|apply And.intro|(apply Yh;clear Yh Y)));all_goals first|apply Hold.mk|omega|with_reducible assumption|skip))
      refine tl8 _ (s1 ++ [46]) gx ?_ ?_ ?_
      ·rw [preT, if_neg (by omega), if_pos (by omega)]
      ·rw [List.length_append]; simp; omega
      rw [preA, hqe, if_pos (by omega), List.append_nil]
      (refine cov_of ?_ ?_ <;> simp [go_sem])
      exact ba_app s1 [46]
     ·(refine awp_if fun T F hT hF => ?_; simp [go_sem, h77]; refine hF ?_; clear hT hF T F)
      have hsq : (showB 10 (q - 8 : Int)).length ≤ 2 := show_small (by omega) (by omega)
      by_cases h14 : (q : Int) < 14
      ·(refine awp_sr fun Y Yh => ?_; simp [go_sem, h14]; ((repeat' (first|(refine ag_false ?_ ?_ ?_;(focus (simp [go_sem, undef, h14];done));(focus (simp [go_sem];done));simp [go_sem, h14])|(refine ag_true ?_ ?_;(focus (simp [go_sem, undef, h14];done));simp [go_sem, h14])|(refine ag_x ?_;simp [go_sem, undef, h14])|intro _|apply And.intro|(apply Yh;clear Yh Y)));all_goals first|apply Hold.mk|omega|with_reducible assumption|skip))
       (refine awp_if fun T F hT hF => ?_; simp [go_sem, h14]; refine hT ?_; clear hT hF T F)
       (refine awp_r fun Y Yh => ?_; simp [go_sem]; ((repeat' (first|(refine ag_x ?_;simp [go_sem])|intro _|apply And.intro|(apply Yh;clear Yh Y)));all_goals first|apply Hold.mk|omega|with_reducible assumption|skip))
       ((try refine CallT.toA ?_); refine callT_m (.inl ⟨rfl,rfl⟩) (by simp [go_sem]) ?_; intro args ha; simp [go_sem] at ha; subst ha; refine ⟨_, (itoa_spec (q - 8 : Int) (by unfold InR; omega)), ?_⟩; rintro _ rfl; simp [go_sem]; ((repeat' (first|(refine ag_x ?_;simp [go_sem])|intro _|apply And.intro|(apply Yh;clear Yh Y)));all_goals first|apply Hold.mk|omega|with_reducible assumption|skip))
       refine tl8 _ (s1 ++ 46 :: showB 10 (q - 8 : Int)) gx ?_ ?_ ?_
       ·rw [preT, if_neg (by omega), if_neg (by omega), if_pos (Or.inl (by omega))]
       ·rw [List.length_append, List.length_cons]; omega
       rw [preA, hqe, if_pos (Or.inl (by omega)), List.append_nil]
       (refine cov_of ?_ ?_ <;> simp [go_sem])
       rw [ba_app s1 [46], ba_app]
       simp
      ·cases named with
       | true =>
        (refine awp_sr fun Y Yh => ?_; simp [go_sem, h14]; ((repeat' (first|(refine ag_false ?_ ?_ ?_;(focus (simp [go_sem, undef, h14];done));(focus (simp [go_sem];done));simp [go_sem, h14])|(refine ag_true ?_ ?_;(focus (simp [go_sem, undef, h14];done));simp [go_sem, h14])|(refine ag_x ?_;simp [go_sem, undef, h14])|intro _|apply And.intro|(apply Yh;clear Yh Y)));all_goals first|apply Hold.mk|omega|with_reducible assumption|skip))
        (refine awp_if fun T F hT hF => ?_; simp [go_sem]; refine hT ?_; clear hT hF T F)
        (refine awp_r fun Y Yh => ?_; simp [go_sem]; ((repeat' (first|(refine ag_x ?_;simp [go_sem])|intro _|apply And.intro|(apply Yh;clear Yh Y)));all_goals first|apply Hold.mk|omega|with_reducible assumption|skip))
        ((try refine CallT.toA ?_); refine callT_m (.inl ⟨rfl,rfl⟩) (by simp [go_sem]) ?_; intro args ha; simp [go_sem] at ha; subst ha; refine ⟨_, (itoa_spec (q - 8 : Int) (by unfold InR; omega)), ?_⟩; rintro _ rfl; simp [go_sem]; ((repeat' (first|(refine ag_x ?_;simp [go_sem])|intro _|apply And.intro|(apply Yh;clear Yh Y)));all_goals first|apply Hold.mk|omega|with_reducible assumption|skip))
        refine tl8 _ (s1 ++ 46 :: showB 10 (q - 8 : Int)) gx ?_ ?_ ?_
        ·rw [preT, if_neg (by omega), if_neg (by omega), if_pos (Or.inr rfl)]
        ·rw [List.length_append, List.length_cons]; omega
        rw [preA, hqe, if_pos (Or.inr rfl), List.append_nil]
        (refine cov_of ?_ ?_ <;> simp [go_sem])
        rw [ba_app s1 [46], ba_app]
        simp
       | false =>
        (refine awp_sr fun Y Yh => ?_; simp [go_sem, h14]; ((repeat' (first|(refine ag_false ?_ ?_ ?_;(focus (simp [go_sem, undef, h14];done));(focus (simp [go_sem];done));simp [go_sem, h14])|(refine ag_true ?_ ?_;(focus (simp [go_sem, undef, h14];done));simp [go_sem, h14])|(refine ag_x ?_;simp [go_sem, undef, h14])|intro _|apply And.intro|(apply Yh;clear Yh Y)));all_goals first|apply Hold.mk|omega|with_reducible assumption|skip))
        (refine awp_if fun T F hT hF => ?_; simp [go_sem]; refine hF ?_; clear hT hF T F)
        (refine awp_sr fun Y Yh => ?_; simp [go_sem]; ((repeat' (first|(refine ag_x ?_;simp [go_sem])|intro _|apply And.intro|(apply Yh;clear Yh Y)));all_goals first|apply Hold.mk|omega|with_reducible assumption|skip))
        (refine awp_r fun Y Yh => ?_; simp [go_sem]; ((repeat' (first|(refine ag_x ?_;simp [go_sem])|intro _|apply And.intro|(apply Yh;clear Yh Y)));all_goals first|apply Hold.mk|omega|with_reducible assumption|skip))
        rename_i gq
        refine tl8 _ (s1 ++ [46, 42]) gq ?_ ?_ ?_
        ·rw [preT, if_neg (by omega), if_neg (by omega), if_neg (by simp; omega)]
        ·rw [List.length_append]; simp; omega
        rw [preA, hqe, if_neg (by simp; omega), List.map_append]
        (refine cov_of ?_ ?_ <;> simp [go_sem])
        exact ba_app s1 [46, 42]
   clear hK7
   generalize hwe : mdU p.wd 16 = w at *
   refine awp_block ?_
   (refine awp_sr fun Y Yh => ?_; simp [go_sem]; ((repeat' (first|(refine ag_x ?_;simp [go_sem])|intro _|apply And.intro|(apply Yh;clear Yh Y)));all_goals first|apply Hold.mk|omega|with_reducible assumption|skip))
   by_cases h6 : (w : Int) < 6
   ·(refine awp_if fun T F hT hF => ?_; simp [go_sem, h6]; refine hT ?_; clear hT hF T F)
    refine awp_skip ?_
    refine tl7 _ s go ?_ (by omega) ?_
    ·rw [widT, if_pos (by omega)]; simp
    rw [widA, hwe, if_pos (by omega)]
    (refine cov_of ?_ ?_ <;> simp [go_sem])
   ·(refine awp_if fun T F hT hF => ?_; simp [go_sem, h6]; refine hF ?_; clear hT hF T F)
    have hsw : w < 14 ∨ named = true → (showB 10 (w - 3 : Int)).length ≤ 2 := fun _ => show_small (by omega) (by omega)
    by_cases h14 : (w : Int) < 14
    ·(refine awp_sr fun Y Yh => ?_; simp [go_sem, h14]; ((repeat' (first|(refine ag_false ?_ ?_ ?_;(focus (simp [go_sem, undef, h14];done));(focus (simp [go_sem];done));simp [go_sem, h14])|(refine ag_true ?_ ?_;(focus (simp [go_sem, undef, h14];done));simp [go_sem, h14])|(refine ag_x ?_;simp [go_sem, undef, h14])|intro _|apply And.intro|(apply Yh;clear Yh Y)));all_goals first|apply Hold.mk|omega|with_reducible assumption|skip))
     (refine awp_if fun T F hT hF => ?_; simp [go_sem, h14]; refine hT ?_; clear hT hF T F)
     (refine awp_r fun Y Yh => ?_; simp [go_sem]; ((repeat' (first|(refine ag_x ?_;simp [go_sem])|intro _|apply And.intro|(apply Yh;clear Yh Y)));all_goals first|apply Hold.mk|omega|with_reducible assumption|skip))
     ((try refine CallT.toA ?_); refine callT_m (.inl ⟨rfl,rfl⟩) (by simp [go_sem]) ?_; intro args ha; simp [go_sem] at ha; subst ha; refine ⟨_, (itoa_spec (w - 3 : Int) (by unfold InR; omega)), ?_⟩; rintro _ rfl; simp [go_sem]; ((repeat' (first|(refine ag_x ?_;simp [go_sem])|intro _|apply And.intro|(apply Yh;clear Yh Y)));all_goals first|apply Hold.mk|omega|with_reducible assumption|skip))
     refine tl7 _ (s ++ showB 10 (w - 3 : Int)) go ?_ ?_ ?_
     ·rw [widT, if_neg (by omega), if_pos (Or.inl (by omega))]
     ·rw [List.length_append]; have := hsw (Or.inl (by omega)); omega
     rw [widA, hwe, if_pos (Or.inl (by omega))]
     (refine cov_of ?_ ?_ <;> simp [go_sem])
     exact ba_app _ _
    ·cases named with
     | true =>
      (refine awp_sr fun Y Yh => ?_; simp [go_sem, h14]; ((repeat' (first|(refine ag_false ?_ ?_ ?_;(focus (simp [go_sem, undef, h14];done));(focus (simp [go_sem];done));simp [go_sem, h14])|(refine ag_true ?_ ?_;(focus (simp [go_sem, undef, h14];done));simp [go_sem, h14])|(refine ag_x ?_;simp [go_sem, undef, h14])|intro _|apply And.intro|(apply Yh;clear Yh Y)));all_goals first|apply Hold.mk|omega|with_reducible assumption|skip))
      (refine awp_if fun T F hT hF => ?_; simp [go_sem]; refine hT ?_; clear hT hF T F)
      (refine awp_r fun Y Yh => ?_; simp [go_sem]; ((repeat' (first|(refine ag_x ?_;simp [go_sem])|intro _|apply And.intro|(apply Yh;clear Yh Y)));all_goals first|apply Hold.mk|omega|with_reducible assumption|skip))
      ((try refine CallT.toA ?_); refine callT_m (.inl ⟨rfl,rfl⟩) (by simp [go_sem]) ?_; intro args ha; simp [go_sem] at ha; subst ha; refine ⟨_, (itoa_spec (w - 3 : Int) (by unfold InR; omega)), ?_⟩; rintro _ rfl; simp [go_sem]; ((repeat' (first|(refine ag_x ?_;simp [go_sem])|intro _|apply And.intro|(apply Yh;clear Yh Y)));all_goals first|apply Hold.mk|omega|with_reducible assumption|skip))
      ·have := hsw (Or.inr rfl); omega
      refine tl7 _ (s ++ showB 10 (w - 3 : Int)) go ?_ ?_ ?_
      ·rw [widT, if_neg (by omega), if_pos (Or.inr rfl)]
      ·rw [List.length_append]; have := hsw (Or.inr rfl); omega
      rw [widA, hwe, if_pos (Or.inr rfl)]
      (refine cov_of ?_ ?_ <;> simp [go_sem])
      exact ba_app _ _
     | false =>
      (refine awp_sr fun Y Yh => ?_; simp [go_sem, h14]; ((repeat' (first|(refine ag_false ?_ ?_ ?_;(focus (simp [go_sem, undef, h14];done));(focus (simp [go_sem];done));simp [go_sem, h14])|(refine ag_true ?_ ?_;(focus (simp [go_sem, undef, h14];done));simp [go_sem, h14])|(refine ag_x ?_;simp [go_sem, undef, h14])|intro _|apply And.intro|(apply Yh;clear Yh Y)));all_goals first|apply Hold.mk|omega|with_reducible assumption|skip))
      (refine awp_if fun T F hT hF => ?_; simp [go_sem]; refine hF ?_; clear hT hF T F)
      (refine awp_sr fun Y Yh => ?_; simp [go_sem]; ((repeat' (first|(refine ag_x ?_;simp [go_sem])|intro _|apply And.intro|(apply Yh;clear Yh Y)));all_goals first|apply Hold.mk|omega|with_reducible assumption|skip))
      (refine awp_r fun Y Yh => ?_; simp [go_sem]; ((repeat' (first|(refine ag_x ?_;simp [go_sem])|intro _|apply And.intro|(apply Yh;clear Yh Y)));all_goals first|apply Hold.mk|omega|with_reducible assumption|skip))
      rename_i gq
      refine tl7 _ (s ++ [42]) gq ?_ ?_ ?_
      ·rw [widT, if_neg (by omega), if_neg (by simp; omega)]
      ·rw [List.length_append]; simp; omega
      rw [widA, hwe, if_neg (by simp; omega)]
      (refine cov_of ?_ ?_ <;> simp [go_sem])
      exact ba_app s [42]
 clear hK1
 (refine awp_sr fun Y Yh => ?_; simp [go_sem]; ((repeat' (first|(refine ag_x ?_;simp [go_sem])|intro _|apply And.intro|(apply Yh;clear Yh Y)));all_goals first|apply Hold.mk|omega|with_reducible assumption|skip))
 cases named with
 | true =>
  (refine awp_if fun T F hT hF => ?_; simp [go_sem]; refine hT ?_; clear hT hF T F)
  have h3 := w3 p.kd
  have h3' : mdU p.kd 3 = 0 ∨ mdU p.kd 3 = 1 ∨ mdU p.kd 3 = 2 := by have := mdU_lt p.kd (m := 3) (by decide); omega
  rcases h3' with hk | hk | hk <;> rw [hk] at h3
  ·(refine awp_r fun Y Yh => ?_; simp [go_sem, h3]; ((repeat' (first|(refine ag_x ?_;simp [go_sem, h3])|intro _|apply And.intro|(apply Yh;clear Yh Y)));all_goals first|apply Hold.mk|omega|with_reducible assumption|skip))
   refine tl1 _ [37, 60, 97, 62] ?_ ?_
   ·simp [headT, nameK, hk]
   (refine cov_of ?_ ?_ <;> simp [go_sem])
   rfl
  ·(refine awp_r fun Y Yh => ?_; simp [go_sem, h3]; ((repeat' (first|(refine ag_x ?_;simp [go_sem, h3])|intro _|apply And.intro|(apply Yh;clear Yh Y)));all_goals first|apply Hold.mk|omega|with_reducible assumption|skip))
   refine tl1 _ [37, 60, 98, 95, 99, 62] ?_ ?_
   ·simp [headT, nameK, hk]
   (refine cov_of ?_ ?_ <;> simp [go_sem])
   rfl
  ·(refine awp_r fun Y Yh => ?_; simp [go_sem, h3]; ((repeat' (first|(refine ag_x ?_;simp [go_sem, h3])|intro _|apply And.intro|(apply Yh;clear Yh Y)));all_goals first|apply Hold.mk|omega|with_reducible assumption|skip))
   refine tl1 _ [37, 60, 100, 62] ?_ ?_
   ·simp [headT, nameK, hk]
   (refine cov_of ?_ ?_ <;> simp [go_sem])
   rfl
 | false =>
  (refine awp_if fun T F hT hF => ?_; simp [go_sem]; refine hF ?_; clear hT hF T F)
  refine awp_skip ?_
  refine tl1 _ [37] ?_ ?_
  ·simp [headT]
  (refine cov_of ?_ ?_ <;> simp [go_sem])
theorem showB_len {n : Int} (h : InR n) : (showB 10 n).length ≤ 65 := by
 have h1 : n.natAbs < 2 ^ 64 := by unfold InR at h; omega
 have h2 := txt_len (b := 10) (by decide) h1
 unfold showB
 split
 ·rw [List.length_cons]; omega
 ·omega
theorem tmod_in {n : Int} (k : Int) (h : InR n) (hk : 0 < k) (hk2 : k ≤ 100000) : InR (n.tmod k) := by
 have h1 := Int.tmod_lt_of_pos n hk
 have h2 : -k < n.tmod k := by
  have := Int.lt_tmod_of_pos n hk
  omega
 unfold InR; omega
theorem last_ok {p : Pk} (hp : PkOk p) : AgOk (lastA p) := by
 obtain ⟨_, _, _, _, p5, _⟩ := hp
 refine ⟨?_, ?_⟩
 ·show InR (lastN p)
  unfold lastN
  split
  ·exact tmod_in 1000 p5 (by decide) (by decide)
  ·exact p5
 ·show (lastX p).length ≤ 1100000
  unfold lastX
  split
  ·have := showB_len p5; omega
  ·rw [List.length_take]; omega
theorem made_len (p : Pk) (named : Bool) : (madeT p named).length ≤ 40 := by
 have h1 := head_len p named
 have h2 := flags_len p.fl 5
 have hw := mdU_lt p.wd (m := 16) (by decide)
 have hq := mdU_lt p.pr (m := 16) (by decide)
 have h3 : (widT named (mdU p.wd 16)).length ≤ 2 := by
  unfold widT
  split
  ·simp
  ·split
   ·exact show_small (by omega) (by omega)
   ·simp
 have h4 : (preT named (mdU p.pr 16)).length ≤ 3 := by
  unfold preT
  split
  ·simp
  ·split
   ·simp
   ·split
    ·have := show_small (n := (mdU p.pr 16 : Int) - 8) (by omega) (by omega)
     rw [List.length_cons]; omega
    ·simp
 have h5 : (letT p).length ≤ 1 := by unfold letT; simp; omega
 unfold madeT
 simp only [List.length_append]
 omega
theorem madeA_named (p : Pk) : madeA p true = [lastA p] := by simp [madeA, widA, preA]
set_option maxHeartbeats 16000000 in
theorem named_spec (l : List Pk) (names : List Bs) (hl : ∀ p ∈ l, PkOk p) : PCall Tryz.prog 3 [.sl 7 (l.map cPk), dSs names] fun r => r = dB true := by 
 refine pcall_of Tryz.func3 rfl rfl Tryz.ntmps3 (rs := [.tmp 4]) (tys := [4]) rfl rfl (by simp) ?_
 (refine awp_sr fun Y Yh => ?_; simp [go_sem]; ((repeat' (first|(refine ag_x ?_;simp [go_sem])|intro _|apply And.intro|(apply Yh;clear Yh Y)));all_goals first|apply Hold.mk|omega|with_reducible assumption|skip))
 (refine awp_sr fun Y Yh => ?_; simp [go_sem]; ((repeat' (first|(refine ag_x ?_;simp [go_sem])|intro _|apply And.intro|(apply Yh;clear Yh Y)));all_goals first|apply Hold.mk|omega|with_reducible assumption|skip))
 (refine awp_sr fun Y Yh => ?_; simp [go_sem]; ((repeat' (first|(refine ag_x ?_;simp [go_sem])|intro _|apply And.intro|(apply Yh;clear Yh Y)));all_goals first|apply Hold.mk|omega|with_reducible assumption|skip))
 refine awp_seq_k fun K1 hK1 => ?_
 have tl1 : ∀ S' (form : Bs) (args : List Ag) (go : Nat), form.length ≤ 410 → args.length ≤ 14 → (∀ a ∈ args, AgOk a) → Cov S' ⟨[(1, dSs names), (5, dS form), (6, .own 900031 go)], [(900031, (go, .row 25 4 (args.map cA)))]⟩ → K1 S' := fun S' form args go hf1 ha1 ha2 hS => by
  refine hK1 _ ?_; clear hK1
  refine awp_cov hS ?_; clear hS
  refine awp_seq_k fun K6 hK6 => ?_
  (refine awp_sr fun Y Yh => ?_; simp [go_sem]; ((repeat' (first|(refine ag_x ?_;simp [go_sem])|intro _|apply And.intro|(apply Yh;clear Yh Y)));all_goals first|apply Hold.mk|omega|with_reducible assumption|skip))
  refine awp_block ?_
  refine awp_loop (σ := Nat × List Ag × Nat) (fun x => ⟨[(1, dSs names), (5, dS form), (6, .own 900031 x.2.2), (10, dI x.1)], [(900031, (x.2.2, .row 25 4 (x.2.1.map cA)))]⟩) (fun x => x.1 ≤ names.length ∧ x.1 ≤ 4 ∧ x.2.1.length ≤ 14 + x.1 ∧ ∀ a ∈ x.2.1, AgOk a) (fun x => 4 - x.1) (0, args, go) ?_ ?_ ?_
  ·(refine cov_of ?_ ?_ <;> simp [go_sem])
  ·exact ⟨by simp, by simp, by simpa using ha1, ha2⟩
  clear ha1 ha2
  rintro ⟨i, args, go⟩ ⟨hi1, hi2, hi3, hi4⟩
  simp only at hi1 hi2 hi3 hi4 ⊢
  refine awp_seq_k fun K7 hK7 => ?_
  have tl7 : ¬ ((i : Int) < 4 ∧ i < names.length) → ∀ S', Cov S' ⟨[(5, dS form), (6, .own 900031 go)], [(900031, (go, .row 25 4 (args.map cA)))]⟩ → K6 S' := fun hn S' hS => by
   refine hK6 _ ?_; clear hK6
   refine awp_cov hS ?_; clear hS
   have hF := formats_spec form args ⟨by omega, hi4⟩ (by omega)
   (refine awp_sr fun Y Yh => ?_; simp [go_sem]; ((repeat' (first|(refine ag_x ?_;simp [go_sem])|intro _|apply And.intro|(apply Yh;clear Yh Y)));all_goals first|apply Hold.mk|omega|with_reducible assumption|skip))
   ((try refine CallT.toA ?_); refine callT_f (.inl ⟨rfl,rfl⟩) ?_; intro args ha; simp [go_sem] at ha; subst ha; refine ⟨_, hF, ?_⟩; rintro _ rfl; refine ⟨rfl, ?_⟩; simp [go_sem]; ((repeat' (first|(refine ag_x ?_;simp [go_sem])|intro _|apply And.intro|(apply Yh;clear Yh Y)));all_goals first|apply Hold.mk|omega|with_reducible assumption|skip))
   (refine agc_f (dB true) (.inl ⟨rfl,rfl⟩) ?_ rfl ?_; (intro hc args ha; simp [go_sem] at ha; subst ha; exact sane_spec); simp [go_sem]; ((repeat' (first|(refine ag_x ?_;simp [go_sem])|intro _|apply And.intro|(apply Yh;clear Yh Y)));all_goals first|apply Hold.mk|omega|with_reducible assumption|skip))
   (refine awp_ret ?_; simp [go_sem])
  by_cases h1 : i < names.length
  ·by_cases h4 : (i : Int) < 4
   ·obtain ⟨s, hs⟩ : ∃ s, names[i]? = some s := ⟨_, List.getElem?_eq_getElem h1⟩
    (refine awp_sr fun Y Yh => ?_; simp [go_sem, h1, h4]; ((repeat' (first|(refine ag_false ?_ ?_ ?_;(focus (simp [go_sem, undef, h1, h4];done));(focus (simp [go_sem];done));simp [go_sem, h1, h4])|(refine ag_true ?_ ?_;(focus (simp [go_sem, undef, h1, h4];done));simp [go_sem, h1, h4])|(refine ag_x ?_;simp [go_sem, undef, h1, h4])|intro _|apply And.intro|(apply Yh;clear Yh Y)));all_goals first|apply Hold.mk|omega|with_reducible assumption|skip))
    (refine awp_if fun T F hT hF => ?_; simp [go_sem, h4]; refine hT ?_; clear hT hF T F)
    refine awp_skip ?_
    refine hK7 _ ?_; clear hK7
    refine awp_seq_k fun K9 hK9 => ?_
    have tl9 : ∀ S' (args' : List Ag) gx, args'.length ≤ 15 + i → (∀ a ∈ args', AgOk a) → Cov S' ⟨[(1, dSs names), (5, dS form), (6, .own 900031 gx), (10, dI i)], [(900031, (gx, .row 25 4 (args'.map cA)))]⟩ → K9 S' := fun S' args' gx q1 q2 hS => by
     refine hK9 _ ?_; clear hK9
     refine awp_cov hS ?_; clear hS
     (refine awp_r fun Y Yh => ?_; simp [go_sem]; ((repeat' (first|(refine ag_x ?_;simp [go_sem])|intro _|apply And.intro|(apply Yh;clear Yh Y)));all_goals first|apply Hold.mk|omega|with_reducible assumption|skip))
     refine ⟨(i + 1, args', gx), ?_, ?_, ?_⟩
     ·(refine cov_of ?_ ?_ <;> simp [go_sem])
     ·exact ⟨by simp only; omega, by simp only; omega, by simp only; omega, q2⟩
     ·simp only; omega
    clear hK9
    refine awp_block ?_
    (refine awp_sr fun Y Yh => ?_; simp [go_sem, hs, ba_size]; ((repeat' (first|(refine ag_x ?_;simp [go_sem, hs, ba_size])|intro _|apply And.intro|(apply Yh;clear Yh Y)));all_goals first|apply Hold.mk|omega|with_reducible assumption|skip))
    by_cases h50 : (s.length : Int) < 50
    ·(refine awp_if fun T F hT hF => ?_; simp [go_sem, h50]; refine hT ?_; clear hT hF T F)
     (refine awp_r fun Y Yh => ?_; simp [go_sem, hs]; ((repeat' (first|(refine ag_x ?_;simp [go_sem, hs])|intro _|apply And.intro|(apply Yh;clear Yh Y)));all_goals first|apply Hold.mk|omega|with_reducible assumption|skip))
     rename_i gq
     refine tl9 _ (args ++ [⟨s, false, i, []⟩]) gq ?_ (fun a ha => ?_) ?_
     ·simp; omega
     ·rcases List.mem_append.1 ha with ha | ha
      ·exact hi4 a ha
      ·simp at ha
       subst ha
       exact ⟨by simp only [InR]; omega, by simp⟩
     (refine cov_of ?_ ?_ <;> simp [go_sem])
    ·(refine awp_if fun T F hT hF => ?_; simp [go_sem, h50]; refine hF ?_; clear hT hF T F)
     refine awp_skip ?_
     refine tl9 _ args go (by omega) hi4 ?_
     (refine cov_of ?_ ?_ <;> simp [go_sem])
   ·(refine awp_sr fun Y Yh => ?_; simp [go_sem, h1, h4]; ((repeat' (first|(refine ag_false ?_ ?_ ?_;(focus (simp [go_sem, undef, h1, h4];done));(focus (simp [go_sem];done));simp [go_sem, h1, h4])|(refine ag_true ?_ ?_;(focus (simp [go_sem, undef, h1, h4];done));simp [go_sem, h1, h4])|(refine ag_x ?_;simp [go_sem, undef, h1, h4])|intro _|apply And.intro|(apply Yh;clear Yh Y)));all_goals first|apply Hold.mk|omega|with_reducible assumption|skip))
    (refine awp_if fun T F hT hF => ?_; simp [go_sem, h4]; refine hF ?_; clear hT hF T F)
    refine awp_exit ?_
    simp only [go_sem]
    refine tl7 (by omega) _ ?_
    (refine cov_of ?_ ?_ <;> simp [go_sem])
  ·(refine awp_sr fun Y Yh => ?_; simp [go_sem, h1]; ((repeat' (first|(refine ag_false ?_ ?_ ?_;(focus (simp [go_sem, undef, h1];done));(focus (simp [go_sem];done));simp [go_sem, h1])|(refine ag_true ?_ ?_;(focus (simp [go_sem, undef, h1];done));simp [go_sem, h1])|(refine ag_x ?_;simp [go_sem, undef, h1])|intro _|apply And.intro|(apply Yh;clear Yh Y)));all_goals first|apply Hold.mk|omega|with_reducible assumption|skip))
   (refine awp_if fun T F hT hF => ?_; simp [go_sem, h1]; refine hF ?_; clear hT hF T F)
   refine awp_exit ?_
   simp only [go_sem]
   refine tl7 (by omega) _ ?_
   (refine cov_of ?_ ?_ <;> simp [go_sem])
 clear hK1
 (refine awp_sr fun Y Yh => ?_; simp [go_sem]; ((repeat' (first|(refine ag_x ?_;simp [go_sem])|intro _|apply And.intro|(apply Yh;clear Yh Y)));all_goals first|apply Hold.mk|omega|with_reducible assumption|skip))
 refine awp_renrow 6 900031 rfl rfl (by decide) fun go => ?_
 simp only [go_sem]
 refine awp_block ?_
 refine awp_loop (σ := Nat × Bs × List Ag × Nat) (fun x => ⟨[(0, .sl 7 (l.map cPk)), (1, dSs names), (5, dS x.2.1), (6, .own 900031 x.2.2.2), (7, dI x.1)], [(900031, (x.2.2.2, .row 25 4 (x.2.2.1.map cA)))]⟩) (fun x => x.1 ≤ l.length ∧ x.1 ≤ 10 ∧ x.2.1.length ≤ 41 * x.1 ∧ x.2.2.1.length ≤ 4 + x.1 ∧ ∀ a ∈ x.2.2.1, AgOk a) (fun x => 10 - x.1) (0, [], [⟨[97], false, 7, []⟩, ⟨[98, 95, 99], false, -255, []⟩, ⟨[100], true, 0, [49, 50]⟩, ⟨[97], false, 9, []⟩], go) ?_ ?_ ?_
 ·(refine cov_of ?_ ?_ <;> simp [go_sem])
 ·refine ⟨by simp, by simp, by simp, by simp, ?_⟩
  intro a ha
  simp at ha
  rcases ha with rfl | rfl | rfl | rfl <;> exact ⟨by simp [InR], by simp⟩
 rintro ⟨i, form, args, go⟩ ⟨hi1, hi2, hi3, hi4, hi5⟩
 simp only at hi1 hi2 hi3 hi4 hi5 ⊢
 refine awp_seq_k fun K2 hK2 => ?_
 by_cases h3 : i < l.length ∧ i < 10
 ·obtain ⟨p, hp⟩ : ∃ p, l[i]? = some p := ⟨_, List.getElem?_eq_getElem h3.1⟩
  have hpk := hl p (List.mem_of_getElem? hp)
  have hMl := made_len p true
  have hML := last_ok hpk
  have hMs := made_spec p true hpk
  rw [madeA_named] at hMs
  generalize madeT p true = T at *
  generalize lastA p = A at *
  have h10 : (i : Int) < 10 := by omega
  (refine awp_sr fun Y Yh => ?_; simp [go_sem, h3.1, h10]; ((repeat' (first|(refine ag_false ?_ ?_ ?_;(focus (simp [go_sem, undef, h3.1, h10];done));(focus (simp [go_sem];done));simp [go_sem, h3.1, h10])|(refine ag_true ?_ ?_;(focus (simp [go_sem, undef, h3.1, h10];done));simp [go_sem, h3.1, h10])|(refine ag_x ?_;simp [go_sem, undef, h3.1, h10])|intro _|apply And.intro|(apply Yh;clear Yh Y)));all_goals first|apply Hold.mk|omega|with_reducible assumption|skip))
  (refine awp_if fun T F hT hF => ?_; simp [go_sem, h10]; refine hT ?_; clear hT hF T F)
  refine awp_skip ?_
  refine hK2 _ ?_; clear hK2
  refine awp_seq_k fun K4 hK4 => ?_
  have tl4 : ∀ S' (args' : List Ag) (gx : Nat), args'.length ≤ 5 + i → (∀ a ∈ args', AgOk a) → Cov S' ⟨[(0, .sl 7 (l.map cPk)), (1, dSs names), (5, dS (form ++ T ++ [124])), (6, .own 900031 gx), (7, dI i)], [(900031, (gx, .row 25 4 (args'.map cA)))]⟩ → K4 S' := fun S' args' gx ha1 ha2 hS => by
   refine hK4 _ ?_; clear hK4
   refine awp_cov hS ?_; clear hS
   (refine awp_r fun Y Yh => ?_; simp [go_sem]; ((repeat' (first|(refine ag_x ?_;simp [go_sem])|intro _|apply And.intro|(apply Yh;clear Yh Y)));all_goals first|apply Hold.mk|omega|with_reducible assumption|skip))
   refine ⟨(i + 1, form ++ T ++ [124], args', gx), ?_, ?_, ?_⟩
   ·(refine cov_of ?_ ?_ <;> simp [go_sem])
   ·refine ⟨by omega, by omega, ?_, by simp only; omega, ha2⟩
    simp only [List.length_append, List.length_singleton]; omega
   ·simp only; omega
  have tl5 : ∀ S' (args' : List Ag) (gx : Nat), args'.length ≤ 5 + i → (∀ a ∈ args', AgOk a) → Cov S' ⟨[(0, .sl 7 (l.map cPk)), (1, dSs names), (5, dS (form ++ T ++ [124])), (6, .own 900030 gx), (7, dI i)], [(900030, (gx, .row 25 4 (args'.map cA)))]⟩ → K4 S' := fun S' args' gx ha1 ha2 hS => by
   refine hK4 _ ?_; clear hK4
   refine awp_cov hS ?_; clear hS
   refine awp_renrow 6 900031 rfl rfl (by decide) fun gy => ?_
   simp only [go_sem]
   (refine awp_r fun Y Yh => ?_; simp [go_sem]; ((repeat' (first|(refine ag_x ?_;simp [go_sem])|intro _|apply And.intro|(apply Yh;clear Yh Y)));all_goals first|apply Hold.mk|omega|with_reducible assumption|skip))
   refine ⟨(i + 1, form ++ T ++ [124], args', gy), ?_, ?_, ?_⟩
   ·(refine cov_of ?_ ?_ <;> simp [go_sem])
   ·refine ⟨by omega, by omega, ?_, by simp only; omega, ha2⟩
    simp only [List.length_append, List.length_singleton]; omega
   ·simp only; omega
  clear hK4
  refine awp_block ?_
  (refine awp_sr fun Y Yh => ?_; simp [go_sem, hp]; ((repeat' (first|(refine ag_x ?_;simp [go_sem, hp])|intro _|apply And.intro|(apply Yh;clear Yh Y)));all_goals first|apply Hold.mk|omega|with_reducible assumption|skip))
  (refine callA_l [900030] (.inl ⟨rfl,rfl⟩) (by simp [go_sem]) ?_; intro args ha; simp [go_sem] at ha; subst ha; refine ⟨_, _, hMs, (by simp [go_sem]), ?_⟩; rintro ps r hps ⟨ga, rfl, rfl⟩; simp [go_sem]; ((repeat' (first|(refine ag_x ?_;simp [go_sem])|intro _|apply And.intro|(apply Yh;clear Yh Y)));all_goals first|apply Hold.mk|omega|with_reducible assumption|skip))
  (refine awp_sr fun Y Yh => ?_; simp [go_sem]; ((repeat' (first|(refine ag_x ?_;simp [go_sem])|intro _|apply And.intro|(apply Yh;clear Yh Y)));all_goals first|apply Hold.mk|omega|with_reducible assumption|skip))
  by_cases hodd : Int.tmod (i : Int) 2 = 1
  ·(refine awp_sr fun Y Yh => ?_; simp [go_sem, hodd]; ((repeat' (first|(refine ag_x ?_;simp [go_sem, hodd])|intro _|apply And.intro|(apply Yh;clear Yh Y)));all_goals first|apply Hold.mk|omega|with_reducible assumption|skip))
   (refine awp_if fun T F hT hF => ?_; simp [go_sem, hodd]; refine hT ?_; clear hT hF T F)
   (refine awp_sr fun Y Yh => ?_; simp [go_sem]; ((repeat' (first|(refine ag_x ?_;simp [go_sem])|intro _|apply And.intro|(apply Yh;clear Yh Y)));all_goals first|apply Hold.mk|omega|with_reducible assumption|skip))
   (refine awp_r fun Y Yh => ?_; simp [go_sem]; ((repeat' (first|(refine ag_x ?_;simp [go_sem])|intro _|apply And.intro|(apply Yh;clear Yh Y)));all_goals first|apply Hold.mk|omega|with_reducible assumption|skip))
   rename_i gq
   refine tl5 _ (⟨[100], A.is, A.int, A.tx⟩ :: args) gq (by rw [List.length_cons]; omega) (fun a ha => ?_) ?_
   ·rcases List.mem_cons.1 ha with rfl | ha
    ·exact hML
    ·exact hi5 a ha
   (refine cov_of ?_ ?_ <;> simp [go_sem])
   rw [ba_app form T]
   exact (ba_app (form ++ T) [124]).trans (by rw [List.append_assoc])
  ·(refine awp_sr fun Y Yh => ?_; simp [go_sem, hodd]; ((repeat' (first|(refine ag_x ?_;simp [go_sem, hodd])|intro _|apply And.intro|(apply Yh;clear Yh Y)));all_goals first|apply Hold.mk|omega|with_reducible assumption|skip))
   (refine awp_if fun T F hT hF => ?_; simp [go_sem, hodd]; refine hF ?_; clear hT hF T F)
   refine awp_skip ?_
   refine tl4 _ args go (by omega) hi5 ?_
   (refine cov_of ?_ ?_ <;> simp [go_sem])
   rw [ba_app form T]
   exact (ba_app (form ++ T) [124]).trans (by rw [List.append_assoc])
 ·by_cases h1 : i < l.length
  ·have h10 : ¬ (i : Int) < 10 := by omega
   (refine awp_sr fun Y Yh => ?_; simp [go_sem, h1, h10]; ((repeat' (first|(refine ag_false ?_ ?_ ?_;(focus (simp [go_sem, undef, h1, h10];done));(focus (simp [go_sem];done));simp [go_sem, h1, h10])|(refine ag_true ?_ ?_;(focus (simp [go_sem, undef, h1, h10];done));simp [go_sem, h1, h10])|(refine ag_x ?_;simp [go_sem, undef, h1, h10])|intro _|apply And.intro|(apply Yh;clear Yh Y)));all_goals first|apply Hold.mk|omega|with_reducible assumption|skip))
   (refine awp_if fun T F hT hF => ?_; simp [go_sem, h10]; refine hF ?_; clear hT hF T F)
   refine awp_exit ?_
   simp only [go_sem]
   refine tl1 _ form args go (by omega) (by omega) hi5 ?_
   (refine cov_of ?_ ?_ <;> simp [go_sem])
  ·(refine awp_sr fun Y Yh => ?_; simp [go_sem, h1]; ((repeat' (first|(refine ag_false ?_ ?_ ?_;(focus (simp [go_sem, undef, h1];done));(focus (simp [go_sem];done));simp [go_sem, h1])|(refine ag_true ?_ ?_;(focus (simp [go_sem, undef, h1];done));simp [go_sem, h1])|(refine ag_x ?_;simp [go_sem, undef, h1])|intro _|apply And.intro|(apply Yh;clear Yh Y)));all_goals first|apply Hold.mk|omega|with_reducible assumption|skip))
   (refine awp_if fun T F hT hF => ?_; simp [go_sem, h1]; refine hF ?_; clear hT hF T F)
   refine awp_exit ?_
   simp only [go_sem]
   refine tl1 _ form args go (by omega) (by omega) hi5 ?_
   (refine cov_of ?_ ?_ <;> simp [go_sem])
end Go.Proofs.YtelhdhofnohkcaaGreatDoor
namespace Go.Proofs.YtelhdhofnohkcaaGreatDoor
open Go.Eng Go.WideShapes Go.Fm
set_option maxRecDepth 100000
/-! picks -/
theorem oz_pick : OpensZ Tryz.prog 30 cPk PkOk := by
 have h := opensZ_struct (e := 7) Tryz.underlying30 rfl (by kernel_rfl) (opensZS_cons (n := 1) rfl (by kernel_rfl) oz_int (opensZS_cons (n := 1) rfl (by kernel_rfl) oz_int (opensZS_cons (n := 1) rfl (by kernel_rfl) oz_int (opensZS_cons (n := 1) rfl (by kernel_rfl) oz_int (opensZS_cons (n := 1) rfl (by kernel_rfl) oz_int (opensZS_cons (n := 1) rfl (by kernel_rfl) oz_int (opensZS_cons (n := 1) rfl (by kernel_rfl) oz_str opensZS_nil)))))))
 exact h.iso (fun x => ⟨x.1, x.2.1, x.2.2.1, x.2.2.2.1, x.2.2.2.2.1, x.2.2.2.2.2.1, x.2.2.2.2.2.2.1⟩) (fun _ => rfl) (fun _ q => ⟨q.1, q.2.1, q.2.2.1, q.2.2.2.1, q.2.2.2.2.1, q.2.2.2.2.2.1⟩)
theorem oz_picks : OpensZ Tryz.prog 22 (fun l : List Pk => [D.sl 7 (l.map cPk)]) (fun l => ∀ p ∈ l, PkOk p) :=
 (opensZ_slice 7 Tryz.underlying22 (by kernel_rfl) (by decide) (fun _ => rfl) oz_pick).iso (fun l => l) (fun _ => rfl) (fun l h => h.2.2)
theorem ovz_picks : OpensZV Tryz.prog 22 (fun l : List Pk => D.sl 7 (l.map cPk)) (fun l => ∀ p ∈ l, PkOk p) := opensZV_cell (by rw [Tryz.underlying22]; rfl) oz_picks
theorem ovz_strs : OpensZV Tryz.prog 23 (fun l : List (List UInt8) => dR l) (fun l => l.length ≤ 140737488355328 ∧ ∀ s ∈ l, s.length ≤ 140737488355328) := opensZV_cell (by rw [Tryz.underlying23]; rfl) oz_strs
end Go.Proofs.YtelhdhofnohkcaaGreatDoor
