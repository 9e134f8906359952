/- Part of a proof: see the last text. -/
import Derived.Test.YtkgmecjaejaehaaGreatDoorG06
import Derived.Test.YtkgmecjaejaehaaGreatDoorG05
import Derived.Shelf.Unicode.ValidAny
set_option linter.unusedVariables false
set_option linter.unusedSimpArgs false
namespace Go.Proofs.YtkgmecjaejaehaaGreatDoor
open Go.Eng Go.Js
set_option maxRecDepth 20000
attribute [local irreducible] AG CallA CallT AWp PCall ACall XCall AgC
@[go_sem] abbrev blE (gb gr : Nat) (l : Bs) : List (Nat × (Nat × Blk)) := [(900004, (gb, .bld 132 900005 gr)), (900005, (gr, .brow 5 l))]
set_option maxHeartbeats 4000000 in
theorem escape_spec (g gb gr : Nat) (s l : Bs) (a n : Nat) (hl : s.length ≤ 1000000) (ha : a < s.length) (hll : l.length ≤ 10000000) : XCall Tryz.prog 129 [pR g, .ptr 900004 gb 0] (rdE g s a n ++ blE gb gr l) [900002, 900004, 900005]
  (fun ps _ => ∃ q gr', escV s a = .ok q ∧ ps = [(g, .box [dS s, dI q.2, dI n]), (gb, .bld 132 900005 gr'), (gr', .brow 5 (l ++ q.1))]) (XE (escV s a)) := by
 refine xcall_of Tryz.func129 rfl rfl Tryz.ntmps129 (rs := []) (tys := []) rfl rfl (by simp) (by simp [notFroz]) fun hp hpan => ?_
 unfold escV at hpan ⊢
 refine awp_seq_k fun K1 hK1 => ?_
 ((refine awp_dr (.qs [0, 1, 2, 5, 6, 7, 3, 4, 8, 9, 10] (.nil)) (by kernel_rfl) ?_ ?_ ?_ ?_); (kernel_rfl); (exact (by decide +kernel)); (kernel_rfl); intro Y Yh; ((repeat' (first|(refine ag_x ?_;simp [go_sem])|refine adr_nil ?_|((first|refine adr_qs fun Y Yh=>?_|refine adr_y fun Y Yh=>?_);simp [go_sem])|intro _|apply And.intro|(apply Yh;clear Yh Y)));all_goals first|apply Hold.mk|omega|with_reducible assumption|skip))
 (refine awp_if fun T F hT hF => ?_; simp [go_sem]; refine BR.intro (fun h6 => hT ?_) (fun h6 => hF ?_); all_goals clear hT hF T F; try simp at h6)
 ·rw [List.getElem?_eq_none (by omega)] at hpan
  (refine awp_r fun Y Yh => ?_; simp [go_sem]; ((repeat' (first|(refine ag_x ?_;simp [go_sem])|intro _|apply And.intro|(apply Yh;clear Yh Y)));all_goals first|apply Hold.mk|omega|with_reducible assumption|skip))
  (refine callA_x [900002] (by first|exact .inl ⟨rfl,rfl⟩|exact .inr rfl) (by simp [go_sem]) ?_; intro args ha; simp [go_sem] at ha; subst ha; exact ⟨_, _, _, (fail_spec g s a n s.length (by omega)), (by simp [go_sem]), (fun ch h => hpan _ ⟨_, rfl, by rw [h]; simp [failP, failE]⟩), fun _ _ _ h => h.elim⟩)
 ·have hlt : a + 1 < s.length := by omega
  have hgs : s[a + 1]? = some s[a + 1] := List.getElem?_eq_getElem hlt
  have e2 : ((a : Int) + 1).toNat = a + 1 := by omega
  rw [hgs] at hpan
  rw [hgs] at hK1
  generalize s[a + 1] = c at hgs hpan hK1
  simp only at hpan hK1
  refine awp_skip ?_
  refine hK1 _ ?_; clear hK1
  ((refine awp_dr (.qs [0, 1, 2, 4, 5, 6, 3, 7, 8, 9, 10] (.nil)) (by kernel_rfl) ?_ ?_ ?_ ?_); (kernel_rfl); (exact (by decide +kernel)); (kernel_rfl); intro Y Yh; ((repeat' (first|(refine ag_x ?_;simp [go_sem, e2, hgs])|refine adr_nil ?_|((first|refine adr_qs fun Y Yh=>?_|refine adr_y fun Y Yh=>?_);simp [go_sem, e2, hgs])|intro _|apply And.intro|(apply Yh;clear Yh Y)));all_goals first|apply Hold.mk|omega|with_reducible assumption|skip))
  refine awp_seq_k fun K2 hK2 => ?_
  (refine awp_sr fun Y Yh => ?_; simp [go_sem]; ((repeat' (first|(refine ag_x ?_;simp [go_sem])|intro _|apply And.intro|(apply Yh;clear Yh Y)));all_goals first|apply Hold.mk|omega|with_reducible assumption|skip))
  (refine awp_if fun T F hT hF => ?_; simp [go_sem]; refine BR.intro (fun h3 => hT ?_) (fun h3 => hF ?_); all_goals clear hT hF T F; try simp at h3)
  ·have hc : c = 117 := (u8i c 117).1 (h3.trans rfl)
   rw [if_pos hc] at hpan
   (refine awp_sr fun Y Yh => ?_; simp [go_sem]; ((repeat' (first|(refine ag_x ?_;simp [go_sem])|intro _|apply And.intro|(apply Yh;clear Yh Y)));all_goals first|apply Hold.mk|omega|with_reducible assumption|skip))
   (refine callA_x [900002] (by first|exact .inl ⟨rfl,rfl⟩|exact .inr rfl) (by simp [go_sem]) ?_; intro args ha; simp [go_sem] at ha; subst ha; refine ⟨_, _, _, (wide_spec g s a n hl (by omega)), (by simp [go_sem]), (fun ch ⟨q, h1, h2⟩ => hpan _ ⟨q, by rw [h1], h2⟩), ?_⟩; rintro ps r hps ⟨⟨u, b⟩, hw, rfl, rfl⟩; simp [go_sem]; ((repeat' (first|(refine ag_x ?_;simp [go_sem])|intro _|apply And.intro|(apply Yh;clear Yh Y)));all_goals first|apply Hold.mk|omega|with_reducible assumption|skip))
   have hru := wideV_rune hw
   (refine callA_l [900004, 900005] (by first|exact .inl ⟨rfl,rfl⟩|exact .inr rfl) (by simp [go_sem]) ?_; intro args ha; simp [go_sem] at ha; subst ha; refine ⟨_, _, (wr_spec 900004 900005 gb gr l u hru (by omega) (by omega) (by omega) (by omega)), (by simp [go_sem]), ?_⟩; rintro ps r hps ⟨gr2, rfl, rfl⟩; simp [go_sem]; ((repeat' (first|(refine ag_x ?_;simp [go_sem])|intro _|apply And.intro|(apply Yh;clear Yh Y)));all_goals first|apply Hold.mk|omega|with_reducible assumption|skip))
   (refine awp_ret ?_; simp [go_sem, retA])
   rw [if_pos hc, hw]
   exact ⟨_, _, rfl, rfl, rfl⟩
  ·have hc : ¬ c = 117 := fun h => by rw [h] at h3; exact h3 rfl
   rw [if_neg hc] at hpan
   rw [if_neg hc] at hK2
   obtain ⟨x1, x2, x3⟩ := escC_idx c
   refine awp_skip ?_
   refine hK2 _ ?_; clear hK2
   (refine awp_sr fun Y Yh => ?_; simp [go_sem]; ((repeat' (first|(refine ag_x ?_;simp [go_sem])|intro _|apply And.intro|(apply Yh;clear Yh Y)));all_goals first|apply Hold.mk|omega|with_reducible assumption|skip))
   ((try refine CallT.toA ?_); refine callT_m (by first|exact .inl ⟨rfl,rfl⟩|exact .inr rfl) (by simp [go_sem]) ?_; intro args ha; simp [go_sem] at ha; subst ha; refine ⟨_, (idxB_spec escS c), ?_⟩; rintro _ rfl; simp [go_sem]; ((repeat' (first|(refine ag_x ?_;simp [go_sem])|intro _|apply And.intro|(apply Yh;clear Yh Y)));all_goals first|apply Hold.mk|omega|with_reducible assumption|skip))
   refine awp_seq_k fun K4 hK4 => ?_
   (refine awp_sr fun Y Yh => ?_; simp [go_sem]; ((repeat' (first|(refine ag_x ?_;simp [go_sem])|intro _|apply And.intro|(apply Yh;clear Yh Y)));all_goals first|apply Hold.mk|omega|with_reducible assumption|skip))
   by_cases hi : idxV escS c < 0
   ·rw [if_pos hi] at x1
    rw [x1] at hpan
    (refine awp_if fun T F hT hF => ?_; simp [go_sem, hi]; refine hT ?_; clear hT hF T F)
    (refine awp_r fun Y Yh => ?_; simp [go_sem]; ((repeat' (first|(refine ag_x ?_;simp [go_sem])|intro _|apply And.intro|(apply Yh;clear Yh Y)));all_goals first|apply Hold.mk|omega|with_reducible assumption|skip))
    (refine callA_x [900002] (by first|exact .inl ⟨rfl,rfl⟩|exact .inr rfl) (by simp [go_sem]) ?_; intro args ha; simp [go_sem] at ha; subst ha; exact ⟨_, _, _, (fail_spec g s a n a (by omega)), (by simp [go_sem]), (fun ch h => hpan _ ⟨_, rfl, h⟩), fun _ _ _ h => h.elim⟩)
   ·rw [if_neg hi] at x1
    obtain ⟨k, hk⟩ : ∃ k : Nat, idxV escS c = k := Int.eq_ofNat_of_zero_le (show 0 ≤ idxV escS c by omega)
    rw [hk] at x1 x3 ⊢
    have hk8 : k < escT.length := by show k < 8; omega
    have hke : escT[k]? = some escT[k] := List.getElem?_eq_getElem hk8
    simp only [Int.toNat_natCast] at x1
    rw [x1, hke] at hpan
    simp only at hpan
    have hn0 : ¬ (k : Int) < 0 := by omega
    (refine awp_if fun T F hT hF => ?_; simp [go_sem, hn0]; refine hF ?_; clear hT hF T F)
    refine awp_skip ?_
    refine hK4 _ ?_; clear hK4
    rw [x1, hke]
    have hke2 : ([34, 92, 47, 8, 12, 10, 13, 9] : List UInt8)[k]? = some escT[k] := hke
    (refine awp_sr fun Y Yh => ?_; simp [go_sem, hke2]; ((repeat' (first|(refine ag_x ?_;simp [go_sem, hke2])|intro _|apply And.intro|(apply Yh;clear Yh Y)));all_goals first|apply Hold.mk|omega|with_reducible assumption|skip))
    (refine callA_l [900004, 900005] (by first|exact .inl ⟨rfl,rfl⟩|exact .inr rfl) (by simp [go_sem]) ?_; intro args ha; simp [go_sem] at ha; subst ha; refine ⟨_, _, (wb_spec 900004 900005 gb gr l escT[k] (by omega) (by omega) (by omega) (by omega)), (by simp [go_sem]), ?_⟩; rintro ps r hps ⟨gr2, rfl, rfl⟩; simp [go_sem]; ((repeat' (first|(refine ag_x ?_;simp [go_sem])|intro _|apply And.intro|(apply Yh;clear Yh Y)));all_goals first|apply Hold.mk|omega|with_reducible assumption|skip))
    (refine awp_r fun Y Yh => ?_; simp [go_sem]; ((repeat' (first|(refine ag_x ?_;simp [go_sem])|intro _|apply And.intro|(apply Yh;clear Yh Y)));all_goals first|apply Hold.mk|omega|with_reducible assumption|skip))
    simp [retA, go_sem]
set_option maxHeartbeats 8000000 in
theorem str_read (g : Nat) (s : Bs) (a n : Nat) (hl : s.length ≤ 1000000) (ha : a < s.length) : XCall Tryz.prog 77 [pR g] (rdE g s a n) [900002]
  (fun ps r => ∃ q, strV s a = .ok q ∧ r = dS q.1 ∧ ps = [(g, .box [dS s, dI q.2, dI n])]) (XE (strV s a)) := by
 refine xcall_of Tryz.func77 rfl rfl Tryz.ntmps77 (rs := [.tmp 2]) (tys := [9]) rfl rfl (by simp) (by simp [notFroz]) fun hp hpan => ?_
 (refine awp_sr fun Y Yh => ?_; simp [go_sem]; ((repeat' (first|(refine ag_x ?_;simp [go_sem])|intro _|apply And.intro|(apply Yh;clear Yh Y)));all_goals first|apply Hold.mk|omega|with_reducible assumption|skip))
 (refine awp_sr fun Y Yh => ?_; simp [go_sem]; ((repeat' (first|(refine ag_x ?_;simp [go_sem])|intro _|apply And.intro|(apply Yh;clear Yh Y)));all_goals first|apply Hold.mk|omega|with_reducible assumption|skip))
 refine awp_bld 132 5 900004 900005 (by decide) (by decide) (by kernel_rfl) fun gb gr => ?_
 refine awp_block ?_
 refine awp_loop (σ := Nat × Bs × Nat) (fun x => ⟨[(0, pR g), (3, .ptr 900004 gb 0)], rdE g s x.1 n ++ blE gb x.2.2 x.2.1⟩)
  (fun x => x.1 ≤ s.length ∧ x.2.1.length ≤ 4 * x.1 ∧ ∃ f, s.length - x.1 < f ∧ strG s f x.1 x.2.1 = strV s a) (fun x => s.length - x.1) (a + 1, [], gr) ?_ ⟨by simp only; omega, by simp, s.length + 1, by simp only; omega, rfl⟩ ?_
 ·(refine cov_of ?_ ?_ <;> simp [go_sem])
 rintro ⟨b, acc, gc⟩ ⟨hb, hac, f, hf, hfe⟩
 simp only at hb hac hf hfe ⊢
 obtain ⟨f, rfl⟩ : ∃ f', f = f' + 1 := ⟨f - 1, by omega⟩
 rw [strG] at hfe
 refine awp_block ?_
 refine awp_seq_k fun K1 hK1 => ?_
 ((refine awp_dr (.qs [0, 1, 2, 4, 5, 6, 3, 7, 8, 9] (.nil)) (by kernel_rfl) ?_ ?_ ?_ ?_); (kernel_rfl); (exact (by decide +kernel)); (kernel_rfl); intro Y Yh; ((repeat' (first|(refine ag_x ?_;simp [go_sem])|refine adr_nil ?_|((first|refine adr_qs fun Y Yh=>?_|refine adr_y fun Y Yh=>?_);simp [go_sem])|intro _|apply And.intro|(apply Yh;clear Yh Y)));all_goals first|apply Hold.mk|omega|with_reducible assumption|skip))
 (refine awp_if fun T F hT hF => ?_; simp [go_sem]; refine BR.intro (fun h7 => hT ?_) (fun h7 => hF ?_); all_goals clear hT hF T F; try simp at h7)
 ·rw [List.getElem?_eq_none (by omega)] at hfe
  (refine awp_r fun Y Yh => ?_; simp [go_sem]; ((repeat' (first|(refine ag_x ?_;simp [go_sem])|intro _|apply And.intro|(apply Yh;clear Yh Y)));all_goals first|apply Hold.mk|omega|with_reducible assumption|skip))
  (refine callA_x [900002] (by first|exact .inl ⟨rfl,rfl⟩|exact .inr rfl) (by simp [go_sem]) ?_; intro args ha; simp [go_sem] at ha; subst ha; exact ⟨_, _, _, (fail_spec g s b n b (by omega)), (by simp [go_sem]), (fun ch h => hpan _ ⟨_, hfe.symm, by rw [h]; simp [failP, failE, h7]⟩), fun _ _ _ h => h.elim⟩)
 ·have hlt : b < s.length := by omega
  have hgs : s[b]? = some s[b] := List.getElem?_eq_getElem hlt
  rw [hgs] at hfe
  simp only at hfe
  refine awp_skip ?_
  refine hK1 _ ?_; clear hK1
  ((refine awp_dr (.qs [0, 1, 2, 4, 5, 6, 3, 7, 8, 9] (.nil)) (by kernel_rfl) ?_ ?_ ?_ ?_); (kernel_rfl); (exact (by decide +kernel)); (kernel_rfl); intro Y Yh; ((repeat' (first|(refine ag_x ?_;simp [go_sem, hgs])|refine adr_nil ?_|((first|refine adr_qs fun Y Yh=>?_|refine adr_y fun Y Yh=>?_);simp [go_sem, hgs])|intro _|apply And.intro|(apply Yh;clear Yh Y)));all_goals first|apply Hold.mk|omega|with_reducible assumption|skip))
  refine awp_block ?_
  (refine awp_sr fun Y Yh => ?_; simp [go_sem]; ((repeat' (first|(refine ag_x ?_;simp [go_sem])|intro _|apply And.intro|(apply Yh;clear Yh Y)));all_goals first|apply Hold.mk|omega|with_reducible assumption|skip))
  (refine awp_if fun T F hT hF => ?_; simp [go_sem]; refine BR.intro (fun h2 => hT ?_) (fun h2 => hF ?_); all_goals clear hT hF T F; try simp at h2)
  ·rw [if_pos ((u8i _ 34).1 (h2.trans rfl))] at hfe
   (refine awp_sr fun Y Yh => ?_; simp [go_sem]; ((repeat' (first|(refine ag_x ?_;simp [go_sem])|intro _|apply And.intro|(apply Yh;clear Yh Y)));all_goals first|apply Hold.mk|omega|with_reducible assumption|skip))
   (refine awp_sr fun Y Yh => ?_; simp [go_sem]; ((repeat' (first|(refine ag_x ?_;simp [go_sem])|intro _|apply And.intro|(apply Yh;clear Yh Y)));all_goals first|apply Hold.mk|omega|with_reducible assumption|skip))
   (refine callA_l [900004, 900005] (by first|exact .inl ⟨rfl,rfl⟩|exact .inr rfl) (by simp [go_sem]) ?_; intro args ha; simp [go_sem] at ha; subst ha; refine ⟨_, _, (strA_spec 900004 900005 gb gc acc (by omega) (by omega) (by omega)), (by simp [go_sem]), ?_⟩; rintro ps r hps ⟨gr2, rfl, rfl⟩; simp [go_sem]; ((repeat' (first|(refine ag_x ?_;simp [go_sem])|intro _|apply And.intro|(apply Yh;clear Yh Y)));all_goals first|apply Hold.mk|omega|with_reducible assumption|skip))
   (refine awp_ret ?_; simp [go_sem, retA])
   exact ⟨acc, b + 1, hfe.symm, rfl, by simp⟩
  ·rw [if_neg (fun q => by rw [q] at h2; exact h2 rfl)] at hfe
   (refine awp_sr fun Y Yh => ?_; simp [go_sem]; ((repeat' (first|(refine ag_x ?_;simp [go_sem])|intro _|apply And.intro|(apply Yh;clear Yh Y)));all_goals first|apply Hold.mk|omega|with_reducible assumption|skip))
   (refine awp_if fun T F hT hF => ?_; simp [go_sem]; refine BR.intro (fun h3 => hT ?_) (fun h3 => hF ?_); all_goals clear hT hF T F; try simp at h3)
   ·rw [if_pos ((u8i _ 92).1 (h3.trans rfl))] at hfe
    (refine awp_r fun Y Yh => ?_; simp [go_sem]; ((repeat' (first|(refine ag_x ?_;simp [go_sem])|intro _|apply And.intro|(apply Yh;clear Yh Y)));all_goals first|apply Hold.mk|omega|with_reducible assumption|skip))
    (refine callA_x [900002, 900004, 900005] (by first|exact .inl ⟨rfl,rfl⟩|exact .inr rfl) (by simp [go_sem]) ?_; intro args ha; simp [go_sem] at ha; subst ha; refine ⟨_, _, _, (escape_spec g gb gc s acc b n hl hlt (by omega)), (by simp [go_sem]), (fun ch ⟨q, h1, h2⟩ => hpan _ ⟨q, by rw [← hfe, h1], h2⟩), ?_⟩; rintro ps r hps ⟨q, gr2, hq, rfl⟩; simp [go_sem]; ((repeat' (first|(refine ag_x ?_;simp [go_sem])|intro _|apply And.intro|(apply Yh;clear Yh Y)));all_goals first|apply Hold.mk|omega|with_reducible assumption|skip))
    rw [hq] at hfe
    have h4 := escV_le hq
    have h5 := escV_len hq
    refine ⟨(q.2, acc ++ q.1, gr2), ?_, ⟨h4.2, by simp; omega, f, by simp only; omega, hfe⟩, by simp only; omega⟩
    (refine cov_of ?_ ?_ <;> simp [go_sem])
   ·rw [if_neg (fun q => by rw [q] at h3; exact h3 rfl)] at hfe
    (refine awp_sr fun Y Yh => ?_; simp [go_sem]; ((repeat' (first|(refine ag_x ?_;simp [go_sem])|intro _|apply And.intro|(apply Yh;clear Yh Y)));all_goals first|apply Hold.mk|omega|with_reducible assumption|skip))
    (refine awp_if fun T F hT hF => ?_; simp [go_sem]; refine BR.intro (fun h4 => hT ?_) (fun h4 => hF ?_); all_goals clear hT hF T F; try simp at h4)
    ·rw [if_pos (by rw [UInt8.lt_iff_toNat_lt]; have : (32 : UInt8).toNat = 32 := rfl; omega)] at hfe
     (refine awp_r fun Y Yh => ?_; simp [go_sem]; ((repeat' (first|(refine ag_x ?_;simp [go_sem])|intro _|apply And.intro|(apply Yh;clear Yh Y)));all_goals first|apply Hold.mk|omega|with_reducible assumption|skip))
     (refine callA_x [900002] (by first|exact .inl ⟨rfl,rfl⟩|exact .inr rfl) (by simp [go_sem]) ?_; intro args ha; simp [go_sem] at ha; subst ha; exact ⟨_, _, _, (fail_spec g s b n b (by omega)), (by simp [go_sem]), (fun ch h => hpan _ ⟨_, hfe.symm, h⟩), fun _ _ _ h => h.elim⟩)
    ·rw [if_neg (by rw [UInt8.lt_iff_toNat_lt]; have : (32 : UInt8).toNat = 32 := rfl; omega)] at hfe
     have hne : s.drop b ≠ [] := by simp; omega
     have hdl := decL_le hne
     rw [List.length_drop] at hdl
     ((refine awp_dr (.qs [0, 1, 2, 4, 5, 6, 3, 7, 8] (.one 9 (.qs [10, 11, 12, 13, 14] (.nil)))) (by kernel_rfl) ?_ ?_ ?_ ?_); (kernel_rfl); (exact (by decide +kernel)); (kernel_rfl); intro Y Yh; ((repeat' (first|(refine ag_x ?_;simp [go_sem])|refine adr_nil ?_|((first|refine adr_qs fun Y Yh=>?_|refine adr_y fun Y Yh=>?_);simp [go_sem])|intro _|apply And.intro|(apply Yh;clear Yh Y)));all_goals first|apply Hold.mk|omega|with_reducible assumption|skip))
     ((try refine CallT.toA ?_); refine callT_m (by first|exact .inl ⟨rfl,rfl⟩|exact .inr rfl) (by simp [go_sem]) ?_; intro args ha; simp [go_sem] at ha; subst ha; refine ⟨_, (decode_spec _ hne), ?_⟩; rintro _ rfl; simp [go_sem]; ((repeat' (first|(refine ag_x ?_;simp [go_sem])|refine adr_nil ?_|((first|refine adr_qs fun Y Yh=>?_|refine adr_y fun Y Yh=>?_);simp [go_sem])|intro _|apply And.intro|(apply Yh;clear Yh Y)));all_goals first|apply Hold.mk|omega|with_reducible assumption|skip))
     generalize hdq : Lib.decodeL (s.drop b) = dq at hfe hdl ⊢
     obtain ⟨x, k⟩ := dq
     simp only at hfe hdl ⊢
     refine awp_seq_k fun K5 hK5 => ?_
     (refine awp_sr fun Y Yh => ?_; simp [go_sem]; ((repeat' (first|(refine ag_x ?_;simp [go_sem])|intro _|apply And.intro|(apply Yh;clear Yh Y)));all_goals first|apply Hold.mk|omega|with_reducible assumption|skip))
     (refine awp_if fun T F hT hF => ?_; simp [go_sem]; refine BR.intro (fun h5 => hT ?_) (fun h5 => hF ?_); all_goals clear hT hF T F; try simp at h5)
     ·rw [if_pos ⟨by omega, by omega⟩] at hfe
      (refine awp_r fun Y Yh => ?_; simp [go_sem]; ((repeat' (first|(refine ag_x ?_;simp [go_sem])|intro _|apply And.intro|(apply Yh;clear Yh Y)));all_goals first|apply Hold.mk|omega|with_reducible assumption|skip))
      (refine callA_x [900002] (by first|exact .inl ⟨rfl,rfl⟩|exact .inr rfl) (by simp [go_sem]) ?_; intro args ha; simp [go_sem] at ha; subst ha; exact ⟨_, _, _, (fail_spec g s b n b (by omega)), (by simp [go_sem]), (fun ch h => hpan _ ⟨_, hfe.symm, h⟩), fun _ _ _ h => h.elim⟩)
     ·rw [if_neg (by rintro ⟨q1, q2⟩; have := h5 (by omega); omega)] at hfe
      refine awp_skip ?_
      refine hK5 _ ?_; clear hK5
      have e1 : ((b : Int) + k).toNat = b + k := by omega
      have htk : ((s.drop b).take k).length = k := by simp; omega
      ((refine awp_dr (.qs [0, 1, 2, 4, 5, 6, 8, 9, 10, 12, 3, 7, 11, 13, 14] (.one 15 (.nil))) (by kernel_rfl) ?_ ?_ ?_ ?_); (kernel_rfl); (exact (by decide +kernel)); (kernel_rfl); intro Y Yh; ((repeat' (first|(refine ag_x ?_;simp [go_sem, e1, ba_cut])|refine adr_nil ?_|((first|refine adr_qs fun Y Yh=>?_|refine adr_y fun Y Yh=>?_);simp [go_sem, e1, ba_cut])|intro _|apply And.intro|(apply Yh;clear Yh Y)));all_goals first|apply Hold.mk|omega|with_reducible assumption|skip))
      (refine callA_l [900004, 900005] (by first|exact .inl ⟨rfl,rfl⟩|exact .inr rfl) (by simp [go_sem]) ?_; intro args ha; simp [go_sem] at ha; subst ha; refine ⟨_, _, (ws_spec 900004 900005 gb gc acc ((s.drop b).take k) (by omega) (by omega) (by omega) (by omega)), (by simp [go_sem]), ?_⟩; rintro ps r hps ⟨gr2, rfl, rfl⟩; simp [go_sem]; ((repeat' (first|(refine ag_x ?_;simp [go_sem])|refine adr_nil ?_|((first|refine adr_qs fun Y Yh=>?_|refine adr_y fun Y Yh=>?_);simp [go_sem])|intro _|apply And.intro|(apply Yh;clear Yh Y)));all_goals first|apply Hold.mk|omega|with_reducible assumption|skip))
      (refine awp_r fun Y Yh => ?_; simp [go_sem]; ((repeat' (first|(refine ag_x ?_;simp [go_sem])|intro _|apply And.intro|(apply Yh;clear Yh Y)));all_goals first|apply Hold.mk|omega|with_reducible assumption|skip))
      refine ⟨(b + k, acc ++ (s.drop b).take k, gr2), ?_, ⟨by simp only; omega, by simp; omega, f, by simp only; omega, hfe⟩, by simp only; omega⟩
      (refine cov_of ?_ ?_ <;> simp [go_sem])
def XR (r : Rs JV) (ch : List PanicEntry) : Prop := ∃ p e, r = .bad p e ∧ ch = fP p e
def ValOk (s : Bs) (f : Nat) : Prop := ∀ g d a n : Nat, a ≤ s.length → 2 * (s.length - a) < f → d ≤ 51 → n ≤ 2000 →
 XCall Tryz.prog 38 [pR g, dI d] (rdE g s a n) [900002] (fun ps r => ∃ v b m, valV s (numR s) f d a n = .ok v b m ∧ r = dJ v ∧ ps = [(g, .box [dS s, dI b, dI m])]) (XR (valV s (numR s) f d a n))
def lstR (s : Bs) (f d b n : Nat) : Rs JV :=
 match s[blV s (b + 1)]? with
 | none => .bad s.length 14
 | some c2 => if c2 = 93 then .ok (.mk 5 [] [] []) (blV s (b + 1) + 1) n else listV s (numR s) f d (blV s (b + 1)) n []
set_option maxHeartbeats 8000000 in
theorem list_read (g : Nat) (s : Bs) (f d b n : Nat) (hl : s.length ≤ 1000000) (hb : b < s.length) (hd : d ≤ 50) (hn : n ≤ 2000) (hf : 2 * (s.length - b) ≤ f) (H : ∀ f' < f, ValOk s f') : XCall Tryz.prog 78 [pR g, dI d] (rdE g s b n) [900002]
  (fun ps r => ∃ v a m, lstR s f d b n = .ok v a m ∧ r = dJ v ∧ ps = [(g, .box [dS s, dI a, dI m])]) (XR (lstR s f d b n)) := by
 refine xcall_of Tryz.func78 rfl rfl Tryz.ntmps78 (rs := [.cell 4 26]) (tys := [26]) rfl rfl (by simp) (by simp [notFroz]) fun hp hpan => ?_
 unfold lstR at hpan ⊢
 have hb1 := blV_le (s := s) (a := b + 1) (by omega)
 have hb2 := blV_ge s (b + 1)
 refine awp_seq ?_
 refine awp_r fun Y Yh => ?_
 simp [go_sem]
 intro g4
 apply Yh; clear Yh Y
 refine Hold.mk ?_
 refine awp_seq ?_
 refine awp_r fun Y Yh => ?_
 simp [go_sem]
 intro g5
 apply Yh; clear Yh Y
 refine Hold.mk ?_
 (refine awp_sr fun Y Yh => ?_; simp [go_sem]; ((repeat' (first|(refine ag_x ?_;simp [go_sem])|intro _|apply And.intro|(apply Yh;clear Yh Y)));all_goals first|apply Hold.mk|omega|with_reducible assumption|skip))
 refine awp_seq_k fun K1 hK1 => ?_
 (refine awp_sr fun Y Yh => ?_; simp [go_sem]; ((repeat' (first|(refine ag_x ?_;simp [go_sem])|intro _|apply And.intro|(apply Yh;clear Yh Y)));all_goals first|apply Hold.mk|omega|with_reducible assumption|skip))
 (refine callA_x [900002] (by first|exact .inl ⟨rfl,rfl⟩|exact .inr rfl) (by simp [go_sem]) ?_; intro args ha; simp [go_sem] at ha; subst ha; refine ⟨_, _, _, (peek_spec g s (b + 1) n (by omega) (by omega)), (by simp [go_sem]), (fun ch h => hpan _ ⟨_, _, by rw [List.getElem?_eq_none h.1], h.2⟩), ?_⟩; rintro ps r hps ⟨c, hc, rfl, rfl⟩; simp [go_sem]; ((repeat' (first|(refine ag_x ?_;simp [go_sem])|intro _|apply And.intro|(apply Yh;clear Yh Y)));all_goals first|apply Hold.mk|omega|with_reducible assumption|skip))
 rw [hc] at hpan hK1 ⊢
 simp only at hpan hK1 ⊢
 have hlt := get_lt hc
 generalize blV s (b + 1) = b2 at hb1 hb2 hc hlt hpan hK1 ⊢
 (refine awp_if fun T F hT hF => ?_; simp [go_sem]; refine BR.intro (fun h2 => hT ?_) (fun h2 => hF ?_); all_goals clear hT hF T F; try simp at h2)
 ·have hc2 : c = 93 := (u8i c 93).1 (h2.trans rfl)
  rw [if_pos hc2]
  (refine awp_sr fun Y Yh => ?_; simp [go_sem]; ((repeat' (first|(refine ag_x ?_;simp [go_sem])|intro _|apply And.intro|(apply Yh;clear Yh Y)));all_goals first|apply Hold.mk|omega|with_reducible assumption|skip))
  (refine awp_sr fun Y Yh => ?_; simp [go_sem]; ((repeat' (first|(refine ag_x ?_;simp [go_sem])|intro _|apply And.intro|(apply Yh;clear Yh Y)));all_goals first|apply Hold.mk|omega|with_reducible assumption|skip))
  (refine awp_ret ?_; simp [go_sem, retA])
  exact ⟨_, _, _, ⟨rfl, rfl, rfl⟩, by simp [dJ_mk], by simp, rfl⟩
 ·have hc2 : ¬ c = 93 := fun q => by rw [q] at h2; exact h2 rfl
  rw [if_neg hc2] at hpan hK1
  refine awp_skip ?_
  refine hK1 _ ?_; clear hK1
  simp only [go_sem]
  refine awp_nilbox 33 26 4 3 (sb := 5) rfl rfl (by decide) fun gi => ?_
  simp only [go_sem, List.set_cons_succ, List.set_cons_zero]
  refine awp_block ?_
  refine awp_loop (σ := Nat × Nat × List JV × Nat) (fun x => ⟨[(0, pR g), (1, dI d), (4, .ptr 4 g4 0), (5, .ptr 5 g5 0)], [(4, (g4, .box [dI 0, dS [], .v (.slice none 0 0), .v (.slice none 0 0)])), (5, (g5, .box [dI 5, dS [], .v (.slice none 0 0), .own 33 x.2.2.2])), (33, (x.2.2.2, .row 26 4 (x.2.2.1.map cJ)))] ++ rdE g s x.1 x.2.1⟩)
   (fun x => x.1 ≤ s.length ∧ x.2.1 ≤ 2000 ∧ x.2.2.1.length ≤ 2000 ∧ x.2.2.1.length ≤ x.2.1 ∧ ∃ f', f' ≤ f ∧ 2 * (s.length - x.1) + 1 < f' ∧ listV s (numR s) f' d x.1 x.2.1 x.2.2.1 = listV s (numR s) f d b2 n [])
   (fun x => s.length - x.1) (b2, n, [], gi) ?_ ⟨hb1, hn, by simp, by simp, f, Nat.le_refl _, by simp only; omega, rfl⟩ ?_
  ·(refine cov_of ?_ ?_ <;> simp [go_sem])
  rintro ⟨a, m, acc, gr⟩ ⟨ha, hm, hac, ham, f', hff, hf', he⟩
  simp only at ha hm hac ham hff hf' he ⊢
  obtain ⟨f', rfl⟩ : ∃ k, f' = k + 1 := ⟨f' - 1, by omega⟩
  have HV := H f' (by omega) g (d + 1) a m ha (by omega) (by omega) hm
  rw [listV] at he
  refine awp_block ?_
  refine awp_seq_k fun K2 hK2 => ?_
  have tl2 : ∀ v b m', valV s (numR s) f' (d + 1) a m = .ok v b m' → ∀ gr' S', Cov S' ⟨[(0, pR g), (1, dI d), (4, .ptr 4 g4 0), (5, .ptr 5 g5 0)], [(4, (g4, .box [dI 0, dS [], .v (.slice none 0 0), .v (.slice none 0 0)])), (5, (g5, .box [dI 5, dS [], .v (.slice none 0 0), .own 33 gr'])), (33, (gr', .row 26 4 ((acc ++ [v]).map cJ)))] ++ rdE g s b m'⟩ → K2 S' := fun v b m' hv gr' S' hS => by
   refine hK2 _ ?_; clear hK2
   refine awp_cov hS ?_; clear hS
   have hvl := valV_le (fun _ _ => numR_le) hv
   have hp1 := blV_ge s b
   have hp2 := blV_le (s := s) (a := b) (by omega)
   rw [hv] at he
   simp only at he
   refine awp_seq_k fun K3 hK3 => ?_
   (refine awp_sr fun Y Yh => ?_; simp [go_sem]; ((repeat' (first|(refine ag_x ?_;simp [go_sem])|intro _|apply And.intro|(apply Yh;clear Yh Y)));all_goals first|apply Hold.mk|omega|with_reducible assumption|skip))
   (refine callA_x [900002] (by first|exact .inl ⟨rfl,rfl⟩|exact .inr rfl) (by simp [go_sem]) ?_; intro args ha; simp [go_sem] at ha; subst ha; refine ⟨_, _, _, (peek_spec g s b m' (by omega) (by omega)), (by simp [go_sem]), (fun ch h => hpan _ ⟨_, _, by rw [← he, List.getElem?_eq_none h.1], h.2⟩), ?_⟩; rintro ps r hps ⟨c3, hc3, rfl, rfl⟩; simp [go_sem]; ((repeat' (first|(refine ag_x ?_;simp [go_sem])|intro _|apply And.intro|(apply Yh;clear Yh Y)));all_goals first|apply Hold.mk|omega|with_reducible assumption|skip))
   rw [hc3] at he
   simp only at he
   have hlt3 := get_lt hc3
   (refine awp_if fun T F hT hF => ?_; simp [go_sem]; refine BR.intro (fun h4 => hT ?_) (fun h4 => hF ?_); all_goals clear hT hF T F; try simp at h4)
   ·have hc4 : c3 = 93 := (u8i c3 93).1 (h4.trans rfl)
    rw [if_pos hc4] at he
    (refine awp_sr fun Y Yh => ?_; simp [go_sem]; ((repeat' (first|(refine ag_x ?_;simp [go_sem])|intro _|apply And.intro|(apply Yh;clear Yh Y)));all_goals first|apply Hold.mk|omega|with_reducible assumption|skip))
    (refine awp_sr fun Y Yh => ?_; simp [go_sem]; ((repeat' (first|(refine ag_x ?_;simp [go_sem])|intro _|apply And.intro|(apply Yh;clear Yh Y)));all_goals first|apply Hold.mk|omega|with_reducible assumption|skip))
    (refine awp_ret ?_; simp [go_sem, retA])
    exact ⟨_, _, _, he.symm, by simp [dJ_mk], by simp, rfl⟩
   ·have hc4 : ¬ c3 = 93 := fun q => by rw [q] at h4; exact h4 rfl
    rw [if_neg hc4] at he
    refine awp_skip ?_
    refine hK3 _ ?_; clear hK3
    (refine awp_r fun Y Yh => ?_; simp [go_sem]; ((repeat' (first|(refine ag_x ?_;simp [go_sem])|intro _|apply And.intro|(apply Yh;clear Yh Y)));all_goals first|apply Hold.mk|omega|with_reducible assumption|skip))
    (refine callA_x [900002] (by first|exact .inl ⟨rfl,rfl⟩|exact .inr rfl) (by simp [go_sem]) ?_; intro args ha; simp [go_sem] at ha; subst ha; refine ⟨_, _, _, (want_spec g s (blV s b) m' 44 (by omega) (by omega)), (by simp [go_sem]), (fun ch h => hpan _ ⟨failP s (blV s b), failE s (blV s b), by rw [← he, if_neg]; intro q; rw [blV_idem, hc3, q] at h; exact h.1 rfl, by rw [h.2, blV_idem]⟩), ?_⟩; rintro ps r hps ⟨hw, rfl⟩; simp [go_sem]; ((repeat' (first|(refine ag_x ?_;simp [go_sem])|intro _|apply And.intro|(apply Yh;clear Yh Y)));all_goals first|apply Hold.mk|omega|with_reducible assumption|skip))
    rw [blV_idem, hc3] at hw
    have hc5 : c3 = 44 := by simpa using hw
    rw [if_pos hc5] at he
    refine ⟨(blV s (blV s b) + 1, m', acc ++ [v], gr'), ?_, ⟨by simp only; rw [blV_idem]; omega, by simp only; omega, by simp; omega, by simp; omega, f', by omega, by simp only; rw [blV_idem]; omega, by simp only; rw [blV_idem]; exact he⟩, by simp only; rw [blV_idem]; omega⟩
    (refine cov_of ?_ ?_ <;> simp [go_sem])
  clear hK2
  have hx : ∀ ch, XR (valV s (numR s) f' (d + 1) a m) ch → HasPan.pan Tryz.prog ch := fun ch ⟨p, e, h1, h2⟩ => hpan _ ⟨p, e, by rw [← he, h1], h2⟩
  ((refine awp_d (.qs [0, 2, 3, 4] (.two 1 (.one 5 (.one 6 (.one 7 (.qs [8] (.one 9 .nil))))) 5 (.two 1 (.one 6 (.one 7 (.qs [8] (.one 9 .nil)))) 6 (.one 1 (.one 7 (.qs [8] (.one 9 .nil))))))) (by kernel_rfl) ?_ ?_ ?_ ?_); (kernel_rfl); (exact (by decide +kernel)); (kernel_rfl); intro Y Yh; ((repeat' (first|(refine ag_x ?_;simp [go_sem])|refine adr_nil ?_|refine adr_two ?_ ?_|((first|refine adr_qs fun Y Yh=>?_|refine adr_y fun Y Yh=>?_);simp [go_sem])|intro _|apply And.intro|(apply Yh;clear Yh Y)));all_goals first|apply Hold.mk|omega|with_reducible assumption|skip))
  ·(refine callA_x [900002] (by first|exact .inl ⟨rfl,rfl⟩|exact .inr rfl) (by simp [go_sem]) ?_; intro args ha; simp [go_sem] at ha; subst ha; refine ⟨_, _, _, HV, (by simp [go_sem, dJ_mk]), hx, ?_⟩; rintro ps r hps ⟨⟨k, t, ns, xs⟩, b', m', hv, rfl, rfl⟩; simp [go_sem, dJ_mk]; ((repeat' (first|(refine ag_x ?_;simp [go_sem, dJ_mk])|refine adr_nil ?_|refine adr_two ?_ ?_|((first|refine adr_qs fun Y Yh=>?_|refine adr_y fun Y Yh=>?_);simp [go_sem, dJ_mk])|intro _|apply And.intro|(apply Yh;clear Yh Y)));all_goals first|apply Hold.mk|omega|with_reducible assumption|skip))
   rename_i g2 g3
   show K2 _
   refine tl2 _ _ _ hv g3 _ ?_
   (refine cov_of ?_ ?_ <;> simp [go_sem, cJ_mk])
  ·(refine callA_x [900002] (by first|exact .inl ⟨rfl,rfl⟩|exact .inr rfl) (by simp [go_sem]) ?_; intro args ha; simp [go_sem] at ha; subst ha; refine ⟨_, _, _, HV, (by simp [go_sem, dJ_mk]), hx, ?_⟩; rintro ps r hps ⟨⟨k, t, ns, xs⟩, b', m', hv, rfl, rfl⟩; simp [go_sem, dJ_mk]; ((repeat' (first|(refine ag_x ?_;simp [go_sem, dJ_mk])|refine adr_nil ?_|refine adr_two ?_ ?_|((first|refine adr_qs fun Y Yh=>?_|refine adr_y fun Y Yh=>?_);simp [go_sem, dJ_mk])|intro _|apply And.intro|(apply Yh;clear Yh Y)));all_goals first|apply Hold.mk|omega|with_reducible assumption|skip))
   all_goals rename_i g2 g3
   all_goals (show K2 _)
   all_goals (refine tl2 _ _ _ hv g3 _ ?_)
   all_goals ((refine cov_of ?_ ?_ <;> simp [go_sem, cJ_mk]))
end Go.Proofs.YtkgmecjaejaehaaGreatDoor
namespace Go.Js
/-! where the first one stands that is asked for -/
def fIx {α : Type} (p : α → Bool) (l : List α) : Int := if l.findIdx p < l.length then (l.findIdx p : Int) else -1
theorem fIx_at {α : Type} {p : α → Bool} {l : List α} {i : Nat} {x : α} (h : (l.take i).any p = false) (hx : l[i]? = some x) (hp : p x = true) : fIx p l = i := by
 have hlt : i < l.length := (List.getElem?_eq_some_iff.1 hx).1
 have e : l.findIdx p = i := by
  rw [List.findIdx_eq (h := hlt)]
  refine ⟨by rw [List.getElem?_eq_getElem hlt] at hx; simp at hx; rw [hx]; exact hp, fun j hj => ?_⟩
  rw [List.any_eq_false] at h
  have := h l[j] (by rw [List.mem_iff_getElem]; exact ⟨j, by simp; omega, by simp⟩)
  simpa using this
 unfold fIx
 rw [e, if_pos hlt]
theorem fIx_none {α : Type} {p : α → Bool} {l : List α} (h : l.any p = false) : fIx p l = -1 := by
 unfold fIx
 rw [if_neg]
 rw [List.findIdx_lt_length]
 rintro ⟨x, hx, hp⟩
 rw [List.any_eq_false] at h
 exact absurd hp (h x hx)
theorem take_anyG {α : Type} {p : α → Bool} {l : List α} {i : Nat} {x : α} (h : (l.take i).any p = false) (hx : l[i]? = some x) (hp : p x = false) : (l.take (i + 1)).any p = false := by
 rw [List.take_add_one, hx]
 simp [h, hp]
theorem fIx_any {α : Type} (p : α → Bool) (l : List α) : (0 ≤ fIx p l) ↔ l.any p = true := by
 constructor
 ·intro h
  cases ha : l.any p with
  | true => rfl
  | false => rw [fIx_none ha] at h; omega
 ·intro h
  unfold fIx
  rw [if_pos]
  ·omega
  ·rw [List.findIdx_lt_length]
   exact List.any_eq_true.1 h
def ixV (l : List (List UInt8)) (x : List UInt8) : Int := fIx (fun y => y == x) l
theorem ixV_mem (l : List (List UInt8)) (x : List UInt8) : (0 ≤ ixV l x) ↔ x ∈ l := by
 unfold ixV
 rw [fIx_any]
 simp
end Go.Js
namespace Go.Proofs.YtkgmecjaejaehaaGreatDoor
open Go.Eng Go.Js
set_option maxRecDepth 20000
attribute [local irreducible] AG CallA CallT AWp PCall ACall XCall AgC
set_option maxHeartbeats 2000000 in
theorem index_spec (l : List Bs) (x : Bs) (hl : l.length ≤ 1000000) : PCall Tryz.prog 99 [dSs l, dS x] fun r => r = dI (ixV l x) := by
 refine pcall_of Tryz.func99 rfl rfl Tryz.ntmps99 (rs := [.tmp 4]) (tys := [3]) rfl rfl (by simp) ?_
 unfold ixV
 (refine awp_sr fun Y Yh => ?_; simp [go_sem]; ((repeat' (first|(refine ag_x ?_;simp [go_sem])|intro _|apply And.intro|(apply Yh;clear Yh Y)));all_goals first|apply Hold.mk|omega|with_reducible assumption|skip))
 refine awp_seq_k fun K1 hK1 => ?_
 (refine awp_sr fun Y Yh => ?_; simp [go_sem]; ((repeat' (first|(refine ag_x ?_;simp [go_sem])|intro _|apply And.intro|(apply Yh;clear Yh Y)));all_goals first|apply Hold.mk|omega|with_reducible assumption|skip))
 refine awp_block ?_
 refine awp_loop (σ := Nat) (fun i => ⟨[(0, dSs l), (1, dS x), (7, dI l.length), (8, dI i)], []⟩) (fun i => i ≤ l.length ∧ (l.take i).any (fun y => y == x) = false) (fun i => l.length - i) 0 (by (refine cov_of ?_ ?_ <;> simp [go_sem])) (by simp) ?_
 rintro i ⟨hi, hany⟩
 (refine awp_sr fun Y Yh => ?_; simp [go_sem]; ((repeat' (first|(refine ag_x ?_;simp [go_sem])|intro _|apply And.intro|(apply Yh;clear Yh Y)));all_goals first|apply Hold.mk|omega|with_reducible assumption|skip))
 refine awp_seq_k fun K2 hK2 => ?_
 (refine awp_if fun T F hT hF => ?_; simp [go_sem]; refine BR.intro (fun h3 => hT ?_) (fun h3 => hF ?_); all_goals clear hT hF T F; try simp at h3)
 ·refine awp_skip ?_
  refine hK2 _ ?_; clear hK2
  obtain ⟨y, hy⟩ : ∃ y, l[i]? = some y := ⟨_, List.getElem?_eq_getElem (by omega)⟩
  refine awp_seq_k fun K4 hK4 => ?_
  refine awp_block ?_
  (refine awp_sr fun Y Yh => ?_; simp [go_sem]; ((repeat' (first|(refine ag_x ?_;simp [go_sem])|intro _|apply And.intro|(apply Yh;clear Yh Y)));all_goals first|apply Hold.mk|omega|with_reducible assumption|skip))
  (refine awp_sr fun Y Yh => ?_; simp [go_sem, hy]; ((repeat' (first|(refine ag_x ?_;simp [go_sem, hy])|intro _|apply And.intro|(apply Yh;clear Yh Y)));all_goals first|apply Hold.mk|omega|with_reducible assumption|skip))
  (refine awp_if fun T F hT hF => ?_; simp [go_sem]; refine BR.intro (fun h5 => hT ?_) (fun h5 => hF ?_); all_goals clear hT hF T F; try simp at h5)
  ·have hxy : x = y := by simpa using h5
   (refine awp_sr fun Y Yh => ?_; simp [go_sem]; ((repeat' (first|(refine ag_x ?_;simp [go_sem])|intro _|apply And.intro|(apply Yh;clear Yh Y)));all_goals first|apply Hold.mk|omega|with_reducible assumption|skip))
   (refine awp_ret ?_; simp [go_sem])
   rw [fIx_at hany hy (by simp [hxy])]
  ·have hxy : ¬ x = y := by simpa using h5
   refine awp_skip ?_
   refine hK4 _ ?_; clear hK4
   (refine awp_r fun Y Yh => ?_; simp [go_sem]; ((repeat' (first|(refine ag_x ?_;simp [go_sem])|intro _|apply And.intro|(apply Yh;clear Yh Y)));all_goals first|apply Hold.mk|omega|with_reducible assumption|skip))
   refine ⟨i + 1, ?_, ⟨by omega, take_anyG hany hy (by simp; exact fun q => hxy q.symm)⟩, by omega⟩
   (refine cov_of ?_ ?_ <;> simp [go_sem])
 ·refine awp_exit ?_
  simp only [go_sem]
  refine hK1 _ ?_; clear hK1
  (refine awp_sr fun Y Yh => ?_; simp [go_sem]; ((repeat' (first|(refine ag_x ?_;simp [go_sem])|intro _|apply And.intro|(apply Yh;clear Yh Y)));all_goals first|apply Hold.mk|omega|with_reducible assumption|skip))
  (refine awp_ret ?_; simp [go_sem])
  have : i = l.length := by omega
  subst this
  rw [List.take_length] at hany
  rw [fIx_none hany]
theorem contains_spec (l : List Bs) (x : Bs) (hl : l.length ≤ 1000000) : PCall Tryz.prog 119 [dSs l, dS x] fun r => r = dB (decide (x ∈ l)) := by
 refine pcall_of Tryz.func119 rfl rfl Tryz.ntmps119 (rs := [.tmp 4]) (tys := [4]) rfl rfl (by simp) ?_
 (refine awp_sr fun Y Yh => ?_; simp [go_sem]; ((repeat' (first|(refine ag_x ?_;simp [go_sem])|intro _|apply And.intro|(apply Yh;clear Yh Y)));all_goals first|apply Hold.mk|omega|with_reducible assumption|skip))
 (refine awp_sr fun Y Yh => ?_; simp [go_sem]; ((repeat' (first|(refine ag_x ?_;simp [go_sem])|intro _|apply And.intro|(apply Yh;clear Yh Y)));all_goals first|apply Hold.mk|omega|with_reducible assumption|skip))
 ((try refine CallT.toA ?_); refine callT_m (by first|exact .inl ⟨rfl,rfl⟩|exact .inr rfl) (by simp [go_sem]) ?_; intro args ha; simp [go_sem] at ha; subst ha; refine ⟨_, (index_spec l x hl), ?_⟩; rintro _ rfl; simp [go_sem]; ((repeat' (first|(refine ag_x ?_;simp [go_sem])|intro _|apply And.intro|(apply Yh;clear Yh Y)));all_goals first|apply Hold.mk|omega|with_reducible assumption|skip))
 (refine awp_ret ?_; simp [go_sem])
 exact ixV_mem l x
def objR (s : Bs) (f d b n : Nat) : Rs JV :=
 match s[blV s (b + 1)]? with
 | none => .bad s.length 14
 | some c2 => if c2 = 125 then .ok (.mk 6 [] [] []) (blV s (b + 1) + 1) n else objV s (numR s) f d (blV s (b + 1)) n [] []
set_option maxHeartbeats 16000000 in
theorem object_read (g : Nat) (s : Bs) (f d b n : Nat) (hl : s.length ≤ 1000000) (hb : b < s.length) (hd : d ≤ 50) (hn : n ≤ 2000) (hf : 2 * (s.length - b) ≤ f) (H : ∀ f' < f, ValOk s f') : XCall Tryz.prog 79 [pR g, dI d] (rdE g s b n) [900002]
  (fun ps r => ∃ v a m, objR s f d b n = .ok v a m ∧ r = dJ v ∧ ps = [(g, .box [dS s, dI a, dI m])]) (XR (objR s f d b n)) := by
 refine xcall_of Tryz.func79 rfl rfl Tryz.ntmps79 (rs := [.cell 4 26]) (tys := [26]) rfl rfl (by simp) (by simp [notFroz]) fun hp hpan => ?_
 unfold objR at hpan ⊢
 have hb1 := blV_le (s := s) (a := b + 1) (by omega)
 have hb2 := blV_ge s (b + 1)
 refine awp_seq ?_
 refine awp_r fun Y Yh => ?_
 simp [go_sem]
 intro g4
 apply Yh; clear Yh Y
 refine Hold.mk ?_
 refine awp_seq ?_
 refine awp_r fun Y Yh => ?_
 simp [go_sem]
 intro g5
 apply Yh; clear Yh Y
 refine Hold.mk ?_
 (refine awp_sr fun Y Yh => ?_; simp [go_sem]; ((repeat' (first|(refine ag_x ?_;simp [go_sem])|intro _|apply And.intro|(apply Yh;clear Yh Y)));all_goals first|apply Hold.mk|omega|with_reducible assumption|skip))
 refine awp_seq_k fun K1 hK1 => ?_
 (refine awp_sr fun Y Yh => ?_; simp [go_sem]; ((repeat' (first|(refine ag_x ?_;simp [go_sem])|intro _|apply And.intro|(apply Yh;clear Yh Y)));all_goals first|apply Hold.mk|omega|with_reducible assumption|skip))
 (refine callA_x [900002] (by first|exact .inl ⟨rfl,rfl⟩|exact .inr rfl) (by simp [go_sem]) ?_; intro args ha; simp [go_sem] at ha; subst ha; refine ⟨_, _, _, (peek_spec g s (b + 1) n (by omega) (by omega)), (by simp [go_sem]), (fun ch h => hpan _ ⟨_, _, by rw [List.getElem?_eq_none h.1], h.2⟩), ?_⟩; rintro ps r hps ⟨c, hc, rfl, rfl⟩; simp [go_sem]; ((repeat' (first|(refine ag_x ?_;simp [go_sem])|intro _|apply And.intro|(apply Yh;clear Yh Y)));all_goals first|apply Hold.mk|omega|with_reducible assumption|skip))
 rw [hc] at hpan hK1 ⊢
 simp only at hpan hK1 ⊢
 have hlt := get_lt hc
 generalize blV s (b + 1) = b2 at hb1 hb2 hc hlt hpan hK1 ⊢
 (refine awp_if fun T F hT hF => ?_; simp [go_sem]; refine BR.intro (fun h2 => hT ?_) (fun h2 => hF ?_); all_goals clear hT hF T F; try simp at h2)
 ·have hc2 : c = 125 := (u8i c 125).1 (h2.trans rfl)
  rw [if_pos hc2]
  (refine awp_sr fun Y Yh => ?_; simp [go_sem]; ((repeat' (first|(refine ag_x ?_;simp [go_sem])|intro _|apply And.intro|(apply Yh;clear Yh Y)));all_goals first|apply Hold.mk|omega|with_reducible assumption|skip))
  (refine awp_sr fun Y Yh => ?_; simp [go_sem]; ((repeat' (first|(refine ag_x ?_;simp [go_sem])|intro _|apply And.intro|(apply Yh;clear Yh Y)));all_goals first|apply Hold.mk|omega|with_reducible assumption|skip))
  (refine awp_ret ?_; simp [go_sem, retA])
  exact ⟨_, _, _, ⟨rfl, rfl, rfl⟩, by simp [dJ_mk], by simp, rfl⟩
 ·have hc2 : ¬ c = 125 := fun q => by rw [q] at h2; exact h2 rfl
  rw [if_neg hc2] at hpan hK1
  refine awp_skip ?_
  refine hK1 _ ?_; clear hK1
  simp only [go_sem]
  refine awp_nilbox 33 26 4 3 (sb := 5) rfl rfl (by decide) fun gi => ?_
  simp only [go_sem, List.set_cons_succ, List.set_cons_zero]
  refine awp_nilbox 34 9 1 2 (sb := 5) rfl rfl (by decide) fun gj => ?_
  simp only [go_sem, List.set_cons_succ, List.set_cons_zero]
  refine awp_block ?_
  refine awp_loop (σ := (Nat × Nat) × (List Bs × List JV) × (Nat × Nat)) (fun x => ⟨[(0, pR g), (1, dI d), (4, .ptr 4 g4 0), (5, .ptr 5 g5 0)], [(4, (g4, .box [dI 0, dS [], .v (.slice none 0 0), .v (.slice none 0 0)])), (5, (g5, .box [dI 6, dS [], .own 34 x.2.2.1, .own 33 x.2.2.2])), (34, (x.2.2.1, .row 9 1 (x.2.1.1.map cS))), (33, (x.2.2.2, .row 26 4 (x.2.1.2.map cJ)))] ++ rdE g s x.1.1 x.1.2⟩)
   (fun x => x.1.1 ≤ s.length ∧ x.1.2 ≤ 2000 ∧ x.2.1.1.length ≤ x.1.2 ∧ x.2.1.2.length ≤ x.1.2 ∧ ∃ f', f' ≤ f ∧ 2 * (s.length - x.1.1) + 1 < f' ∧ objV s (numR s) f' d x.1.1 x.1.2 x.2.1.1 x.2.1.2 = objV s (numR s) f d b2 n [] [])
   (fun x => s.length - x.1.1) ((b2, n), ([], []), (gj, gi)) ?_ ⟨hb1, hn, by simp, by simp, f, Nat.le_refl _, by simp only; omega, rfl⟩ ?_
  ·(refine cov_of ?_ ?_ <;> simp [go_sem])
  rintro ⟨⟨a, m⟩, ⟨nms, acc⟩, ⟨gn, gr⟩⟩ ⟨ha, hm, hnm, ham, f', hff, hf', he⟩
  simp only at ha hm hnm ham hff hf' he ⊢
  obtain ⟨f', rfl⟩ : ∃ k, f' = k + 1 := ⟨f' - 1, by omega⟩
  rw [objV] at he
  simp only at he
  have ha1 := blV_le ha
  have ha2 := blV_ge s a
  refine awp_block ?_
  refine awp_seq_k fun K3 hK3 => ?_
  (refine awp_sr fun Y Yh => ?_; simp [go_sem]; ((repeat' (first|(refine ag_x ?_;simp [go_sem])|intro _|apply And.intro|(apply Yh;clear Yh Y)));all_goals first|apply Hold.mk|omega|with_reducible assumption|skip))
  (refine callA_x [900002] (by first|exact .inl ⟨rfl,rfl⟩|exact .inr rfl) (by simp [go_sem]) ?_; intro args ha; simp [go_sem] at ha; subst ha; refine ⟨_, _, _, (peek_spec g s a m (by omega) ha), (by simp [go_sem]), (fun ch h => hpan _ ⟨_, _, by rw [← he, List.getElem?_eq_none h.1], h.2⟩), ?_⟩; rintro ps r hps ⟨c1, hc1, rfl, rfl⟩; simp [go_sem]; ((repeat' (first|(refine ag_x ?_;simp [go_sem])|intro _|apply And.intro|(apply Yh;clear Yh Y)));all_goals first|apply Hold.mk|omega|with_reducible assumption|skip))
  rw [hc1] at he
  simp only at he
  have hlt1 := get_lt hc1
  generalize blV s a = a1 at ha1 ha2 hc1 hlt1 he ⊢
  (refine awp_if fun T F hT hF => ?_; simp [go_sem]; refine BR.intro (fun h3 => hT ?_) (fun h3 => hF ?_); all_goals clear hT hF T F; try simp at h3)
  ·rw [if_pos (by intro q; rw [q] at h3; exact h3 rfl)] at he
   (refine awp_r fun Y Yh => ?_; simp [go_sem]; ((repeat' (first|(refine ag_x ?_;simp [go_sem])|intro _|apply And.intro|(apply Yh;clear Yh Y)));all_goals first|apply Hold.mk|omega|with_reducible assumption|skip))
   (refine callA_x [900002] (by first|exact .inl ⟨rfl,rfl⟩|exact .inr rfl) (by simp [go_sem]) ?_; intro args ha; simp [go_sem] at ha; subst ha; exact ⟨_, _, _, (fail_spec g s a1 m a1 (by omega)), (by simp [go_sem]), (fun ch h => hpan _ ⟨_, _, he.symm, h⟩), fun _ _ _ h => h.elim⟩)
  ·have hq34 : c1 = 34 := (u8i c1 34).1 (h3.trans rfl)
   rw [if_neg (by simp [hq34])] at he
   refine awp_skip ?_
   refine hK3 _ ?_; clear hK3
   (refine awp_sr fun Y Yh => ?_; simp [go_sem]; ((repeat' (first|(refine ag_x ?_;simp [go_sem])|intro _|apply And.intro|(apply Yh;clear Yh Y)));all_goals first|apply Hold.mk|omega|with_reducible assumption|skip))
   (refine awp_sr fun Y Yh => ?_; simp [go_sem]; ((repeat' (first|(refine ag_x ?_;simp [go_sem])|intro _|apply And.intro|(apply Yh;clear Yh Y)));all_goals first|apply Hold.mk|omega|with_reducible assumption|skip))
   (refine callA_x [900002] (by first|exact .inl ⟨rfl,rfl⟩|exact .inr rfl) (by simp [go_sem]) ?_; intro args ha; simp [go_sem] at ha; subst ha; refine ⟨_, _, _, (str_read g s a1 m (by omega) hlt1), (by simp [go_sem]), (fun ch ⟨q, h1, h2⟩ => hpan _ ⟨q.1, q.2, by rw [← he, h1], h2⟩), ?_⟩; rintro ps r hps ⟨⟨nm, a2⟩, hst, rfl, rfl⟩; simp [go_sem]; ((repeat' (first|(refine ag_x ?_;simp [go_sem])|intro _|apply And.intro|(apply Yh;clear Yh Y)));all_goals first|apply Hold.mk|omega|with_reducible assumption|skip))
   rw [hst] at he
   simp only at he
   have hsl := strV_le hst
   simp only at hsl
   refine awp_seq_k fun K4 hK4 => ?_
   (refine awp_sr fun Y Yh => ?_; simp [go_sem]; ((repeat' (first|(refine ag_x ?_;simp [go_sem])|intro _|apply And.intro|(apply Yh;clear Yh Y)));all_goals first|apply Hold.mk|omega|with_reducible assumption|skip))
   ((try refine CallT.toA ?_); refine callT_f (by first|exact .inl ⟨rfl,rfl⟩|exact .inr rfl) ?_; intro args ha; simp [go_sem] at ha; subst ha; refine ⟨_, (contains_spec nms nm (by omega)), ?_⟩; rintro _ rfl; refine ⟨rfl, ?_⟩; simp [go_sem]; ((repeat' (first|(refine ag_x ?_;simp [go_sem])|intro _|apply And.intro|(apply Yh;clear Yh Y)));all_goals first|apply Hold.mk|omega|with_reducible assumption|skip))
   (refine awp_if fun T F hT hF => ?_; simp [go_sem]; refine BR.intro (fun h4 => hT ?_) (fun h4 => hF ?_); all_goals clear hT hF T F; try simp at h4)
   ·rw [if_pos h4] at he
    refine awp_ags ?_
    simp only [AGs]
    refine ag_true rfl ?_
    simp [go_sem]
    refine ag_true rfl ?_
    simp [go_sem]
    refine ag_mkifc (by simp [dstOk]) conc74 ?_
    simp [go_sem]
    refine ag_panic ?_
    simp [go_sem]
    refine ⟨74, _, ⟨rfl, rfl⟩, fun C w u hu => ?_⟩
    rw [rep2 hu]
    exact hpan _ ⟨_, _, he.symm, rfl⟩
   ·rw [if_neg h4] at he
    have hb3 := blV_le (s := s) (a := a2) (by omega)
    have hb4 := blV_ge s a2
    refine awp_skip ?_
    refine hK4 _ ?_; clear hK4
    (refine awp_sr fun Y Yh => ?_; simp [go_sem]; ((repeat' (first|(refine ag_x ?_;simp [go_sem])|intro _|apply And.intro|(apply Yh;clear Yh Y)));all_goals first|apply Hold.mk|omega|with_reducible assumption|skip))
    (refine callA_x [900002] (by first|exact .inl ⟨rfl,rfl⟩|exact .inr rfl) (by simp [go_sem]) ?_; intro args ha; simp [go_sem] at ha; subst ha; refine ⟨_, _, _, (want_spec g s a2 m 58 (by omega) (by omega)), (by simp [go_sem]), (fun ch h => hpan _ (by cases hx : s[blV s a2]? with | none => have := List.getElem?_eq_none_iff.1 hx; rw [hx] at he; exact ⟨_, _, he.symm, by rw [h.2]; simp [failP, failE, this]⟩ | some c2 => rw [hx] at he; simp only at he; rw [if_pos (by intro q; rw [q] at hx; exact h.1 hx)] at he; exact ⟨_, _, he.symm, h.2⟩)), ?_⟩; rintro ps r hps ⟨hw, rfl⟩; simp [go_sem]; ((repeat' (first|(refine ag_x ?_;simp [go_sem])|intro _|apply And.intro|(apply Yh;clear Yh Y)));all_goals first|apply Hold.mk|omega|with_reducible assumption|skip))
    rw [hw] at he
    simp only [ne_eq, not_true_eq_false, if_false] at he
    have hltw := get_lt hw
    generalize blV s a2 = a3 at hb3 hb4 hw hltw he ⊢
    have HV := H f' (by omega) g (d + 1) (a3 + 1) m (by omega) (by omega) (by omega) hm
    (refine awp_sr fun Y Yh => ?_; simp [go_sem]; ((repeat' (first|(refine ag_x ?_;simp [go_sem])|intro _|apply And.intro|(apply Yh;clear Yh Y)));all_goals first|apply Hold.mk|omega|with_reducible assumption|skip))
    rename_i gx gn2
    refine awp_seq_k fun K2 hK2 => ?_
    have tl2 : ∀ v b m', valV s (numR s) f' (d + 1) (a3 + 1) m = .ok v b m' → ∀ gr' S', Cov S' ⟨[(0, pR g), (1, dI d), (4, .ptr 4 g4 0), (5, .ptr 5 g5 0)], [(4, (g4, .box [dI 0, dS [], .v (.slice none 0 0), .v (.slice none 0 0)])), (5, (g5, .box [dI 6, dS [], .own 34 gn2, .own 33 gr'])), (34, (gn2, .row 9 1 ((nms ++ [nm]).map cS))), (33, (gr', .row 26 4 ((acc ++ [v]).map cJ)))] ++ rdE g s b m'⟩ → K2 S' := fun v b m' hv gr' S' hS => by
     refine hK2 _ ?_; clear hK2
     refine awp_cov hS ?_; clear hS
     have hvl := valV_le (fun _ _ => numR_le) hv
     have hp1 := blV_ge s b
     have hp2 := blV_le (s := s) (a := b) (by omega)
     rw [hv] at he
     simp only at he
     refine awp_seq_k fun K5 hK5 => ?_
     (refine awp_sr fun Y Yh => ?_; simp [go_sem]; ((repeat' (first|(refine ag_x ?_;simp [go_sem])|intro _|apply And.intro|(apply Yh;clear Yh Y)));all_goals first|apply Hold.mk|omega|with_reducible assumption|skip))
     (refine callA_x [900002] (by first|exact .inl ⟨rfl,rfl⟩|exact .inr rfl) (by simp [go_sem]) ?_; intro args ha; simp [go_sem] at ha; subst ha; refine ⟨_, _, _, (peek_spec g s b m' (by omega) (by omega)), (by simp [go_sem]), (fun ch h => hpan _ ⟨_, _, by rw [← he, List.getElem?_eq_none h.1], h.2⟩), ?_⟩; rintro ps r hps ⟨c3, hc3, rfl, rfl⟩; simp [go_sem]; ((repeat' (first|(refine ag_x ?_;simp [go_sem])|intro _|apply And.intro|(apply Yh;clear Yh Y)));all_goals first|apply Hold.mk|omega|with_reducible assumption|skip))
     rw [hc3] at he
     simp only at he
     have hlt3 := get_lt hc3
     (refine awp_if fun T F hT hF => ?_; simp [go_sem]; refine BR.intro (fun h6 => hT ?_) (fun h6 => hF ?_); all_goals clear hT hF T F; try simp at h6)
     ·have hc4 : c3 = 125 := (u8i c3 125).1 (h6.trans rfl)
      rw [if_pos hc4] at he
      (refine awp_sr fun Y Yh => ?_; simp [go_sem]; ((repeat' (first|(refine ag_x ?_;simp [go_sem])|intro _|apply And.intro|(apply Yh;clear Yh Y)));all_goals first|apply Hold.mk|omega|with_reducible assumption|skip))
      (refine awp_sr fun Y Yh => ?_; simp [go_sem]; ((repeat' (first|(refine ag_x ?_;simp [go_sem])|intro _|apply And.intro|(apply Yh;clear Yh Y)));all_goals first|apply Hold.mk|omega|with_reducible assumption|skip))
      (refine awp_ret ?_; simp [go_sem, retA])
      exact ⟨_, _, _, he.symm, by simp [dJ_mk], by simp, rfl⟩
     ·have hc4 : ¬ c3 = 125 := fun q => by rw [q] at h6; exact h6 rfl
      rw [if_neg hc4] at he
      refine awp_skip ?_
      refine hK5 _ ?_; clear hK5
      (refine awp_r fun Y Yh => ?_; simp [go_sem]; ((repeat' (first|(refine ag_x ?_;simp [go_sem])|intro _|apply And.intro|(apply Yh;clear Yh Y)));all_goals first|apply Hold.mk|omega|with_reducible assumption|skip))
      (refine callA_x [900002] (by first|exact .inl ⟨rfl,rfl⟩|exact .inr rfl) (by simp [go_sem]) ?_; intro args ha; simp [go_sem] at ha; subst ha; refine ⟨_, _, _, (want_spec g s (blV s b) m' 44 (by omega) (by omega)), (by simp [go_sem]), (fun ch h => hpan _ ⟨failP s (blV s b), failE s (blV s b), by rw [← he, if_neg]; intro q; rw [blV_idem, hc3, q] at h; exact h.1 rfl, by rw [h.2, blV_idem]⟩), ?_⟩; rintro ps r hps ⟨hw, rfl⟩; simp [go_sem]; ((repeat' (first|(refine ag_x ?_;simp [go_sem])|intro _|apply And.intro|(apply Yh;clear Yh Y)));all_goals first|apply Hold.mk|omega|with_reducible assumption|skip))
      rw [blV_idem, hc3] at hw
      have hc5 : c3 = 44 := by simpa using hw
      rw [if_pos hc5] at he
      refine ⟨((blV s (blV s b) + 1, m'), (nms ++ [nm], acc ++ [v]), (gn2, gr')), ?_, ⟨by simp only; rw [blV_idem]; omega, by simp only; omega, by simp; omega, by simp; omega, f', by omega, by simp only; rw [blV_idem]; omega, by simp only; rw [blV_idem]; exact he⟩, by simp only; rw [blV_idem]; omega⟩
      (refine cov_of ?_ ?_ <;> simp [go_sem])
    clear hK2
    have hx : ∀ ch, XR (valV s (numR s) f' (d + 1) (a3 + 1) m) ch → HasPan.pan Tryz.prog ch := fun ch ⟨p, e, h1, h2⟩ => hpan _ ⟨p, e, by rw [← he, h1], h2⟩
    ((refine awp_d (.qs [0, 2, 3, 4] (.two 1 (.one 5 (.one 6 (.one 7 (.qs [8] (.one 9 .nil))))) 5 (.two 1 (.one 6 (.one 7 (.qs [8] (.one 9 .nil)))) 6 (.one 1 (.one 7 (.qs [8] (.one 9 .nil))))))) (by kernel_rfl) ?_ ?_ ?_ ?_); (kernel_rfl); (exact (by decide +kernel)); (kernel_rfl); intro Y Yh; ((repeat' (first|(refine ag_x ?_;simp [go_sem])|refine adr_nil ?_|refine adr_two ?_ ?_|((first|refine adr_qs fun Y Yh=>?_|refine adr_y fun Y Yh=>?_);simp [go_sem])|intro _|apply And.intro|(apply Yh;clear Yh Y)));all_goals first|apply Hold.mk|omega|with_reducible assumption|skip))
    ·(refine callA_x [900002] (by first|exact .inl ⟨rfl,rfl⟩|exact .inr rfl) (by simp [go_sem]) ?_; intro args ha; simp [go_sem] at ha; subst ha; refine ⟨_, _, _, HV, (by simp [go_sem, dJ_mk]), hx, ?_⟩; rintro ps r hps ⟨⟨k, t, ns, xs⟩, b', m', hv, rfl, rfl⟩; simp [go_sem, dJ_mk]; ((repeat' (first|(refine ag_x ?_;simp [go_sem, dJ_mk])|refine adr_nil ?_|refine adr_two ?_ ?_|((first|refine adr_qs fun Y Yh=>?_|refine adr_y fun Y Yh=>?_);simp [go_sem, dJ_mk])|intro _|apply And.intro|(apply Yh;clear Yh Y)));all_goals first|apply Hold.mk|omega|with_reducible assumption|skip))
     rename_i g2 g3
     show K2 _
     refine tl2 _ _ _ hv g3 _ ?_
     (refine cov_of ?_ ?_ <;> simp [go_sem, cJ_mk])
    ·(refine callA_x [900002] (by first|exact .inl ⟨rfl,rfl⟩|exact .inr rfl) (by simp [go_sem]) ?_; intro args ha; simp [go_sem] at ha; subst ha; refine ⟨_, _, _, HV, (by simp [go_sem, dJ_mk]), hx, ?_⟩; rintro ps r hps ⟨⟨k, t, ns, xs⟩, b', m', hv, rfl, rfl⟩; simp [go_sem, dJ_mk]; ((repeat' (first|(refine ag_x ?_;simp [go_sem, dJ_mk])|refine adr_nil ?_|refine adr_two ?_ ?_|((first|refine adr_qs fun Y Yh=>?_|refine adr_y fun Y Yh=>?_);simp [go_sem, dJ_mk])|intro _|apply And.intro|(apply Yh;clear Yh Y)));all_goals first|apply Hold.mk|omega|with_reducible assumption|skip))
     all_goals rename_i g2 g3
     all_goals (show K2 _)
     all_goals (refine tl2 _ _ _ hv g3 _ ?_)
     all_goals ((refine cov_of ?_ ?_ <;> simp [go_sem, cJ_mk]))
theorem starts_b (c : UInt8) : (decide ((c.toNat : Int) = 34) || decide ((c.toNat : Int) = 91) || decide ((c.toNat : Int) = 123) || decide ((c.toNat : Int) = 45) || decide (48 ≤ (c.toNat : Int)) && decide ((c.toNat : Int) ≤ 57) ||
  decide ((c.toNat : Int) = 116) || decide ((c.toNat : Int) = 102) || decide ((c.toNat : Int) = 110)) = starts c := by
 have h : ∀ c : UInt8, ((decide ((c.toNat : Int) = 34) || decide ((c.toNat : Int) = 91) || decide ((c.toNat : Int) = 123) || decide ((c.toNat : Int) = 45) || decide (48 ≤ (c.toNat : Int)) && decide ((c.toNat : Int) ≤ 57) ||
  decide ((c.toNat : Int) = 116) || decide ((c.toNat : Int) = 102) || decide ((c.toNat : Int) = 110)) == starts c) = true := u8_all (by decide +kernel)
 exact beq_iff_eq.1 (h c)
theorem starts_p (c : UInt8) : (((((((((c.toNat : Int) = 34 ∨ (c.toNat : Int) = 91) ∨ (c.toNat : Int) = 123) ∨ (c.toNat : Int) = 45) ∨ 48 ≤ (c.toNat : Int) ∧ (c.toNat : Int) ≤ 57) ∨ (c.toNat : Int) = 116) ∨ (c.toNat : Int) = 102) ∨ (c.toNat : Int) = 110)) ↔ starts c = true := by
 rw [← starts_b]
 simp [or_assoc]
set_option maxHeartbeats 16000000 in
theorem value_step (s : Bs) (f : Nat) (hl : s.length ≤ 1000000) (H : ∀ f' < f + 1, ValOk s f') : ValOk s (f + 1) := by
 intro g d a n ha hf hd hn
 refine xcall_of Tryz.func38 rfl rfl Tryz.ntmps38 (rs := [.cell 4 26]) (tys := [26]) rfl rfl (by simp) (by simp [notFroz]) fun hp hpan => ?_
 have hb1 := blV_le ha
 have hb2 := blV_ge s a
 rw [valV] at hpan ⊢
 simp only at hpan ⊢
 refine awp_seq ?_
 refine awp_r fun Y Yh => ?_
 simp [go_sem]
 intro g4
 apply Yh; clear Yh Y
 refine Hold.mk ?_
 (refine awp_sr fun Y Yh => ?_; simp [go_sem]; ((repeat' (first|(refine ag_x ?_;simp [go_sem])|intro _|apply And.intro|(apply Yh;clear Yh Y)));all_goals first|apply Hold.mk|omega|with_reducible assumption|skip))
 (refine callA_x [900002] (by first|exact .inl ⟨rfl,rfl⟩|exact .inr rfl) (by simp [go_sem]) ?_; intro args ha; simp [go_sem] at ha; subst ha; refine ⟨_, _, _, (peek_spec g s a n (by omega) ha), (by simp [go_sem]), (fun ch h => hpan _ ⟨_, _, by rw [List.getElem?_eq_none h.1], h.2⟩), ?_⟩; rintro ps r hps ⟨c, hc, rfl, rfl⟩; simp [go_sem]; ((repeat' (first|(refine ag_x ?_;simp [go_sem])|intro _|apply And.intro|(apply Yh;clear Yh Y)));all_goals first|apply Hold.mk|omega|with_reducible assumption|skip))
 rw [hc] at hpan ⊢
 simp only at hpan ⊢
 have hlt := get_lt hc
 generalize blV s a = b at hb1 hb2 hc hlt hpan ⊢
 (refine awp_sr fun Y Yh => ?_; simp [go_sem]; ((repeat' (first|(refine ag_x ?_;simp [go_sem])|intro _|apply And.intro|(apply Yh;clear Yh Y)));all_goals first|apply Hold.mk|omega|with_reducible assumption|skip))
 (refine awp_sr fun Y Yh => ?_; simp [go_sem]; ((repeat' (first|(refine ag_x ?_;simp [go_sem])|intro _|apply And.intro|(apply Yh;clear Yh Y)));all_goals first|apply Hold.mk|omega|with_reducible assumption|skip))
 refine awp_seq_k fun K1 hK1 => ?_
 (refine awp_sr fun Y Yh => ?_; simp [go_sem]; ((repeat' (first|(refine ag_x ?_;simp [go_sem])|intro _|apply And.intro|(apply Yh;clear Yh Y)));all_goals first|apply Hold.mk|omega|with_reducible assumption|skip))
 (refine awp_if fun T F hT hF => ?_; simp [go_sem]; refine BR.intro (fun h10 => hT ?_) (fun h10 => hF ?_); all_goals clear hT hF T F; try simp at h10)
 ·rw [if_pos ⟨(starts_p c).1 h10.1, by omega⟩] at hpan
  refine awp_ags ?_
  simp only [AGs]
  refine ag_true rfl ?_
  simp [go_sem]
  refine ag_true rfl ?_
  simp [go_sem]
  refine ag_true rfl ?_
  simp [go_sem]
  refine ag_true rfl ?_
  simp [go_sem]
  refine ag_true rfl ?_
  simp [go_sem]
  refine ag_mkifc (by simp [dstOk]) conc74 ?_
  simp [go_sem]
  refine ag_panic ?_
  simp [go_sem]
  refine ⟨74, _, ⟨rfl, rfl⟩, fun C w u hu => ?_⟩
  rw [rep2 hu]
  exact hpan _ ⟨_, _, rfl, rfl⟩
 ·have hno : ¬ (starts c = true ∧ (50 < d ∨ 2000 < n + 1)) := fun ⟨q1, q2⟩ => by have := h10 ((starts_p c).2 q1); omega
  rw [if_neg hno] at hpan
  rw [if_neg hno] at hK1
  refine awp_skip ?_
  refine hK1 _ ?_; clear hK1
  have lim : starts c = true → d ≤ 50 ∧ n + 1 ≤ 2000 := fun q => by
   have := (starts_p c).2 q
   have := h10 this
   omega
  clear h10
  refine awp_seq_k fun K2 hK2 => ?_
  refine awp_block ?_
  (refine awp_sr fun Y Yh => ?_; simp [go_sem]; ((repeat' (first|(refine ag_x ?_;simp [go_sem])|intro _|apply And.intro|(apply Yh;clear Yh Y)));all_goals first|apply Hold.mk|omega|with_reducible assumption|skip))
  (refine awp_if fun T F hT hF => ?_; simp [go_sem]; refine BR.intro (fun h3 => hT ?_) (fun h3 => hF ?_); all_goals clear hT hF T F; try simp at h3)
  ·have q : c = 34 := (u8i c 34).1 (h3.trans rfl)
   rw [if_pos q] at hpan
   (refine awp_sr fun Y Yh => ?_; simp [go_sem]; ((repeat' (first|(refine ag_x ?_;simp [go_sem])|intro _|apply And.intro|(apply Yh;clear Yh Y)));all_goals first|apply Hold.mk|omega|with_reducible assumption|skip))
   (refine callA_x [900002] (by first|exact .inl ⟨rfl,rfl⟩|exact .inr rfl) (by simp [go_sem]) ?_; intro args ha; simp [go_sem] at ha; subst ha; refine ⟨_, _, _, (str_read g s b (n + 1) hl hlt), (by simp [go_sem]), (fun ch ⟨q, h1, h2⟩ => hpan _ ⟨q.1, q.2, by rw [h1], h2⟩), ?_⟩; rintro ps r hps ⟨⟨tx, b2⟩, hst, rfl, rfl⟩; simp [go_sem]; ((repeat' (first|(refine ag_x ?_;simp [go_sem])|intro _|apply And.intro|(apply Yh;clear Yh Y)));all_goals first|apply Hold.mk|omega|with_reducible assumption|skip))
   (refine awp_ret ?_; simp [go_sem, retA])
   rw [if_pos q, hst]
   exact ⟨_, _, _, rfl, by simp [dJ_mk], rfl, by simp⟩
  ·have q34 : ¬ c = 34 := fun q => by rw [q] at h3; exact h3 rfl
   rw [if_neg q34] at hpan
   (refine awp_sr fun Y Yh => ?_; simp [go_sem]; ((repeat' (first|(refine ag_x ?_;simp [go_sem])|intro _|apply And.intro|(apply Yh;clear Yh Y)));all_goals first|apply Hold.mk|omega|with_reducible assumption|skip))
   (refine awp_if fun T F hT hF => ?_; simp [go_sem]; refine BR.intro (fun h4 => hT ?_) (fun h4 => hF ?_); all_goals clear hT hF T F; try simp at h4)
   ·have q : c = 91 := (u8i c 91).1 (h4.trans rfl)
    obtain ⟨hd5, hn5⟩ := lim (by rw [q]; rfl)
    rw [if_pos q] at hpan
    (refine awp_sr fun Y Yh => ?_; simp [go_sem]; ((repeat' (first|(refine ag_x ?_;simp [go_sem])|intro _|apply And.intro|(apply Yh;clear Yh Y)));all_goals first|apply Hold.mk|omega|with_reducible assumption|skip))
    (refine callA_x [900002] (by first|exact .inl ⟨rfl,rfl⟩|exact .inr rfl) (by simp [go_sem]) ?_; intro args ha; simp [go_sem] at ha; subst ha; refine ⟨_, _, _, (list_read g s f d b (n + 1) hl hlt hd5 hn5 (by omega) (fun f' h => H f' (by omega))), (by simp [go_sem, dJ_mk]), hpan, ?_⟩; rintro ps r hps ⟨⟨k, t, ns, xs⟩, b2, m, hv, rfl, rfl⟩; simp [go_sem, dJ_mk]; ((repeat' (first|(refine ag_x ?_;simp [go_sem, dJ_mk])|intro _|apply And.intro|(apply Yh;clear Yh Y)));all_goals first|apply Hold.mk|omega|with_reducible assumption|skip))
    (refine awp_ret ?_; simp [go_sem, retA])
    rw [if_neg q34, if_pos q]
    exact ⟨_, _, _, hv, by simp [dJ_mk], rfl, rfl⟩
   ·have q91 : ¬ c = 91 := fun q => by rw [q] at h4; exact h4 rfl
    rw [if_neg q91] at hpan
    (refine awp_sr fun Y Yh => ?_; simp [go_sem]; ((repeat' (first|(refine ag_x ?_;simp [go_sem])|intro _|apply And.intro|(apply Yh;clear Yh Y)));all_goals first|apply Hold.mk|omega|with_reducible assumption|skip))
    (refine awp_if fun T F hT hF => ?_; simp [go_sem]; refine BR.intro (fun h5 => hT ?_) (fun h5 => hF ?_); all_goals clear hT hF T F; try simp at h5)
    ·have q : c = 123 := (u8i c 123).1 (h5.trans rfl)
     obtain ⟨hd5, hn5⟩ := lim (by rw [q]; rfl)
     rw [if_pos q] at hpan
     (refine awp_sr fun Y Yh => ?_; simp [go_sem]; ((repeat' (first|(refine ag_x ?_;simp [go_sem])|intro _|apply And.intro|(apply Yh;clear Yh Y)));all_goals first|apply Hold.mk|omega|with_reducible assumption|skip))
     (refine callA_x [900002] (by first|exact .inl ⟨rfl,rfl⟩|exact .inr rfl) (by simp [go_sem]) ?_; intro args ha; simp [go_sem] at ha; subst ha; refine ⟨_, _, _, (object_read g s f d b (n + 1) hl hlt hd5 hn5 (by omega) (fun f' h => H f' (by omega))), (by simp [go_sem, dJ_mk]), hpan, ?_⟩; rintro ps r hps ⟨⟨k, t, ns, xs⟩, b2, m, hv, rfl, rfl⟩; simp [go_sem, dJ_mk]; ((repeat' (first|(refine ag_x ?_;simp [go_sem, dJ_mk])|intro _|apply And.intro|(apply Yh;clear Yh Y)));all_goals first|apply Hold.mk|omega|with_reducible assumption|skip))
     (refine awp_ret ?_; simp [go_sem, retA])
     rw [if_neg q34, if_neg q91, if_pos q]
     exact ⟨_, _, _, hv, by simp [dJ_mk], rfl, rfl⟩
    ·have q123 : ¬ c = 123 := fun q => by rw [q] at h5; exact h5 rfl
     rw [if_neg q123] at hpan
     (refine awp_sr fun Y Yh => ?_; simp [go_sem]; ((repeat' (first|(refine ag_x ?_;simp [go_sem])|intro _|apply And.intro|(apply Yh;clear Yh Y)));all_goals first|apply Hold.mk|omega|with_reducible assumption|skip))
     (refine awp_if fun T F hT hF => ?_; simp [go_sem]; refine BR.intro (fun h6 => hT ?_) (fun h6 => hF ?_); all_goals clear hT hF T F; try simp at h6)
     ·have q : c = 116 := (u8i c 116).1 (h6.trans rfl)
      obtain ⟨hd5, hn5⟩ := lim (by rw [q]; rfl)
      rw [if_pos q] at hpan
      (refine awp_sr fun Y Yh => ?_; simp [go_sem]; ((repeat' (first|(refine ag_x ?_;simp [go_sem])|intro _|apply And.intro|(apply Yh;clear Yh Y)));all_goals first|apply Hold.mk|omega|with_reducible assumption|skip))
      (refine callA_x [900002] (by first|exact .inl ⟨rfl,rfl⟩|exact .inr rfl) (by simp [go_sem]) ?_; intro args ha; simp [go_sem] at ha; subst ha; refine ⟨_, _, _, (word_spec g s [116, 114, 117, 101] 1 b (n + 1) hl (by simp) (by omega) (by omega)), (by simp [go_sem, dJ_mk]), (fun ch ⟨p, h1, h2⟩ => hpan _ ⟨_, _, by unfold wordR; rw [h1], h2⟩), ?_⟩; rintro ps r hps ⟨hw, rfl, rfl⟩; simp [go_sem, dJ_mk]; ((repeat' (first|(refine ag_x ?_;simp [go_sem, dJ_mk])|intro _|apply And.intro|(apply Yh;clear Yh Y)));all_goals first|apply Hold.mk|omega|with_reducible assumption|skip))
      (refine awp_ret ?_; simp [go_sem, retA])
      rw [if_neg q34, if_neg q91, if_neg q123, if_pos q]
      exact ⟨_, _, _, by unfold wordR; rw [hw], by simp [dJ_mk], by simp, by simp⟩
     ·have q116 : ¬ c = 116 := fun q => by rw [q] at h6; exact h6 rfl
      rw [if_neg q116] at hpan
      (refine awp_sr fun Y Yh => ?_; simp [go_sem]; ((repeat' (first|(refine ag_x ?_;simp [go_sem])|intro _|apply And.intro|(apply Yh;clear Yh Y)));all_goals first|apply Hold.mk|omega|with_reducible assumption|skip))
      (refine awp_if fun T F hT hF => ?_; simp [go_sem]; refine BR.intro (fun h7 => hT ?_) (fun h7 => hF ?_); all_goals clear hT hF T F; try simp at h7)
      ·have q : c = 102 := (u8i c 102).1 (h7.trans rfl)
       obtain ⟨hd5, hn5⟩ := lim (by rw [q]; rfl)
       rw [if_pos q] at hpan
       (refine awp_sr fun Y Yh => ?_; simp [go_sem]; ((repeat' (first|(refine ag_x ?_;simp [go_sem])|intro _|apply And.intro|(apply Yh;clear Yh Y)));all_goals first|apply Hold.mk|omega|with_reducible assumption|skip))
       (refine callA_x [900002] (by first|exact .inl ⟨rfl,rfl⟩|exact .inr rfl) (by simp [go_sem]) ?_; intro args ha; simp [go_sem] at ha; subst ha; refine ⟨_, _, _, (word_spec g s [102, 97, 108, 115, 101] 2 b (n + 1) hl (by simp) (by omega) (by omega)), (by simp [go_sem, dJ_mk]), (fun ch ⟨p, h1, h2⟩ => hpan _ ⟨_, _, by unfold wordR; rw [h1], h2⟩), ?_⟩; rintro ps r hps ⟨hw, rfl, rfl⟩; simp [go_sem, dJ_mk]; ((repeat' (first|(refine ag_x ?_;simp [go_sem, dJ_mk])|intro _|apply And.intro|(apply Yh;clear Yh Y)));all_goals first|apply Hold.mk|omega|with_reducible assumption|skip))
       (refine awp_ret ?_; simp [go_sem, retA])
       rw [if_neg q34, if_neg q91, if_neg q123, if_neg q116, if_pos q]
       exact ⟨_, _, _, by unfold wordR; rw [hw], by simp [dJ_mk], by simp, by simp⟩
      ·have q102 : ¬ c = 102 := fun q => by rw [q] at h7; exact h7 rfl
       rw [if_neg q102] at hpan
       (refine awp_sr fun Y Yh => ?_; simp [go_sem]; ((repeat' (first|(refine ag_x ?_;simp [go_sem])|intro _|apply And.intro|(apply Yh;clear Yh Y)));all_goals first|apply Hold.mk|omega|with_reducible assumption|skip))
       (refine awp_if fun T F hT hF => ?_; simp [go_sem]; refine BR.intro (fun h8 => hT ?_) (fun h8 => hF ?_); all_goals clear hT hF T F; try simp at h8)
       ·have q : c = 110 := (u8i c 110).1 (h8.trans rfl)
        obtain ⟨hd5, hn5⟩ := lim (by rw [q]; rfl)
        rw [if_pos q] at hpan
        (refine awp_sr fun Y Yh => ?_; simp [go_sem]; ((repeat' (first|(refine ag_x ?_;simp [go_sem])|intro _|apply And.intro|(apply Yh;clear Yh Y)));all_goals first|apply Hold.mk|omega|with_reducible assumption|skip))
        (refine callA_x [900002] (by first|exact .inl ⟨rfl,rfl⟩|exact .inr rfl) (by simp [go_sem]) ?_; intro args ha; simp [go_sem] at ha; subst ha; refine ⟨_, _, _, (word_spec g s [110, 117, 108, 108] 0 b (n + 1) hl (by simp) (by omega) (by omega)), (by simp [go_sem, dJ_mk]), (fun ch ⟨p, h1, h2⟩ => hpan _ ⟨_, _, by unfold wordR; rw [h1], h2⟩), ?_⟩; rintro ps r hps ⟨hw, rfl, rfl⟩; simp [go_sem, dJ_mk]; ((repeat' (first|(refine ag_x ?_;simp [go_sem, dJ_mk])|intro _|apply And.intro|(apply Yh;clear Yh Y)));all_goals first|apply Hold.mk|omega|with_reducible assumption|skip))
        (refine awp_ret ?_; simp [go_sem, retA])
        rw [if_neg q34, if_neg q91, if_neg q123, if_neg q116, if_neg q102, if_pos q]
        exact ⟨_, _, _, by unfold wordR; rw [hw], by simp [dJ_mk], by simp, by simp⟩
       ·have q110 : ¬ c = 110 := fun q => by rw [q] at h8; exact h8 rfl
        rw [if_neg q110] at hpan
        (refine awp_sr fun Y Yh => ?_; simp [go_sem, starts_b]; ((repeat' (first|(refine ag_x ?_;simp [go_sem, starts_b])|intro _|apply And.intro|(apply Yh;clear Yh Y)));all_goals first|apply Hold.mk|omega|with_reducible assumption|skip))
        (refine awp_if fun T F hT hF => ?_; simp [go_sem]; refine BR.intro (fun h9 => hT ?_) (fun h9 => hF ?_); all_goals clear hT hF T F; try simp at h9)
        ·rw [if_pos (by simpa using h9)] at hpan
         (refine awp_r fun Y Yh => ?_; simp [go_sem]; ((repeat' (first|(refine ag_x ?_;simp [go_sem])|intro _|apply And.intro|(apply Yh;clear Yh Y)));all_goals first|apply Hold.mk|omega|with_reducible assumption|skip))
         (refine callA_x [900002] (by first|exact .inl ⟨rfl,rfl⟩|exact .inr rfl) (by simp [go_sem]) ?_; intro args ha; simp [go_sem] at ha; subst ha; exact ⟨_, _, _, (fail_spec g s b (n + 1) b (by omega)), (by simp [go_sem]), (fun ch h => hpan _ ⟨_, _, rfl, h⟩), fun _ _ _ h => h.elim⟩)
        ·have hs9 : starts c = true := by simpa using h9
         obtain ⟨hd5, hn5⟩ := lim hs9
         rw [if_neg (by simp [hs9])] at hpan
         refine awp_skip ?_
         refine hK2 _ ?_; clear hK2
         (refine awp_sr fun Y Yh => ?_; simp [go_sem]; ((repeat' (first|(refine ag_x ?_;simp [go_sem])|intro _|apply And.intro|(apply Yh;clear Yh Y)));all_goals first|apply Hold.mk|omega|with_reducible assumption|skip))
         (refine callA_x [900002] (by first|exact .inl ⟨rfl,rfl⟩|exact .inr rfl) (by simp [go_sem]) ?_; intro args ha; simp [go_sem] at ha; subst ha; refine ⟨_, _, _, (number_spec g s b (n + 1) hl (by omega)), (by simp [go_sem, dJ_mk]), (fun ch ⟨q, h1, h2⟩ => hpan _ ⟨q.1, q.2, by rw [h1], h2⟩), ?_⟩; rintro ps r hps ⟨⟨tx, b2⟩, hst, rfl, rfl⟩; simp [go_sem, dJ_mk]; ((repeat' (first|(refine ag_x ?_;simp [go_sem, dJ_mk])|intro _|apply And.intro|(apply Yh;clear Yh Y)));all_goals first|apply Hold.mk|omega|with_reducible assumption|skip))
         (refine awp_ret ?_; simp [go_sem, retA])
         rw [if_neg q34, if_neg q91, if_neg q123, if_neg q116, if_neg q102, if_neg q110, if_neg (by simp [hs9]), hst]
         exact ⟨_, _, _, rfl, by simp [dJ_mk], rfl, by simp⟩
theorem value_all (s : Bs) (hl : s.length ≤ 1000000) : ∀ f, ValOk s f := by
 intro f
 induction f using Nat.strongRecOn with
 | _ f ih =>
  cases f with
  | zero => intro g d a n ha hf; omega
  | succ f => exact value_step s f hl ih
end Go.Proofs.YtkgmecjaejaehaaGreatDoor
set_option linter.unusedSectionVars false
namespace Go.Eng
/-! code behind a 'defer' -/
def apD (a : Act) (ds : List Deferred) : Act := { a with defers := a.defers ++ ds }
section
variable {P : Program} {ds : List Deferred} {ops : Array Oper} {Q : Exit → Act → World → Prop}
theorem apD_put (a : Act) (d : Option Tmp) (v : Value) : (apD a ds).put d v = apD (a.put d v) ds := by cases d <;> rfl
theorem letsOut_un (h : LetsOut (fun e b w => Q e (apD b ds) w)) : LetsOut Q := let ⟨a, w, q⟩ := h; ⟨_, w, q⟩
theorem operWp_un {o : Oper} {a : Act} {w : World} {N : Act → World → Prop} (h : o.wp P a w (fun b w => N (apD b ds) w) (fun e b w => Q e (apD b ds) w)) : o.wp P (apD a ds) w N Q := by
 unfold Oper.wp at h ⊢
 have e : (apD a ds).eval = a.eval := rfl
 rw [e]
 generalize (execOp a.eval o).run P w = r at h ⊢
 cases r with
 | ok x w' =>
  cases x with
  | value v => simpa only [Oper.upon, apD_put] using h
  | skip => simpa only [Oper.upon, apD_put] using h
  | defer d =>
   simp only [Oper.upon] at h ⊢
   have e2 : ({ apD a ds with defers := d :: (apD a ds).defers } : Act).put o.dst undef = apD (({ a with defers := d :: a.defers } : Act).put o.dst undef) ds := by cases o.dst <;> rfl
   rw [e2]; exact h
  | enter f args =>
   simp only [Oper.upon] at h ⊢
   refine h.mono fun e w'' hq => ?_
   cases e with
   | returned v => simpa only [apD_put] using hq
   | panicked ch => exact hq
   | outgrown => exact letsOut_un hq
  | row r args =>
   simp only [Oper.upon] at h ⊢
   exact h.mono fun v w'' hq => by simpa only [apD_put] using hq
  | _ => exact h.elim
 | halt x w' =>
  cases x <;> first | exact h.elim | exact h
theorem wpList_un : ∀ (l : List Oper) (a : Act) (w : World), wpList P ops (fun e b w => Q e (apD b ds) w) l a w → wpList P ops Q l (apD a ds) w
 | [], a, w, h => h
 | o :: rest, a, w, h => by
  unfold wpList at h ⊢
  have ew : Region.wanted o (yielded ops (apD a ds).tmps) = Region.wanted o (yielded ops a.tmps) := rfl
  rw [ew]
  split
  ·rename_i hw
   rw [if_pos hw] at h
   rcases h with h | ⟨h1, h2⟩
   ·exact .inl (operWp_un (Oper.wp_mono (fun b w hb => wpList_un rest b w hb) h))
   ·exact .inr ⟨h1, letsOut_un h2⟩
  ·rename_i hw
   rw [if_neg hw] at h
   rw [apD_put]
   exact wpList_un rest _ w h
end
variable {P : Program} [HasGlob P]
def AWpD (P : Program) [HasGlob P] (n : Nat) (ds : List Deferred) (c : Code) (S : St) (Q : Exit → St → Prop) : Prop :=
 ∀ ⦃w0 : World⦄ ⦃B : Nat → Nat → Prop⦄ ⦃C0 : Ctx⦄ ⦃C : Ctx⦄ ⦃a : Act⦄ ⦃w : World⦄, Env P w0 B C0 → Inv w0 B C0 n S C a w → c.wp P (fun e b w => ∃ b0 S C, b = apD b0 ds ∧ Q e S ∧ Inv w0 B C0 n S C b0 w) (apD a ds) w
section
variable {n : Nat} {ds : List Deferred} {S : St} {Q : Exit → St → Prop}
theorem awpd_seq {x y : Code} (h : AWpD P n ds x S (thenQ (fun S' => AWpD P n ds y S' Q) Q)) : AWpD P n ds (.seq x y) S Q := fun _ _ _ _ _ _ E I => wp_seq (wp_mono (h E I) fun e b w ⟨b0, S', C', hb, q, i⟩ => by
 subst hb
 cases e <;> first | exact q E i | exact ⟨_, S', C', rfl, q, i⟩)
theorem awpd_skip (h : Q .normal S) : AWpD P n ds .skip S Q := fun _ _ _ C a _ E I => wp_skip ⟨a, S, C, rfl, h, I⟩
theorem awpd_ret (h : Q .ret S) : AWpD P n ds .ret S Q := fun _ _ _ C a _ E I => wp_ret ⟨a, S, C, rfl, h, I⟩
theorem awpd_cond {c : Operand} {x y : Code} (h : evK true S c fun d => ∃ b, d = .v (.bool b) ∧ (b = true → AWpD P n ds x S Q) ∧ (b = false → AWpD P n ds y S Q)) : AWpD P n ds (.cond c x y) S Q := fun _ _ _ _ a _ E I => by
 obtain ⟨d, ⟨b, rfl, h1, h0⟩, hr⟩ := evK_ok I h
 have hv := (hr rfl).v_inv
 refine wp_cond_split (a := apD a ds) (t := b) hv (fun hb => h1 hb E I) (fun hb => h0 hb E I)
theorem awpd_region {id : Nat} {ops : List Oper} (h : @aops P _ (noPan P) n ops ops S (Q .normal)) : AWpD P n ds (.region id ops.toArray false) S Q := fun _ _ _ _ a w E I =>
 wp_region_lit (wpList_un ops a w (aops_ok E I h _ (fun b w ⟨S, C, q, i⟩ => ⟨b, S, C, rfl, q, i⟩) panQ_no))
theorem awpd_renbox {c : Code} (t s' : Nat) {s g off : Nat} {cs : List D} (hl : look S.slots t = some (.ptr s g off)) (hx : look S.heap s = some (g, .box cs)) (h9 : 900000 ≤ s → 900000 ≤ s')
  (h : ∀ g', AWpD P n ds c (((S.drop s).hput s' g' (.box cs)).put t (.ptr s' g' off)) Q) : AWpD P n ds c S Q := by
 intro w0 B C0 C a w E I
 obtain ⟨g', C', u, I', hu, hv, ext⟩ := I.rename hx rfl s' h9
 refine h g' E (Inv.reslot I' (d := .ptr s g off) hl fun v hv' => ?_)
 cases hv' with
 | ptr _ _ _ b h1 =>
  have := ext.val _ _ _ hu
  rw [h1] at this
  simp only [Option.some.injEq] at this
  subst this
  exact .ptr _ _ _ _ hv
def minusH {α β : Type} (h : List (Nat × α)) (es : List (Nat × β)) : List (Nat × α) := h.filter fun p => (look es p.1).isNone
theorem minusH_look {α β : Type} {es : List (Nat × β)} : ∀ {h : List (Nat × α)} {s : Nat} {x : α}, look (minusH h es) s = some x → look h s = some x ∧ ∀ y, look es s ≠ some y
 | [], s, x, hx => by simp [minusH, look] at hx
 | (k, d) :: r, s, x, hx => by
  unfold minusH at hx
  rw [List.filter_cons] at hx
  split at hx
  ·rename_i hk
   simp only [look] at hx ⊢
   split at hx
   ·rename_i e
    subst e
    rw [if_pos rfl]
    refine ⟨hx, fun y hy => ?_⟩
    simp [hy] at hk
   ·rename_i e
    rw [if_neg e]
    exact minusH_look hx
  ·rename_i hk
   have ih := minusH_look (h := r) hx
   refine ⟨?_, ih.2⟩
   simp only [look]
   rw [if_neg]
   ·exact ih.1
   ·rintro rfl
    cases hl : look es k with
    | none => simp [hl] at hk
    | some y => exact ih.2 y hl
theorem awpd_regx {id : Nat} {pre suf : List Oper} {dst : Option Nat} {fx : Operand} {args : Array Operand} {tys : Array TypeId} {ty : TypeId} {pos : String} {after : Array Edge} (hd : dstOk n dst)
  (h : @aops P _ (noPan P) n (pre ++ ⟨dst, .call { callee := .value fx, args := args, argTypes := tys }, ty, pos, after, none⟩ :: suf) pre S fun S1 => evK true S1 fx fun df => evsK true S1 args.toList fun dx =>
   ∃ f caps es ss R X, FunD df f caps ∧ dx.flatMap (lentHs S1 ss) = [] ∧ XCall P f (lentL P S1 ss tys.toList dx ++ caps) es ss R X ∧ covL S1.heap es ∧ (∀ ch, X ch → Q (.panic ch) ⟨S1.slots, minusH S1.heap es⟩) ∧
    ∀ ps r, ps.length = ss.length → R ps r → @aops P _ (noPan P) n (pre ++ ⟨dst, .call { callee := .value fx, args := args, argTypes := tys }, ty, pos, after, none⟩ :: suf) suf ((putPs S1 ss ps).set dst r) (Q .normal)) :
  AWpD P n ds (.region id (pre ++ ⟨dst, .call { callee := .value fx, args := args, argTypes := tys }, ty, pos, after, none⟩ :: suf).toArray false) S Q := by
 intro w0 B C0 C a w E I
 refine wp_region_lit (wpList_un _ a w ?_)
 generalize hops : pre ++ (⟨dst, .call { callee := .value fx, args := args, argTypes := tys }, ty, pos, after, none⟩ : Oper) :: suf = ops at h ⊢
 have key : ∀ (l : List Oper) (S : St) (C : Ctx) (a : Act) (w : World) (K : St → Prop) (suf2 : List Oper) (Q2 : Exit → Act → World → Prop), Inv w0 B C0 n S C a w → @aops P _ (noPan P) n ops l S K → (∀ a w, NextOk w0 B C0 n K a w → wpList P ops.toArray Q2 suf2 a w) → wpList P ops.toArray Q2 (l ++ suf2) a w := by
  intro l
  induction l with
  | nil => intro S C a w K suf2 Q2 I h hQ; exact hQ _ _ ⟨S, C, h, I⟩
  | cons o rest ih =>
   intro S C a w K suf2 Q2 I h hQ
   unfold aops at h
   refine wpList_step fun K' hK' => ?_
   cases hg : o.guard with
   | none =>
    rw [hg] at h
    have hw : Region.wanted o (yielded ops.toArray a.tmps) = true := by simp [Region.wanted, hg]
    rw [if_pos hw]
    exact Oper.wp_mono' (st_ok E I h Q2 panQ_no) (fun a w ⟨S', C', h', I'⟩ => hK' _ _ (ih S' C' a w K suf2 Q2 I' h' hQ))
   | some p =>
    rw [hg] at h
    exact h E I K' Q2 (fun a w ⟨S', C', h', I'⟩ => hK' _ _ (ih S' C' a w K suf2 Q2 I' h' hQ)) panQ_no
 rw [← hops]
 rw [show (pre ++ (⟨dst, .call { callee := .value fx, args := args, argTypes := tys }, ty, pos, after, none⟩ : Oper) :: suf).toArray = ops.toArray by rw [hops]]
 refine key pre S C a w _ _ _ I h ?_
 clear I h
 rintro a w ⟨S1, C1, h, I⟩
 refine wpList_step fun K' hK' => ?_
 rw [if_pos (by simp [Region.wanted])]
 obtain ⟨df, dx, uf, us, ⟨f, caps, es, ss, R, X, hf, hh, hc, hes, hX, hR⟩, hfu, hrep, hrun⟩ := call_run (P := P) (o := ⟨dst, .call { callee := .value fx, args := args, argTypes := tys }, ty, pos, after, none⟩) I rfl h
 obtain ⟨cs, rfl, hcs⟩ := hf.rep hfu
 unfold Oper.wp
 rw [hrun f cs rfl hc.1]
 have hes' : ∀ s g x, look es s = some (g, x) → look S1.heap s = some (g, x) ∧ 900000 ≤ s ∧ notFroz x = true ∧ s ∈ ss := fun s g x hx => by
  have hm := hc.2.1 _ (look_mem hx)
  exact ⟨covL_ok hes s _ hx, hm⟩
 refine (hc.2.2 C1 w (us ++ cs.toList) I.ctxOk (E.now I) ((lentL_ok I hh hrep).append hcs) (fun s g b hb => I.heap s g b (hes' s g b hb).1)).mono ?_
 rintro e w' (⟨u, r, ps, C', rfl, hRr, hru, hok, ext, hp, hm, he, hl, hd', hfrm⟩ | ⟨ch, C', rfl, hx, hok, ext, hl, hd', hfrm⟩)
 ·have I' := I.afterL hes' ext hok hp hm he hl hd' hfrm
  refine hK' _ _ ?_
  exact aops_ok E (I'.set (dstOk_spec hd) hru) (hR ps r hp.1 hRr) _ (fun b w ⟨S, C, q, i⟩ => ⟨b, S, C, rfl, q, i⟩) panQ_no
 ·exact ⟨a, _, C', rfl, hX ch hx, I.afterX (S' := ⟨S1.slots, minusH S1.heap es⟩) (fun s g x hx => ⟨(hes' s g x hx).1, (hes' s g x hx).2.2.1⟩) (fun _ _ h => h) (fun s x h => minusH_look h) ext hok hl hd' hfrm⟩
theorem awpd_sr {id : Nat} {ops : List Oper} {y : Code} (h : ∀ K : St → Prop, (∀ S', Hold (AWpD P n ds y S' Q) → K S') → @aops P _ (noPan P) n ops ops S K) : AWpD P n ds (.seq (.region id ops.toArray false) y) S Q :=
 awpd_seq (awpd_region (h _ fun _ h => h.out))
theorem awpd_r {id : Nat} {ops : List Oper} (h : ∀ K : St → Prop, (∀ S', Hold (Q .normal S') → K S') → @aops P _ (noPan P) n ops ops S K) : AWpD P n ds (.region id ops.toArray false) S Q := awpd_region (h _ fun _ h => h.out)
theorem awpd_go {x y : Code} {K : St → Prop} {post : Exit → Act → World → Prop} {w0 : World} {B : Nat → Nat → Prop} {C0 C : Ctx} {a : Act} {w : World} (E : Env P w0 B C0) (I : Inv w0 B C0 n S C a w) (h : AWpD P n ds x S (fun e S' => e = .normal ∧ K S'))
  (hk : ∀ S' C' b w', K S' → Inv w0 B C0 n S' C' b w' → y.wp P post (apD b ds) w') : (Code.seq x y).wp P post (apD a ds) w :=
 wp_seq (wp_mono (h E I) fun e b w ⟨b0, S', C', hb, ⟨he, hK⟩, i⟩ => by subst hb; subst he; exact hk S' C' b0 w hK i)
theorem Inv.renbox {w0 : World} {B : Nat → Nat → Prop} {C0 C : Ctx} {a : Act} {w : World} (I : Inv w0 B C0 n S C a w) (t s' : Nat) {s g off : Nat} {cs : List D} (hl : look S.slots t = some (.ptr s g off)) (hx : look S.heap s = some (g, .box cs)) (h9 : 900000 ≤ s → 900000 ≤ s') :
  ∃ g' C', Inv w0 B C0 n (((S.drop s).hput s' g' (.box cs)).put t (.ptr s' g' off)) C' a w := by
 obtain ⟨g', C', u, I', hu, hv, ext⟩ := I.rename hx rfl s' h9
 refine ⟨g', C', Inv.reslot I' (d := .ptr s g off) hl fun v hv' => ?_⟩
 cases hv' with
 | ptr _ _ _ b h1 =>
  have := ext.val _ _ _ hu
  rw [h1] at this
  simp only [Option.some.injEq] at this
  subst this
  exact .ptr _ _ _ _ hv
theorem awpd_use {c : Code} {post : Exit → Act → World → Prop} {w0 : World} {B : Nat → Nat → Prop} {C0 C : Ctx} {a : Act} {w : World} (E : Env P w0 B C0) (I : Inv w0 B C0 n S C a w) (h : AWpD P n ds c S Q)
  (hp : ∀ e b0 S C w, Q e S → Inv w0 B C0 n S C b0 w → post e (apD b0 ds) w) : c.wp P post (apD a ds) w :=
 wp_mono (h E I) fun e b w ⟨b0, S, C, hb, q, i⟩ => by subst hb; exact hp e b0 S C w q i
def CallX (P : Program) [HasGlob P] (S1 : St) (df : D) (dx : List D) (tys : List TypeId) (KX : List PanicEntry → St → Prop) (KR : St → D → Prop) : Prop :=
 ∃ f caps es ss R X, FunD df f caps ∧ dx.flatMap (lentHs S1 ss) = [] ∧ XCall P f (lentL P S1 ss tys dx ++ caps) es ss R X ∧ covL S1.heap es ∧ (∀ ch, X ch → KX ch ⟨S1.slots, minusH S1.heap es⟩) ∧ ∀ ps r, ps.length = ss.length → R ps r → KR (putPs S1 ss ps) r
theorem awpd_regy {id : Nat} {pre suf : List Oper} {dst : Option Nat} {fx : Operand} {args : Array Operand} {tys : Array TypeId} {ty : TypeId} {pos : String} {after : Array Edge} (hd : dstOk n dst)
  (h : ∀ K : St → Prop, (∀ S1, (∀ KC : D → List D → Prop, (∀ df dx, CallX P S1 df dx tys.toList (fun ch S2 => Q (.panic ch) S2) (fun S2 r => @aops P _ (noPan P) n (pre ++ ⟨dst, .call { callee := .value fx, args := args, argTypes := tys }, ty, pos, after, none⟩ :: suf) suf (S2.set dst r) (Q .normal)) → KC df dx) →
   evK true S1 fx fun df => evsK true S1 args.toList fun dx => KC df dx) → K S1) → @aops P _ (noPan P) n (pre ++ ⟨dst, .call { callee := .value fx, args := args, argTypes := tys }, ty, pos, after, none⟩ :: suf) pre S K) :
  AWpD P n ds (.region id (pre ++ ⟨dst, .call { callee := .value fx, args := args, argTypes := tys }, ty, pos, after, none⟩ :: suf).toArray false) S Q :=
 awpd_regx hd (h _ fun S1 hS1 => hS1 _ fun df dx ⟨f, caps, es, ss, R, X, h1, h2, h3, h4, h5, h6⟩ => ⟨f, caps, es, ss, R, X, h1, h2, h3, h4, h5, fun ps r q1 q2 => h6 ps r q1 q2⟩)
theorem callX_l {S1 : St} {df : D} {dx : List D} {tys : List TypeId} {KX : List PanicEntry → St → Prop} {KR : St → D → Prop} {f : FuncId} {caps : List D} (ss : List Nat) (hf : FunD df f caps) (hh : dx.flatMap (lentHs S1 ss) = [])
  (h : ∀ args, lentL P S1 ss tys dx ++ caps = args → ∃ es R X, XCall P f args es ss R X ∧ covL S1.heap es ∧ (∀ ch, X ch → KX ch ⟨S1.slots, minusH S1.heap es⟩) ∧ ∀ ps r, ps.length = ss.length → R ps r → KR (putPs S1 ss ps) r) : CallX P S1 df dx tys KX KR := by
 obtain ⟨es, R, X, h1, h2, h3, h4⟩ := h _ rfl
 exact ⟨f, caps, es, ss, R, X, hf, hh, h1, h2, h3, h4⟩
theorem aops_k {ops l : List Oper} {K : St → Prop} (h : ∀ KK : St → Prop, (∀ S', Hold (K S') → KK S') → @aops P _ (noPan P) n ops l S KK) : @aops P _ (noPan P) n ops l S K := h _ fun _ h => h.out
end
end Go.Eng
namespace Go.Proofs.YtkgmecjaejaehaaGreatDoor
open Go.Eng Go.Js
set_option maxRecDepth 20000
attribute [local irreducible] AG CallA CallT AWp ACall XCall AgC AWpD
def parO (s : Bs) : JV × Nat × Nat :=
 match parV s (numR s) with
 | .ok v _ _ => (v, 0, 0)
 | .bad p e => (.mk 0 [] [] [], p, e)
theorem parse_long (s : Bs) (h : 100000 < s.length) (hl : s.length ≤ 9223372036854775807) : PCall Tryz.prog 14 [dS s] fun r => r = .tup [dJ (parO s).1, dI (parO s).2.1, dI (parO s).2.2] := by
 refine pcall_of Tryz.func14 rfl rfl Tryz.ntmps14 (rs := [.cell 2 26, .cell 3 3, .cell 4 27]) (tys := [26, 3, 27]) rfl rfl (by simp) ?_
 have e : parO s = (.mk 0 [] [] [], 0, 2) := by unfold parO parV; rw [if_pos h]
 rw [e]
 have h1 : (100000 : Int) < s.length := by omega
 (refine awp_sr fun Y Yh => ?_; simp [go_sem]; ((repeat' (first|(refine ag_x ?_;simp [go_sem])|intro _|apply And.intro|(apply Yh;clear Yh Y)));all_goals first|apply Hold.mk|omega|with_reducible assumption|skip))
 refine awp_seq_k fun K1 hK1 => ?_
 (refine awp_sr fun Y Yh => ?_; simp [go_sem]; ((repeat' (first|(refine ag_x ?_;simp [go_sem])|intro _|apply And.intro|(apply Yh;clear Yh Y)));all_goals first|apply Hold.mk|omega|with_reducible assumption|skip))
 (refine awp_if fun T F hT hF => ?_; simp [go_sem, h1]; refine hT ?_; clear hT hF T F)
 (refine awp_sr fun Y Yh => ?_; simp [go_sem]; ((repeat' (first|(refine ag_x ?_;simp [go_sem])|intro _|apply And.intro|(apply Yh;clear Yh Y)));all_goals first|apply Hold.mk|omega|with_reducible assumption|skip))
 (refine awp_ret ?_; simp [go_sem])
 simp [dJ_mk]
abbrev esP (g2 g3 g4 : Nat) (c : List D) (x y : D) : List (Nat × (Nat × Blk)) := [(900010, (g2, .box c)), (900011, (g3, .box [x])), (900012, (g4, .box [y]))]
def endP (s : Bs) (g2 g3 g4 : Nat) : Exit → St → Prop
 | .ret, S => ∃ v m, parV s (numR s) = .ok v 0 m ∧ Cov S ⟨[(2, .ptr 900010 g2 0), (3, .ptr 900011 g3 0), (4, .ptr 900012 g4 0)], esP g2 g3 g4 (cJ v) (dI 0) (dI 0)⟩
 | .panic ch, S => XR (parV s (numR s)) ch ∧ ∃ c, c.length = 4 ∧ Cov S ⟨[(2, .ptr 900010 g2 0), (3, .ptr 900011 g3 0), (4, .ptr 900012 g4 0)], esP g2 g3 g4 c (dI 0) (dI 0)⟩
 | _, _ => False
set_option maxHeartbeats 16000000 in
theorem parse_short (s : Bs) (h : s.length ≤ 100000) : PCall Tryz.prog 14 [dS s] fun r => r = .tup [dJ (parO s).1, dI (parO s).2.1, dI (parO s).2.2] := by
 refine ⟨⟨_, Tryz.func14, rfl, rfl⟩, fun C w us hc hg hr => ?_⟩
 obtain rfl := repL_v (us := [.string ⟨s.toArray⟩]) hr
 refine calls_of_wp_defers Tryz.func14 rfl ?_
 have I : Inv w (fun _ _ => False) C 32 ⟨[(0, dS s)], []⟩ C { tmps := #[.string ⟨s.toArray⟩] ++ Array.replicate (Tryz.f14.ntmps - #[Value.string ⟨s.toArray⟩].size) undef, defers := [] } w := by
  refine ⟨by simp [Tryz.ntmps14], rfl, fun k d hk => ?_, fun s g b hb => by simp [Eng.look] at hb, fun s g b x u hx => by simp [Eng.look] at hx, hc.apart, hc.bound, hc.fresh, Frm.refl _ _, fun _ _ _ h => h, fun _ _ h => h, fun _ _ _ _ h _ => h,
   fun s g x y hx => by simp [Eng.look] at hx, fun _ _ _ _ h => h, fun s g u b h1 h2 h3 => hc.bound s g u b h1 h2 h3⟩
  simp only [Eng.look] at hk
  split at hk
  ·rename_i e
   subst e
   simp only [Option.some.injEq] at hk
   subst hk
   exact ⟨_, by simp, .v _⟩
  ·cases hk
 have E : Env Tryz.prog w (fun _ _ => False) C := ⟨hg, fun _ _ h => h.elim⟩
 have eqa : ∀ (b : Act), b.defers = [] → apD b [] = b := fun b hb => by cases b; simp_all [apD]
 generalize ha0 : ({ tmps := #[.string ⟨s.toArray⟩] ++ Array.replicate (Tryz.f14.ntmps - #[Value.string ⟨s.toArray⟩].size) undef, defers := [] } : Act) = a0 at I ⊢
 clear ha0
 rw [← eqa a0 I.defers]
 
 refine awpd_go (K := fun S' => ∃ g2 g3 g4, Cov S' ⟨[(0, dS s), (2, .ptr 2 g2 0), (3, .ptr 3 g3 0), (4, .ptr 4 g4 0)], [(2, (g2, .box [dI 0, dS [], .v (.slice none 0 0), .v (.slice none 0 0)])), (3, (g3, .box [dI 0])), (4, (g4, .box [dI 0]))]⟩) E I ?_ ?_
 ·refine awpd_r fun Y Yh => ?_
  simp [go_sem]
  intro g2 g3 g4
  apply Yh
  refine Hold.mk ⟨rfl, g2, g3, g4, ?_⟩
  (refine cov_of ?_ ?_ <;> simp [go_sem])
 rintro S1 C1 a1 w1 ⟨g2, g3, g4, hS⟩ I1
 replace I1 := I1.cov hS
 clear hS I
 
 refine awpd_go (K := fun S' => Cov S' ⟨[(0, dS s), (2, .ptr 2 g2 0), (3, .ptr 3 g3 0), (4, .ptr 4 g4 0)], [(2, (g2, .box [dI 0, dS [], .v (.slice none 0 0), .v (.slice none 0 0)])), (3, (g3, .box [dI 0])), (4, (g4, .box [dI 0]))]⟩) E I1 ?_ ?_
 ·have h1 : ¬ (100000 : Int) < s.length := by omega
  refine awpd_sr fun Y Yh => ?_
  simp [go_sem]
  apply Yh
  refine Hold.mk ?_
  refine awpd_cond ?_
  simp [go_sem, h1]
  refine awpd_skip ⟨rfl, ?_⟩
  (refine cov_of ?_ ?_ <;> simp [go_sem])
 rintro S2 C2 a2 w2 hS I2
 replace I2 := I2.cov hS
 clear hS I1
 obtain ⟨h2, C3, I3⟩ := I2.renbox 2 900010 rfl rfl (by decide)
 obtain ⟨h3, C4, I4⟩ := I3.renbox 3 900011 rfl rfl (by decide)
 obtain ⟨h4, C5, I5⟩ := I4.renbox 4 900012 rfl rfl (by decide)
 have I6 := I5.cov (S' := ⟨[(0, dS s), (2, .ptr 900010 h2 0), (3, .ptr 900011 h3 0), (4, .ptr 900012 h4 0)], esP h2 h3 h4 [dI 0, dS [], .v (.slice none 0 0), .v (.slice none 0 0)] (dI 0) (dI 0)⟩) (by (refine cov_of ?_ ?_ <;> simp [go_sem, St.drop]))
 clear I2 I3 I4 I5
 
 obtain ⟨u2, t2, r2⟩ := I6.slots 2 _ rfl
 obtain ⟨u3, t3, r3⟩ := I6.slots 3 _ rfl
 obtain ⟨u4, t4, r4⟩ := I6.slots 4 _ rfl
 cases r2 with
 | ptr _ _ _ b2 v2 =>
 cases r3 with
 | ptr _ _ _ b3 v3 =>
 cases r4 with
 | ptr _ _ _ b4 v4 =>
 rw [eqa a2 I6.defers]
 have hsz := I6.size
 refine wp_seq ?_
 refine wp_region_lit (l := [_, _]) ?_
 refine wpList_step fun K' hK' => ?_
 rw [if_pos (by simp [Region.wanted])]
 refine wp_val (u := .func (.func 37) #[] #[.pointer (some ⟨b2, 0, none⟩), .pointer (some ⟨b3, 0, none⟩), .pointer (some ⟨b4, 0, none⟩)]) (w' := w2) (by simp [execOp, Act.eval, t2, t3, t4]; rfl) ?_
 refine hK' _ _ ?_
 clear hK' K'
 refine wpList_step fun K' hK' => ?_
 rw [if_pos (by simp [Region.wanted])]
 unfold Oper.wp
 have hrun : (execOp (a2.put (some 10) (.func (.func 37) #[] #[.pointer (some ⟨b2, 0, none⟩), .pointer (some ⟨b3, 0, none⟩), .pointer (some ⟨b4, 0, none⟩)])).eval ⟨none, .defer { callee := .value (.tmp 10), args := #[], argTypes := #[] }, 0, "parse.go:254", #[{ on := 0, ground := Ground.data }], none⟩).run Tryz.prog w2 =
   .ok (.defer { target := .fn (.func 37) #[.pointer (some ⟨b2, 0, none⟩), .pointer (some ⟨b3, 0, none⟩), .pointer (some ⟨b4, 0, none⟩)], args := #[] }) w2 := by
  simp [execOp, resolve, Act.eval, Act.put, hsz, Deferred.ofValue]
 rw [hrun]
 refine hK' _ _ ?_
 clear hK' K' hrun
 refine wpList_nil ?_
 have I7 := (I6.put (t := 10) (d := .v (.func (.func 37) #[] #[.pointer (some ⟨b2, 0, none⟩), .pointer (some ⟨b3, 0, none⟩), .pointer (some ⟨b4, 0, none⟩)])) (by decide) (.v _)).cov (S' := ⟨[(0, dS s), (2, .ptr 900010 h2 0), (3, .ptr 900011 h3 0), (4, .ptr 900012 h4 0)], esP h2 h3 h4 [dI 0, dS [], .v (.slice none 0 0), .v (.slice none 0 0)] (dI 0) (dI 0)⟩) (by (refine cov_of ?_ ?_ <;> simp [go_sem]))
 clear I6
 have ed : a2.defers = [] := I7.defers
 generalize hdd : ({ target := .fn (.func 37) #[.pointer (some ⟨b2, 0, none⟩), .pointer (some ⟨b3, 0, none⟩), .pointer (some ⟨b4, 0, none⟩)], args := #[] } : Deferred) = dd
 generalize hb3 : a2.put (some 10) (.func (.func 37) #[] #[.pointer (some ⟨b2, 0, none⟩), .pointer (some ⟨b3, 0, none⟩), .pointer (some ⟨b4, 0, none⟩)]) = a3 at I7 ⊢
 have e3 : (({ a3 with defers := dd :: a3.defers } : Act).put none undef) = apD a3 [dd] := by
  have := I7.defers
  cases a3; simp_all [apD, Act.put]
 show Code.wp _ _ _ (({ a3 with defers := dd :: a3.defers } : Act).put none undef) w2
 rw [e3]
 clear e3
 have hok1 := I7.ctxOk
 have hg1 := E.now I7
 have hent1 : ∀ s g b, Eng.look (esP h2 h3 h4 [dI 0, dS [], .v (.slice none 0 0), .v (.slice none 0 0)] (dI 0) (dI 0)) s = some (g, b) → HRep C5 w2 s g b := fun s g b h => I7.heap s g b h
 have hes9 : ∀ p ∈ esP h2 h3 h4 [dI 0, dS [], .v (.slice none 0 0), .v (.slice none 0 0)] (dI 0) (dI 0), 900000 ≤ p.1 := by simp
 have hnf : ∀ p ∈ esP h2 h3 h4 [dI 0, dS [], .v (.slice none 0 0), .v (.slice none 0 0)] (dI 0) (dI 0), notFroz p.2.2 = true := by simp [notFroz]
 have E1 := Env.start (P := Tryz.prog) hg1 hent1 hnf
 have I8 : Inv w2 (LentB (esP h2 h3 h4 [dI 0, dS [], .v (.slice none 0 0), .v (.slice none 0 0)] (dI 0) (dI 0))) C5 32 ⟨[(0, dS s), (2, .ptr 900010 h2 0), (3, .ptr 900011 h3 0), (4, .ptr 900012 h4 0)], esP h2 h3 h4 [dI 0, dS [], .v (.slice none 0 0), .v (.slice none 0 0)] (dI 0) (dI 0)⟩ C5 a3 w2 :=
  ⟨I7.size, I7.defers, I7.slots, fun s g b hb => hent1 s g b hb, fun s g b x u hx _ hv hbk => .inr ⟨⟨s, g, u, ⟨x, hx⟩, hv, hbk⟩, hes9 _ (look_mem hx)⟩, hok1.apart, hok1.bound, hok1.fresh, Frm.refl _ _, fun _ _ _ h => h, fun _ _ h => h, fun _ _ _ _ h _ => h,
   fun s g x y hx _ => ⟨x, hx⟩, fun _ _ _ _ h => h, fun s g u b h1 h2 h3 => hok1.bound s g u b h1 h2 h3⟩
 refine awpd_use E1 I8 (Q := endP s h2 h3 h4) ?_ ?_
 ·clear I8 E1 hes9 hnf hent1 hg1 hok1 I7 hb3 hdd ed hsz t2 t3 t4 v2 v3 v4 E hr hg hc
  refine awpd_sr fun Y Yh => ?_
  simp [go_sem]
  intro gr
  apply Yh; clear Yh Y
  refine Hold.mk ?_
  refine awpd_renbox 5 900002 rfl rfl (by decide) fun gr => ?_
  simp only [go_sem]
  have HV := value_all s (by omega) (2 * s.length + 1) gr 1 0 0 (by omega) (by omega) (by omega) (by omega)
  have hpe : ∀ p e, valV s (numR s) (2 * s.length + 1) 1 0 0 = .bad p e → parV s (numR s) = .bad p e := fun p e hv => by unfold parV; rw [if_neg (by omega), hv]
  refine awpd_seq ?_
  refine awpd_regy (pre := [_]) (suf := [_]) (by simp [dstOk]) fun Y Yh => ?_
  simp [go_sem]
  apply Yh; clear Yh Y
  intro Y Yh
  simp [go_sem]
  apply Yh; clear Yh Y
  refine callX_l [900002] (.inl ⟨rfl, rfl⟩) (by simp [go_sem]) ?_
  intro args ha
  simp [go_sem] at ha
  subst ha
  refine ⟨_, _, _, HV, (by simp [go_sem]), ?_, ?_⟩
  ·rintro ch ⟨p, e, hv, rfl⟩
   show endP s h2 h3 h4 (.panic _) _
   refine ⟨⟨p, e, hpe p e hv, rfl⟩, [dI 0, dS [], .v (.slice none 0 0), .v (.slice none 0 0)], rfl, ?_⟩
   (refine cov_of ?_ ?_ <;> simp [go_sem, minusH])
  rintro ps r hps ⟨⟨k, t, ns, xs⟩, b, m, hv, rfl, rfl⟩
  have hvl := valV_le (fun _ _ => numR_le) hv
  have hp1 := blV_ge s b
  have hp2 := blV_le (s := s) (a := b) (by omega)
  refine aops_k fun Y Yh => ?_
  simp [go_sem, dJ_mk]
  apply Yh; clear Yh Y
  refine Hold.mk ?_
  show AWpD _ _ _ _ _ _
  refine awpd_sr fun Y Yh => ?_
  simp [go_sem]
  refine callA_l [900002] (.inl ⟨rfl, rfl⟩) (by simp [go_sem]) ?_
  intro args ha
  simp [go_sem] at ha
  subst ha
  refine ⟨_, _, blanks_spec gr s b m (by omega) (by omega), (by simp [go_sem]), ?_⟩
  rintro ps r hps rfl
  simp [go_sem]
  apply Yh; clear Yh Y
  refine Hold.mk ?_
  refine awpd_seq ?_
  refine awpd_sr fun Y Yh => ?_
  simp [go_sem]
  apply Yh; clear Yh Y
  refine Hold.mk ?_
  refine awpd_cond ?_
  simp [go_sem]
  refine ⟨fun hb => ?_, fun hb => ?_⟩
  ·have hpb : parV s (numR s) = .bad (failP s (blV s b)) (failE s (blV s b)) := by unfold parV; rw [if_neg (by omega), hv]; simp only; rw [if_pos hb]
   refine awpd_regy (pre := [_, _, _, _, _]) (suf := []) (by simp [dstOk]) fun Y Yh => ?_
   simp [go_sem]
   apply Yh; clear Yh Y
   intro Y Yh
   simp [go_sem]
   apply Yh; clear Yh Y
   refine callX_l [900002] (.inl ⟨rfl, rfl⟩) (by simp [go_sem]) ?_
   intro args ha
   simp [go_sem] at ha
   subst ha
   refine ⟨_, _, _, fail_spec gr s (blV s b) m (blV s b) (by omega), (by simp [go_sem]), ?_, fun _ _ _ h => h.elim⟩
   rintro ch rfl
   show endP s h2 h3 h4 (.panic _) _
   refine ⟨⟨_, _, hpb, rfl⟩, [dI k, dS t, dSs ns, .sl 4 (xs.map cJ)], rfl, ?_⟩
   (refine cov_of ?_ ?_ <;> simp [go_sem, minusH])
  ·have hpo : parV s (numR s) = .ok (.mk k t ns xs) 0 m := by unfold parV; rw [if_neg (by omega), hv]; simp only; rw [if_neg (by omega)]
   refine awpd_skip ?_
   show AWpD _ _ _ _ _ _
   refine awpd_sr fun Y Yh => ?_
   simp [go_sem]
   apply Yh; clear Yh Y
   refine Hold.mk ?_
   refine awpd_ret ?_
   refine ⟨_, _, hpo, ?_⟩
   (refine cov_of ?_ ?_ <;> simp [go_sem, cJ_mk])
 ·
  have fin : ∀ (v : JV) (n e : Nat) (b0 : Act) (S3 : St) (C3 : Ctx) (w3 : World), Inv w2 (LentB (esP h2 h3 h4 [dI 0, dS [], .v (.slice none 0 0), .v (.slice none 0 0)] (dI 0) (dI 0))) C5 32 S3 C3 b0 w3 →
    Cov S3 ⟨[(2, .ptr 900010 h2 0), (3, .ptr 900011 h3 0), (4, .ptr 900012 h4 0)], esP h2 h3 h4 (cJ v) (dI n) (dI e)⟩ → parO s = (v, n, e) →
    ∃ val, (results Tryz.f14 b0.tmps).run Tryz.prog w3 = .ok val w3 ∧ ∃ u r C', Ending.returned val = Ending.returned u ∧ r = .tup [dJ (parO s).1, dI (parO s).2.1, dI (parO s).2.2] ∧ Rep C' w3 r u ∧ CtxOk C' w3 ∧ Ext C w C' w3 ∧ (∀ s g x, C.val s g = some x → C'.live s g = C.live s g) ∧ Frm w (fun _ => False) w3 := by
   intro v n e b0 S3 C3 w3 J3 hcov hpo
   rw [hpo]
   replace J3 := J3.cov hcov
   obtain ⟨k, t, ns, xs⟩ := v
   have hq : resL Tryz.prog ⟨[(2, .ptr 900010 h2 0), (3, .ptr 900011 h3 0), (4, .ptr 900012 h4 0)], esP h2 h3 h4 (cJ (.mk k t ns xs)) (dI n) (dI e)⟩ [.cell 2 26, .cell 3 3, .cell 4 27] (fun ds => ds = [dJ (.mk k t ns xs), dI n, dI e]) := by
    simp [go_sem, cJ_mk, dJ_mk]
   obtain ⟨ds, us, rfl, hrs, hlen, hrun⟩ := resL_ok J3 hq
   refine ⟨.tuple us.toArray, ?_, ?_⟩
   ·have hfun : (fun r : ResultVar => match r with | .tmp t => (pure (b0.tmps.getD t undef) : Sem Value) | .cell p ty => do loadVar ty (← asAddr (b0.tmps.getD p undef))) = rvSem b0.tmps := by
     funext r; cases r <;> rfl
    have hres : results Tryz.f14 b0.tmps = (do let vs ← Tryz.f14.results.mapM (rvSem b0.tmps); pure (if h : vs.size = 1 then vs[0] else .tuple vs)) := by
     rw [← hfun]; rfl
    have hl3 : Tryz.f14.results.toList = [.cell 2 26, .cell 3 3, .cell 4 27] := rfl
    rw [hres, Array.mapM_eq_mapM_toList, hl3]
    simp only [Sem.run_bind, Sem.run_map, hrun, Result.andThen_ok, Sem.run_pure]
    have h3 : us.length = 3 := by simpa using hlen
    rw [dif_neg (by simp [h3])]
   ·have hF := Inv.finish (ss := [900010, 900011, 900012]) (ps := [(h2, .box (cJ (.mk k t ns xs))), (h3, .box [dI n]), (h4, .box [dI e])]) hok1 hent1 hnf J3 rfl (fun j s p q1 q2 => by
     match j, q1, q2 with
     | 0, q1, q2 => simp at q1 q2; subst q1 q2; exact ⟨rfl, rfl⟩
     | 1, q1, q2 => simp at q1 q2; subst q1 q2; exact ⟨rfl, rfl⟩
     | 2, q1, q2 => simp at q1 q2; subst q1 q2; exact ⟨rfl, rfl⟩
     | j + 3, q1, _ => simp at q1)
    obtain ⟨f1, f2, f3, f4, f5, f6, f7, f8⟩ := hF
    have J := I7.afterL (ss := [900010, 900011, 900012]) (es := esP h2 h3 h4 [dI 0, dS [], .v (.slice none 0 0), .v (.slice none 0 0)] (dI 0) (dI 0)) (fun s g x hx => ⟨hx, hes9 _ (look_mem hx), hnf _ (look_mem hx), by
      have := look_mem hx
      simp at this
      rcases this with ⟨rfl, _⟩ | ⟨rfl, _⟩ | ⟨rfl, _⟩ <;> simp⟩) f2 f1 f3 f4 f5 f6 f7 f8
    have noB : ∀ b, ¬ bB C (fun _ _ => False) b := fun b ⟨_, _, _, q, _⟩ => q.elim
    refine ⟨_, _, C3, rfl, rfl, ?_, f1, ⟨J.old, J.owned, fun b hb _ => J.frame.block b hb (noB b), J.frame.size⟩, fun s g x hx => ?_, ⟨J.frame.os, J.frame.tape, J.frame.output, J.frame.size, fun b hb _ => J.frame.block b hb (noB b)⟩⟩
    ·refine .tup _ _ (by simpa using hrs.1) fun j c u hc hu => hrs.2 j c u hc (by simpa using hu)
    ·cases h0 : C.live s g with
     | true => exact J.kept s g x hx h0 id
     | false =>
      cases h1 : C3.live s g with
      | false => rfl
      | true => rw [J.dead0 s g x hx h1] at h0; cases h0
  intro e b0 S C' w' hq I9
  have ed9 : (apD b0 [dd]).defers = [dd] := by have := I9.defers; cases b0; simp_all [apD]
  have et9 : (apD b0 [dd]).tmps = b0.tmps := rfl
  have hlv : ∀ s g, LentB (esP h2 h3 h4 [dI 0, dS [], .v (.slice none 0 0), .v (.slice none 0 0)] (dI 0) (dI 0)) s g → True := fun _ _ _ => trivial
  cases e with
  | normal => exact hq.elim
  | exit id => exact hq.elim
  | goto l => exact hq.elim
  | outgrown => exact hq.elim
  | ret =>
   obtain ⟨v, m, hv, hcov⟩ := hq
   have hpo : parO s = (v, 0, 0) := by unfold parO; rw [hv]
   show Leaves _ _ _ _ _ _ _
   rw [ed9, et9]
   subst hdd
   refine leaves_cons (f := 37) (args := #[.pointer (some ⟨b2, 0, none⟩), .pointer (some ⟨b3, 0, none⟩), .pointer (some ⟨b4, 0, none⟩)]) (by simp) (by simp [go_sem]) ?_
   refine (clo_ret ⟨b2, 0, none⟩ ⟨b3, 0, none⟩ ⟨b4, 0, none⟩ w').mono ?_
   rintro en u' w3 ⟨rfl, rfl, q1, q2, q3, q4, q5⟩
   have hc9 := I9.ctxOk
   have J := I9.after (C' := C') (w' := w3) ⟨fun _ _ _ h => h, fun _ _ h => h, fun b hb _ => q5 b hb, q4⟩ ⟨hc9.apart, fun s g u b h1 h2 h3 => Nat.lt_of_lt_of_le (hc9.bound s g u b h1 h2 h3) q4, hc9.fresh⟩ (fun _ _ _ _ => rfl) ⟨q1, q2, q3, q4, fun b hb _ => q5 b hb⟩
   exact fin v 0 0 b0 S C' w3 J hcov hpo
  | panic ch =>
   obtain ⟨⟨p, e, hpb, rfl⟩, c, hcl, hcov⟩ := hq
   have hpo : parO s = (.mk 0 [] [] [], p, e) := by unfold parO; rw [hpb]
   replace I9 := I9.cov hcov
   show Leaves _ _ _ _ _ _ _
   rw [ed9, et9]
   subst hdd
   have w2v : C'.val 900010 h2 = some (.pointer (some ⟨b2, 0, none⟩)) := I9.old _ _ _ v2
   have w3v : C'.val 900011 h3 = some (.pointer (some ⟨b3, 0, none⟩)) := I9.old _ _ _ v3
   have w4v : C'.val 900012 h4 = some (.pointer (some ⟨b4, 0, none⟩)) := I9.old _ _ _ v4
   have H2 := I9.heap 900010 h2 (.box c) rfl
   have H3 := I9.heap 900011 h3 (.box [dI 0]) rfl
   have H4 := I9.heap 900012 h4 (.box [dI 0]) rfl
   have L2 := (H2.liveOf rfl).1
   have L3 := (H3.liveOf rfl).1
   have L4 := (H4.liveOf rfl).1
   have n23 : b2 ≠ b3 := fun q => by subst q; have := I9.apart _ _ _ _ _ _ b2 w2v L2 w3v L3 rfl rfl; omega
   have n24 : b2 ≠ b4 := fun q => by subst q; have := I9.apart _ _ _ _ _ _ b2 w2v L2 w4v L4 rfl rfl; omega
   have n34 : b3 ≠ b4 := fun q => by subst q; have := I9.apart _ _ _ _ _ _ b3 w3v L3 w4v L4 rfl rfl; omega
   obtain ⟨bb2, arr2, T2, z1, z2, z3, z4, z5⟩ := H2
   obtain ⟨bb3, arr3, T3, y1, y2, y3, y4, y5⟩ := H3
   obtain ⟨bb4, arr4, T4, x1, x2, x3, x4, x5⟩ := H4
   rw [w2v] at z1
   rw [w3v] at y1
   rw [w4v] at x1
   simp only [Option.some.injEq, Value.pointer.injEq, Addr.mk.injEq, and_true] at z1 y1 x1
   subst z1 y1 x1
   obtain ⟨d0, d1, d2, d3, rfl⟩ : ∃ d0 d1 d2 d3, arr2 = #[d0, d1, d2, d3] := by
    rw [hcl] at z4
    refine ⟨arr2[0], arr2[1], arr2[2], arr2[3], ?_⟩
    apply Array.ext (by simpa using z4)
    intro i h1 h2
    match i, h1, h2 with
    | 0, _, _ => rfl
    | 1, _, _ => rfl
    | 2, _, _ => rfl
    | 3, _, _ => rfl
    | i + 4, h1, _ => omega
   obtain ⟨d4, rfl⟩ : ∃ d4, arr3 = #[d4] := by
    have z : arr3.size = 1 := y4
    refine ⟨arr3[0], ?_⟩
    apply Array.ext (by simpa using z)
    intro i h1 h2
    match i, h1, h2 with
    | 0, _, _ => rfl
    | i + 1, h1, _ => omega
   obtain ⟨d5, rfl⟩ : ∃ d5, arr4 = #[d5] := by
    have z : arr4.size = 1 := x4
    refine ⟨arr4[0], ?_⟩
    apply Array.ext (by simpa using z)
    intro i h1 h2
    match i, h1, h2 with
    | 0, _, _ => rfl
    | i + 1, h1, _ => omega
   refine leaves_cons (f := 37) (args := #[.pointer (some ⟨b2, 0, none⟩), .pointer (some ⟨b3, 0, none⟩), .pointer (some ⟨b4, 0, none⟩)]) (by simp) (by simp [go_sem]) ?_
   refine (clo_pan b2 b3 b4 T2 T3 T4 p e d0 d1 d2 d3 d4 d5 w' z3 y3 x3 n23 n24 n34).mono ?_
   rintro en u' w3 ⟨rfl, hset, k2, k3, k4, q1, q2, q3, q4, q5⟩
   simp only [hset]
   have hc9 := I9.ctxOk
   have hne : ∀ s g, LentB (esP h2 h3 h4 c (dI 0) (dI 0)) s g → (s = 900010 ∧ g = h2) ∨ (s = 900011 ∧ g = h3) ∨ (s = 900012 ∧ g = h4) := fun s g ⟨x, hx⟩ => by
    have := look_mem hx
    simp at this
    omega
   have inB : ∀ b, b = b2 ∨ b = b3 ∨ b = b4 → bB C' (LentB (esP h2 h3 h4 c (dI 0) (dI 0))) b := fun b hb => by
    rcases hb with rfl | rfl | rfl
    ·exact ⟨900010, h2, _, ⟨.box c, rfl⟩, w2v, rfl⟩
    ·exact ⟨900011, h3, _, ⟨.box [dI 0], rfl⟩, w3v, rfl⟩
    ·exact ⟨900012, h4, _, ⟨.box [dI 0], rfl⟩, w4v, rfl⟩
   have J := I9.afterL (C' := C') (w' := w3) (ss := [900010, 900011, 900012]) (ps := [(h2, .box (cJ (.mk 0 [] [] []))), (h3, .box [dI p]), (h4, .box [dI e])]) (es := esP h2 h3 h4 c (dI 0) (dI 0))
    (fun s g x hx => ⟨hx, by have := look_mem hx; simp at this; omega, by
      have := look_mem hx
      simp at this
      rcases this with ⟨_, _, rfl⟩ | ⟨_, _, rfl⟩ | ⟨_, _, rfl⟩ <;> rfl, by
      have := look_mem hx
      simp at this
      rcases this with ⟨rfl, _⟩ | ⟨rfl, _⟩ | ⟨rfl, _⟩ <;> simp⟩)
    ⟨fun _ _ _ h => h, fun _ _ h => h, fun b hb hn => q5 b hb (fun q => ?_) (fun q => ?_) (fun q => ?_), q4⟩
    ⟨hc9.apart, fun s g u b h1 h2 h3 => Nat.lt_of_lt_of_le (hc9.bound s g u b h1 h2 h3) q4, hc9.fresh⟩ ?_ ?_ ?_ (fun _ _ _ _ _ => rfl) (fun _ _ _ _ h => h)
    ⟨q1, q2, q3, q4, fun b hb hn => q5 b hb (fun q => hn (inB b (.inl q))) (fun q => hn (inB b (.inr (.inl q)))) (fun q => hn (inB b (.inr (.inr q))))⟩
   ·exact fin (.mk 0 [] [] []) p e b0 _ C' w3 J (by (refine cov_of ?_ ?_ <;> simp [go_sem, putPs])) hpo
   ·subst q; exact hn ⟨900010, h2, _, w2v, L2, rfl⟩
   ·subst q; exact hn ⟨900011, h3, _, w3v, L3, rfl⟩
   ·subst q; exact hn ⟨900012, h4, _, w4v, L4, rfl⟩
   ·refine ⟨rfl, fun j s p q1 q2 => ?_⟩
    match j, q1, q2 with
    | 0, q1, q2 =>
     simp at q1 q2; subst q1 q2
     refine ⟨⟨b2, _, T2, w2v, L2, k2, by simp [cJ_mk], fun j c u hc hu => ?_⟩, rfl⟩
     rw [cJ_mk] at hc
     match j, hc, hu with
     | 0, hc, hu => simp at hc hu; subst hc hu; exact ⟨.v _, rfl⟩
     | 1, hc, hu => simp at hc hu; subst hc hu; exact ⟨.v _, rfl⟩
     | 2, hc, hu => simp at hc hu; subst hc hu; exact ⟨.slE _ _ _ (Nat.zero_le _), rfl⟩
     | 3, hc, hu => simp at hc hu; subst hc hu; exact ⟨.slE _ _ _ (Nat.zero_le _), rfl⟩
     | j + 4, hc, _ => simp at hc
    | 1, q1, q2 =>
     simp at q1 q2; subst q1 q2
     refine ⟨⟨b3, _, T3, w3v, L3, k3, by simp, fun j c u hc hu => ?_⟩, rfl⟩
     match j, hc, hu with
     | 0, hc, hu => simp at hc hu; subst hc hu; exact ⟨.v _, rfl⟩
     | j + 1, hc, _ => simp at hc
    | 2, q1, q2 =>
     simp at q1 q2; subst q1 q2
     refine ⟨⟨b4, _, T4, w4v, L4, k4, by simp, fun j c u hc hu => ?_⟩, rfl⟩
     match j, hc, hu with
     | 0, hc, hu => simp at hc hu; subst hc hu; exact ⟨.v _, rfl⟩
     | j + 1, hc, _ => simp at hc
    | j + 3, q1, _ => simp at q1
   ·intro j s p u b q1 q2 q3 q4
    refine .inr ⟨⟨s, p.1, u, ?_, q3, q4⟩, ?_⟩
    ·match j, q1, q2 with
     | 0, q1, q2 => simp at q1 q2; subst q1 q2; exact ⟨.box c, rfl⟩
     | 1, q1, q2 => simp at q1 q2; subst q1 q2; exact ⟨.box [dI 0], rfl⟩
     | 2, q1, q2 => simp at q1 q2; subst q1 q2; exact ⟨.box [dI 0], rfl⟩
     | j + 3, q1, _ => simp at q1
    ·match j, q1 with
     | 0, q1 => simp at q1; omega
     | 1, q1 => simp at q1; omega
     | 2, q1 => simp at q1; omega
     | j + 3, q1 => simp at q1
   ·intro j s p y q1 q2 _
    match j, q1, q2 with
    | 0, q1, q2 => simp at q1 q2; subst q1 q2; exact ⟨.box c, rfl⟩
    | 1, q1, q2 => simp at q1 q2; subst q1 q2; exact ⟨.box [dI 0], rfl⟩
    | 2, q1, q2 => simp at q1 q2; subst q1 q2; exact ⟨.box [dI 0], rfl⟩
    | j + 3, q1, _ => simp at q1
theorem parse_spec (s : Bs) (hl : s.length ≤ 9223372036854775807) : PCall Tryz.prog 14 [dS s] fun r => r = .tup [dJ (parO s).1, dI (parO s).2.1, dI (parO s).2.2] := by
 rcases Nat.lt_or_ge 100000 s.length with h | h
 ·exact parse_long s h hl
 ·exact parse_short s h
end Go.Proofs.YtkgmecjaejaehaaGreatDoor
namespace Go.Proofs
open Go.Shelf Go.RowKit
def Tryz.lays196_ren : Go.Shelf.Ren := ⟨fun | 196 => 44 | 259 => 88 | n => n, fun | 0 => 0 | 3 => 3 | 4 => 4 | 5 => 5 | 9 => 9 | 12 => 12 | 46 => 38 | 53 => 196 | 119 => 125 | 138 => 127 | 139 => 128 | n => n, fun | 3 => 0 | 4 => 1 | n => n⟩
theorem Tryz.lays196 : Go.Proofs.Lays.n196 Tryz.prog Tryz.lays196_ren := {
 mixed := by kernel_rfl
 f196 := Tryz.func44.trans (congrArg some (by kernel_rfl))
 f259 := Tryz.func88.trans (congrArg some (by kernel_rfl))
 t0 := Tryz.underlying0
 a0 := Tryz.isAgg0
 z0 := Tryz.sizeOf0
 v0 := Tryz.zeroValue0
 t3 := Tryz.underlying3
 a3 := Tryz.isAgg3
 z3 := Tryz.sizeOf3
 v3 := Tryz.zeroValue3
 t4 := Tryz.underlying4
 a4 := Tryz.isAgg4
 z4 := Tryz.sizeOf4
 v4 := Tryz.zeroValue4
 t5 := Tryz.underlying5
 a5 := Tryz.isAgg5
 z5 := Tryz.sizeOf5
 v5 := Tryz.zeroValue5
 t9 := Tryz.underlying9
 a9 := Tryz.isAgg9
 z9 := Tryz.sizeOf9
 v9 := Tryz.zeroValue9
 t12 := Tryz.underlying12
 a12 := Tryz.isAgg12
 z12 := Tryz.sizeOf12
 v12 := Tryz.zeroValue12
 t46 := Tryz.underlying38
 a46 := Tryz.isAgg38
 z46 := Tryz.sizeOf38
 v46 := Tryz.zeroValue38
 t53 := Tryz.underlying196
 a53 := Tryz.isAgg196
 z53 := Tryz.sizeOf196
 v53 := Tryz.zeroValue196
 t119 := Tryz.underlying125
 a119 := Tryz.isAgg125
 z119 := Tryz.sizeOf125
 t138 := Tryz.underlying127
 a138 := Tryz.isAgg127
 z138 := Tryz.sizeOf127
 v138 := Tryz.zeroValue127
 t139 := Tryz.underlying128
 a139 := Tryz.isAgg128
 z139 := Tryz.sizeOf128
 v139 := Tryz.zeroValue128
 g3 := by kernel_rfl
 g4 := by kernel_rfl }
theorem Tryz.utf8_ValidString (s : ByteArray) (w : World) (hs : s.size ≤ 9223372036854775807) (hT : Lib.Utf8Tabs 0 1 w) :
  Calls Tryz.prog 44 #[.string s] w fun e w' => e = .returned (.bool (Lib.validD s.data.toList)) ∧ Below w.heap.size w w' := Any.utf8_ValidString Tryz.lays196 s w hs hT
end Go.Proofs
namespace Go.Proofs.YtkgmecjaejaehaaGreatDoor
open Go.Eng Go.Js
set_option maxRecDepth 20000
attribute [local irreducible] AG CallA CallT AWp PCall ACall XCall AgC
@[go_sem] theorem cJ_len (v : JV) : (cJ v).length = 4 := by cases v; simp [cJ]
@[go_sem] theorem cJ_all (v : JV) : (cJ v).all oneD = true := by
 cases v
 simp [cJ, oneD, Value.oneCell']
@[go_sem] theorem cJ_take (v : JV) : (cJ v).take 4 = cJ v := List.take_of_length_le (by rw [cJ_len]; omega)
@[go_sem] theorem cJ_drop (v : JV) : (cJ v).drop 4 = [] := List.drop_eq_nil_of_le (by rw [cJ_len]; omega)
theorem cJ_one (v : JV) : ∀ c ∈ cJ v, oneD c = true := by
 cases v
 simp [cJ, oneD, Value.oneCell']
theorem vstr_spec (s : Bs) (hl : s.length ≤ 9223372036854775807) : PCall Tryz.prog 44 [dS s] fun r => r = dB (Lib.validD s) := by
 refine pcall_below ⟨_, Tryz.func44, rfl, rfl⟩ fun C w us hc hg hr => ?_
 have hg : glOk w := hg
 obtain rfl := repL_v (us := [.string ⟨s.toArray⟩]) hr
 refine (Tryz.utf8_ValidString ⟨s.toArray⟩ w (by simpa [ByteArray.size] using hl) hg.1).mono ?_
 rintro e w' ⟨rfl, hb⟩
 exact ⟨_, _, rfl, by simp, .v _, hb⟩
theorem nclone_spec (l : List Bs) (hl : l.length ≤ 100000000) : PCall Tryz.prog 105 [dSs l] fun r => r = dSs l := by
 refine pcall_of Tryz.func105 rfl rfl Tryz.ntmps105 (rs := [.tmp 2]) (tys := [23]) rfl rfl (by simp) ?_
 cases l with
 | nil =>
  (refine awp_sr fun Y Yh => ?_; simp [go_sem]; ((repeat' (first|(refine ag_x ?_;simp [go_sem])|intro _|apply And.intro|(apply Yh;clear Yh Y)));all_goals first|apply Hold.mk|omega|with_reducible assumption|skip))
  refine awp_seq_k fun K1 hK1 => ?_
  (refine awp_sr fun Y Yh => ?_; simp [go_sem]; ((repeat' (first|(refine ag_x ?_;simp [go_sem])|intro _|apply And.intro|(apply Yh;clear Yh Y)));all_goals first|apply Hold.mk|omega|with_reducible assumption|skip))
  ·(refine awp_if fun T F hT hF => ?_; simp [go_sem]; refine hF ?_; clear hT hF T F)
   refine awp_skip ?_
   refine hK1 _ ?_; clear hK1
   (refine awp_sr fun Y Yh => ?_; simp [go_sem]; ((repeat' (first|(refine ag_x ?_;simp [go_sem])|intro _|apply And.intro|(apply Yh;clear Yh Y)));all_goals first|apply Hold.mk|omega|with_reducible assumption|skip))
   (refine awp_ret ?_; simp [go_sem])
  ·(refine awp_if fun T F hT hF => ?_; simp [go_sem]; refine hT ?_; clear hT hF T F)
   (refine awp_sr fun Y Yh => ?_; simp [go_sem]; ((repeat' (first|(refine ag_x ?_;simp [go_sem])|intro _|apply And.intro|(apply Yh;clear Yh Y)));all_goals first|apply Hold.mk|omega|with_reducible assumption|skip))
   (refine awp_ret ?_; simp [go_sem])
 | cons x r =>
  simp only [List.length_cons] at hl
  (refine awp_sr fun Y Yh => ?_; simp [go_sem]; ((repeat' (first|(refine ag_x ?_;simp [go_sem])|intro _|apply And.intro|(apply Yh;clear Yh Y)));all_goals first|apply Hold.mk|omega|with_reducible assumption|skip))
  refine awp_seq_k fun K1 hK1 => ?_
  (refine awp_sr fun Y Yh => ?_; simp [go_sem]; ((repeat' (first|(refine ag_x ?_;simp [go_sem])|intro _|apply And.intro|(apply Yh;clear Yh Y)));all_goals first|apply Hold.mk|omega|with_reducible assumption|skip))
  (refine awp_if fun T F hT hF => ?_; simp [go_sem]; refine hF ?_; clear hT hF T F)
  refine awp_skip ?_
  refine hK1 _ ?_; clear hK1
  (refine awp_sr fun Y Yh => ?_; simp [go_sem]; ((repeat' (first|(refine ag_x ?_;simp [go_sem])|intro _|apply And.intro|(apply Yh;clear Yh Y)));all_goals first|apply Hold.mk|omega|with_reducible assumption|skip))
  (refine awp_ret ?_; simp [go_sem])
theorem vclone_spec (nm : Nat) (l : List JV) (hl : l.length ≤ 100000000) (h9 : 900000 ≤ nm) : ACall Tryz.prog 106 [.sl 4 (l.map cJ)] [] [nm] fun ps r => ∃ g, ps = [(g, .row 26 4 (l.map cJ))] ∧ r = .own nm g := by
 refine acall_of Tryz.func106 rfl rfl Tryz.ntmps106 (rs := [.tmp 2]) (tys := [24]) rfl rfl (by simp) (by simp) ?_
 cases l with
 | nil =>
  (refine awp_sr fun Y Yh => ?_; simp [go_sem]; ((repeat' (first|(refine ag_x ?_;simp [go_sem])|intro _|apply And.intro|(apply Yh;clear Yh Y)));all_goals first|apply Hold.mk|omega|with_reducible assumption|skip))
  refine awp_seq_k fun K1 hK1 => ?_
  (refine awp_sr fun Y Yh => ?_; simp [go_sem]; ((repeat' (first|(refine ag_x ?_;simp [go_sem])|intro _|apply And.intro|(apply Yh;clear Yh Y)));all_goals first|apply Hold.mk|omega|with_reducible assumption|skip))
  ·(refine awp_if fun T F hT hF => ?_; simp [go_sem]; refine hF ?_; clear hT hF T F)
   refine awp_skip ?_
   refine hK1 _ ?_; clear hK1
   (refine awp_sr fun Y Yh => ?_; simp [go_sem]; ((repeat' (first|(refine ag_x ?_;simp [go_sem])|intro _|apply And.intro|(apply Yh;clear Yh Y)));all_goals first|apply Hold.mk|omega|with_reducible assumption|skip))
   refine awp_renrow 2 nm rfl rfl (by omega) fun g => ?_
   simp only [go_sem]
   refine awp_ret ?_
   simp [go_sem, retA]
  ·(refine awp_if fun T F hT hF => ?_; simp [go_sem]; refine hT ?_; clear hT hF T F)
   (refine awp_sr fun Y Yh => ?_; simp [go_sem]; ((repeat' (first|(refine ag_x ?_;simp [go_sem])|intro _|apply And.intro|(apply Yh;clear Yh Y)));all_goals first|apply Hold.mk|omega|with_reducible assumption|skip))
   refine awp_nilslot 2 nm 26 4 rfl fun g => ?_
   simp only [go_sem]
   refine awp_ret ?_
   simp [go_sem, retA]
 | cons x r =>
  simp only [List.length_cons] at hl
  (refine awp_sr fun Y Yh => ?_; simp [go_sem]; ((repeat' (first|(refine ag_x ?_;simp [go_sem])|intro _|apply And.intro|(apply Yh;clear Yh Y)));all_goals first|apply Hold.mk|omega|with_reducible assumption|skip))
  refine awp_seq_k fun K1 hK1 => ?_
  (refine awp_sr fun Y Yh => ?_; simp [go_sem]; ((repeat' (first|(refine ag_x ?_;simp [go_sem])|intro _|apply And.intro|(apply Yh;clear Yh Y)));all_goals first|apply Hold.mk|omega|with_reducible assumption|skip))
  (refine awp_if fun T F hT hF => ?_; simp [go_sem]; refine hF ?_; clear hT hF T F)
  refine awp_skip ?_
  refine hK1 _ ?_; clear hK1
  (refine awp_sr fun Y Yh => ?_; simp [go_sem, cJ_one]; ((repeat' (first|(refine ag_x ?_;simp [go_sem, cJ_one])|intro _|apply And.intro|(apply Yh;clear Yh Y)));all_goals first|apply Hold.mk|omega|with_reducible assumption|skip))
  refine awp_renrow 2 nm rfl rfl (by omega) fun g => ?_
  simp only [go_sem]
  refine awp_ret ?_
  simp [go_sem, retA]
end Go.Proofs.YtkgmecjaejaehaaGreatDoor
namespace Go.Js
/-! how much there is within a value -/
mutual
def sizeJ : JV → Nat
 | .mk _ _ ns xs => 1 + ns.length + sizeJs xs
def sizeJs : List JV → Nat
 | [] => 0
 | x :: xs => sizeJ x + sizeJs xs
end
theorem sizeJ_pos : ∀ v : JV, 1 ≤ sizeJ v
 | .mk k t ns xs => by simp [sizeJ]; omega
theorem sizeJs_mem : ∀ {xs : List JV} {x : JV}, x ∈ xs → sizeJ x ≤ sizeJs xs
 | [], x, h => by simp at h
 | y :: ys, x, h => by
  simp only [sizeJs]
  rcases List.mem_cons.1 h with rfl | h
  ·omega
  ·have := sizeJs_mem h; omega
theorem sizeJs_len : ∀ xs : List JV, xs.length ≤ sizeJs xs
 | [] => by simp
 | x :: xs => by
  have := sizeJ_pos x
  have := sizeJs_len xs
  simp only [sizeJs, List.length_cons]; omega
theorem sizeJ_item {k : Int} {t : List UInt8} {ns : List (List UInt8)} {xs : List JV} {x : JV} (h : x ∈ xs) : sizeJ x < sizeJ (.mk k t ns xs) := by
 have := sizeJs_mem h
 simp only [sizeJ]; omega
theorem sizeJ_names (k : Int) (t : List UInt8) (ns : List (List UInt8)) (xs : List JV) : ns.length + xs.length < sizeJ (.mk k t ns xs) := by
 have := sizeJs_len xs
 simp only [sizeJ]; omega
def decV (t : List UInt8) : Nat := t.foldl (fun n c => n * 10 + (c.toNat - 48)) 0
def idxT (v : JV) (t : List UInt8) : Int :=
 if v.kind = 6 then ixV v.names t
 else if v.kind ≠ 5 ∨ t = [] ∨ 4 < t.length ∨ (t[0]? = some 48 ∧ 1 < t.length) ∨ t.all isDg = false then -1
 else if v.items.length ≤ decV t then -1 else decV t
theorem decV_lt : ∀ (t : List UInt8) (n : Nat), t.all isDg = true → t.foldl (fun n c => n * 10 + (c.toNat - 48)) n < (n + 1) * 10 ^ t.length
 | [], n, _ => by simp
 | c :: t, n, h => by
  simp only [List.all_cons, Bool.and_eq_true] at h
  have := decV_lt t (n * 10 + (c.toNat - 48)) h.2
  have hc := h.1
  unfold isDg at hc
  simp only [Bool.and_eq_true, decide_eq_true_eq, UInt8.le_iff_toNat_le] at hc
  have e1 : (48 : UInt8).toNat = 48 := rfl
  have e2 : (57 : UInt8).toNat = 57 := rfl
  simp only [List.foldl_cons, List.length_cons, Nat.pow_succ]
  have h3 : (n * 10 + (c.toNat - 48) + 1) * 10 ^ t.length ≤ ((n + 1) * 10) * 10 ^ t.length := Nat.mul_le_mul_right _ (by omega)
  rw [Nat.mul_comm (10 ^ t.length) 10, ← Nat.mul_assoc]
  omega
end Go.Js
