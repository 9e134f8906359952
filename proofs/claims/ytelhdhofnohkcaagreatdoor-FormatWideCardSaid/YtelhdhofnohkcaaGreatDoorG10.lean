/- Part of a proof: see the last text. -/
import Derived.Test.YtelhdhofnohkcaaGreatDoorG09
import Derived.Test.YtelhdhofnohkcaaGreatDoorG07
import Derived.Test.YtelhdhofnohkcaaGreatDoorG05
import Derived.Lib.OwnBridge
import Derived.Sort.OwnSorted
import Derived.Sort.Grow
import Derived.Test.YtelhdhofnohkcaaGreatDoorG04
import Derived.Test.YtelhdhofnohkcaaGreatDoorG02
import Derived.Lib.SlicesCompact
import Derived.Lib.AppendStr
import Derived.Test.YtelhdhofnohkcaaGreatDoorG08
import Derived.Test.YtelhdhofnohkcaaGreatDoorG03
import Derived.Test.YtelhdhofnohkcaaGreatDoorG06
import Derived.Sort.Walk0
import Derived.Shelf.SlIter.Nil
import Derived.Shelf.SortM.Plain
import Derived.Shelf.SortM.SortNone
import Derived.Test.YtelhdhofnohkcaaGreatDoorProg
import Derived.Lib.ConvBytes
set_option linter.unusedVariables false
set_option linter.unusedSimpArgs false
namespace Go.Proofs.YtelhdhofnohkcaaGreatDoor
open Go.Eng Go.Fm
set_option maxRecDepth 20000
attribute [local irreducible] AG CallA CallT AWp PCall ACall AgC
theorem cut37 (s : Bs) : Lib.cut s [37] = if s.findIdx (· == 37) < s.length then (s.take (s.findIdx (· == 37)), s.drop (s.findIdx (· == 37) + 1), true) else (s, [], false) := by
 unfold Lib.cut
 rw [Lib.index_one, indexByte_find]
 by_cases h : s.findIdx (· == 37) < s.length
 ·rw [if_pos h, if_pos h, if_pos (by omega)]; rfl
 ·rw [if_neg h, if_neg h, if_neg (by omega)]
def rrR (q : Option (List Rf × Nat × Nat)) : D :=
 match q with
 | some (L, a, b) => .tup [dRfs L, dB (decide (0 < a)), dB (decide (a = 0) || decide (b = 0))]
 | none => .tup [dRfs [], dB false, dB false]
theorem rr_step {k : Nat} {s : Bs} {L : List Rf} {a b : Nat} (h : s ≠ []) : rReadF (k + 1) s L a b = if s.findIdx (· == 37) < s.length then
  (if pk (s.drop (s.findIdx (· == 37) + 1)) = 37 then rReadF k (s.drop (s.findIdx (· == 37) + 1)).tail (L ++ [txF (s.take (s.findIdx (· == 37)))] ++ [byF [37]]) a b else
   match rfieldV (s.drop (s.findIdx (· == 37) + 1)) with
   | none => none
   | some (f, r) => rReadF k r (L ++ [txF (s.take (s.findIdx (· == 37)))] ++ [f]) (if f.nm = [] then a else a + 1) (if f.nm = [] then b + 1 else b))
  else some (L ++ [txF s], a, b) := by
 rw [rReadF, if_neg h]
 by_cases h2 : s.findIdx (· == 37) < s.length
 ·rw [if_pos h2, if_neg (by omega)]
  rfl
 ·rw [if_neg h2, if_pos (by omega)]
set_option maxHeartbeats 16000000 in
theorem rread_spec (s0 : Bs) (hl : s0.length ≤ 9223372036854775807) : PCall Tryz.prog 43 [dS s0] fun r => r = rrR (rReadV s0) := by 
 refine pcall_of Tryz.func43 rfl rfl Tryz.ntmps43 (rs := [.tmp 2, .tmp 3, .tmp 4]) (tys := [84, 4, 4]) rfl rfl (by simp) ?_
 have hlz : decide ((2000 : Int) < s0.length) = decide (2000 < s0.length) := by rw [decide_eq_decide]; omega
 by_cases hlen : 2000 < s0.length
 ·have e : rReadV s0 = none := by unfold rReadV; rw [if_pos hlen]
  rw [e]
  (refine awp_sr fun Y Yh => ?_; simp [go_sem]; ((repeat' (first|(refine ag_x ?_;simp [go_sem])|intro _|apply And.intro|(apply Yh;clear Yh Y)));all_goals first|apply Hold.mk|omega|with_reducible assumption|skip))
  refine awp_seq_k fun K1 hK1 => ?_
  (refine awp_sr fun Y Yh => ?_; simp [go_sem, ba_size]; ((repeat' (first|(refine ag_x ?_;simp [go_sem, ba_size])|intro _|apply And.intro|(apply Yh;clear Yh Y)));all_goals first|apply Hold.mk|omega|with_reducible assumption|skip))
  (refine awp_if fun T F hT hF => ?_; simp [go_sem, hlz, hlen]; refine hT ?_; clear hT hF T F)
  (refine awp_sr fun Y Yh => ?_; simp [go_sem]; ((repeat' (first|(refine ag_x ?_;simp [go_sem])|intro _|apply And.intro|(apply Yh;clear Yh Y)));all_goals first|apply Hold.mk|omega|with_reducible assumption|skip))
  (refine awp_ret ?_; simp [go_sem, rrR])
 ·have e : rReadV s0 = rReadF (s0.length + 1) s0 [] 0 0 := by unfold rReadV; rw [if_neg hlen]
  rw [e]
  (refine awp_sr fun Y Yh => ?_; simp [go_sem]; ((repeat' (first|(refine ag_x ?_;simp [go_sem])|intro _|apply And.intro|(apply Yh;clear Yh Y)));all_goals first|apply Hold.mk|omega|with_reducible assumption|skip))
  refine awp_seq_k fun K1 hK1 => ?_
  (refine awp_sr fun Y Yh => ?_; simp [go_sem, ba_size]; ((repeat' (first|(refine ag_x ?_;simp [go_sem, ba_size])|intro _|apply And.intro|(apply Yh;clear Yh Y)));all_goals first|apply Hold.mk|omega|with_reducible assumption|skip))
  (refine awp_if fun T F hT hF => ?_; simp [go_sem, hlz, hlen]; refine hF ?_; clear hT hF T F)
  refine awp_skip ?_
  refine hK1 _ ?_; clear hK1
  (refine awp_sr fun Y Yh => ?_; simp [go_sem]; ((repeat' (first|(refine ag_x ?_;simp [go_sem])|intro _|apply And.intro|(apply Yh;clear Yh Y)));all_goals first|apply Hold.mk|omega|with_reducible assumption|skip))
  refine awp_nilslot 5 5 88 6 rfl fun go => ?_
  simp only [go_sem]
  (refine awp_sr fun Y Yh => ?_; simp [go_sem]; ((repeat' (first|(refine ag_x ?_;simp [go_sem])|intro _|apply And.intro|(apply Yh;clear Yh Y)));all_goals first|apply Hold.mk|omega|with_reducible assumption|skip))
  (refine awp_sr fun Y Yh => ?_; simp [go_sem]; ((repeat' (first|(refine ag_x ?_;simp [go_sem])|intro _|apply And.intro|(apply Yh;clear Yh Y)));all_goals first|apply Hold.mk|omega|with_reducible assumption|skip))
  refine awp_seq_k fun K3 hK3 => ?_
  generalize hV : rReadF (s0.length + 1) s0 [] 0 0 = V at *
  have tl3 : ∀ (L : List Rf) (nd ot g : Nat) S', V = some (L, nd, ot) → Cov S' ⟨[(5, .own 5 g), (6, dI nd), (7, dI ot)], [(5, (g, .row 88 6 (L.map cRf)))]⟩ → K3 S' := fun L nd ot g S' hV hS => by
   refine hK3 _ ?_; clear hK3
   refine awp_cov hS ?_; clear hS
   subst hV
   (refine awp_sr fun Y Yh => ?_; simp [go_sem]; ((repeat' (first|(refine ag_x ?_;simp [go_sem])|intro _|apply And.intro|(apply Yh;clear Yh Y)));all_goals first|apply Hold.mk|omega|with_reducible assumption|skip))
   (refine awp_ret ?_; simp [go_sem, rrR])
  clear hK3
  refine awp_block ?_
  refine awp_loop (σ := Bs × List Rf × Nat × Nat × Nat) (fun x => ⟨[(0, dS x.1), (5, .own 5 x.2.2.2.2), (6, dI x.2.2.1), (7, dI x.2.2.2.1)], [(5, (x.2.2.2.2, .row 88 6 (x.2.1.map cRf)))]⟩)
   (fun x => x.1.length ≤ 2000 ∧ x.2.1.length ≤ 2 * (2000 - x.1.length) ∧ x.2.2.1 ≤ 2000 - x.1.length ∧ x.2.2.2.1 ≤ 2000 - x.1.length ∧ ∃ k, x.1.length < k ∧ rReadF k x.1 x.2.1 x.2.2.1 x.2.2.2.1 = V) (fun x => x.1.length) (s0, [], 0, 0, go) ?_ ?_ ?_
  ·(refine cov_of ?_ ?_ <;> simp [go_sem])
  ·exact ⟨by simp; omega, by simp, by simp, by simp, s0.length + 1, by simp, hV⟩
  rintro ⟨s, L, nd, ot, go⟩ ⟨hs, hL, hnd, hot, k, hk, hx⟩
  simp only at hs hL hnd hot hk hx ⊢
  obtain ⟨k, rfl⟩ : ∃ k', k = k' + 1 := ⟨k - 1, by omega⟩
  refine awp_seq_k fun K4 hK4 => ?_
  (refine awp_sr fun Y Yh => ?_; simp [go_sem]; ((repeat' (first|(refine ag_x ?_;simp [go_sem])|intro _|apply And.intro|(apply Yh;clear Yh Y)));all_goals first|apply Hold.mk|omega|with_reducible assumption|skip))
  by_cases hend : s = []
  ·subst hend
   rw [rReadF, if_pos rfl] at hx
   (refine awp_if fun T F hT hF => ?_; simp [go_sem]; refine hF ?_; clear hT hF T F)
   refine awp_exit ?_
   simp only [go_sem]
   refine tl3 L nd ot go _ hx.symm ?_
   (refine cov_of ?_ ?_ <;> simp [go_sem])
  ·have hne : s.isEmpty = false := by
    cases s with
    | nil => exact absurd rfl hend
    | cons _ _ => rfl
   have hC := cut_spec s [37] (by omega)
   rw [cut37] at hC
   rw [rr_step hend] at hx
   (refine awp_if fun T F hT hF => ?_; simp [go_sem, hne]; refine hT ?_; clear hT hF T F)
   refine awp_skip ?_
   refine hK4 _ ?_; clear hK4
   refine awp_block ?_
   by_cases hf : s.findIdx (· == 37) < s.length
   ·rw [if_pos hf] at hC hx
    have hdl : (s.drop (s.findIdx (· == 37) + 1)).length = s.length - (s.findIdx (· == 37) + 1) := List.length_drop
    generalize s.drop (s.findIdx (· == 37) + 1) = rest at *
    generalize s.take (s.findIdx (· == 37)) = text at *
    have hF := rfield_spec rest (by omega)
    (refine awp_sr fun Y Yh => ?_; simp [go_sem]; ((repeat' (first|(refine ag_x ?_;simp [go_sem])|intro _|apply And.intro|(apply Yh;clear Yh Y)));all_goals first|apply Hold.mk|omega|with_reducible assumption|skip))
    ((try refine CallT.toA ?_); refine callT_m (.inl ⟨rfl,rfl⟩) (by simp [go_sem]) ?_; intro args ha; simp [go_sem] at ha; subst ha; refine ⟨_, hC, ?_⟩; rintro _ rfl; simp [go_sem]; ((repeat' (first|(refine ag_x ?_;simp [go_sem])|intro _|apply And.intro|(apply Yh;clear Yh Y)));all_goals first|apply Hold.mk|omega|with_reducible assumption|skip))
    (refine awp_sr fun Y Yh => ?_; simp [go_sem]; ((repeat' (first|(refine ag_x ?_;simp [go_sem])|intro _|apply And.intro|(apply Yh;clear Yh Y)));all_goals first|apply Hold.mk|omega|with_reducible assumption|skip))
    (refine awp_sr fun Y Yh => ?_; simp [go_sem]; ((repeat' (first|(refine ag_x ?_;simp [go_sem])|intro _|apply And.intro|(apply Yh;clear Yh Y)));all_goals first|apply Hold.mk|omega|with_reducible assumption|skip))
    refine awp_seq_k fun K6 hK6 => ?_
    (refine awp_sr fun Y Yh => ?_; simp [go_sem]; ((repeat' (first|(refine ag_x ?_;simp [go_sem])|intro _|apply And.intro|(apply Yh;clear Yh Y)));all_goals first|apply Hold.mk|omega|with_reducible assumption|skip))
    (refine awp_if fun T F hT hF => ?_; simp [go_sem]; refine hF ?_; clear hT hF T F)
    refine awp_skip ?_
    refine hK6 _ ?_; clear hK6
    have hcase : (PCall Tryz.prog 66 [dS rest] (fun r => ∃ f, r = .tup [dRf f, dS [], dB false]) ∧ V = none) ∨ ∃ f beh, PCall Tryz.prog 66 [dS rest] (fun r => r = .tup [dRf f, dS beh, dB true]) ∧ beh.length < s.length ∧
      rReadF k beh (L ++ [txF text] ++ [f]) (if f.lt ≠ 0 ∧ f.nm ≠ [] then nd + 1 else nd) (if f.lt ≠ 0 ∧ f.nm = [] then ot + 1 else ot) = V := by
     unfold RFldR at hF
     by_cases h37 : pk rest = 37
     ·rw [if_pos h37] at hx
      simp only [if_pos h37] at hF
      refine .inr ⟨byF [37], rest.tail, hF, by rw [List.length_tail]; omega, ?_⟩
      rw [if_neg (fun q => q.1 rfl), if_neg (fun q => q.1 rfl)]
      exact hx
     ·rw [if_neg h37] at hx
      simp only [if_neg h37] at hF
      cases hr : rfieldV rest with
      | none =>
       rw [hr] at hx
       simp only [hr] at hF
       exact .inl ⟨hF, hx.symm⟩
      | some q =>
       obtain ⟨f, r⟩ := q
       obtain ⟨l1, l2⟩ := rfield_lt hr
       rw [hr] at hx
       simp only [hr] at hF
       refine .inr ⟨f, r, hF, by omega, ?_⟩
       simp only at hx
       rw [← hx]
       by_cases hn : f.nm = []
       ·rw [if_neg (fun q => q.2 hn), if_pos ⟨l1, hn⟩, if_pos hn, if_pos hn]
       ·rw [if_pos ⟨l1, hn⟩, if_neg (fun q => hn q.2), if_neg hn, if_neg hn]
    clear hF hx
    rename_i gq
    rcases hcase with ⟨hF, rfl⟩ | ⟨f, beh, hF, hb, hx⟩
    ·(refine awp_sr fun Y Yh => ?_; simp [go_sem]; ((repeat' (first|(refine ag_x ?_;simp [go_sem])|intro _|apply And.intro|(apply Yh;clear Yh Y)));all_goals first|apply Hold.mk|omega|with_reducible assumption|skip))
     ((try refine CallT.toA ?_); refine callT_m (.inl ⟨rfl,rfl⟩) (by simp [go_sem]) ?_; intro args ha; simp [go_sem] at ha; subst ha; refine ⟨_, hF, ?_⟩; rintro _ ⟨f, rfl⟩; simp [go_sem]; ((repeat' (first|(refine ag_x ?_;simp [go_sem])|intro _|apply And.intro|(apply Yh;clear Yh Y)));all_goals first|apply Hold.mk|omega|with_reducible assumption|skip))
     refine awp_seq_k fun K8 hK8 => ?_
     (refine awp_sr fun Y Yh => ?_; simp [go_sem]; ((repeat' (first|(refine ag_x ?_;simp [go_sem])|intro _|apply And.intro|(apply Yh;clear Yh Y)));all_goals first|apply Hold.mk|omega|with_reducible assumption|skip))
     (refine awp_if fun T F hT hF => ?_; simp [go_sem]; refine hT ?_; clear hT hF T F)
     (refine awp_sr fun Y Yh => ?_; simp [go_sem]; ((repeat' (first|(refine ag_x ?_;simp [go_sem])|intro _|apply And.intro|(apply Yh;clear Yh Y)));all_goals first|apply Hold.mk|omega|with_reducible assumption|skip))
     (refine awp_ret ?_; simp [go_sem, rrR])
    ·have b0 : (f.lt.toNat = 0) = (f.lt = 0) := propext ⟨fun q => UInt8.toNat_inj.1 q, fun q => by rw [q]; rfl⟩
     have hmap : (L ++ [txF text] ++ [f]).map cRf = L.map cRf ++ [[dU 0, dS [], dS text, dS [], dI 0, dI 0]] ++ [cRf f] := by simp [txF]
     (refine awp_sr fun Y Yh => ?_; simp [go_sem]; ((repeat' (first|(refine ag_x ?_;simp [go_sem])|intro _|apply And.intro|(apply Yh;clear Yh Y)));all_goals first|apply Hold.mk|omega|with_reducible assumption|skip))
     ((try refine CallT.toA ?_); refine callT_m (.inl ⟨rfl,rfl⟩) (by simp [go_sem]) ?_; intro args ha; simp [go_sem] at ha; subst ha; refine ⟨_, hF, ?_⟩; rintro _ rfl; simp [go_sem]; ((repeat' (first|(refine ag_x ?_;simp [go_sem])|intro _|apply And.intro|(apply Yh;clear Yh Y)));all_goals first|apply Hold.mk|omega|with_reducible assumption|skip))
     refine awp_seq_k fun K8 hK8 => ?_
     (refine awp_sr fun Y Yh => ?_; simp [go_sem]; ((repeat' (first|(refine ag_x ?_;simp [go_sem])|intro _|apply And.intro|(apply Yh;clear Yh Y)));all_goals first|apply Hold.mk|omega|with_reducible assumption|skip))
     (refine awp_if fun T F hT hF => ?_; simp [go_sem]; refine hF ?_; clear hT hF T F)
     refine awp_skip ?_
     refine hK8 _ ?_; clear hK8
     refine awp_seq_k fun K10 hK10 => ?_
     rename_i gf
     have tl10 : ∀ (nd' ot' : Nat) S', (nd' ≤ nd + 1 ∧ ot' ≤ ot + 1) → rReadF k beh (L ++ [txF text] ++ [f]) nd' ot' = V → Cov S' ⟨[(5, .own 5 gq), (6, dI nd'), (7, dI ot'), (11, .ptr 11 gf 0), (12, dS beh)], [(5, (gq, .row 88 6 (L.map cRf ++ [[dU 0, dS [], dS text, dS [], dI 0, dI 0]]))), (11, (gf, .box (cRf f)))]⟩ → K10 S' := fun nd' ot' S' hno hx hS => by
      refine hK10 _ ?_; clear hK10
      refine awp_cov hS ?_; clear hS
      have hz : (L.length + 1 + 1) * 73 ≤ 140737488355328 := by omega
      (refine awp_sr fun Y Yh => ?_; simp [go_sem]; ((repeat' (first|(refine ag_x ?_;simp [go_sem])|intro _|apply And.intro|(apply Yh;clear Yh Y)));all_goals first|apply Hold.mk|omega|with_reducible assumption|skip))
      (refine awp_r fun Y Yh => ?_; simp [go_sem]; ((repeat' (first|(refine ag_x ?_;simp [go_sem])|intro _|apply And.intro|(apply Yh;clear Yh Y)));all_goals first|apply Hold.mk|omega|with_reducible assumption|skip))
      rename_i gr
      refine ⟨(beh, L ++ [txF text] ++ [f], nd', ot', gr), ?_, ⟨by simp only; omega, by simp only [List.length_append, List.length_cons, List.length_nil]; omega, by simp only; omega, by simp only; omega, k, by simp only; omega, hx⟩, by simp only; omega⟩
      rw [hmap]
      (refine cov_of ?_ ?_ <;> simp [go_sem])
     clear hK10
     by_cases hz : f.lt = 0
     ·rw [if_neg (fun q => q.1 hz), if_neg (fun q => q.1 hz)] at hx
      (refine awp_sr fun Y Yh => ?_; simp [go_sem, b0, hz]; ((repeat' (first|(refine ag_false ?_ ?_ ?_;(focus (simp [go_sem, undef, b0, hz];done));(focus (simp [go_sem];done));simp [go_sem, b0, hz])|(refine ag_true ?_ ?_;(focus (simp [go_sem, undef, b0, hz];done));simp [go_sem, b0, hz])|(refine ag_x ?_;simp [go_sem, undef, b0, hz])|intro _|apply And.intro|(apply Yh;clear Yh Y)));all_goals first|apply Hold.mk|omega|with_reducible assumption|skip))
      (refine awp_if fun T F hT hF => ?_; simp [go_sem, b0, hz]; refine hF ?_; clear hT hF T F)
      (refine awp_sr fun Y Yh => ?_; simp [go_sem, b0, hz]; ((repeat' (first|(refine ag_x ?_;simp [go_sem, b0, hz])|intro _|apply And.intro|(apply Yh;clear Yh Y)));all_goals first|apply Hold.mk|omega|with_reducible assumption|skip))
      (refine awp_if fun T F hT hF => ?_; simp [go_sem, b0, hz]; refine hF ?_; clear hT hF T F)
      refine awp_skip ?_
      refine tl10 nd ot _ (by omega) hx ?_
      (refine cov_of ?_ ?_ <;> simp [go_sem])
      rw [hz]
      rfl
     ·by_cases hn : f.nm = []
      ·rw [if_neg (fun q => q.2 hn), if_pos ⟨hz, hn⟩] at hx
       have hn' : f.nm.isEmpty = true := by rw [hn]; rfl
       (refine awp_sr fun Y Yh => ?_; simp [go_sem, b0, hz, hn']; ((repeat' (first|(refine ag_false ?_ ?_ ?_;(focus (simp [go_sem, undef, b0, hz, hn'];done));(focus (simp [go_sem];done));simp [go_sem, b0, hz, hn'])|(refine ag_true ?_ ?_;(focus (simp [go_sem, undef, b0, hz, hn'];done));simp [go_sem, b0, hz, hn'])|(refine ag_x ?_;simp [go_sem, undef, b0, hz, hn'])|intro _|apply And.intro|(apply Yh;clear Yh Y)));all_goals first|apply Hold.mk|omega|with_reducible assumption|skip))
       (refine awp_if fun T F hT hF => ?_; simp [go_sem, b0, hz, hn']; refine hF ?_; clear hT hF T F)
       (refine awp_sr fun Y Yh => ?_; simp [go_sem, b0, hz]; ((repeat' (first|(refine ag_x ?_;simp [go_sem, b0, hz])|intro _|apply And.intro|(apply Yh;clear Yh Y)));all_goals first|apply Hold.mk|omega|with_reducible assumption|skip))
       (refine awp_if fun T F hT hF => ?_; simp [go_sem, b0, hz]; refine hT ?_; clear hT hF T F)
       (refine awp_r fun Y Yh => ?_; simp [go_sem]; ((repeat' (first|(refine ag_x ?_;simp [go_sem])|intro _|apply And.intro|(apply Yh;clear Yh Y)));all_goals first|apply Hold.mk|omega|with_reducible assumption|skip))
       refine tl10 nd (ot + 1) _ (by omega) hx ?_
       (refine cov_of ?_ ?_ <;> simp [go_sem])
      ·rw [if_pos ⟨hz, hn⟩, if_neg (fun q => hn q.2)] at hx
       have hn' : f.nm.isEmpty = false := by
        cases hq : f.nm with
        | nil => exact absurd hq hn
        | cons _ _ => rfl
       (refine awp_sr fun Y Yh => ?_; simp [go_sem, b0, hz, hn']; ((repeat' (first|(refine ag_false ?_ ?_ ?_;(focus (simp [go_sem, undef, b0, hz, hn'];done));(focus (simp [go_sem];done));simp [go_sem, b0, hz, hn'])|(refine ag_true ?_ ?_;(focus (simp [go_sem, undef, b0, hz, hn'];done));simp [go_sem, b0, hz, hn'])|(refine ag_x ?_;simp [go_sem, undef, b0, hz, hn'])|intro _|apply And.intro|(apply Yh;clear Yh Y)));all_goals first|apply Hold.mk|omega|with_reducible assumption|skip))
       (refine awp_if fun T F hT hF => ?_; simp [go_sem, b0, hz, hn']; refine hT ?_; clear hT hF T F)
       (refine awp_r fun Y Yh => ?_; simp [go_sem]; ((repeat' (first|(refine ag_x ?_;simp [go_sem])|intro _|apply And.intro|(apply Yh;clear Yh Y)));all_goals first|apply Hold.mk|omega|with_reducible assumption|skip))
       refine tl10 (nd + 1) ot _ (by omega) hx ?_
       (refine cov_of ?_ ?_ <;> simp [go_sem])
   ·rw [if_neg hf] at hC hx
    (refine awp_sr fun Y Yh => ?_; simp [go_sem]; ((repeat' (first|(refine ag_x ?_;simp [go_sem])|intro _|apply And.intro|(apply Yh;clear Yh Y)));all_goals first|apply Hold.mk|omega|with_reducible assumption|skip))
    ((try refine CallT.toA ?_); refine callT_m (.inl ⟨rfl,rfl⟩) (by simp [go_sem]) ?_; intro args ha; simp [go_sem] at ha; subst ha; refine ⟨_, hC, ?_⟩; rintro _ rfl; simp [go_sem]; ((repeat' (first|(refine ag_x ?_;simp [go_sem])|intro _|apply And.intro|(apply Yh;clear Yh Y)));all_goals first|apply Hold.mk|omega|with_reducible assumption|skip))
    (refine awp_sr fun Y Yh => ?_; simp [go_sem]; ((repeat' (first|(refine ag_x ?_;simp [go_sem])|intro _|apply And.intro|(apply Yh;clear Yh Y)));all_goals first|apply Hold.mk|omega|with_reducible assumption|skip))
    (refine awp_sr fun Y Yh => ?_; simp [go_sem]; ((repeat' (first|(refine ag_x ?_;simp [go_sem])|intro _|apply And.intro|(apply Yh;clear Yh Y)));all_goals first|apply Hold.mk|omega|with_reducible assumption|skip))
    refine awp_seq_k fun K6 hK6 => ?_
    (refine awp_sr fun Y Yh => ?_; simp [go_sem]; ((repeat' (first|(refine ag_x ?_;simp [go_sem])|intro _|apply And.intro|(apply Yh;clear Yh Y)));all_goals first|apply Hold.mk|omega|with_reducible assumption|skip))
    (refine awp_if fun T F hT hF => ?_; simp [go_sem]; refine hT ?_; clear hT hF T F)
    refine awp_exit ?_
    simp only [go_sem]
    rename_i gq
    refine tl3 (L ++ [txF s]) nd ot gq _ hx.symm ?_
    (refine cov_of ?_ ?_ <;> simp [go_sem, txF])
def rfillsV (args : List Ag) : List Rf → Nat → Bs → Bs × Nat × Nat
 | [], u, out => (out, u, 0)
 | f :: L, u, out =>
  let q := oneV args u f
  if q.2.1 ≠ 0 then ([], 0, q.2.1) else
  if 100000 < (out ++ q.1).length then ([], 0, 1) else rfillsV args L q.2.2 (out ++ q.1)
theorem fills_app (args : List Ag) (M : List Fld) (f : Fld) (u : Nat) (out : Bs) : fillsV args (f :: M) u out = if (fillV args u f).2.1 ≠ 0 then ([], 0, (fillV args u f).2.1) else if 100000 < (out ++ (fillV args u f).1).length then ([], 0, 1) else fillsV args M (fillV args u f).2.2 (out ++ (fillV args u f).1) := rfl
theorem rfills_same (args : List Ag) : ∀ (L : List Rf) (u : Nat) (out : Bs), out.length ≤ 100000 → rfillsV args L u out = fillsV args (convL L) u out
 | [], u, out, _ => rfl
 | f :: L, u, out, h => by
  have e : convL (f :: L) = conv1 f ++ convL L := by simp [convL]
  rw [e]
  unfold rfillsV
  by_cases h0 : f.lt = 0
  ·have h1 : oneV args u f = (f.by', 0, u) := by unfold oneV; rw [if_pos h0]
   rw [h1]
   have z : ¬ ((0 : Nat) ≠ 0) := fun q => q rfl
   simp only [if_neg z]
   unfold conv1
   rw [if_pos h0]
   by_cases hb : f.by' = []
   ·rw [if_pos hb, hb, List.append_nil, List.nil_append, if_neg (by omega)]
    exact rfills_same args L u out h
   ·rw [if_neg hb]
    show _ = fillsV args (fdT f.by' :: convL L) u out
    rw [fills_app]
    have h2 : fillV args u (fdT f.by') = (f.by', 0, u) := by unfold fillV; rw [if_pos (show (fdT f.by').lt = 0 from rfl)]; rfl
    rw [h2]
    simp only [if_neg z]
    by_cases hc : 100000 < (out ++ f.by').length
    ·rw [if_pos hc, if_pos hc]
    ·rw [if_neg hc, if_neg hc]
     exact rfills_same args L u _ (by omega)
  ·have h1 : oneV args u f = fillV args u (toFd f) := by unfold oneV; rw [if_neg h0]
   rw [h1]
   unfold conv1
   rw [if_neg h0]
   show _ = fillsV args (toFd f :: convL L) u out
   rw [fills_app]
   simp only
   by_cases he : (fillV args u (toFd f)).2.1 ≠ 0
   ·rw [if_pos he, if_pos he]
   ·rw [if_neg he, if_neg he]
    by_cases hc : 100000 < (out ++ (fillV args u (toFd f)).1).length
    ·rw [if_pos hc, if_pos hc]
    ·rw [if_neg hc, if_neg hc]
     exact rfills_same args L _ _ (by omega)
theorem runV_r (form : Bs) (args : List Ag) : runV form args = match rReadV form with
  | none => ([], 0, 4)
  | some (L, a, b) => if 0 < a ∧ 0 < b then ([], 0, 4) else rfillsV args L 0 [] := by
 unfold runV
 rw [readV_same]
 cases rReadV form with
 | none => rfl
 | some q =>
  obtain ⟨L, a, b⟩ := q
  simp only
  by_cases h : 0 < a ∧ 0 < b
  ·simp only [endV, if_pos h]
  ·simp only [endV, if_neg h]
   rw [rfills_same args L 0 [] (by simp)]
theorem size_okI {m : Int} (hm : -1 ≤ m ∧ m ≤ 1000) {s : Bs} (h : (sizeV m s).2.1 = true) : (sizeV m s).1 = -2 ∨ (-1 ≤ (sizeV m s).1 ∧ (sizeV m s).1 ≤ 1000) := by
 unfold sizeV at h ⊢
 split
 ·exact .inl rfl
 ·rename_i h1
  rw [if_neg h1] at h
  split
  ·exact .inr hm
  ·rename_i h2
   rw [if_neg h2] at h
   simp only [decide_eq_true_eq] at h
   right
   simp only
   omega
theorem rfield_ok {s t : Bs} {f : Rf} (h : rfieldV s = some (f, t)) : RfOk f := by
 rw [rfield_rest] at h
 split at h
 ·cases h
 ·rename_i nm s1 _
  unfold restV at h
  have hw := size_okI (m := -1) (by omega) (s := s1.dropWhile isFl)
  generalize sizeV (-1) (s1.dropWhile isFl) = w at *
  by_cases h1 : w.2.1 = false
  ·simp only [if_pos h1] at h
   cases h
  ·simp only [if_neg h1] at h
   have hpo : (if pk w.2.2 = 46 then sizeV 0 w.2.2.tail else (-1, true, w.2.2)).2.1 = true → (if pk w.2.2 = 46 then sizeV 0 w.2.2.tail else (-1, true, w.2.2)).1 = -2 ∨ (-1 ≤ (if pk w.2.2 = 46 then sizeV 0 w.2.2.tail else (-1, true, w.2.2)).1 ∧ (if pk w.2.2 = 46 then sizeV 0 w.2.2.tail else (-1, true, w.2.2)).1 ≤ 1000) := by
    by_cases h46 : pk w.2.2 = 46
    ·rw [if_pos h46]
     exact size_okI (by omega)
    ·rw [if_neg h46]
     intro _
     right
     simp
   generalize (if pk w.2.2 = 46 then sizeV 0 w.2.2.tail else (-1, true, w.2.2)) = p at *
   by_cases h2 : p.2.1 = false
   ·simp only [if_pos h2] at h
    cases h
   ·simp only [if_neg h2] at h
    split at h
    ·rename_i hc
     cases h
     exact ⟨hw (by simpa using h1), hpo (by simpa using h2), .inr hc.2.1⟩
    ·cases h
theorem rfield_by {s t : Bs} {f : Rf} (h : rfieldV s = some (f, t)) : f.by' = [] := by
 rw [rfield_rest] at h
 split at h
 ·cases h
 ·rename_i nm s1 _
  unfold restV at h
  have hw := size_okI (m := -1) (by omega) (s := s1.dropWhile isFl)
  generalize sizeV (-1) (s1.dropWhile isFl) = w at *
  by_cases h1 : w.2.1 = false
  ·simp only [if_pos h1] at h
   cases h
  ·simp only [if_neg h1] at h
   have hpo : (if pk w.2.2 = 46 then sizeV 0 w.2.2.tail else (-1, true, w.2.2)).2.1 = true → (if pk w.2.2 = 46 then sizeV 0 w.2.2.tail else (-1, true, w.2.2)).1 = -2 ∨ (-1 ≤ (if pk w.2.2 = 46 then sizeV 0 w.2.2.tail else (-1, true, w.2.2)).1 ∧ (if pk w.2.2 = 46 then sizeV 0 w.2.2.tail else (-1, true, w.2.2)).1 ≤ 1000) := by
    by_cases h46 : pk w.2.2 = 46
    ·rw [if_pos h46]
     exact size_okI (by omega)
    ·rw [if_neg h46]
     intro _
     right
     simp
   generalize (if pk w.2.2 = 46 then sizeV 0 w.2.2.tail else (-1, true, w.2.2)) = p at *
   by_cases h2 : p.2.1 = false
   ·simp only [if_pos h2] at h
    cases h
   ·simp only [if_neg h2] at h
    split at h
    ·rename_i hc
     cases h
     rfl
    ·cases h
theorem rread_ok : ∀ (k : Nat) (s : Bs) (out L : List Rf) (nd ot a b : Nat), rReadF k s out nd ot = some (L, a, b) → (∀ f ∈ out, RfOk f) → out.length + 2 * s.length ≤ 1000000 → (∀ f ∈ L, RfOk f) ∧ L.length ≤ 1000000 := by
 intro k
 induction k with
 | zero => intro s out L nd ot a b h; simp [rReadF] at h
 | succ k ih =>
  intro s out L nd ot a b h hn hsz
  have ht : ∀ t, RfOk (txF t) := fun _ => ⟨.inr (by simp [txF]), .inr (by simp [txF]), .inl rfl⟩
  have hb : ∀ t, RfOk (byF t) := fun _ => ⟨.inr (by simp [byF]), .inr (by simp [byF]), .inl rfl⟩
  rw [rReadF] at h
  split at h
  ·cases h; exact ⟨hn, by omega⟩
  ·rename_i hs
   have hpos : 0 < s.length := List.length_pos_iff.2 hs
   simp only at h
   split at h
   ·cases h
    refine ⟨fun f hf => ?_, by rw [List.length_append]; simp; omega⟩
    rcases List.mem_append.1 hf with hf | hf
    ·exact hn f hf
    ·rw [List.mem_singleton] at hf; subst hf; exact ht _
   ·rename_i hlt
    have hdl : (s.drop (s.findIdx (· == 37) + 1)).length = s.length - (s.findIdx (· == 37) + 1) := List.length_drop
    split at h
    ·refine ih _ _ _ _ _ _ _ h (fun f hf => ?_) ?_
     ·simp only [List.mem_append, List.mem_singleton] at hf
      rcases hf with (hf | rfl) | rfl
      ·exact hn f hf
      ·exact ht _
      ·exact hb _
     ·simp only [List.length_append, List.length_cons, List.length_nil, List.length_tail]; omega
    ·split at h
     ·cases h
     ·rename_i f r hr
      have hl := (rfield_lt hr).2
      refine ih _ _ _ _ _ _ _ h (fun f' hf => ?_) ?_
      ·simp only [List.mem_append, List.mem_singleton] at hf
       rcases hf with (hf | rfl) | rfl
       ·exact hn f' hf
       ·exact ht _
       ·exact rfield_ok hr
      ·simp only [List.length_append, List.length_cons, List.length_nil]; omega
theorem rReadV_ok {form : Bs} {L : List Rf} {a b : Nat} (h : rReadV form = some (L, a, b)) : (∀ f ∈ L, RfOk f) ∧ L.length ≤ 1000000 := by
 unfold rReadV at h
 split at h
 ·cases h
 ·exact rread_ok _ _ _ _ _ _ _ _ h (by simp) (by simp; omega)
end Go.Proofs.YtelhdhofnohkcaaGreatDoor
set_option linter.unusedSectionVars false
namespace Go.Eng
variable {P : Program} [HasGlob P]
structure RowFrm (w w' : World) (v : Value) : Prop where
 os : w'.os = w.os
 tape : w'.tape = w.tape
 output : w'.output = w.output
 size : w.heap.size ≤ w'.heap.size
 rest : ∀ k, k < w.heap.size → v.ownBlock ≠ some k → w'.heap[k]? = w.heap[k]?
variable {P : Program} [HasGlob P] {n : Nat} {S : St} {Q : Exit → St → Prop}
theorem awp_renmap {c : Code} (t s' : Nat) {s g : Nat} {es : List (Value × D)} (hl : look S.slots t = some (.own s g)) (hx : look S.heap s = some (g, .map es)) (h9 : 900000 ≤ s → 900000 ≤ s')
  (h : ∀ g', AWp P n c (((S.drop s).hput s' g' (.map es)).put t (.own s' g')) Q) : AWp P n c S Q := by
 intro w0 B C0 C a w E I
 obtain ⟨g', C', u, I', hu, hv, ext⟩ := I.rename hx rfl s' h9
 obtain ⟨x, hx1, hr⟩ := I.slots t _ hl
 refine h g' E (Inv.reslot I' (d := .own s g) hl fun v hv' => ?_)
 cases hv' with
 | own _ _ _ h1 h2 =>
  have := ext.val _ _ _ hu
  rw [h1] at this
  simp only [Option.some.injEq] at this
  subst this
  exact .own _ _ _ hv h2
end Go.Eng
set_option linter.unusedSectionVars false
namespace Go.Eng
variable {P : Program} [HasGlob P] {n : Nat} {S : St} {Q : Exit → St → Prop}
end Go.Eng
set_option linter.unusedSectionVars false
namespace Go.Eng
variable {P : Program} [HasGlob P]
end Go.Eng
set_option linter.unusedSectionVars false
namespace Go.Eng
variable {P : Program} [HasGlob P]
/-! results that hold an own row inside a struct of one cell, and such structs as arguments -/
def frzDG (ss : List Nat) (S : St) (d : D) (k : St → D → Prop) : Prop :=
 match d with
 | .agg [.own s g] => if ss.contains s then k S (.agg [.own s g]) else frzDA ss S (.agg [.own s g]) k
 | d => frzDA ss S d k
def frzDsG (ss : List Nat) : St → List D → (St → List D → Prop) → Prop
 | S, [], k => k S []
 | S, d :: ds, k => frzDG ss S d fun S' d' => frzDsG ss S' ds fun S'' ds' => k S'' (d' :: ds')
def retG (P : Program) (rs : List ResultVar) (tys : List TypeId) (ss : List Nat) (R : List (Nat × Blk) → D → Prop) : Exit → St → Prop
 | .normal, S | .ret, S => resL P S rs fun ds => frzDsG ss S ds fun S' ds' => postK S' ss fun ps => R ps (pack (nilDs P tys ds'))
 | _, _ => False
section
variable {w0 w : World} {B : Nat → Nat → Prop} {C0 C : Ctx} {n : Nat} {a : Act} {S : St}
end
theorem callA_e {S : St} {df : D} {f : FuncId} {caps ds : List D} {tys : List TypeId} {k : St → D → Prop} (ss : List Nat) (hf : FunD df f caps)
  (h : ∀ args, ds ++ caps = args → ∃ es R, ACall P f args es ss R ∧ covL S.heap es ∧ ∀ ps r, ps.length = ss.length → R ps r → k (putPs S ss ps) r) : CallA P df ds tys S k := by
 obtain ⟨es, R, h, hes, hR⟩ := h _ rfl
 intro w0 B C0 n C a w us uf E I hr hu
 obtain ⟨cs, rfl, hcs⟩ := hf.rep hu
 refine ⟨f, cs, rfl, h.1, ?_⟩
 have hes' : ∀ s g x, look es s = some (g, x) → look S.heap s = some (g, x) ∧ 900000 ≤ s ∧ notFroz x = true ∧ s ∈ ss := fun s g x hx => by
  have hm := h.2.1 _ (look_mem hx)
  exact ⟨covL_ok hes s _ hx, hm⟩
 refine (h.2.2 C w (us ++ cs.toList) I.ctxOk (E.now I) (hr.append hcs) (fun s g b hb => I.heap s g b (hes' s g b hb).1)).mono ?_
 rintro e w' ⟨u, r, ps, C', rfl, hRr, hru, hok, ext, hp, hm, he, hl, hd, hfrm⟩
 exact ⟨u, r, _, C', rfl, hR ps r hp.1 hRr, hru, I.afterL hes' ext hok hp hm he hl hd hfrm⟩
attribute [go_sem] retG frzDsG frzDG
end Go.Eng
set_option linter.unusedSectionVars false
namespace Go.Eng
variable {P : Program} [HasGlob P]
end Go.Eng
set_option linter.unusedSectionVars false
namespace Go.Eng
variable {P : Program} [HasGlob P] {n : Nat} {S : St} {Q : Exit → St → Prop}
section
variable {w0 : World} {B : Nat → Nat → Prop} {C0 : Ctx} {C : Ctx} {a : Act} {w : World}
end
end Go.Eng
set_option linter.unusedSectionVars false
namespace Go.Eng
variable {P : Program} [HasGlob P]
section
variable {n : Nat} {S : St}
theorem ag_mkifc {ops : List Oper} {dst : Option Nat} {t ty : TypeId} {x : Operand} {pos : String} {after : Array Edge} {K : St → Prop} (hd : dstOk n dst) (hc : P.concrete t = true)
  (h : evK true S x fun d => K (S.set dst (.ifc t d))) : AG P n ops ⟨dst, .makeInterface t x, ty, pos, after, none⟩ S K := by
 intro w0 B C0 C a w E I N Q hN
 by_cases hw : Region.wanted (⟨dst, .makeInterface t x, ty, pos, after, none⟩ : Oper) (yielded ops.toArray a.tmps) = true
 ·rw [if_pos hw]
  obtain ⟨d, hk, hr⟩ := evK_ok I h
  refine wp_val (u := .iface t (a.eval x)) (w' := w) ?_ (hN _ _ ⟨_, C, hk, I.set (dstOk_spec hd) (.ifc _ _ _ (hr rfl))⟩)
  simp [execOp, run_makeInterface w t (a.eval x) hc]
 ·exact absurd (by simp [Region.wanted]) hw
theorem ag_invoke {ops : List Oper} {dst : Option Nat} {x : Operand} {name : String} {args : Array Operand} {tys : Array TypeId} {ty : TypeId} {pos : String} {after : Array Edge} {K : St → Prop} (f : FuncId) (t : TypeId) (hd : dstOk n dst)
  (hm : ∀ (v : Value) (w : World), (method (P.types.size + Made.depth) t v name).run P w = .ok (f, v) w)
  (h : evK true S x fun dx => ∃ d, dx = .ifc t d ∧ evsK true S args.toList fun ds => CallA P (.v (.func (.func f) #[] #[])) (d :: ds) tys.toList S fun S' r => K (S'.set dst r)) :
  AG P n ops ⟨dst, .call { callee := .invoke x name, args := args, argTypes := tys }, ty, pos, after, none⟩ S K := by
 intro w0 B C0 C a w E I N Q hN
 have hw : Region.wanted (⟨dst, .call { callee := .invoke x name, args := args, argTypes := tys }, ty, pos, after, none⟩ : Oper) (yielded ops.toArray a.tmps) = true := by simp [Region.wanted]
 rw [if_pos hw]
 obtain ⟨dx, ⟨d, rfl, hds⟩, hx⟩ := evK_ok I h
 obtain ⟨ds, hK, hlen, hr⟩ := evsK_ok I hds
 have hx := hx rfl
 generalize hux : a.eval x = ux at hx
 cases hx with
 | ifc _ _ u hu =>
 let us := args.toList.map a.eval
 have hrep : RepL C w (d :: ds) (u :: us) := by
  refine ⟨by simp [us, hlen], fun j d' u' hd' hu' => ?_⟩
  cases j with
  | zero => simp at hd' hu'; subst hd'; subst hu'; exact hu
  | succ j =>
   simp only [List.getElem?_cons_succ] at hd' hu'
   simp only [us, List.getElem?_map] at hu'
   cases hx' : args.toList[j]? with
   | none => rw [hx'] at hu'; cases hu'
   | some x' =>
    rw [hx'] at hu'
    simp only [Option.map_some, Option.some.injEq] at hu'
    subst hu'
    exact hr rfl j x' d' hx' hd'
 obtain ⟨f', cs, hfe, hok, hcall⟩ := hK (u :: us) _ E I hrep (.v _)
 obtain ⟨rfl, rfl⟩ : f = f' ∧ cs = #[] := by
  simp only [Value.func.injEq, Fn.func.injEq] at hfe
  exact ⟨hfe.1, hfe.2.2.symm⟩
 obtain ⟨fn, h1, h2, h3⟩ := hok
 have hrun : (execOp a.eval ⟨dst, .call { callee := .invoke x name, args := args, argTypes := tys }, ty, pos, after, none⟩).run P w = .ok (.enter f ((u :: us) ++ (#[] : Array Value).toList).toArray) w := by
  have hp : (program : Sem Program).run P w = .ok P w := run_program ..
  have e0 : (#[Value.iface t u] ++ Array.map a.eval args)[0]? = some (.iface t u) := by rw [Array.getElem?_append_left (by simp)]; rfl
  have e1 : (#[u] ++ (#[Value.iface t u] ++ Array.map a.eval args).extract 1 (#[Value.iface t u] ++ Array.map a.eval args).size) = ((u :: us) ++ (#[] : Array Value).toList).toArray := by
   apply Array.ext'
   simp [us, List.take_of_length_le]
  simp only [execOp, resolve, Sem.run_bind, Sem.run_pure, Result.andThen_ok, invoke, hux]
  rw [e0]
  simp only [callMethod, Sem.run_bind, hp, Result.andThen_ok, hm, callFunc, e1, h1]
  simp [h2, h3]
 unfold Oper.wp
 rw [hrun]
 refine hcall.mono ?_
 rintro e w' ⟨u', r, S', C', rfl, hk, hru, I'⟩
 exact hN _ _ ⟨_, C', hk, I'.set (dstOk_spec hd) hru⟩
end
variable {P : Program} [HasGlob P]
section
variable {n : Nat} {S : St}
theorem ag_nileq {ops : List Oper} {dst : Option Nat} {op : BinOp} {t ty e : TypeId} {x : Operand} {pos : String} {after : Array Edge} {K : St → Prop} (b : Bool) (hd : dstOk n dst) (he : P.underlying t = some (.slice e)) (hop : op = .eql ∧ b = true ∨ op = .neq ∧ b = false)
  (h : evK true S x fun d => d = .v (.slice none 0 0)) (hk : K (S.set dst (.v (.bool b)))) : AG P n ops ⟨dst, .binOp op t x (.const (.slice none 0 0)) t, ty, pos, after, none⟩ S K := by
 intro w0 B C0 C a w E I N Q hN
 have hw : Region.wanted (⟨dst, .binOp op t x (.const (.slice none 0 0)) t, ty, pos, after, none⟩ : Oper) (yielded ops.toArray a.tmps) = true := by
  rcases hop with ⟨rfl, _⟩ | ⟨rfl, _⟩ <;> simp [Region.wanted]
 rw [if_pos hw]
 obtain ⟨d, rfl, hr⟩ := evK_ok I h
 have hxu := (hr rfl).v_inv
 have hyu : a.eval (.const (.slice none 0 0)) = .slice none 0 0 := rfl
 refine wp_val (u := .bool b) (w' := w) ?_ (hN _ _ ⟨_, C, hk, I.set (dstOk_spec hd) (.v _)⟩)
 rcases hop with ⟨rfl, rfl⟩ | ⟨rfl, rfl⟩
 ·have hr := (bin_nil (x := x) (y := .const (.slice none 0 0)) he none 0 0 w).1
  simp only [execOp, hxu, hyu, Sem.run_bind] at hr ⊢
  rw [hr]
  simp
 ·have hr := (bin_nil (x := x) (y := .const (.slice none 0 0)) he none 0 0 w).2
  simp only [execOp, hxu, hyu, Sem.run_bind] at hr ⊢
  rw [hr]
  simp
end
end Go.Eng
set_option linter.unusedSectionVars false
namespace Go.Eng
variable {P : Program} [HasGlob P]
/-! contracts with lent memory that are proved by hand -/
def act0 : Act := { tmps := #[], defers := [] }
theorem Inv.start {C : Ctx} {w : World} {es : List (Nat × (Nat × Blk))} (hc : CtxOk C w) (hent : ∀ s g b, look es s = some (g, b) → HRep C w s g b) (h9 : ∀ p ∈ es, 900000 ≤ p.1) : Inv w (LentB es) C 0 ⟨[], es⟩ C act0 w := by
 refine ⟨rfl, rfl, fun k d hk => by simp [look] at hk, fun s g b hb => hent s g b hb, fun s g b x u hx _ hv hbk => .inr ⟨⟨s, g, u, ⟨x, hx⟩, hv, hbk⟩, h9 _ (look_mem hx)⟩, hc.apart, hc.bound, hc.fresh, Frm.refl _ _, fun _ _ _ h => h, fun _ _ h => h, fun _ _ _ _ h _ => h,
   fun s g x y hx _ => ⟨x, hx⟩, fun _ _ _ _ h => h, fun s g u b h1 h2 h3 => hc.bound s g u b h1 h2 h3⟩
theorem Env.start {C : Ctx} {w : World} {es : List (Nat × (Nat × Blk))} (hg : GlobOk P C w) (hent : ∀ s g b, look es s = some (g, b) → HRep C w s g b) (hn : ∀ p ∈ es, notFroz p.2.2 = true) : Env P w (LentB es) C :=
 ⟨hg, fun s g ⟨x, hx⟩ => ((hent s g x hx).liveOf (hn _ (look_mem hx))).1⟩
section
variable {w0 : World} {B : Nat → Nat → Prop} {C0 : Ctx} {n : Nat} {S : St} {C : Ctx} {a : Act} {w : World}
theorem Inv.cellSet (I : Inv w0 B C0 n S C a w) {s g b j : Nat} {cs : List D} {v : Value} (hx : look S.heap s = some (g, .box cs)) (hv : C.val s g = some (.pointer (some ⟨b, 0, none⟩))) (h1 : v.oneCell' = true) :
  Inv w0 B C0 n (S.hput s g (.box (cs.set j (.v v)))) C a (w.setCell ⟨b, j, none⟩ v) := by
 obtain ⟨b', arr, ty, q1, q2, q3, q4, q5⟩ := I.heap s g _ hx
 rw [hv] at q1
 simp only [Option.some.injEq, Value.pointer.injEq, Addr.mk.injEq, and_true] at q1
 subst q1
 have hb : (w.setCell ⟨b, j, none⟩ v).heap[b]? = some (.cells (arr.setIfInBounds j v) ty (0, 0)) := by
  simp only [World.setCell, Array.getElem?_modify, q3]
  simp
 refine (I.write (w' := w.setCell ⟨b, j, none⟩ v) (x' := .box (cs.set j (.v v))) hx hv q2 rfl (fun k hk => ?_) (by simp [World.setCell]) rfl rfl rfl (fun e => ⟨b, _, ty, hv, q2, hb, by simp [q4], fun i c u hi hu => ?_⟩)).1
 ·simp only [World.setCell, Array.getElem?_modify]
  rw [if_neg (Ne.symm hk)]
 ·rw [List.getElem?_set] at hi
  rw [Array.getElem?_setIfInBounds] at hu
  by_cases hij : j = i
  ·subst hij
   rw [if_pos rfl] at hi hu
   split at hi
   ·simp only [Option.some.injEq] at hi
    split at hu
    ·simp only [Option.some.injEq] at hu
     subst hi hu
     exact ⟨.v _, h1⟩
    ·cases hu
   ·cases hi
  ·rw [if_neg hij] at hi hu
   obtain ⟨r1, r2⟩ := q5 i c u hi hu
   exact ⟨r1.mono e, r2⟩
theorem Inv.drew (I : Inv w0 B C0 n S C a w) : Inv w0 B C0 n S C a w.drew := I.quiet rfl rfl rfl rfl
theorem Inv.boxCell (I : Inv w0 B C0 n S C a w) {s g j : Nat} {cs : List D} {x : Value} (hx : look S.heap s = some (g, .box cs)) (hj : cs[j]? = some (.v x)) {b : Nat} (hv : C.val s g = some (.pointer (some ⟨b, 0, none⟩))) :
  w.cell? ⟨b, j, none⟩ = some x ∧ w.frozen? ⟨b, j, none⟩ = false := by
 obtain ⟨b', arr, ty, q1, q2, q3, q4, q5⟩ := I.heap s g _ hx
 rw [hv] at q1
 simp only [Option.some.injEq, Value.pointer.injEq, Addr.mk.injEq, and_true] at q1
 subst q1
 have hlt : j < arr.size := by rw [q4]; exact (List.getElem?_eq_some_iff.1 hj).1
 obtain ⟨r1, r2⟩ := q5 j _ arr[j] hj (Array.getElem?_eq_getElem hlt)
 have e := r1.v_inv
 refine ⟨?_, ?_⟩
 ·simp [World.cell?, q3, e, hlt]
 ·simp [World.frozen?, q3]
end
theorem Inv.finish {C : Ctx} {w w' : World} {es : List (Nat × (Nat × Blk))} {ss : List Nat} {ps : List (Nat × Blk)} {C' : Ctx} {S' : St} {a : Act} {n : Nat} (hc : CtxOk C w) (hent : ∀ s g b, look es s = some (g, b) → HRep C w s g b)
  (hn : ∀ p ∈ es, notFroz p.2.2 = true) (I2 : Inv w (LentB es) C n S' C' a w') (hpl : ps.length = ss.length) (hpost : ∀ (j : Nat) s p, ss[j]? = some s → ps[j]? = some p → look S'.heap s = some p ∧ notFroz p.2 = true) :
  CtxOk C' w' ∧ Ext C w C' w' ∧ Posts C' w' ss ps ∧
   (∀ (j : Nat) s p u b, ss[j]? = some s → ps[j]? = some p → C'.val s p.1 = some u → blk u = some b → w.heap.size ≤ b ∨ (bB C (LentB es) b ∧ 900000 ≤ s)) ∧
   (∀ (j : Nat) s p y, ss[j]? = some s → ps[j]? = some p → C.val s p.1 = some y → LentB es s p.1) ∧
   (∀ s g x, C.val s g = some x → ¬ LentB es s g → C'.live s g = C.live s g) ∧ (∀ s g x, C.val s g = some x → C'.live s g = true → C.live s g = true) ∧
   Frm w (bB C (LentB es)) w' := by
 have hlive : ∀ s g, LentB es s g → C.live s g = true := fun s g ⟨x, hx⟩ => ((hent s g x hx).liveOf (hn _ (look_mem hx))).1
 refine ⟨⟨I2.apart, I2.bound, I2.fresh⟩, ⟨I2.old, I2.owned, fun b hb hno => I2.frame.block b hb (fun ⟨s, g, v, q1, q2, q3⟩ => hno ⟨s, g, v, q2, hlive s g q1, q3⟩), I2.frame.size⟩,
   ⟨hpl, fun j s p h1 h2 => ⟨I2.heap s p.1 p.2 (hpost j s p h1 h2).1, (hpost j s p h1 h2).2⟩⟩, fun j s p v b h1 h2 h3 h4 => ?_, fun j s p y h1 h2 h3 => I2.ents s p.1 p.2 y (hpost j s p h1 h2).1 h3, fun s g x hx hnl => ?_, fun s g x h1 h2 => I2.dead0 s g x h1 h2, I2.frame⟩
 ·obtain ⟨q1, q2⟩ := hpost j s p h1 h2
  exact I2.mine s p.1 b p.2 v q1 ((I2.heap _ _ _ q1).liveOf q2).1 h3 h4
 ·by_cases hl : C.live s g = true
  ·rw [hl]; exact I2.kept s g x hx hl hnl
  ·rw [Bool.not_eq_true] at hl
   rw [hl, Bool.eq_false_iff]
   intro q
   rw [I2.dead0 s g x hx q] at hl
   cases hl
variable {P : Program} [HasGlob P]
section
variable {n : Nat} {S : St}
theorem ag_mkmethod {ops : List Oper} {dst : Option Nat} {f : FuncId} {ty : TypeId} {x : Operand} {pos : String} {after : Array Edge} {K : St → Prop} (hd : dstOk n dst)
  (h : evK true S x fun d => K (S.set dst (.mfn f d))) : AG P n ops ⟨dst, .makeFunc (.func f) #[x] #[], ty, pos, after, none⟩ S K := by
 intro w0 B C0 C a w E I N Q hN
 by_cases hw : Region.wanted (⟨dst, .makeFunc (.func f) #[x] #[], ty, pos, after, none⟩ : Oper) (yielded ops.toArray a.tmps) = true
 ·rw [if_pos hw]
  obtain ⟨d, hk, hr⟩ := evK_ok I h
  refine wp_val (u := .func (.func f) #[a.eval x] #[]) (w' := w) ?_ (hN _ _ ⟨_, C, hk, I.set (dstOk_spec hd) (.mfn _ _ _ (hr rfl))⟩)
  simp [execOp, Instr.makeFunc]
 ·exact absurd (by simp [Region.wanted]) hw
end
end Go.Eng
set_option linter.unusedSectionVars false
namespace Go.Eng
open Go.RowKit
variable {P : Program} [HasGlob P]
theorem acall_below {f : FuncId} {args : List D} {es : List (Nat × (Nat × Blk))} {R : D → Prop} (hf : FnOk P f) (hes : ∀ p ∈ es, 900000 ≤ p.1 ∧ notFroz p.2.2 = true) (hnd : ∀ p ∈ es, look es p.1 = some p.2)
  (h : ∀ (C : Ctx) (w : World) (us : List Value), CtxOk C w → HasGlob.ok P w → RepL C w args us → (∀ s g b, look es s = some (g, b) → HRep C w s g b) → Calls P f us.toArray w fun e w' => ∃ u r, e = .returned u ∧ R r ∧ Rep C w' r u ∧ Below w.heap.size w w') :
  ACall P f args es (es.map (·.1)) fun ps r => ps = es.map (·.2) ∧ R r := by
 refine ⟨hf, fun p hp => ⟨(hes p hp).1, (hes p hp).2, List.mem_map.2 ⟨p, hp, rfl⟩⟩, fun C w us hc hg hr hent => ?_⟩
 refine (h C w us hc hg.1 hr hent).mono ?_
 rintro e w' ⟨u, r, rfl, h1, h2, hb⟩
 have I := Inv.start hc hent fun p hp => (hes p hp).1
 have hk : CtxOk C w' := ⟨hc.apart, fun s g u b h1 h2 h3 => Nat.lt_of_lt_of_le (hc.bound s g u b h1 h2 h3) hb.size, hc.fresh⟩
 have ext : Ext C w C w' := ⟨fun _ _ _ h => h, fun _ _ h => h, fun b hlt _ => hb.block b hlt, hb.size⟩
 have I2 := I.after ext hk (fun _ _ _ _ => rfl) ⟨hb.os, hb.tape, hb.output, hb.size, fun b hlt _ => hb.block b hlt⟩
 refine ⟨u, r, es.map (·.2), C, rfl, ⟨rfl, h1⟩, h2, ?_⟩
 refine Inv.finish (ss := es.map (·.1)) (ps := es.map (·.2)) hc hent (fun p hp => (hes p hp).2) I2 (by simp) fun j s p q1 q2 => ?_
 simp only [List.getElem?_map, Option.map_eq_some_iff] at q1 q2
 obtain ⟨x, hx, rfl⟩ := q1
 obtain ⟨y, hy, rfl⟩ := q2
 rw [hx] at hy
 cases hy
 have hm := List.mem_of_getElem? hx
 exact ⟨hnd x hm, (hes x hm).2⟩
end Go.Eng
set_option linter.unusedSectionVars false
namespace Go.Eng
open Go.RowKit
variable {P : Program} [HasGlob P]
section
variable {w0 : World} {B : Nat → Nat → Prop} {C0 : Ctx} {n : Nat} {S : St} {C : Ctx} {a : Act} {w : World}
def bytesR (bs : List UInt8) : List (List D) := bs.map fun c => [D.v (.int .u8 (c.toNat : Int))]
theorem appstr_own (I : Inv w0 B C0 n S C a w) {t u ty e : TypeId} (hs : slOf P t = some (e, 1, 1)) (hz : (P.info? e).bind (·.zero) = some (.int .u8 0)) (hu : P.underlying u = some .string) {s g : Nat} {es : List (List D)} {bs : List UInt8} {v : Value}
  (hlk : look S.heap s = some (g, .row e 1 es)) (hv : C.val s g = some v) (hb : es.length + bs.length ≤ 140737488355328) :
  ∃ v' w' g' C', (Builtin.append_ #[t, u] ty #[v, .string ⟨bs.toArray⟩]).run P w = .ok v' w' ∧ C'.val s g' = some v' ∧ v'.oneCell' = true ∧ Inv w0 B C0 n (S.hput s g' (.row e 1 (es ++ bytesR bs))) C' a w' := by
 obtain ⟨inf, q1, q2, q3, q4⟩ := slOf_spec hs
 rw [q2] at hz
 simp only [Option.bind_some] at hz
 obtain ⟨u', xs, hv', hl, hown, hk, hall⟩ := I.heap s g _ hlk
 rw [hv] at hv'
 simp only [Option.some.injEq] at hv'
 subst hv'
 have hsz : (⟨bs.toArray⟩ : ByteArray).size = bs.length := by simp [ByteArray.size]
 obtain ⟨v', w', hrun, hown', hg, hnil⟩ := Lib.run_append_own_string (P := P) w 0 t u ty e inf q1 hu q2 hz q3 q4 v es.length xs hown ⟨bs.toArray⟩ (by rw [hsz]; simp only [maxLen]; omega) (by rw [hsz]; omega) (Nat.zero_le _)
 obtain ⟨ao, cap, hus, _⟩ := ownsRow_slice hown
 obtain ⟨ao2, cap2, hvs, _⟩ := ownsRow_slice hown'
 have hat : v'.ownBlock = v.ownBlock ∨ v'.ownBlock = some w.heap.size := by
  rcases hown.2 with ⟨h1, h2⟩ | ⟨gb, cp, cur, h1, h2, h3, h4, h5, h6, h7⟩
  ·by_cases hm : bs.length = 0
   ·left
    rw [hnil.2 ⟨h1, by rw [hsz]; exact hm⟩, h1]
   ·right
    rw [h1] at hrun
    rw [run_append_nil_string (P := P) w t u ty e inf (.int .u8 0) q1 hu q2 hz ⟨bs.toArray⟩ (by rw [hsz]; omega) (by rw [hsz]; omega) (by rw [hsz, q4]; omega)] at hrun
    simp only [Result.ok.injEq] at hrun
    rw [← hrun.1]; rfl
  ·by_cases hroom : es.length + bs.length ≤ cp
   ·left
    rw [h1] at hrun
    rw [Lib.run_append_room_string (P := P) w t u ty e inf q1 hu q2 q3 gb es.length cp cur h3 ⟨bs.toArray⟩ (by rw [hsz]; exact hroom) (by rw [hsz]; omega)] at hrun
    simp only [Result.ok.injEq] at hrun
    rw [← hrun.1, h1]; rfl
   ·right
    have holds : ∀ j u, xs[j]? = some u → w.cell? ((⟨gb, 0, none⟩ : Addr).add j) = some u := hown.cells (g := gb) (by rw [h1]; rfl)
    rw [h1] at hrun
    rw [Lib.run_append_grow_string (P := P) w t u ty e inf (.int .u8 0) q1 hu q2 hz ⟨gb, 0, none⟩ es.length cp xs (by rw [q3]; exact hown.1) holds ⟨bs.toArray⟩ (by rw [hsz]; omega) (by rw [hsz]; omega) (by rw [hsz, q4]; exact growslice_fits (by omega) (by omega))] at hrun
    simp only [Result.ok.injEq] at hrun
    rw [← hrun.1]; rfl
 have hcells : Lib.strCells ⟨bs.toArray⟩ = bs.map fun b => Value.int .u8 (b.toNat : Int) := by simp [Lib.strCells]
 rw [hcells, hsz] at hown'
 obtain ⟨g', C', I', hv', e'⟩ := I.regrow (v' := v') (x' := .row e 1 (es ++ bytesR bs)) hlk hv hl (blk_own hus) (blk_own hvs) hg hat (fun k hk' => (hown'.lt k hk').2) (fun C' g' ex hv hl =>
   ⟨v', xs ++ bs.map fun b => Value.int .u8 (b.toNat : Int), hv, hl, by rw [List.length_append]; simpa [bytesR] using hown', fun x hx => by
    rcases List.mem_append.1 hx with h | h
    ·exact hk x h
    ·obtain ⟨c, _, rfl⟩ := List.mem_map.1 h; rfl, append_cells ex hown.1 hk (fun x hx => by obtain ⟨c, _, rfl⟩ := List.mem_map.1 hx; rfl) hall (fun i j e' c x h1 h2 h3 => by
     simp only [bytesR, List.getElem?_map, Option.map_eq_some_iff] at h1
     obtain ⟨b, hb1, rfl⟩ := h1
     match j, h2 with
     | 0, h2 =>
      simp at h2
      subst h2
      simp only [Nat.mul_one, Nat.add_zero, List.getElem?_map, hb1, Option.map_some, Option.some.injEq] at h3
      subst h3
      exact .v _
     | j + 1, h2 => simp at h2) (fun x hx => by obtain ⟨c, _, rfl⟩ := List.mem_map.1 hx; rfl)⟩)
 exact ⟨v', w', g', C', hrun, hv', by subst hvs; rfl, I'⟩
end
section
variable {n : Nat} {S : St}
theorem ag_appstr {ops : List Oper} {t' : Nat} {t u e ty : TypeId} {x y : Operand} {pos : String} {after : Array Edge} {K : St → Prop} {s g : Nat} {es : List (List D)} {bs : List UInt8} (hd : t' < n) (hs : slOf P t = some (e, 1, 1)) (hz : (P.info? e).bind (·.zero) = some (.int .u8 0)) (hu : P.underlying u = some .string)
  (hx : evK true S x fun d => d = .own s g) (hy : evK true S y fun d => d = .v (.string ⟨bs.toArray⟩)) (hrow : look S.heap s = some (g, .row e 1 es)) (hb : es.length + bs.length ≤ 140737488355328)
  (hk : ∀ g', K ((S.hput s g' (.row e 1 (es ++ bytesR bs))).put t' (.own s g'))) :
  AG P n ops ⟨some t', .call { callee := .builtin .append, args := #[x, y], argTypes := #[t, u] }, ty, pos, after, none⟩ S K := by
 intro w0 B C0 C a w E I N Q hN
 have hw : Region.wanted (⟨some t', .call { callee := .builtin .append, args := #[x, y], argTypes := #[t, u] }, ty, pos, after, none⟩ : Oper) (yielded ops.toArray a.tmps) = true := by simp [Region.wanted]
 rw [if_pos hw]
 obtain ⟨d, rfl, hrx⟩ := evK_ok I hx
 obtain ⟨dy, rfl, hry⟩ := evK_ok I hy
 have hyv := (hry rfl).v_inv
 have hrx := hrx rfl
 generalize hX : a.eval x = ux at hrx
 cases hrx with
 | own _ _ _ hv _ =>
  obtain ⟨v', w', g', C', hrun, hv', ho1, I'⟩ := appstr_own (ty := ty) I hs hz hu hrow hv hb
  refine wp_val (u := v') (w' := w') ?_ (hN _ _ ⟨_, C', hk g', I'.put hd (.own s g' _ hv' ho1)⟩)
  simp [execOp, resolve, invoke, builtin, hX, hyv, hrun]
end
end Go.Eng
namespace Go.Proofs.YtelhdhofnohkcaaGreatDoor
open Go.Eng Go.Fm
set_option maxRecDepth 20000
attribute [local irreducible] AG CallA CallT AWp PCall ACall AgC
theorem bytesR_app (a b : Bs) : bytesR (a ++ b) = bytesR a ++ bytesR b := by simp [bytesR]
theorem bytesR_len (a : Bs) : (bytesR a).length = a.length := by simp [bytesR]
theorem bytesR_D (a : Bs) : bytesD (bytesR a) = some a := bytesD_map a
theorem rfills_at {args : List Ag} {L : List Rf} {i : Nat} {f : Rf} (h : L[i]? = some f) (u : Nat) (out : Bs) :
  rfillsV args (L.drop i) u out = if (oneV args u f).2.1 ≠ 0 then ([], 0, (oneV args u f).2.1) else
   if 100000 < (out ++ (oneV args u f).1).length then ([], 0, 1) else rfillsV args (L.drop (i + 1)) (oneV args u f).2.2 (out ++ (oneV args u f).1) := by
 have hlt := (List.getElem?_eq_some_iff.1 h).1
 have e : L.drop i = f :: L.drop (i + 1) := by
  rw [List.drop_eq_getElem_cons hlt]
  rw [List.getElem?_eq_getElem hlt] at h
  simp at h; rw [h]
 rw [e, rfillsV]
theorem one_le {args : List Ag} {u : Nat} (h : u ≤ args.length) (f : Rf) : (oneV args u f).2.2 ≤ args.length := by
 unfold oneV
 split
 ·exact h
 ·exact fill_le h _
theorem one_len {args : List Ag} {u : Nat} {f : Rf} (hA : AgsOk args) (hf : RfOk f) (hb : f.by'.length ≤ 2000) : (oneV args u f).1.length ≤ 3000000 := by
 unfold oneV
 split
 ·simp only; omega
 ·rename_i h0
  exact fill_len hA ⟨⟨hf.1, hf.2.1⟩, hf.2.2, by simp [toFd]⟩
theorem read_by : ∀ (k : Nat) (s : Bs) (out L : List Rf) (nd ot a b : Nat), rReadF k s out nd ot = some (L, a, b) → s.length ≤ 2000 → (∀ f ∈ out, f.by'.length ≤ 2000) → ∀ f ∈ L, f.by'.length ≤ 2000 := by
 intro k
 induction k with
 | zero => intro s out L nd ot a b h; simp [rReadF] at h
 | succ k ih =>
  intro s out L nd ot a b h hsz hn
  rw [rReadF] at h
  split at h
  ·cases h; exact hn
  ·simp only at h
   split at h
   ·cases h
    intro f hf
    rcases List.mem_append.1 hf with hf | hf
    ·exact hn f hf
    ·rw [List.mem_singleton] at hf; subst hf; exact hsz
   ·have hdl : (s.drop (s.findIdx (· == 37) + 1)).length = s.length - (s.findIdx (· == 37) + 1) := List.length_drop
    have htl : (txF (s.take (s.findIdx (· == 37)))).by'.length ≤ 2000 := by
     show (s.take (s.findIdx (· == 37))).length ≤ 2000
     rw [List.length_take]; omega
    split at h
    ·refine ih _ _ _ _ _ _ _ h (by rw [List.length_tail]; omega) fun f hf => ?_
     simp only [List.mem_append, List.mem_singleton] at hf
     rcases hf with (hf | rfl) | rfl
     ·exact hn f hf
     ·exact htl
     ·simp [byF]
    ·split at h
     ·cases h
     ·rename_i f r hr
      have hl := (rfield_lt hr).2
      have hfb : f.by' = [] := rfield_by hr
      refine ih _ _ _ _ _ _ _ h (by omega) fun f' hf => ?_
      simp only [List.mem_append, List.mem_singleton] at hf
      rcases hf with (hf | rfl) | rfl
      ·exact hn f' hf
      ·exact htl
      ·rw [hfb]; simp
theorem rReadV_by {form : Bs} {L : List Rf} {a b : Nat} (h : rReadV form = some (L, a, b)) : ∀ f ∈ L, f.by'.length ≤ 2000 := by
 unfold rReadV at h
 split at h
 ·cases h
 ·exact read_by _ _ _ _ _ _ _ _ h (by omega) (by simp)
set_option maxHeartbeats 16000000 in
theorem filling_spec (form : Bs) (args : List Ag) (hA : AgsOk args) (hfl : form.length ≤ 9223372036854775807) : PCall Tryz.prog 42 [dS form, dAs args] fun r => r = .tup [dS (runV form args).1, dI (runV form args).2.1, dI (runV form args).2.2] := by 
 refine pcall_of Tryz.func42 rfl rfl Tryz.ntmps42 (rs := [.tmp 4, .tmp 5, .tmp 6]) (tys := [9, 3, 34]) rfl rfl (by simp) ?_
 have hR := rread_spec form hfl
 have hal := hA.1
 rw [runV_r]
 cases hr : rReadV form with
 | none =>
  rw [hr] at hR
  simp only [rrR] at hR
  simp only
  (refine awp_sr fun Y Yh => ?_; simp [go_sem]; ((repeat' (first|(refine ag_x ?_;simp [go_sem])|intro _|apply And.intro|(apply Yh;clear Yh Y)));all_goals first|apply Hold.mk|omega|with_reducible assumption|skip))
  (refine awp_sr fun Y Yh => ?_; simp [go_sem]; ((repeat' (first|(refine ag_x ?_;simp [go_sem])|intro _|apply And.intro|(apply Yh;clear Yh Y)));all_goals first|apply Hold.mk|omega|with_reducible assumption|skip))
  ((try refine CallT.toA ?_); refine callT_m (.inl ⟨rfl,rfl⟩) (by simp [go_sem]) ?_; intro args ha; simp [go_sem] at ha; subst ha; refine ⟨_, hR, ?_⟩; rintro _ rfl; simp [go_sem]; ((repeat' (first|(refine ag_x ?_;simp [go_sem])|intro _|apply And.intro|(apply Yh;clear Yh Y)));all_goals first|apply Hold.mk|omega|with_reducible assumption|skip))
  refine awp_seq_k fun K1 hK1 => ?_
  (refine awp_sr fun Y Yh => ?_; simp [go_sem]; ((repeat' (first|(refine ag_x ?_;simp [go_sem])|intro _|apply And.intro|(apply Yh;clear Yh Y)));all_goals first|apply Hold.mk|omega|with_reducible assumption|skip))
  (refine awp_if fun T F hT hF => ?_; simp [go_sem]; refine hT ?_; clear hT hF T F)
  (refine awp_sr fun Y Yh => ?_; simp [go_sem]; ((repeat' (first|(refine ag_x ?_;simp [go_sem])|intro _|apply And.intro|(apply Yh;clear Yh Y)));all_goals first|apply Hold.mk|omega|with_reducible assumption|skip))
  (refine awp_ret ?_; simp [go_sem])
 | some q =>
  obtain ⟨L, a, b⟩ := q
  obtain ⟨hok, hLl⟩ := rReadV_ok hr
  have hby := rReadV_by hr
  rw [hr] at hR
  simp only [rrR] at hR
  simp only
  by_cases hab : 0 < a ∧ 0 < b
  ·have hb : (decide (a = 0) || decide (b = 0)) = false := by
    rw [Bool.or_eq_false_iff, decide_eq_false_iff_not, decide_eq_false_iff_not]; omega
   rw [hb] at hR
   rw [if_pos hab]
   (refine awp_sr fun Y Yh => ?_; simp [go_sem]; ((repeat' (first|(refine ag_x ?_;simp [go_sem])|intro _|apply And.intro|(apply Yh;clear Yh Y)));all_goals first|apply Hold.mk|omega|with_reducible assumption|skip))
   (refine awp_sr fun Y Yh => ?_; simp [go_sem]; ((repeat' (first|(refine ag_x ?_;simp [go_sem])|intro _|apply And.intro|(apply Yh;clear Yh Y)));all_goals first|apply Hold.mk|omega|with_reducible assumption|skip))
   ((try refine CallT.toA ?_); refine callT_m (.inl ⟨rfl,rfl⟩) (by simp [go_sem]) ?_; intro args ha; simp [go_sem] at ha; subst ha; refine ⟨_, hR, ?_⟩; rintro _ rfl; simp [go_sem]; ((repeat' (first|(refine ag_x ?_;simp [go_sem])|intro _|apply And.intro|(apply Yh;clear Yh Y)));all_goals first|apply Hold.mk|omega|with_reducible assumption|skip))
   refine awp_seq_k fun K1 hK1 => ?_
   (refine awp_sr fun Y Yh => ?_; simp [go_sem]; ((repeat' (first|(refine ag_x ?_;simp [go_sem])|intro _|apply And.intro|(apply Yh;clear Yh Y)));all_goals first|apply Hold.mk|omega|with_reducible assumption|skip))
   (refine awp_if fun T F hT hF => ?_; simp [go_sem]; refine hT ?_; clear hT hF T F)
   (refine awp_sr fun Y Yh => ?_; simp [go_sem]; ((repeat' (first|(refine ag_x ?_;simp [go_sem])|intro _|apply And.intro|(apply Yh;clear Yh Y)));all_goals first|apply Hold.mk|omega|with_reducible assumption|skip))
   (refine awp_ret ?_; simp [go_sem])
  ·have hb : (decide (a = 0) || decide (b = 0)) = true := by
    rw [Bool.or_eq_true, decide_eq_true_eq, decide_eq_true_eq]; omega
   rw [hb] at hR
   rw [if_neg hab]
   generalize decide (0 < a) = nb at *
   generalize hV : rfillsV args L 0 [] = V
   (refine awp_sr fun Y Yh => ?_; simp [go_sem]; ((repeat' (first|(refine ag_x ?_;simp [go_sem])|intro _|apply And.intro|(apply Yh;clear Yh Y)));all_goals first|apply Hold.mk|omega|with_reducible assumption|skip))
   (refine awp_sr fun Y Yh => ?_; simp [go_sem]; ((repeat' (first|(refine ag_x ?_;simp [go_sem])|intro _|apply And.intro|(apply Yh;clear Yh Y)));all_goals first|apply Hold.mk|omega|with_reducible assumption|skip))
   ((try refine CallT.toA ?_); refine callT_m (.inl ⟨rfl,rfl⟩) (by simp [go_sem]) ?_; intro args ha; simp [go_sem] at ha; subst ha; refine ⟨_, hR, ?_⟩; rintro _ rfl; simp [go_sem]; ((repeat' (first|(refine ag_x ?_;simp [go_sem])|intro _|apply And.intro|(apply Yh;clear Yh Y)));all_goals first|apply Hold.mk|omega|with_reducible assumption|skip))
   refine awp_seq_k fun K1 hK1 => ?_
   (refine awp_sr fun Y Yh => ?_; simp [go_sem]; ((repeat' (first|(refine ag_x ?_;simp [go_sem])|intro _|apply And.intro|(apply Yh;clear Yh Y)));all_goals first|apply Hold.mk|omega|with_reducible assumption|skip))
   (refine awp_if fun T F hT hF => ?_; simp [go_sem]; refine hF ?_; clear hT hF T F)
   refine awp_skip ?_
   refine hK1 _ ?_; clear hK1
   (refine awp_sr fun Y Yh => ?_; simp [go_sem]; ((repeat' (first|(refine ag_x ?_;simp [go_sem])|intro _|apply And.intro|(apply Yh;clear Yh Y)));all_goals first|apply Hold.mk|omega|with_reducible assumption|skip))
   refine awp_nilslot 10 10 5 1 rfl fun go => ?_
   simp only [go_sem]
   (refine awp_sr fun Y Yh => ?_; simp [go_sem]; ((repeat' (first|(refine ag_x ?_;simp [go_sem])|intro _|apply And.intro|(apply Yh;clear Yh Y)));all_goals first|apply Hold.mk|omega|with_reducible assumption|skip))
   refine awp_renbox 11 900006 rfl rfl (by decide) fun g => ?_
   simp only [go_sem]
   refine awp_seq_k fun K3 hK3 => ?_
   (refine awp_sr fun Y Yh => ?_; simp [go_sem]; ((repeat' (first|(refine ag_x ?_;simp [go_sem])|intro _|apply And.intro|(apply Yh;clear Yh Y)));all_goals first|apply Hold.mk|omega|with_reducible assumption|skip))
   refine awp_block ?_
   refine awp_loop (σ := Nat × Bs × Nat × Nat) (fun x => ⟨[(1, dAs args), (7, dRfs L), (10, .own 10 x.2.2.2), (11, .ptr 900006 g 0), (12, dI x.1)], [usB g x.2.2.1, (10, (x.2.2.2, .row 5 1 (bytesR x.2.1)))]⟩)
    (fun x => x.1 ≤ L.length ∧ x.2.1.length ≤ 100000 ∧ x.2.2.1 ≤ args.length ∧ rfillsV args (L.drop x.1) x.2.2.1 x.2.1 = V) (fun x => L.length - x.1) (0, [], 0, go) ?_ ?_ ?_
   ·(refine cov_of ?_ ?_ <;> simp [go_sem, bytesR])
   ·exact ⟨by simp, by simp, by simp, by simpa using hV⟩
   rintro ⟨i, out, u, go⟩ ⟨hi, ho, hu, hx⟩
   simp only at hi ho hu hx ⊢
   refine awp_seq_k fun K4 hK4 => ?_
   (refine awp_sr fun Y Yh => ?_; simp [go_sem]; ((repeat' (first|(refine ag_x ?_;simp [go_sem])|intro _|apply And.intro|(apply Yh;clear Yh Y)));all_goals first|apply Hold.mk|omega|with_reducible assumption|skip))
   by_cases hend : i < L.length
   ·(refine awp_if fun T F hT hF => ?_; simp [go_sem, hend]; refine hT ?_; clear hT hF T F)
    refine awp_skip ?_
    refine hK4 _ ?_; clear hK4
    obtain ⟨f, hf⟩ : ∃ f, L[i]? = some f := ⟨_, List.getElem?_eq_getElem hend⟩
    have hfm := List.mem_of_getElem? hf
    rw [rfills_at hf] at hx
    have hfle := one_le hu f
    have hflen := one_len (u := u) hA (hok f hfm) (hby f hfm)
    have hFd := one_spec args u g f hA hu (hok f hfm)
    generalize oneV args u f = q at *
    obtain ⟨t, e, u'⟩ := q
    simp only at hx hfle hflen hFd
    refine awp_seq_k fun K6 hK6 => ?_
    refine awp_block ?_
    (refine awp_sr fun Y Yh => ?_; simp [go_sem, hf]; ((repeat' (first|(refine ag_x ?_;simp [go_sem, hf])|intro _|apply And.intro|(apply Yh;clear Yh Y)));all_goals first|apply Hold.mk|omega|with_reducible assumption|skip))
    (refine callA_l [900006] (.inl ⟨rfl,rfl⟩) (by simp [go_sem]) ?_; intro args ha; simp [go_sem] at ha; subst ha; refine ⟨_, _, hFd, (by simp [go_sem]), ?_⟩; rintro ps r hps ⟨rfl, rfl⟩; simp [go_sem]; ((repeat' (first|(refine ag_x ?_;simp [go_sem])|intro _|apply And.intro|(apply Yh;clear Yh Y)));all_goals first|apply Hold.mk|omega|with_reducible assumption|skip))
    refine awp_seq_k fun K7 hK7 => ?_
    (refine awp_sr fun Y Yh => ?_; simp [go_sem]; ((repeat' (first|(refine ag_x ?_;simp [go_sem])|intro _|apply And.intro|(apply Yh;clear Yh Y)));all_goals first|apply Hold.mk|omega|with_reducible assumption|skip))
    by_cases he : e = 0
    ·subst he
     rw [if_neg (fun q => q rfl)] at hx
     (refine awp_if fun T F hT hF => ?_; simp [go_sem]; refine hF ?_; clear hT hF T F)
     refine awp_skip ?_
     refine hK7 _ ?_; clear hK7
     refine awp_seq ?_
     refine awp_ags ?_
     simp only [AGs]
     refine ag_true rfl ?_
     simp [go_sem]
     refine ag_true rfl ?_
     simp [go_sem]
     refine ag_appstr (t := 68) (u := 9) (e := 5) (s := 10) (g := go) (es := bytesR out) (bs := t) (by decide) (by kernel_rfl) (by kernel_rfl) Tryz.underlying9 (by simp [go_sem]) (by simp [go_sem]) (by simp [go_sem]) (by rw [bytesR_len]; omega) fun go' => ?_
     rw [← bytesR_app]
     simp [go_sem]
     refine ag_true rfl ?_
     simp [go_sem]
     (refine awp_sr fun Y Yh => ?_; simp [go_sem, bytesR_len]; ((repeat' (first|(refine ag_x ?_;simp [go_sem, bytesR_len])|intro _|apply And.intro|(apply Yh;clear Yh Y)));all_goals first|apply Hold.mk|omega|with_reducible assumption|skip))
     have hlz : (out ++ t).length = out.length + t.length := List.length_append
     by_cases h1 : 100000 < (out ++ t).length
     ·rw [if_pos h1] at hx
      subst hx
      have h1' : (100000 : Int) < (out.length : Int) + t.length := by omega
      (refine awp_if fun T F hT hF => ?_; simp [go_sem, h1']; refine hT ?_; clear hT hF T F)
      (refine awp_sr fun Y Yh => ?_; simp [go_sem]; ((repeat' (first|(refine ag_x ?_;simp [go_sem])|intro _|apply And.intro|(apply Yh;clear Yh Y)));all_goals first|apply Hold.mk|omega|with_reducible assumption|skip))
      (refine awp_ret ?_; simp [go_sem])
     ·rw [if_neg h1] at hx
      have h1' : ¬ (100000 : Int) < (out.length : Int) + t.length := by omega
      (refine awp_if fun T F hT hF => ?_; simp [go_sem, h1']; refine hF ?_; clear hT hF T F)
      refine awp_skip ?_
      refine hK6 _ ?_; clear hK6
      (refine awp_r fun Y Yh => ?_; simp [go_sem]; ((repeat' (first|(refine ag_x ?_;simp [go_sem])|intro _|apply And.intro|(apply Yh;clear Yh Y)));all_goals first|apply Hold.mk|omega|with_reducible assumption|skip))
      refine ⟨(i + 1, out ++ t, u', go'), ?_, ⟨by simp only; omega, by simp only; omega, hfle, hx⟩, by simp only; omega⟩
      (refine cov_of ?_ ?_ <;> simp [go_sem])
    ·rw [if_pos he] at hx
     subst hx
     (refine awp_if fun T F hT hF => ?_; simp [go_sem, he]; refine hT ?_; clear hT hF T F)
     (refine awp_sr fun Y Yh => ?_; simp [go_sem]; ((repeat' (first|(refine ag_x ?_;simp [go_sem])|intro _|apply And.intro|(apply Yh;clear Yh Y)));all_goals first|apply Hold.mk|omega|with_reducible assumption|skip))
     (refine awp_ret ?_; simp [go_sem])
   ·have hi2 : i = L.length := by omega
    subst hi2
    rw [List.drop_length] at hx
    unfold rfillsV at hx
    subst hx
    have hD := bytesR_D out
    (refine awp_if fun T F hT hF => ?_; simp [go_sem]; refine hF ?_; clear hT hF T F)
    refine awp_exit ?_
    simp only [go_sem]
    refine hK3 _ ?_; clear hK3
    ((refine awp_dr (.qs [0] (.kq 2 (.one 1 (.qs [3, 4, 5] (.nil))) 1 (.qs [2, 3, 4, 5] (.nil)))) (by kernel_rfl) ?_ ?_ ?_ ?_); (kernel_rfl); (exact (by decide +kernel)); (kernel_rfl); intro Y Yh; ((repeat' (first|(refine ag_x ?_;simp [go_sem, hD])|refine adr_nil ?_|refine adr_kq ?_ ?_|((first|refine adr_qs fun Y Yh=>?_|refine adr_y fun Y Yh=>?_);simp [go_sem, hD])|intro _|apply And.intro|(apply Yh;clear Yh Y)));all_goals first|apply Hold.mk|omega|with_reducible assumption|skip))
    all_goals (refine awp_ret ?_; simp [go_sem])
end Go.Proofs.YtelhdhofnohkcaaGreatDoor
namespace Go.Fm
/-! the names of a format -/
def addK (ks : List (List UInt8)) (s : List UInt8) : List (List UInt8) := if s = [] ∨ s ∈ ks then ks else ks ++ [s]
def insS (s : List UInt8) : List (List UInt8) → List (List UInt8)
 | [] => [s]
 | x :: r => if x = s then x :: r else if s < x then s :: x :: r else x :: insS s r
def withV (l : List (List UInt8)) (s : List UInt8) : List (List UInt8) := if s = [] then l else insS s l
theorem addK_inv {ks : List (List UInt8)} {s : List UInt8} (h : ks.Nodup) : (addK ks s).Nodup ∧ ∀ x, x ∈ addK ks s ↔ x ∈ ks ∨ (x = s ∧ s ≠ []) := by
 unfold addK
 split
 ·rename_i hc
  refine ⟨h, fun x => ⟨.inl, ?_⟩⟩
  rintro (q | ⟨rfl, q⟩)
  ·exact q
  ·rcases hc with hc | hc
   ·exact absurd hc q
   ·exact hc
 ·rename_i hc
  rw [not_or] at hc
  refine ⟨?_, fun x => ?_⟩
  ·rw [List.nodup_append]
   refine ⟨h, by simp, fun a ha b hb => ?_⟩
   rw [List.mem_singleton] at hb
   subst hb
   intro q
   subst q
   exact hc.2 ha
  ·simp [hc.1]
theorem tri (a b : List UInt8) (h1 : a ≠ b) (h2 : ¬ b < a) : a < b := by
 rcases Classical.em (a < b) with h | h
 ·exact h
 ·exact absurd (List.le_antisymm (List.not_lt.1 h2) (List.not_lt.1 h)) h1
theorem insS_mem (s : List UInt8) : ∀ (l : List (List UInt8)) (x : List UInt8), x ∈ insS s l ↔ x ∈ l ∨ x = s
 | [], x => by simp [insS]
 | y :: r, x => by
  unfold insS
  split
  ·rename_i h
   subst h
   simp only [List.mem_cons]
   constructor
   ·exact .inl
   ·rintro (h | rfl)
    ·exact h
    ·exact .inl rfl
  ·split
   ·simp only [List.mem_cons]
    constructor
    ·rintro (h | h | h)
     ·exact .inr h
     ·exact .inl (.inl h)
     ·exact .inl (.inr h)
    ·rintro ((h | h) | h)
     ·exact .inr (.inl h)
     ·exact .inr (.inr h)
     ·exact .inl h
   ·simp only [List.mem_cons, insS_mem s r x]
    constructor
    ·rintro (h | h | h)
     ·exact .inl (.inl h)
     ·exact .inl (.inr h)
     ·exact .inr h
    ·rintro ((h | h) | h)
     ·exact .inl h
     ·exact .inr (.inl h)
     ·exact .inr (.inr h)
theorem insS_asc (s : List UInt8) : ∀ {l : List (List UInt8)}, l.Pairwise (· < ·) → (insS s l).Pairwise (· < ·)
 | [], _ => by simp [insS]
 | y :: r, h => by
  rw [List.pairwise_cons] at h
  unfold insS
  split
  ·rw [List.pairwise_cons]; exact h
  ·rename_i hne
   split
   ·rename_i hlt
    rw [List.pairwise_cons]
    refine ⟨fun x hx => ?_, by rw [List.pairwise_cons]; exact h⟩
    rcases List.mem_cons.1 hx with rfl | hx
    ·exact hlt
    ·exact List.lt_trans hlt (h.1 x hx)
   ·rename_i hlt
    rw [List.pairwise_cons]
    refine ⟨fun x hx => ?_, insS_asc s h.2⟩
    rcases (insS_mem s r x).1 hx with hx | rfl
    ·exact h.1 x hx
    ·exact tri _ _ hne hlt
theorem withV_inv {l : List (List UInt8)} {s : List UInt8} (h : l.Pairwise (· < ·)) : (withV l s).Pairwise (· < ·) ∧ ∀ x, x ∈ withV l s ↔ x ∈ l ∨ (x = s ∧ s ≠ []) := by
 unfold withV
 split
 ·rename_i hs
  exact ⟨h, fun x => ⟨.inl, fun q => q.resolve_right fun q => q.2 hs⟩⟩
 ·rename_i hs
  exact ⟨insS_asc s h, fun x => by rw [insS_mem]; simp [hs]⟩
theorem names_two (ns ms : List (List UInt8)) (h : ∀ x, x ≠ [] → (x ∈ ns ↔ x ∈ ms)) :
  (ns.foldl addK []).mergeSort (fun x y => decide (x ≤ y)) = ms.foldl withV [] := by
 have hK : ∀ (ns ks : List (List UInt8)), ks.Nodup → (ns.foldl addK ks).Nodup ∧ ∀ x, x ∈ ns.foldl addK ks ↔ x ∈ ks ∨ (x ∈ ns ∧ x ≠ []) := by
  intro ns
  induction ns with
  | nil => intro ks h; exact ⟨h, fun x => by simp⟩
  | cons s r ih =>
   intro ks h
   obtain ⟨h1, h2⟩ := addK_inv (s := s) h
   obtain ⟨h3, h4⟩ := ih _ h1
   refine ⟨h3, fun x => ?_⟩
   rw [List.foldl_cons, h4, h2, List.mem_cons]
   constructor
   ·rintro ((q | ⟨rfl, q⟩) | ⟨q1, q2⟩)
    ·exact .inl q
    ·exact .inr ⟨.inl rfl, q⟩
    ·exact .inr ⟨.inr q1, q2⟩
   ·rintro (q | ⟨rfl | q1, q2⟩)
    ·exact .inl (.inl q)
    ·exact .inl (.inr ⟨rfl, q2⟩)
    ·exact .inr ⟨q1, q2⟩
 have hW : ∀ (ns ks : List (List UInt8)), ks.Pairwise (· < ·) → (ns.foldl withV ks).Pairwise (· < ·) ∧ ∀ x, x ∈ ns.foldl withV ks ↔ x ∈ ks ∨ (x ∈ ns ∧ x ≠ []) := by
  intro ns
  induction ns with
  | nil => intro ks h; exact ⟨h, fun x => by simp⟩
  | cons s r ih =>
   intro ks h
   obtain ⟨h1, h2⟩ := withV_inv (s := s) h
   obtain ⟨h3, h4⟩ := ih _ h1
   refine ⟨h3, fun x => ?_⟩
   rw [List.foldl_cons, h4, h2, List.mem_cons]
   constructor
   ·rintro ((q | ⟨rfl, q⟩) | ⟨q1, q2⟩)
    ·exact .inl q
    ·exact .inr ⟨.inl rfl, q⟩
    ·exact .inr ⟨.inr q1, q2⟩
   ·rintro (q | ⟨rfl | q1, q2⟩)
    ·exact .inl (.inl q)
    ·exact .inl (.inr ⟨rfl, q2⟩)
    ·exact .inr ⟨q1, q2⟩
 obtain ⟨k1, k2⟩ := hK ns [] (by simp)
 obtain ⟨w1, w2⟩ := hW ms [] (by simp)
 have hp : (ns.foldl addK []).Perm (ms.foldl withV []) := by
  refine (List.perm_ext_iff_of_nodup k1 (w1.imp fun q e => ?_)).2 fun x => ?_
  ·subst e; exact absurd q (List.lt_irrefl _)
  ·rw [k2, w2]
   constructor
   ·rintro (q | ⟨q1, q2⟩)
    ·exact .inl q
    ·exact .inr ⟨(h x q2).1 q1, q2⟩
   ·rintro (q | ⟨q1, q2⟩)
    ·exact .inl q
    ·exact .inr ⟨(h x q2).2 q1, q2⟩
 have tr : ∀ a b c : List UInt8, decide (a ≤ b) = true → decide (b ≤ c) = true → decide (a ≤ c) = true := fun a b c h1 h2 => by simp only [decide_eq_true_eq] at *; exact List.le_trans h1 h2
 have tot : ∀ a b : List UInt8, (decide (a ≤ b) || decide (b ≤ a)) = true := fun a b => by simp only [Bool.or_eq_true, decide_eq_true_eq]; exact List.le_total a b
 have e : (ms.foldl withV []).mergeSort (fun x y => decide (x ≤ y)) = ms.foldl withV [] := List.mergeSort_of_pairwise (w1.imp fun q => by simp only [decide_eq_true_eq]; exact List.le_of_lt q)
 rw [← e]
 refine List.Perm.eq_of_pairwise (le := fun a b => decide (a ≤ b) = true) (fun a b _ _ h1 h2 => ?_) (List.pairwise_mergeSort tr tot _) (List.pairwise_mergeSort tr tot _) (((List.mergeSort_perm _ _).trans hp).trans (List.mergeSort_perm _ _).symm)
 simp only [decide_eq_true_eq] at h1 h2
 exact List.le_antisymm h1 h2
theorem read_nm : ∀ (k : Nat) (s : List UInt8) (out L : List Rf) (nd ot a b : Nat), rReadF k s out nd ot = some (L, a, b) → (∀ f ∈ out, f.lt = 0 → f.nm = []) → ∀ f ∈ L, f.lt = 0 → f.nm = [] := by
 intro k
 induction k with
 | zero => intro s out L nd ot a b h; simp [rReadF] at h
 | succ k ih =>
  intro s out L nd ot a b h hn
  have hb : ∀ t, (byF t).nm = [] := fun _ => rfl
  rw [rReadF] at h
  split at h
  ·cases h; exact hn
  ·simp only at h
   split at h
   ·cases h
    intro f hf _
    rcases List.mem_append.1 hf with hf | hf
    ·exact hn f hf ‹_›
    ·rw [List.mem_singleton] at hf; subst hf; rfl
   ·split at h
    ·refine ih _ _ _ _ _ _ _ h fun f hf h0 => ?_
     simp only [List.mem_append, List.mem_singleton] at hf
     rcases hf with (hf | rfl) | rfl
     ·exact hn f hf h0
     ·rfl
     ·rfl
    ·split at h
     ·cases h
     ·rename_i f r hr
      have hl := (rfield_lt hr).1
      refine ih _ _ _ _ _ _ _ h fun f' hf h0 => ?_
      simp only [List.mem_append, List.mem_singleton] at hf
      rcases hf with (hf | rfl) | rfl
      ·exact hn f' hf h0
      ·rfl
      ·exact absurd h0 hl
theorem conv_nm {L : List Rf} (h : ∀ f ∈ L, f.lt = 0 → f.nm = []) (x : List UInt8) (hx : x ≠ []) : x ∈ (convL L).map (·.nm) ↔ x ∈ L.map (·.nm) := by
 induction L with
 | nil => simp [convL]
 | cons f L ih =>
  have e : convL (f :: L) = conv1 f ++ convL L := by simp [convL]
  rw [e, List.map_append, List.mem_append, ih fun g hg => h g (by simp [hg]), List.map_cons, List.mem_cons]
  have : x ∈ (conv1 f).map (·.nm) ↔ x = f.nm := by
   unfold conv1
   split
   ·rename_i h0
    have hf := h f (by simp) h0
    split
    ·rw [hf]; simp [hx]
    ·rw [hf]; simp [hx, fdT]
   ·simp [toFd]
  rw [this]
def namesV (form : List UInt8) : List (List UInt8) × Nat := match readV form with
 | none => ([], 4)
 | some L => (((L.map (·.nm)).foldl addK []).mergeSort (fun x y => decide (x ≤ y)), 0)
def rnamesV (form : List UInt8) : List (List UInt8) × Nat := match rReadV form with
 | none => ([], 4)
 | some (L, a, b) => if 0 < a ∧ 0 < b then ([], 4) else ((L.map (·.nm)).foldl withV [], 0)
theorem names_same (form : List UInt8) : namesV form = rnamesV form := by
 unfold namesV rnamesV
 rw [readV_same]
 cases hr : rReadV form with
 | none => rfl
 | some q =>
  obtain ⟨L, a, b⟩ := q
  by_cases h : 0 < a ∧ 0 < b
  ·simp only [endV, if_pos h]
  ·simp only [endV, if_neg h]
   unfold rReadV at hr
   split at hr
   ·cases hr
   ·rw [names_two _ _ (conv_nm (read_nm _ _ _ _ _ _ _ _ hr (by simp)))]
def fldN (form : List UInt8) : Nat × Nat := match readV form with
 | none => (0, 4)
 | some L => (fldsV L, 0)
def rfldN (form : List UInt8) : Nat × Nat := match rReadV form with
 | none => (0, 4)
 | some (L, a, b) => if 0 < a ∧ 0 < b then (0, 4) else (if 0 < a then 0 else rfldsV L, 0)
theorem fields_same (form : List UInt8) : fldN form = rfldN form := by
 unfold fldN rfldN
 rw [readV_same]
 cases hr : rReadV form with
 | none => rfl
 | some q =>
  obtain ⟨L, a, b⟩ := q
  have hc : a = cntN L ∧ b = cntO L := by
   unfold rReadV at hr
   split at hr
   ·cases hr
   ·exact read_cnt _ _ _ _ _ _ _ _ hr rfl rfl
  by_cases h : 0 < a ∧ 0 < b
  ·simp only [endV, if_pos h]
  ·simp only [endV, if_neg h]
   by_cases ha : 0 < a
   ·rw [if_pos ha, flds_named L (by omega)]
   ·rw [if_neg ha, flds_plain L (by omega)]
end Go.Fm
namespace Go.Proofs.YtelhdhofnohkcaaGreatDoor
open Go.Eng Go.Fm
set_option maxRecDepth 20000
attribute [local irreducible] AG CallA CallT AWp PCall ACall AgC
theorem insS_at (s : Bs) (l : List Bs) (i : Nat) (h : i < l.length) : insS s (l.drop i) = if l[i] = s then l.drop i else if s < l[i] then s :: l.drop i else l[i] :: insS s (l.drop (i + 1)) := by
 rw [List.drop_eq_getElem_cons h, insS]
set_option maxHeartbeats 8000000 in
theorem with_spec (l : List Bs) (s : Bs) (hl : l.length ≤ 1000000) : PCall Tryz.prog 46 [dSs l, dS s] fun r => r = dSs (withV l s) := by 
 refine pcall_of Tryz.func46 rfl rfl Tryz.ntmps46 (rs := [.tmp 4]) (tys := [23]) rfl rfl (by simp) ?_
 generalize hV : withV l s = V
 unfold withV at hV
 (refine awp_sr fun Y Yh => ?_; simp [go_sem]; ((repeat' (first|(refine ag_x ?_;simp [go_sem])|intro _|apply And.intro|(apply Yh;clear Yh Y)));all_goals first|apply Hold.mk|omega|with_reducible assumption|skip))
 refine awp_seq_k fun K1 hK1 => ?_
 (refine awp_sr fun Y Yh => ?_; simp [go_sem]; ((repeat' (first|(refine ag_x ?_;simp [go_sem])|intro _|apply And.intro|(apply Yh;clear Yh Y)));all_goals first|apply Hold.mk|omega|with_reducible assumption|skip))
 by_cases hs : s = []
 ·rw [if_pos hs] at hV
  subst hs hV
  (refine awp_if fun T F hT hF => ?_; simp [go_sem]; refine hT ?_; clear hT hF T F)
  (refine awp_sr fun Y Yh => ?_; simp [go_sem]; ((repeat' (first|(refine ag_x ?_;simp [go_sem])|intro _|apply And.intro|(apply Yh;clear Yh Y)));all_goals first|apply Hold.mk|omega|with_reducible assumption|skip))
  (refine awp_ret ?_; simp [go_sem])
 ·rw [if_neg hs] at hV
  have hs' : s.isEmpty = false := by
   cases s with
   | nil => exact absurd rfl hs
   | cons _ _ => rfl
  (refine awp_if fun T F hT hF => ?_; simp [go_sem, hs']; refine hF ?_; clear hT hF T F)
  refine awp_skip ?_
  refine hK1 _ ?_; clear hK1
  refine awp_seq_k fun K2 hK2 => ?_
  (refine awp_sr fun Y Yh => ?_; simp [go_sem]; ((repeat' (first|(refine ag_x ?_;simp [go_sem])|intro _|apply And.intro|(apply Yh;clear Yh Y)));all_goals first|apply Hold.mk|omega|with_reducible assumption|skip))
  refine awp_block ?_
  refine awp_loop (σ := Nat) (fun i => ⟨[(0, dSs l), (1, dS s), (5, dI i)], []⟩) (fun i => i ≤ l.length ∧ l.take i ++ insS s (l.drop i) = V) (fun i => l.length - i) 0 ?_ ?_ ?_
  ·(refine cov_of ?_ ?_ <;> simp [go_sem])
  ·exact ⟨by simp, by simpa using hV⟩
  rintro i ⟨hi, hx⟩
  refine awp_seq_k fun K3 hK3 => ?_
  (refine awp_sr fun Y Yh => ?_; simp [go_sem]; ((repeat' (first|(refine ag_x ?_;simp [go_sem])|intro _|apply And.intro|(apply Yh;clear Yh Y)));all_goals first|apply Hold.mk|omega|with_reducible assumption|skip))
  by_cases h4 : i < l.length
  ·have hst := insS_at s l i h4
   rw [hst] at hx
   (refine awp_if fun T F hT hF => ?_; simp [go_sem, h4]; refine hT ?_; clear hT hF T F)
   refine awp_skip ?_
   refine hK3 _ ?_; clear hK3
   refine awp_seq_k fun K4 hK4 => ?_
   refine awp_block ?_
   refine awp_seq_k fun K5 hK5 => ?_
   have hge : l[i]? = some l[i] := List.getElem?_eq_getElem h4
   have hln : (l.drop i).length = l.length - i := List.length_drop
   have htl : (l.take i).length = i := by rw [List.length_take]; omega
   have hta := List.take_append_drop i l
   have hdr : l.drop i = l[i] :: l.drop (i + 1) := List.drop_eq_getElem_cons h4
   have hnx : l.take (i + 1) = l.take i ++ [l[i]] := by rw [List.take_add_one, hge]; rfl
   (refine awp_sr fun Y Yh => ?_; simp [go_sem, h4, hge]; ((repeat' (first|(refine ag_x ?_;simp [go_sem, h4, hge])|intro _|apply And.intro|(apply Yh;clear Yh Y)));all_goals first|apply Hold.mk|omega|with_reducible assumption|skip))
   clear hst
   by_cases hc : l[i] = s
   ·rw [if_pos hc, hta] at hx
    have hb : (l[i] == s) = true := by rw [beq_iff_eq]; exact hc
    (refine awp_if fun T F hT hF => ?_; simp [go_sem, hb]; refine hT ?_; clear hT hF T F)
    (refine awp_sr fun Y Yh => ?_; simp [go_sem]; ((repeat' (first|(refine ag_x ?_;simp [go_sem])|intro _|apply And.intro|(apply Yh;clear Yh Y)));all_goals first|apply Hold.mk|omega|with_reducible assumption|skip))
    (refine awp_ret ?_; simp [go_sem, hx])
   ·rw [if_neg hc] at hx
    have hb : (l[i] == s) = false := by rw [beq_eq_false_iff_ne]; exact hc
    (refine awp_if fun T F hT hF => ?_; simp [go_sem, hb]; refine hF ?_; clear hT hF T F)
    refine awp_skip ?_
    refine hK5 _ ?_; clear hK5
    have hbl := bytesLess_eq s l[i]
    (refine awp_sr fun Y Yh => ?_; simp [go_sem, h4, hge]; ((repeat' (first|(refine ag_x ?_;simp [go_sem, h4, hge])|intro _|apply And.intro|(apply Yh;clear Yh Y)));all_goals first|apply Hold.mk|omega|with_reducible assumption|skip))
    by_cases hlt : s < l[i]
    ·rw [if_pos hlt] at hx
     have hb2 : Op.bytesLess s l[i] = true := by rw [hbl]; simpa using hlt
     (refine awp_if fun T F hT hF => ?_; simp [go_sem, hb2]; refine hT ?_; clear hT hF T F)
     have hi2 : (i : Int) ≤ l.length := by omega
     ((refine awp_dr (.qs [1, 2, 3, 5, 8, 9, 10] (.kp2 0 (.kp2 4 (.kp 6 (.one 7 (.one 11 (.qs [12] (.nil))))) 6 (.kp 4 (.one 7 (.one 11 (.qs [12] (.nil)))))) 6 (.kp 0 (.kp 4 (.one 7 (.one 11 (.qs [12] (.nil)))))))) (by kernel_rfl) ?_ ?_ ?_ ?_); (kernel_rfl); (exact (by decide +kernel)); (kernel_rfl); intro Y Yh; ((repeat' (first|(refine ag_x ?_;simp [go_sem, h4, hge, hi2])|refine adr_nil ?_|refine adr_kp2 ?_ ?_|((first|refine adr_qs fun Y Yh=>?_|refine adr_y fun Y Yh=>?_);simp [go_sem, h4, hge, hi2])|intro _|apply And.intro|(apply Yh;clear Yh Y)));all_goals first|apply Hold.mk|omega|with_reducible assumption|skip))
     all_goals (refine awp_ret ?_; simp [go_sem])
     all_goals (rw [← hx]; simp [List.map_take, List.map_drop])
    ·rw [if_neg hlt] at hx
     have hb2 : Op.bytesLess s l[i] = false := by rw [hbl]; simpa using hlt
     (refine awp_if fun T F hT hF => ?_; simp [go_sem, hb2]; refine hF ?_; clear hT hF T F)
     refine awp_skip ?_
     refine hK4 _ ?_; clear hK4
     (refine awp_r fun Y Yh => ?_; simp [go_sem]; ((repeat' (first|(refine ag_x ?_;simp [go_sem])|intro _|apply And.intro|(apply Yh;clear Yh Y)));all_goals first|apply Hold.mk|omega|with_reducible assumption|skip))
     refine ⟨i + 1, ?_, ⟨by omega, ?_⟩, by omega⟩
     ·(refine cov_of ?_ ?_ <;> simp [go_sem])
     ·rw [← hx, hnx, List.append_assoc]; rfl
  ·have hi2 : i = l.length := by omega
   subst hi2
   rw [List.take_length, List.drop_length] at hx
   simp only [insS] at hx
   (refine awp_if fun T F hT hF => ?_; simp [go_sem, h4]; refine hF ?_; clear hT hF T F)
   refine awp_exit ?_
   simp only [go_sem]
   refine hK2 _ ?_; clear hK2
   (refine awp_sr fun Y Yh => ?_; simp [go_sem]; ((repeat' (first|(refine ag_x ?_;simp [go_sem])|intro _|apply And.intro|(apply Yh;clear Yh Y)));all_goals first|apply Hold.mk|omega|with_reducible assumption|skip))
   (refine awp_ret ?_; simp [go_sem])
   rw [← hx]
   simp
end Go.Proofs.YtelhdhofnohkcaaGreatDoor
namespace Go.Proofs
open Go.Shelf
def Tryz.keys45_ren : Go.Shelf.Ren := ⟨fun | 7 => 45 | 10 => 69 | n => n, fun | 23 => 89 | 26 => 9 | 3 => 4 | 28 => 92 | 0 => 0 | 27 => 91 | 33 => 55 | 4 => 4 | n => n, fun | n => n⟩
theorem Tryz.keys45 : Go.Proofs.SlLaysZ.n7 Tryz.prog Tryz.keys45_ren := {
 mixed := by kernel_rfl
 f7 := ⟨Tryz.f45.name, by decide, Tryz.func45.trans (congrArg some (by kernel_rfl))⟩
 f10 := ⟨Tryz.f69.name, by decide, Tryz.func69.trans (congrArg some (by kernel_rfl))⟩
 t0 := Tryz.underlying0
 a0 := Tryz.isAgg0
 z0 := Tryz.sizeOf0
 v0 := Tryz.zeroValue0
 t4 := Tryz.underlying4
 a4 := Tryz.isAgg4
 z4 := Tryz.sizeOf4
 v4 := Tryz.zeroValue4
 t23 := Tryz.underlying89
 a23 := Tryz.isAgg89
 z23 := Tryz.sizeOf89
 v23 := Tryz.zeroValue89
 t26 := Tryz.underlying9
 a26 := Tryz.isAgg9
 z26 := Tryz.sizeOf9
 v26 := Tryz.zeroValue9
 t27 := Tryz.underlying91
 a27 := Tryz.isAgg91
 z27 := Tryz.sizeOf91
 v27 := Tryz.zeroValue91
 t28 := Tryz.underlying92
 a28 := Tryz.isAgg92
 z28 := Tryz.sizeOf92
 v28 := Tryz.zeroValue92
 t33 := Tryz.underlying55
 a33 := Tryz.isAgg55
 z33 := Tryz.sizeOf55
 v33 := Tryz.zeroValue55 }
def Tryz.sorted44_ren : Go.Shelf.Ren := ⟨fun | 6 => 44 | 8 => 67 | 9 => 68 | 11 => 108 | 13 => 110 | 12 => 109 | 23 => 145 | 24 => 126 | 14 => 136 | 15 => 137 | 16 => 138 | 17 => 139 | 18 => 140 | 19 => 141 | 20 => 142 | 21 => 143 | 22 => 144 | 25 => 169 | 26 => 170 | 27 => 171 | 28 => 172 | 29 => 173 | 30 => 174 | 31 => 190 | n => n, fun | 26 => 9 | 28 => 92 | 24 => 23 | 0 => 0 | 3 => 3 | 37 => 39 | 48 => 153 | 50 => 105 | 4 => 4 | 40 => 211 | 39 => 210 | 45 => 137 | 5 => 5 | 9 => 9 | 51 => 236 | 55 => 123 | 57 => 263 | 58 => 264 | 33 => 55 | n => n, fun | n => n⟩
theorem Tryz.sorted44 : Go.Proofs.SlLaysZ.n6 Tryz.prog Tryz.sorted44_ren := {
 mixed := by kernel_rfl
 f6 := ⟨Tryz.f44.name, by decide, Tryz.func44.trans (congrArg some (by kernel_rfl))⟩
 f8 := ⟨Tryz.f67.name, by decide, Tryz.func67.trans (congrArg some (by kernel_rfl))⟩
 f11 := ⟨Tryz.f108.name, by decide, Tryz.func108.trans (congrArg some (by kernel_rfl))⟩
 t0 := Tryz.underlying0
 a0 := Tryz.isAgg0
 z0 := Tryz.sizeOf0
 v0 := Tryz.zeroValue0
 t24 := Tryz.underlying23
 a24 := Tryz.isAgg23
 z24 := Tryz.sizeOf23
 v24 := Tryz.zeroValue23
 t26 := Tryz.underlying9
 a26 := Tryz.isAgg9
 z26 := Tryz.sizeOf9
 v26 := Tryz.zeroValue9
 t28 := Tryz.underlying92
 a28 := Tryz.isAgg92
 z28 := Tryz.sizeOf92
 v28 := Tryz.zeroValue92
 i26 := by kernel_rfl }
def Tryz.sort68_ren : Go.Shelf.Ren := ⟨fun | 6 => 68 | 8 => 110 | 9 => 109 | 19 => 145 | 20 => 126 | 21 => 136 | 22 => 137 | 23 => 138 | 24 => 139 | 25 => 140 | 26 => 141 | 27 => 142 | 28 => 143 | 29 => 144 | 36 => 169 | 31 => 170 | 32 => 171 | 37 => 172 | 38 => 173 | 39 => 174 | 41 => 190 | n => n, fun | 27 => 23 | 29 => 9 | 3 => 3 | 32 => 39 | 26 => 23 | 0 => 0 | 44 => 153 | 46 => 105 | 4 => 4 | 36 => 211 | 35 => 210 | 41 => 137 | 5 => 5 | 9 => 9 | 53 => 236 | 57 => 123 | 63 => 263 | 64 => 264 | n => n, fun | n => n⟩
theorem Tryz.sort68 : Go.Proofs.SlLaysM.n6 Tryz.prog Tryz.sort68_ren := {
 mixed := by kernel_rfl
 f6 := ⟨Tryz.f68.name, by decide, Tryz.func68.trans (congrArg some (by kernel_rfl))⟩
 f8 := Tryz.func110.trans (congrArg some (by kernel_rfl))
 f9 := ⟨Tryz.f109.name, by decide, Tryz.func109.trans (congrArg some (by kernel_rfl))⟩
 f19 := Tryz.func145.trans (congrArg some (by kernel_rfl))
 f20 := Tryz.func126.trans (congrArg some (by kernel_rfl))
 f21 := ⟨Tryz.f136.name, by decide, Tryz.func136.trans (congrArg some (by kernel_rfl))⟩
 f22 := ⟨Tryz.f137.name, by decide, Tryz.func137.trans (congrArg some (by kernel_rfl))⟩
 f23 := ⟨Tryz.f138.name, by decide, Tryz.func138.trans (congrArg some (by kernel_rfl))⟩
 f24 := ⟨Tryz.f139.name, by decide, Tryz.func139.trans (congrArg some (by kernel_rfl))⟩
 f25 := ⟨Tryz.f140.name, by decide, Tryz.func140.trans (congrArg some (by kernel_rfl))⟩
 f26 := ⟨Tryz.f141.name, by decide, Tryz.func141.trans (congrArg some (by kernel_rfl))⟩
 f27 := ⟨Tryz.f142.name, by decide, Tryz.func142.trans (congrArg some (by kernel_rfl))⟩
 f28 := ⟨Tryz.f143.name, by decide, Tryz.func143.trans (congrArg some (by kernel_rfl))⟩
 f29 := ⟨Tryz.f144.name, by decide, Tryz.func144.trans (congrArg some (by kernel_rfl))⟩
 f31 := Tryz.func170.trans (congrArg some (by kernel_rfl))
 f32 := Tryz.func171.trans (congrArg some (by kernel_rfl))
 f36 := ⟨Tryz.f169.name, by decide, Tryz.func169.trans (congrArg some (by kernel_rfl))⟩
 f37 := ⟨Tryz.f172.name, by decide, Tryz.func172.trans (congrArg some (by kernel_rfl))⟩
 f38 := ⟨Tryz.f173.name, by decide, Tryz.func173.trans (congrArg some (by kernel_rfl))⟩
 f39 := ⟨Tryz.f174.name, by decide, Tryz.func174.trans (congrArg some (by kernel_rfl))⟩
 f41 := ⟨Tryz.f190.name, by decide, Tryz.func190.trans (congrArg some (by kernel_rfl))⟩
 t0 := Tryz.underlying0
 a0 := Tryz.isAgg0
 z0 := Tryz.sizeOf0
 v0 := Tryz.zeroValue0
 t3 := Tryz.underlying3
 a3 := Tryz.isAgg3
 z3 := Tryz.sizeOf3
 v3 := Tryz.zeroValue3
 t4 := Tryz.underlying4
 a4 := Tryz.isAgg4
 z4 := Tryz.sizeOf4
 v4 := Tryz.zeroValue4
 t5 := Tryz.underlying5
 a5 := Tryz.isAgg5
 z5 := Tryz.sizeOf5
 v5 := Tryz.zeroValue5
 t9 := Tryz.underlying9
 a9 := Tryz.isAgg9
 z9 := Tryz.sizeOf9
 v9 := Tryz.zeroValue9
 t26 := Tryz.underlying23
 a26 := Tryz.isAgg23
 z26 := Tryz.sizeOf23
 v26 := Tryz.zeroValue23
 t27 := Tryz.underlying23
 a27 := Tryz.isAgg23
 z27 := Tryz.sizeOf23
 v27 := Tryz.zeroValue23
 t29 := Tryz.underlying9
 a29 := Tryz.isAgg9
 z29 := Tryz.sizeOf9
 v29 := Tryz.zeroValue9
 t32 := Tryz.underlying39
 a32 := Tryz.isAgg39
 z32 := Tryz.sizeOf39
 v32 := Tryz.zeroValue39
 t35 := Tryz.underlying210
 a35 := Tryz.isAgg210
 z35 := Tryz.sizeOf210
 v35 := Tryz.zeroValue210
 t36 := Tryz.underlying211
 a36 := Tryz.isAgg211
 z36 := Tryz.sizeOf211
 v36 := Tryz.zeroValue211
 t41 := Tryz.underlying137
 a41 := Tryz.isAgg137
 z41 := Tryz.sizeOf137
 v41 := Tryz.zeroValue137
 t44 := Tryz.underlying153
 a44 := Tryz.isAgg153
 z44 := Tryz.sizeOf153
 v44 := Tryz.zeroValue153
 t46 := Tryz.underlying105
 a46 := Tryz.isAgg105
 z46 := Tryz.sizeOf105
 v46 := Tryz.zeroValue105
 t53 := Tryz.underlying236
 a53 := Tryz.isAgg236
 z53 := Tryz.sizeOf236
 v53 := Tryz.zeroValue236
 t57 := Tryz.underlying123
 a57 := Tryz.isAgg123
 z57 := Tryz.sizeOf123
 v57 := Tryz.zeroValue123
 t63 := Tryz.underlying263
 a63 := Tryz.isAgg263
 z63 := Tryz.sizeOf263
 v63 := Tryz.zeroValue263
 t64 := Tryz.underlying264
 a64 := Tryz.isAgg264
 z64 := Tryz.sizeOf264
 v64 := Tryz.zeroValue264 }
end Go.Proofs
namespace Go.Proofs.YtelhdhofnohkcaaGreatDoor
open Go.Eng Go.Fm Go.RowKit Go.Maps Go.Sort Go.Shelf
set_option maxRecDepth 20000
theorem sorts44 (m : Nat) : AnyZ.SortsIn Tryz.prog Tryz.sorted44_ren Fence.wide m :=
 ⟨fun blk off cap ss W hH hblk hsz => callsIn_wide.2 (AnyM.slices_Sort_string Tryz.sort68 blk off cap ss W hH hblk hsz),
  fun p cap W => callsIn_wide.2 (AnyM.slices_Sort_string_none Tryz.sort68 p cap W)⟩
theorem sortedKeys_w {H : Type} (b bb nn : Nat) (D0 : DataW H) (R : Value → Option (DataW H × List MemPlace)) (w : World) (hbb : bb < w.heap.size) (hm : w.cell? ⟨bb, 0, none⟩ = some (.map (some b))) (hown : w.ownsMap Tryz.prog 9 R b nn D0) (hmax : Maps.size D0 ≤ maxLen) (hbytes : Maps.size D0 * 16 ≤ 140737488355328) :
  Calls Tryz.prog 44 #[.func (.func 69) #[] #[.pointer (some ⟨bb, 0, none⟩)]] w fun e w' => ∃ (v : Value) (ss : List (List UInt8)), e = .returned v ∧ ss.Perm (strKeys D0) ∧
   w'.ownsRow w.heap.size 9 1 v ss.length ((ss.mergeSort (fun x y => decide (x ≤ y))).map encStr) ∧ (v = .slice none 0 0 ↔ ss = []) ∧ Below w.heap.size w w' := by
 have hseq : SeqGives Fence.wide 2 Tryz.prog 69 #[.pointer (some ⟨bb, 0, none⟩)] encStr (fun ss => ss.Perm (strKeys D0)) (Maps.size D0) w :=
  AnyZ.keys_gives (ρ := Tryz.keys45_ren) { Tryz.keys45 with } Fence.wide _ trivial rfl (by omega) bb b nn D0 _ hbb hm hown
 exact callsIn_wide.1 (AnyZ.sorted_in Tryz.sorted44 Fence.wide 5 trivial trivial trivial trivial rfl (by omega) (sorts44 _) (enters_of Tryz.func68 (by kernel_rfl) rfl) 69 #[.pointer (some ⟨bb, 0, none⟩)] trivial (enters_of Tryz.func69 (by kernel_rfl) rfl) _ _ hmax hbytes _ hseq)
theorem rep_owned {C : Ctx} {w w' : World} {e : TypeId} {u : Value} {xs : List Value} (hc : CtxOk C w) (h : w'.ownsRow w.heap.size e 1 u xs.length xs) : Rep C w' (.sl 1 (xs.map fun x => [.v x])) u := by
 obtain ⟨_, h⟩ := h
 rcases h with ⟨rfl, hz⟩ | ⟨gb, cap, cur, rfl, hbase, hgb, r1, r2, r3, r4⟩
 ·obtain rfl := List.eq_nil_of_length_eq_zero hz
  exact .slE 1 none 0 (by decide)
 ·have hno : ¬ C.owns gb := fun ⟨s, g, v, q1, q2, q3⟩ => by have := hc.bound s g v gb q1 q2 q3; omega
  have hl : (xs.map fun x => [D.v x]).length = xs.length := by simp
  have := Rep.sl (C := C) (w := w') 1 (xs.map fun x => [D.v x]) gb 0 cap (fun i _ => xs.getD i default) (by rw [hl]; exact r1) r2 (by simp) (fun i j e' c he hc' => ?_) (fun i j e' c he hc' => ?_)
  ·rw [hl] at this; exact this
  ·simp only [List.getElem?_map, Option.map_eq_some_iff] at he
   obtain ⟨x, hx, rfl⟩ := he
   match j, hc' with
   | 0, hc' =>
    refine ⟨hno, ?_⟩
    have hi : i < xs.length := (List.getElem?_eq_some_iff.1 hx).1
    have e1 : cur[i]? = some x := by
     have : (cur.toList.take (xs.length * 1))[i]? = some x := by rw [r4]; exact hx
     rw [List.getElem?_take, if_pos (by omega), Array.getElem?_toList] at this
     exact this
    unfold World.cell?
    rw [hgb]
    simp [e1, List.getD, hx]
   | j + 1, hc' => simp at hc'
  ·simp only [List.getElem?_map, Option.map_eq_some_iff] at he
   obtain ⟨x, hx, rfl⟩ := he
   match j, hc' with
   | 0, hc' =>
    simp at hc'
    subst hc'
    have : xs.getD i default = x := by simp [List.getD, hx]
    rw [this]
    exact .v x
   | j + 1, hc' => simp at hc'
abbrev leB : Bs → Bs → Bool := fun x y => decide (x ≤ y)
def esM (ks : List Bs) : List (Value × D) := ks.map fun k => (.string ⟨k.toArray⟩, dB true)
theorem sortedK_spec (gm gb : Nat) (ks : List Bs) (hl : ks.length ≤ 1000000) (hk : ∀ k ∈ ks, k.length ≤ 1000000) : ACall Tryz.prog 44 [.fn 69 [.ptr 900021 gb 0]] [(900020, (gm, .map (esM ks))), (900021, (gb, .box [.own 900020 gm]))] [900020, 900021] fun ps r =>
  ps = [(gm, .map (esM ks)), (gb, .box [.own 900020 gm])] ∧ r = dSs (ks.mergeSort leB) := by 
 refine acall_below (es := [(900020, (gm, .map (esM ks))), (900021, (gb, .box [.own 900020 gm]))]) (R := fun r => r = dSs (ks.mergeSort leB)) ⟨_, Tryz.func44, rfl, rfl⟩ (by simp [notFroz]) (by simp [Eng.look]) fun C w us hc _ hr hent => ?_
 obtain ⟨r, arr, clock, q1, q2, q3, ⟨q4, q5⟩, q6⟩ := hent 900020 gm _ rfl
 obtain ⟨b, arr2, ty, p1, p2, p3, p4, p5⟩ := hent 900021 gb _ rfl
 have hus : us = [.func (.func 69) #[] #[.pointer (some ⟨b, 0, none⟩)]] := by
  obtain ⟨hl, hh⟩ := hr
  match us, hl with
  | [u1], _ =>
   have r1 := hh 0 _ _ rfl rfl
   cases r1 with
   | fn _ _ us hn h =>
    obtain ⟨l⟩ := us
    match l, hn, h with
    | [u0], _, h =>
     have h0 := h 0 _ u0 rfl rfl
     cases h0 with
     | ptr _ _ _ b' hb' =>
      rw [p1] at hb'
      cases hb'
      rfl
 subst hus
 have hm : w.cell? ⟨b, 0, none⟩ = some (.map (some r)) := by
  have h0 : 0 < arr2.size := by rw [p4]; simp
  have h1 := (p5 0 _ arr2[0] rfl (Array.getElem?_eq_getElem h0)).1
  have : arr2[0] = .map (some r) := by
   cases h1 with
   | own _ _ _ hv _ => rw [q1] at hv; simpa using hv.symm
  unfold World.cell?
  rw [p3]
  simp [h0, this]
 have hent1 : ∀ (j : Nat) k x, ks[j]? = some k → arr[j]? = some x → x.key = .string ⟨k.toArray⟩ ∧ x.val = .bool true := fun j k x h1 h2 => by
  obtain ⟨e1, e2⟩ := q6 j (.string ⟨k.toArray⟩, dB true) x (by simp [esM, h1]) h2
  exact ⟨e1, e2.v_inv⟩
 have hsz : arr.size = ks.length := by rw [q4]; simp [esM]
 let R : Value → Option (DataW Unit × List MemPlace) := plainElem Tryz.prog 4
 have hrd : ∀ (j : Nat) k x, ks[j]? = some k → arr[j]? = some x → WideElems.rd Tryz.prog 9 R x = some (.string k, .lit (.bool true)) := fun j k x h1 h2 => by
  obtain ⟨e1, e2⟩ := hent1 j k x h1 h2
  have hkl := hk k (List.mem_of_getElem? h1)
  have hv : R (.bool true) = some (.lit (.bool true), []) := plainElem_bool Tryz.underlying4 true
  unfold WideElems.rd
  rw [e1, e2, WideMaps.keyOf_string_mk (P := Tryz.prog) (k := 9) Tryz.underlying9 (s := ⟨k.toArray⟩) (by simp [ByteArray.size, maxLen]; omega), hv]
  rfl
 have hmap : arr.toList.map (WideElems.rg Tryz.prog 9 R) = ks.map fun k => ((.string k, .lit (.bool true)) : Lit × DataW Unit) := by
  refine List.ext_getElem (by simp [hsz]) fun j h1 h2 => ?_
  simp only [List.length_map, Array.length_toList] at h1 h2
  simp only [List.getElem_map, Array.getElem_toList]
  exact WideElems.rg_of (hrd j ks[j] arr[j] (List.getElem?_eq_getElem h2) (Array.getElem?_eq_getElem h1))
 have hown : w.ownsMap Tryz.prog 9 R r arr.size (.map ((arr.toList.map (WideElems.rg Tryz.prog 9 R)).foldr DataW.insert [])) := by
  refine ⟨arr, clock, q3, ⟨by rw [hsz]; simp [maxLen]; omega, q5, fun x hx => ?_⟩, Nat.le_refl _, rfl⟩
  obtain ⟨j, hj, rfl⟩ := List.mem_iff_getElem.1 hx
  have hj' : j < arr.size := by simpa using hj
  have hj2 : j < ks.length := by omega
  exact ⟨_, by rw [Array.getElem_toList]; exact hrd j ks[j] arr[j] (List.getElem?_eq_getElem hj2) (Array.getElem?_eq_getElem hj')⟩
 rw [hmap] at hown
 have hlen : Maps.size (.map ((ks.map fun k => ((.string k, .lit (.bool true)) : Lit × DataW Unit)).foldr DataW.insert [])) = ks.length := by
  rw [Maps.size_eq, length_sorted]; simp
 refine (sortedKeys_w r b _ _ R w (Array.getElem?_eq_some_iff.1 p3).1 hm hown (by rw [hlen]; simp [maxLen]; omega) (by rw [hlen]; omega)).mono ?_
 rintro e w' ⟨v, ss, rfl, hp, hrow, _, hb⟩
 have hp2 : ss.Perm ks := by
  refine hp.trans ?_
  have := (WideShapes.sorted_perm (ks.map fun k => ((.string k, .lit (.bool true)) : Lit × DataW Unit))).map fun p => strOf p.1
  rw [List.map_map] at this
  have e2 : (List.map ((fun p : Lit × DataW Unit => strOf p.1) ∘ fun k => ((.string k, .lit (.bool true)) : Lit × DataW Unit)) ks) = ks := by
   conv => rhs; rw [← List.map_id ks]
   rfl
  rw [e2] at this
  exact this
 refine ⟨v, _, rfl, rfl, ?_, hb⟩
 have hrow' : w'.ownsRow w.heap.size 9 1 v ((ks.mergeSort leB).map encStr).length ((ks.mergeSort leB).map encStr) := by
  have e3 : (ss.mergeSort fun x y => decide (x ≤ y)) = ks.mergeSort leB := mergeSort_of_perm hp2
  have e4 : ((ks.mergeSort leB).map encStr).length = ss.length := by rw [List.length_map, List.length_mergeSort]; exact hp2.length_eq.symm
  rw [e4, ← e3]
  exact hrow
 have := rep_owned hc hrow'
 simp only [List.map_map] at this
 exact this
end Go.Proofs.YtelhdhofnohkcaaGreatDoor
namespace Go.Proofs.YtelhdhofnohkcaaGreatDoor
open Go.Eng Go.Fm
set_option maxRecDepth 20000
attribute [local irreducible] AG CallA CallT AWp PCall ACall AgC
theorem keys_spec (gm : Nat) (es : List (Value × D)) : ACall Tryz.prog 45 [.own 900020 gm] [(900020, (gm, .map es))] [900020, 900021] fun ps r => ∃ gb, ps = [(gm, .map es), (gb, .box [.own 900020 gm])] ∧ r = .fn 69 [.ptr 900021 gb 0] := by 
 refine acall_of Tryz.func45 rfl rfl Tryz.ntmps45 (rs := [.tmp 2]) (tys := [92]) rfl rfl (by simp) (by simp [notFroz]) ?_
 (refine awp_sr fun Y Yh => ?_; simp [go_sem]; ((repeat' (first|(refine ag_x ?_;simp [go_sem])|intro _|apply And.intro|(apply Yh;clear Yh Y)));all_goals first|apply Hold.mk|omega|with_reducible assumption|skip))
 refine awp_renbox 1 900021 rfl rfl (by decide) fun gb => ?_
 simp only [go_sem]
 (refine awp_sr fun Y Yh => ?_; simp [go_sem]; ((repeat' (first|(refine ag_x ?_;simp [go_sem])|intro _|apply And.intro|(apply Yh;clear Yh Y)));all_goals first|apply Hold.mk|omega|with_reducible assumption|skip))
 (refine awp_ret ?_; simp [go_sem])
theorem mput_K (ks : List Bs) (k : Bs) (hk : k ≠ []) : mput 1 (.string ⟨k.toArray⟩) (dB true) (esM ks) = esM (addK ks k) ∧ (mfind 1 (.string ⟨k.toArray⟩) (esM ks)).isSome = true := by
 have e : addK ks k = if k ∈ ks then ks else ks ++ [k] := by unfold addK; simp [hk]
 rw [e]
 clear e
 induction ks with
 | nil => exact ⟨rfl, rfl⟩
 | cons x r ih =>
  have ee : esM (x :: r) = (.string ⟨x.toArray⟩, dB true) :: esM r := rfl
  have hq : keyEq 1 (.string ⟨k.toArray⟩) (.string ⟨x.toArray⟩) = some (k == x) := by simp [keyEq]
  rw [ee]
  simp only [mput, mfind, hq]
  by_cases hx : k = x
  ·subst hx
   simp [ee]
  ·have hb : (k == x) = false := by rw [beq_eq_false_iff_ne]; exact hx
   rw [hb]
   simp only [ih.1, ih.2, and_true]
   by_cases hm : k ∈ r
   ·rw [if_pos hm, if_pos (by simp [hm])]; rfl
   ·rw [if_neg hm, if_neg (by simp [hm, hx])]; rfl
def ksV (L : List Fld) : List Bs := (L.map (·.nm)).foldl addK []
theorem ksV_step {L : List Fld} {i : Nat} {f : Fld} (h : L[i]? = some f) : ksV (L.take (i + 1)) = addK (ksV (L.take i)) f.nm := by
 unfold ksV
 rw [List.take_add_one, h]
 simp
theorem addK_len (ks : List Bs) (s : Bs) : (addK ks s).length ≤ ks.length + 1 := by
 unfold addK; split <;> simp
theorem ksV_len (L : List Fld) : (ksV L).length ≤ L.length := by
 have : ∀ (ns ks : List Bs), (ns.foldl addK ks).length ≤ ks.length + ns.length := by
  intro ns
  induction ns with
  | nil => intro ks; simp
  | cons s r ih => intro ks; have := ih (addK ks s); have := addK_len ks s; simp only [List.foldl_cons, List.length_cons]; omega
 have := this (L.map (·.nm)) []
 simpa [ksV] using this
theorem ksV_mem (L : List Fld) : ∀ k ∈ ksV L, ∃ f ∈ L, k = f.nm := by
 have : ∀ (ns ks : List Bs), ∀ k ∈ ns.foldl addK ks, k ∈ ks ∨ k ∈ ns := by
  intro ns
  induction ns with
  | nil => intro ks k h; exact .inl h
  | cons s r ih =>
   intro ks k h
   rcases ih _ k h with h | h
   ·unfold addK at h
    split at h
    ·exact .inl h
    ·rcases List.mem_append.1 h with h | h
     ·exact .inl h
     ·rw [List.mem_singleton] at h; subst h; exact .inr (by simp)
   ·exact .inr (by simp [h])
 intro k h
 rcases this _ _ k h with h | h
 ·simp at h
 ·obtain ⟨f, hf, rfl⟩ := List.mem_map.1 h; exact ⟨f, hf, rfl⟩
theorem fieldV_nm {s r : Bs} {f : Fld} (h : fieldV s = some (f, r)) : f.nm.length ≤ s.length := by
 unfold fieldV at h
 split at h
 ·cases h
 ·rename_i nm s1 hn
  have hl : nm.length ≤ s.length := by
   unfold nameV at hn
   split at hn
   ·cases hn; simp
   ·simp only at hn
    split at hn
    ·cases hn
     rw [List.length_drop, List.length_take]; omega
    ·cases hn
  simp only [flag_same] at h
  repeat' split at h
  all_goals first | (cases h; done) | skip
  cases h
  exact hl
theorem readF_nm : ∀ (k : Nat) (s : Bs) (out : List Fld) (a b : Bool) (L : List Fld), (∀ f ∈ out, f.nm.length ≤ 2000) → s.length ≤ 2000 → readF k s out a b = some L → ∀ f ∈ L, f.nm.length ≤ 2000 := by
 intro k
 induction k with
 | zero => intro s out a b L _ _ h; simp [readF] at h
 | succ k ih =>
  intro s out a b L ho hs h
  have snoc : ∀ g : Fld, g.nm.length ≤ 2000 → ∀ f ∈ out ++ [g], f.nm.length ≤ 2000 := fun g hg f hf => by
   rcases List.mem_append.1 hf with hf | hf
   ·exact ho f hf
   ·rw [List.mem_singleton.1 hf]; exact hg
  have hT : ∀ t, (fdT t).nm.length ≤ 2000 := fun t => by simp [fdT]
  rw [readF] at h
  split at h
  ·split at h
   ·cases h
   ·cases h; exact ho
  ·simp only at h
   split at h
   ·split at h
    ·cases h
    ·cases h; exact snoc _ (hT _)
   ·split at h
    ·exact ih _ _ _ _ _ (snoc _ (hT _)) (by rw [List.length_drop]; omega) h
    ·split at h
     ·exact ih _ _ _ _ _ (snoc _ (hT _)) (by rw [List.length_drop]; omega) h
     ·split at h
      ·cases h
      ·rename_i f r hf
       have := fieldV_len hf
       have := fieldV_nm hf
       exact ih _ _ _ _ _ (snoc _ (by rw [List.length_tail] at this; omega)) (by rw [List.length_tail] at *; omega) h
theorem readV_nm {s : Bs} {L : List Fld} (h : readV s = some L) : ∀ f ∈ L, f.nm.length ≤ 2000 := by
 unfold readV at h
 split at h
 ·cases h
 ·exact readF_nm _ s [] _ _ L (by simp) (by omega) h
set_option maxHeartbeats 8000000 in
theorem names_spec (form : Bs) (hfl : form.length ≤ 9223372036854775807) : PCall Tryz.prog 26 [dS form] fun r => r = .tup [dSs (namesV form).1, dI (namesV form).2] := by 
 refine pcall_of Tryz.func26 rfl rfl Tryz.ntmps26 (rs := [.tmp 2, .tmp 3]) (tys := [23, 34]) rfl rfl (by simp) ?_
 have hR := read_spec form hfl
 unfold namesV
 cases hr : readV form with
 | none =>
  rw [hr] at hR
  simp only
  (refine awp_sr fun Y Yh => ?_; simp [go_sem]; ((repeat' (first|(refine ag_x ?_;simp [go_sem])|intro _|apply And.intro|(apply Yh;clear Yh Y)));all_goals first|apply Hold.mk|omega|with_reducible assumption|skip))
  (refine awp_sr fun Y Yh => ?_; simp [go_sem]; ((repeat' (first|(refine ag_x ?_;simp [go_sem])|intro _|apply And.intro|(apply Yh;clear Yh Y)));all_goals first|apply Hold.mk|omega|with_reducible assumption|skip))
  ((try refine CallT.toA ?_); refine callT_m (.inl ⟨rfl,rfl⟩) (by simp [go_sem]) ?_; intro args ha; simp [go_sem] at ha; subst ha; refine ⟨_, hR, ?_⟩; rintro _ ⟨L', rfl⟩; simp [go_sem]; ((repeat' (first|(refine ag_x ?_;simp [go_sem])|intro _|apply And.intro|(apply Yh;clear Yh Y)));all_goals first|apply Hold.mk|omega|with_reducible assumption|skip))
  refine awp_seq_k fun K1 hK1 => ?_
  (refine awp_sr fun Y Yh => ?_; simp [go_sem]; ((repeat' (first|(refine ag_x ?_;simp [go_sem])|intro _|apply And.intro|(apply Yh;clear Yh Y)));all_goals first|apply Hold.mk|omega|with_reducible assumption|skip))
  (refine awp_if fun T F hT hF => ?_; simp [go_sem]; refine hT ?_; clear hT hF T F)
  (refine awp_sr fun Y Yh => ?_; simp [go_sem]; ((repeat' (first|(refine ag_x ?_;simp [go_sem])|intro _|apply And.intro|(apply Yh;clear Yh Y)));all_goals first|apply Hold.mk|omega|with_reducible assumption|skip))
  (refine awp_ret ?_; simp [go_sem])
 | some L =>
  rw [hr] at hR
  have hlen : L.length ≤ 100000 := readV_len hr
  have hkl := ksV_len L
  have hkm : ∀ k ∈ ksV L, k.length ≤ 1000000 := fun k hk => by
   obtain ⟨f, hf, rfl⟩ := ksV_mem L k hk
   have := readV_nm hr f hf
   omega
  have hS := fun gm gb => sortedK_spec gm gb (ksV L) (by omega) hkm
  have hVe : (List.map (fun x => x.nm) L).foldl addK [] = ksV L := rfl
  simp only
  rw [hVe]
  generalize hZ : (ksV L).mergeSort leB = Z at *
  (refine awp_sr fun Y Yh => ?_; simp [go_sem]; ((repeat' (first|(refine ag_x ?_;simp [go_sem])|intro _|apply And.intro|(apply Yh;clear Yh Y)));all_goals first|apply Hold.mk|omega|with_reducible assumption|skip))
  (refine awp_sr fun Y Yh => ?_; simp [go_sem]; ((repeat' (first|(refine ag_x ?_;simp [go_sem])|intro _|apply And.intro|(apply Yh;clear Yh Y)));all_goals first|apply Hold.mk|omega|with_reducible assumption|skip))
  ((try refine CallT.toA ?_); refine callT_m (.inl ⟨rfl,rfl⟩) (by simp [go_sem]) ?_; intro args ha; simp [go_sem] at ha; subst ha; refine ⟨_, hR, ?_⟩; rintro _ rfl; simp [go_sem]; ((repeat' (first|(refine ag_x ?_;simp [go_sem])|intro _|apply And.intro|(apply Yh;clear Yh Y)));all_goals first|apply Hold.mk|omega|with_reducible assumption|skip))
  refine awp_seq_k fun K1 hK1 => ?_
  (refine awp_sr fun Y Yh => ?_; simp [go_sem]; ((repeat' (first|(refine ag_x ?_;simp [go_sem])|intro _|apply And.intro|(apply Yh;clear Yh Y)));all_goals first|apply Hold.mk|omega|with_reducible assumption|skip))
  (refine awp_if fun T F hT hF => ?_; simp [go_sem]; refine hF ?_; clear hT hF T F)
  refine awp_skip ?_
  refine hK1 _ ?_; clear hK1
  (refine awp_sr fun Y Yh => ?_; simp [go_sem]; ((repeat' (first|(refine ag_x ?_;simp [go_sem])|intro _|apply And.intro|(apply Yh;clear Yh Y)));all_goals first|apply Hold.mk|omega|with_reducible assumption|skip))
  refine awp_renmap 6 900020 rfl rfl (by decide) fun gm => ?_
  simp only [go_sem]
  refine awp_seq_k fun K3 hK3 => ?_
  (refine awp_sr fun Y Yh => ?_; simp [go_sem]; ((repeat' (first|(refine ag_x ?_;simp [go_sem])|intro _|apply And.intro|(apply Yh;clear Yh Y)));all_goals first|apply Hold.mk|omega|with_reducible assumption|skip))
  refine awp_block ?_
  refine awp_loop (σ := Nat) (fun i => ⟨[(6, .own 900020 gm), (17, dFs L), (18, dI L.length), (19, dI i)], [(900020, (gm, .map (esM (ksV (L.take i)))))]⟩) (fun i => i ≤ L.length) (fun i => L.length - i) 0 ?_ ?_ ?_
  ·(refine cov_of ?_ ?_ <;> simp [go_sem])
   rfl
  ·simp
  intro i hi
  (refine awp_sr fun Y Yh => ?_; simp [go_sem]; ((repeat' (first|(refine ag_x ?_;simp [go_sem])|intro _|apply And.intro|(apply Yh;clear Yh Y)));all_goals first|apply Hold.mk|omega|with_reducible assumption|skip))
  refine awp_seq_k fun K4 hK4 => ?_
  by_cases hend : i < L.length
  ·obtain ⟨f, hf⟩ : ∃ f, L[i]? = some f := ⟨_, List.getElem?_eq_getElem hend⟩
   have hst := ksV_step hf
   generalize ksV (L.take i) = ks at *
   (refine awp_if fun T F hT hF => ?_; simp [go_sem, hend]; refine hT ?_; clear hT hF T F)
   refine awp_skip ?_
   refine hK4 _ ?_; clear hK4
   refine awp_seq_k fun K6 hK6 => ?_
   have tl6 : ∀ S', Cov S' ⟨[(6, .own 900020 gm), (17, dFs L), (18, dI L.length), (19, dI i)], [(900020, (gm, .map (esM (addK ks f.nm))))]⟩ → K6 S' := fun S' hS' => by
    refine hK6 _ ?_; clear hK6
    refine awp_cov hS' ?_; clear hS'
    (refine awp_r fun Y Yh => ?_; simp [go_sem]; ((repeat' (first|(refine ag_x ?_;simp [go_sem])|intro _|apply And.intro|(apply Yh;clear Yh Y)));all_goals first|apply Hold.mk|omega|with_reducible assumption|skip))
    refine ⟨i + 1, ?_, by omega, by omega⟩
    rw [hst]
    (refine cov_of ?_ ?_ <;> simp [go_sem])
   clear hK6
   refine awp_block ?_
   (refine awp_sr fun Y Yh => ?_; simp [go_sem, hf]; ((repeat' (first|(refine ag_x ?_;simp [go_sem, hf])|intro _|apply And.intro|(apply Yh;clear Yh Y)));all_goals first|apply Hold.mk|omega|with_reducible assumption|skip))
   (refine awp_sr fun Y Yh => ?_; simp [go_sem]; ((repeat' (first|(refine ag_x ?_;simp [go_sem])|intro _|apply And.intro|(apply Yh;clear Yh Y)));all_goals first|apply Hold.mk|omega|with_reducible assumption|skip))
   by_cases hn : f.nm = []
   ·have hb : f.nm.isEmpty = true := by rw [hn]; rfl
    have e : addK ks f.nm = ks := by unfold addK; rw [if_pos (.inl hn)]
    rw [e] at tl6
    (refine awp_if fun T F hT hF => ?_; simp [go_sem, hb]; refine hF ?_; clear hT hF T F)
    refine awp_skip ?_
    refine tl6 _ ?_
    (refine cov_of ?_ ?_ <;> simp [go_sem])
   ·have hb : f.nm.isEmpty = false := by
     cases hq : f.nm with
     | nil => exact absurd hq hn
     | cons _ _ => rfl
    obtain ⟨m1, m2⟩ := mput_K ks f.nm hn
    (refine awp_if fun T F hT hF => ?_; simp [go_sem, hb]; refine hT ?_; clear hT hF T F)
    (refine awp_r fun Y Yh => ?_; simp [go_sem, m1, m2]; ((repeat' (first|(refine ag_x ?_;simp [go_sem, m1, m2])|intro _|apply And.intro|(apply Yh;clear Yh Y)));all_goals first|apply Hold.mk|omega|with_reducible assumption|skip))
    refine tl6 _ ?_
    (refine cov_of ?_ ?_ <;> simp [go_sem])
  ·have hi2 : i = L.length := by omega
   subst hi2
   rw [List.take_length] at *
   (refine awp_if fun T F hT hF => ?_; simp [go_sem]; refine hF ?_; clear hT hF T F)
   refine awp_exit ?_
   simp only [go_sem]
   refine hK3 _ ?_; clear hK3
   (refine awp_sr fun Y Yh => ?_; simp [go_sem]; ((repeat' (first|(refine ag_x ?_;simp [go_sem])|intro _|apply And.intro|(apply Yh;clear Yh Y)));all_goals first|apply Hold.mk|omega|with_reducible assumption|skip))
   (refine callA_l [900020, 900021] (.inl ⟨rfl,rfl⟩) (by simp [go_sem]) ?_; intro args ha; simp [go_sem] at ha; subst ha; refine ⟨_, _, (keys_spec gm (esM (ksV L))), (by simp [go_sem]), ?_⟩; rintro ps r hps ⟨gb, rfl, rfl⟩; simp [go_sem]; ((repeat' (first|(refine ag_x ?_;simp [go_sem])|intro _|apply And.intro|(apply Yh;clear Yh Y)));all_goals first|apply Hold.mk|omega|with_reducible assumption|skip))
   refine callA_e [900020, 900021] (.inl ⟨rfl, rfl⟩) ?_
   intro args ha; simp [go_sem] at ha; subst ha
   refine ⟨_, _, hS gm gb, (by simp [go_sem]), ?_⟩
   rintro ps r hps ⟨rfl, rfl⟩
   simp [go_sem]
   ((repeat' (first|(refine ag_x ?_;simp [go_sem])|refine adr_nil ?_|refine adr_two ?_ ?_|refine adr_kq ?_ ?_|refine adr_three ?_ ?_ ?_|refine adr_four ?_ ?_ ?_ ?_|refine adr_kp2 ?_ ?_|refine adr_kp3 ?_ ?_ ?_|((first|refine adr_qs fun Y Yh=>?_|refine adr_y fun Y Yh=>?_);simp [go_sem])|intro _|apply And.intro|(apply Yh;clear Yh Y)));all_goals first|apply Hold.mk|omega|with_reducible assumption|skip)
   (refine awp_ret ?_; simp [go_sem])
end Go.Proofs.YtelhdhofnohkcaaGreatDoor
namespace Go.Proofs.YtelhdhofnohkcaaGreatDoor
open Go.Eng Go.Fm
set_option maxRecDepth 20000
abbrev dOn : D := .sl 1 [[dS [92]], [dS [92, 92]], [dS [34]], [dS [92, 34]], [dS [10]], [dS [92, 110]]]
attribute [local irreducible] AG CallA CallT AWp PCall ACall AgC
set_option maxHeartbeats 8000000 in
theorem newr_spec : ACall Tryz.prog 76 [dOn] [] [900010] fun ps r => ∃ g, ps = [(g, .box [.v (.int .u32 0), .v (.int .i32 0), .v (.int .u32 0), .v .nilIface, dOn])] ∧ r = .ptr 900010 g 0 := by 
 refine acall_of Tryz.func76 rfl rfl Tryz.ntmps76 (rs := [.tmp 2]) (tys := [135]) rfl rfl (by simp) (by simp) ?_
 (refine awp_sr fun Y Yh => ?_; simp [go_sem]; ((repeat' (first|(refine ag_x ?_;simp [go_sem])|intro _|apply And.intro|(apply Yh;clear Yh Y)));all_goals first|apply Hold.mk|omega|with_reducible assumption|skip))
 refine awp_seq_k fun K1 hK1 => ?_
 (refine awp_sr fun Y Yh => ?_; simp [go_sem]; ((repeat' (first|(refine ag_x ?_;simp [go_sem])|intro _|apply And.intro|(apply Yh;clear Yh Y)));all_goals first|apply Hold.mk|omega|with_reducible assumption|skip))
 (refine awp_if fun T F hT hF => ?_; simp [go_sem]; refine hF ?_; clear hT hF T F)
 refine awp_skip ?_
 refine hK1 _ ?_; clear hK1
 (refine awp_sr fun Y Yh => ?_; simp [go_sem]; ((repeat' (first|(refine ag_x ?_;simp [go_sem])|intro _|apply And.intro|(apply Yh;clear Yh Y)));all_goals first|apply Hold.mk|omega|with_reducible assumption|skip))
 refine awp_renbox 2 900010 rfl rfl (by decide) fun g => ?_
 simp only [go_sem]
 refine awp_frzin 9 900010 4 rfl rfl (by decide) rfl ?_
 simp only [go_sem, List.set]
 (refine awp_ret ?_; simp [go_sem])
end Go.Proofs.YtelhdhofnohkcaaGreatDoor
