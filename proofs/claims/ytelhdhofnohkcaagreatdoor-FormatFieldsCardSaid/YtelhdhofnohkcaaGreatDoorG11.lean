/- Part of a proof: see the last text. -/
import Derived.Test.YtelhdhofnohkcaaGreatDoorG03
import Derived.Test.YtelhdhofnohkcaaGreatDoorG06
import Derived.Sort.Walk0
import Derived.Shelf.SlIter.Nil
import Derived.Shelf.SortM.Plain
import Derived.Shelf.SortM.SortNone
import Derived.Test.YtelhdhofnohkcaaGreatDoorProg
import Derived.Test.YtelhdhofnohkcaaGreatDoorG05
import Derived.Test.YtelhdhofnohkcaaGreatDoorG10
import Derived.Lib.ConvBytes
import Derived.Test.YtelhdhofnohkcaaGreatDoorG08
import Derived.Laws.Pointers
import Derived.Laws.LoneSync
import Derived.RegionTactic
import Derived.RegionCalls
import Derived.ChangeAlike
set_option linter.unusedVariables false
set_option linter.unusedSimpArgs false
namespace Go.Fm
/-! the names of a format -/
def addK (ks : List (List UInt8)) (s : List UInt8) : List (List UInt8) := if s = [] ∨ s ∈ ks then ks else ks ++ [s]
def insS (s : List UInt8) : List (List UInt8) → List (List UInt8)
 | [] => [s]
 | x :: r => if x = s then x :: r else if s < x then s :: x :: r else x :: insS s r
def withV (l : List (List UInt8)) (s : List UInt8) : List (List UInt8) := if s = [] then l else insS s l
theorem addK_inv {ks : List (List UInt8)} {s : List UInt8} (h : ks.Nodup) : (addK ks s).Nodup ∧ ∀ x, x ∈ addK ks s ↔ x ∈ ks ∨ (x = s ∧ s ≠ []) := by
 unfold addK
 split
 ·rename_i hc
  refine ⟨h, fun x => ⟨.inl, ?_⟩⟩
  rintro (q | ⟨rfl, q⟩)
  ·exact q
  ·rcases hc with hc | hc
   ·exact absurd hc q
   ·exact hc
 ·rename_i hc
  rw [not_or] at hc
  refine ⟨?_, fun x => ?_⟩
  ·rw [List.nodup_append]
   refine ⟨h, by simp, fun a ha b hb => ?_⟩
   rw [List.mem_singleton] at hb
   subst hb
   intro q
   subst q
   exact hc.2 ha
  ·simp [hc.1]
theorem tri (a b : List UInt8) (h1 : a ≠ b) (h2 : ¬ b < a) : a < b := by
 rcases Classical.em (a < b) with h | h
 ·exact h
 ·exact absurd (List.le_antisymm (List.not_lt.1 h2) (List.not_lt.1 h)) h1
theorem insS_mem (s : List UInt8) : ∀ (l : List (List UInt8)) (x : List UInt8), x ∈ insS s l ↔ x ∈ l ∨ x = s
 | [], x => by simp [insS]
 | y :: r, x => by
  unfold insS
  split
  ·rename_i h
   subst h
   simp only [List.mem_cons]
   constructor
   ·exact .inl
   ·rintro (h | rfl)
    ·exact h
    ·exact .inl rfl
  ·split
   ·simp only [List.mem_cons]
    constructor
    ·rintro (h | h | h)
     ·exact .inr h
     ·exact .inl (.inl h)
     ·exact .inl (.inr h)
    ·rintro ((h | h) | h)
     ·exact .inr (.inl h)
     ·exact .inr (.inr h)
     ·exact .inl h
   ·simp only [List.mem_cons, insS_mem s r x]
    constructor
    ·rintro (h | h | h)
     ·exact .inl (.inl h)
     ·exact .inl (.inr h)
     ·exact .inr h
    ·rintro ((h | h) | h)
     ·exact .inl h
     ·exact .inr (.inl h)
     ·exact .inr (.inr h)
theorem insS_asc (s : List UInt8) : ∀ {l : List (List UInt8)}, l.Pairwise (· < ·) → (insS s l).Pairwise (· < ·)
 | [], _ => by simp [insS]
 | y :: r, h => by
  rw [List.pairwise_cons] at h
  unfold insS
  split
  ·rw [List.pairwise_cons]; exact h
  ·rename_i hne
   split
   ·rename_i hlt
    rw [List.pairwise_cons]
    refine ⟨fun x hx => ?_, by rw [List.pairwise_cons]; exact h⟩
    rcases List.mem_cons.1 hx with rfl | hx
    ·exact hlt
    ·exact List.lt_trans hlt (h.1 x hx)
   ·rename_i hlt
    rw [List.pairwise_cons]
    refine ⟨fun x hx => ?_, insS_asc s h.2⟩
    rcases (insS_mem s r x).1 hx with hx | rfl
    ·exact h.1 x hx
    ·exact tri _ _ hne hlt
theorem ww {l : List (List UInt8)} {s : List UInt8} (h : l.Pairwise (· < ·)) : (withV l s).Pairwise (· < ·) ∧ ∀ x, x ∈ withV l s ↔ x ∈ l ∨ (x = s ∧ s ≠ []) := by
 unfold withV
 split
 ·rename_i hs
  exact ⟨h, fun x => ⟨.inl, fun q => q.resolve_right fun q => q.2 hs⟩⟩
 ·rename_i hs
  exact ⟨insS_asc s h, fun x => by rw [insS_mem]; simp [hs]⟩
theorem names_two (ns ms : List (List UInt8)) (h : ∀ x, x ≠ [] → (x ∈ ns ↔ x ∈ ms)) :
  (ns.foldl addK []).mergeSort (fun x y => decide (x ≤ y)) = ms.foldl withV [] := by
 have hK : ∀ (ns ks : List (List UInt8)), ks.Nodup → (ns.foldl addK ks).Nodup ∧ ∀ x, x ∈ ns.foldl addK ks ↔ x ∈ ks ∨ (x ∈ ns ∧ x ≠ []) := by
  intro ns
  induction ns with
  | nil => intro ks h; exact ⟨h, fun x => by simp⟩
  | cons s r ih =>
   intro ks h
   obtain ⟨h1, h2⟩ := addK_inv (s := s) h
   obtain ⟨h3, h4⟩ := ih _ h1
   refine ⟨h3, fun x => ?_⟩
   rw [List.foldl_cons, h4, h2, List.mem_cons]
   constructor
   ·rintro ((q | ⟨rfl, q⟩) | ⟨q1, q2⟩)
    ·exact .inl q
    ·exact .inr ⟨.inl rfl, q⟩
    ·exact .inr ⟨.inr q1, q2⟩
   ·rintro (q | ⟨rfl | q1, q2⟩)
    ·exact .inl (.inl q)
    ·exact .inl (.inr ⟨rfl, q2⟩)
    ·exact .inr ⟨q1, q2⟩
 have hW : ∀ (ns ks : List (List UInt8)), ks.Pairwise (· < ·) → (ns.foldl withV ks).Pairwise (· < ·) ∧ ∀ x, x ∈ ns.foldl withV ks ↔ x ∈ ks ∨ (x ∈ ns ∧ x ≠ []) := by
  intro ns
  induction ns with
  | nil => intro ks h; exact ⟨h, fun x => by simp⟩
  | cons s r ih =>
   intro ks h
   obtain ⟨h1, h2⟩ := ww (s := s) h
   obtain ⟨h3, h4⟩ := ih _ h1
   refine ⟨h3, fun x => ?_⟩
   rw [List.foldl_cons, h4, h2, List.mem_cons]
   constructor
   ·rintro ((q | ⟨rfl, q⟩) | ⟨q1, q2⟩)
    ·exact .inl q
    ·exact .inr ⟨.inl rfl, q⟩
    ·exact .inr ⟨.inr q1, q2⟩
   ·rintro (q | ⟨rfl | q1, q2⟩)
    ·exact .inl (.inl q)
    ·exact .inl (.inr ⟨rfl, q2⟩)
    ·exact .inr ⟨q1, q2⟩
 obtain ⟨k1, k2⟩ := hK ns [] (by simp)
 obtain ⟨w1, w2⟩ := hW ms [] (by simp)
 have hp : (ns.foldl addK []).Perm (ms.foldl withV []) := by
  refine (List.perm_ext_iff_of_nodup k1 (w1.imp fun q e => ?_)).2 fun x => ?_
  ·subst e; exact absurd q (List.lt_irrefl _)
  ·rw [k2, w2]
   constructor
   ·rintro (q | ⟨q1, q2⟩)
    ·exact .inl q
    ·exact .inr ⟨(h x q2).1 q1, q2⟩
   ·rintro (q | ⟨q1, q2⟩)
    ·exact .inl q
    ·exact .inr ⟨(h x q2).2 q1, q2⟩
 have tr : ∀ a b c : List UInt8, decide (a ≤ b) = true → decide (b ≤ c) = true → decide (a ≤ c) = true := fun a b c h1 h2 => by simp only [decide_eq_true_eq] at *; exact List.le_trans h1 h2
 have tot : ∀ a b : List UInt8, (decide (a ≤ b) || decide (b ≤ a)) = true := fun a b => by simp only [Bool.or_eq_true, decide_eq_true_eq]; exact List.le_total a b
 have e : (ms.foldl withV []).mergeSort (fun x y => decide (x ≤ y)) = ms.foldl withV [] := List.mergeSort_of_pairwise (w1.imp fun q => by simp only [decide_eq_true_eq]; exact List.le_of_lt q)
 rw [← e]
 refine List.Perm.eq_of_pairwise (le := fun a b => decide (a ≤ b) = true) (fun a b _ _ h1 h2 => ?_) (List.pairwise_mergeSort tr tot _) (List.pairwise_mergeSort tr tot _) (((List.mergeSort_perm _ _).trans hp).trans (List.mergeSort_perm _ _).symm)
 simp only [decide_eq_true_eq] at h1 h2
 exact List.le_antisymm h1 h2
theorem read_nm : ∀ (k : Nat) (s : List UInt8) (out L : List Rf) (nd ot a b : Nat), rReadF k s out nd ot = some (L, a, b) → (∀ f ∈ out, f.lt = 0 → f.nm = []) → ∀ f ∈ L, f.lt = 0 → f.nm = [] := by
 intro k
 induction k with
 | zero => intro s out L nd ot a b h; simp [rReadF] at h
 | succ k ih =>
  intro s out L nd ot a b h hn
  have hb : ∀ t, (byF t).nm = [] := fun _ => rfl
  rw [rReadF] at h
  split at h
  ·cases h; exact hn
  ·simp only at h
   split at h
   ·cases h
    intro f hf _
    rcases List.mem_append.1 hf with hf | hf
    ·exact hn f hf ‹_›
    ·rw [List.mem_singleton] at hf; subst hf; rfl
   ·split at h
    ·refine ih _ _ _ _ _ _ _ h fun f hf h0 => ?_
     simp only [List.mem_append, List.mem_singleton] at hf
     rcases hf with (hf | rfl) | rfl
     ·exact hn f hf h0
     ·rfl
     ·rfl
    ·split at h
     ·cases h
     ·rename_i f r hr
      have hl := (rfield_lt hr).1
      refine ih _ _ _ _ _ _ _ h fun f' hf h0 => ?_
      simp only [List.mem_append, List.mem_singleton] at hf
      rcases hf with (hf | rfl) | rfl
      ·exact hn f' hf h0
      ·rfl
      ·exact absurd h0 hl
theorem conv_nm {L : List Rf} (h : ∀ f ∈ L, f.lt = 0 → f.nm = []) (x : List UInt8) (hx : x ≠ []) : x ∈ (convL L).map (·.nm) ↔ x ∈ L.map (·.nm) := by
 induction L with
 | nil => simp [convL]
 | cons f L ih =>
  have e : convL (f :: L) = conv1 f ++ convL L := by simp [convL]
  rw [e, List.map_append, List.mem_append, ih fun g hg => h g (by simp [hg]), List.map_cons, List.mem_cons]
  have : x ∈ (conv1 f).map (·.nm) ↔ x = f.nm := by
   unfold conv1
   split
   ·rename_i h0
    have hf := h f (by simp) h0
    split
    ·rw [hf]; simp [hx]
    ·rw [hf]; simp [hx, fdT]
   ·simp [toFd]
  rw [this]
def namesV (form : List UInt8) : List (List UInt8) × Nat := match readV form with
 | none => ([], 4)
 | some L => (((L.map (·.nm)).foldl addK []).mergeSort (fun x y => decide (x ≤ y)), 0)
def rnamesV (form : List UInt8) : List (List UInt8) × Nat := match rReadV form with
 | none => ([], 4)
 | some (L, a, b) => if 0 < a ∧ 0 < b then ([], 4) else ((L.map (·.nm)).foldl withV [], 0)
theorem names_same (form : List UInt8) : namesV form = rnamesV form := by
 unfold namesV rnamesV
 rw [zu]
 cases hr : rReadV form with
 | none => rfl
 | some q =>
  obtain ⟨L, a, b⟩ := q
  by_cases h : 0 < a ∧ 0 < b
  ·simp only [endV, if_pos h]
  ·simp only [endV, if_neg h]
   unfold rReadV at hr
   split at hr
   ·cases hr
   ·rw [names_two _ _ (conv_nm (read_nm _ _ _ _ _ _ _ _ hr (by simp)))]
def fldN (form : List UInt8) : Nat × Nat := match readV form with
 | none => (0, 4)
 | some L => (fldsV L, 0)
def rfldN (form : List UInt8) : Nat × Nat := match rReadV form with
 | none => (0, 4)
 | some (L, a, b) => if 0 < a ∧ 0 < b then (0, 4) else (if 0 < a then 0 else rfldsV L, 0)
theorem fields_same (form : List UInt8) : fldN form = rfldN form := by
 unfold fldN rfldN
 rw [zu]
 cases hr : rReadV form with
 | none => rfl
 | some q =>
  obtain ⟨L, a, b⟩ := q
  have hc : a = cntN L ∧ b = cntO L := by
   unfold rReadV at hr
   split at hr
   ·cases hr
   ·exact read_cnt _ _ _ _ _ _ _ _ hr rfl rfl
  by_cases h : 0 < a ∧ 0 < b
  ·simp only [endV, if_pos h]
  ·simp only [endV, if_neg h]
   by_cases ha : 0 < a
   ·rw [if_pos ha, flds_named L (by omega)]
   ·rw [if_neg ha, flds_plain L (by omega)]
end Go.Fm
namespace Go.Proofs.YtelhdhofnohkcaaGreatDoor
open Go.Eng Go.Fm
set_option maxRecDepth 20000
attribute [local irreducible] AG CallA CallT AWp PCall ACall AgC
theorem insS_at (s : Bs) (l : List Bs) (i : Nat) (h : i < l.length) : insS s (l.drop i) = if l[i] = s then l.drop i else if s < l[i] then s :: l.drop i else l[i] :: insS s (l.drop (i + 1)) := by
 rw [List.drop_eq_getElem_cons h, insS]
set_option maxHeartbeats 8000000 in
theorem wu (l : List Bs) (s : Bs) (hl : l.length ≤ 1000000) : PCall Tryz.prog 46 [dSs l, dS s] fun r => r = dSs (withV l s) := by 
 refine qB Tryz.func46 rfl rfl Tryz.ntmps46 (rs := [.tmp 4]) (tys := [23]) rfl rfl (by simp) ?_
 generalize hV : withV l s = V
 unfold withV at hV
 (refine qc fun Y Yh => ?_; simp [go_sem]; ((repeat' (first|(refine qf ?_;simp [go_sem])|intro _|apply And.intro|(apply Yh;clear Yh Y)));all_goals first|apply QS|omega|with_reducible assumption|skip))
 refine qh fun K1 hK1 => ?_
 (refine qc fun Y Yh => ?_; simp [go_sem]; ((repeat' (first|(refine qf ?_;simp [go_sem])|intro _|apply And.intro|(apply Yh;clear Yh Y)));all_goals first|apply QS|omega|with_reducible assumption|skip))
 by_cases hs : s = []
 ·rw [if_pos hs] at hV
  subst hs hV
  (refine qg fun T F hT hF => ?_; simp [go_sem]; refine hT ?_; clear hT hF T F)
  (refine qc fun Y Yh => ?_; simp [go_sem]; ((repeat' (first|(refine qf ?_;simp [go_sem])|intro _|apply And.intro|(apply Yh;clear Yh Y)));all_goals first|apply QS|omega|with_reducible assumption|skip))
  (refine qj ?_; simp [go_sem])
 ·rw [if_neg hs] at hV
  have hs' : s.isEmpty = false := by
   cases s with
   | nil => exact absurd rfl hs
   | cons _ _ => rfl
  (refine qg fun T F hT hF => ?_; simp [go_sem, hs']; refine hF ?_; clear hT hF T F)
  refine qi ?_
  refine hK1 _ ?_; clear hK1
  refine qh fun K2 hK2 => ?_
  (refine qc fun Y Yh => ?_; simp [go_sem]; ((repeat' (first|(refine qf ?_;simp [go_sem])|intro _|apply And.intro|(apply Yh;clear Yh Y)));all_goals first|apply QS|omega|with_reducible assumption|skip))
  refine qo ?_
  refine qM (σ := Nat) (fun i => ⟨[(0, dSs l), (1, dS s), (5, dI i)], []⟩) (fun i => i ≤ l.length ∧ l.take i ++ insS s (l.drop i) = V) (fun i => l.length - i) 0 ?_ ?_ ?_
  ·(refine ql ?_ ?_ <;> simp [go_sem])
  ·exact ⟨by simp, by simpa using hV⟩
  rintro i ⟨hi, hx⟩
  refine qh fun K3 hK3 => ?_
  (refine qc fun Y Yh => ?_; simp [go_sem]; ((repeat' (first|(refine qf ?_;simp [go_sem])|intro _|apply And.intro|(apply Yh;clear Yh Y)));all_goals first|apply QS|omega|with_reducible assumption|skip))
  by_cases h4 : i < l.length
  ·have hst := insS_at s l i h4
   rw [hst] at hx
   (refine qg fun T F hT hF => ?_; simp [go_sem, h4]; refine hT ?_; clear hT hF T F)
   refine qi ?_
   refine hK3 _ ?_; clear hK3
   refine qh fun K4 hK4 => ?_
   refine qo ?_
   refine qh fun K5 hK5 => ?_
   have hge : l[i]? = some l[i] := List.getElem?_eq_getElem h4
   have hln : (l.drop i).length = l.length - i := List.length_drop
   have htl : (l.take i).length = i := by rw [List.length_take]; omega
   have hta := List.take_append_drop i l
   have hdr : l.drop i = l[i] :: l.drop (i + 1) := List.drop_eq_getElem_cons h4
   have hnx : l.take (i + 1) = l.take i ++ [l[i]] := by rw [List.take_add_one, hge]; rfl
   (refine qc fun Y Yh => ?_; simp [go_sem, h4, hge]; ((repeat' (first|(refine qf ?_;simp [go_sem, h4, hge])|intro _|apply And.intro|(apply Yh;clear Yh Y)));all_goals first|apply QS|omega|with_reducible assumption|skip))
   clear hst
   by_cases hc : l[i] = s
   ·rw [if_pos hc, hta] at hx
    have hb : (l[i] == s) = true := by rw [beq_iff_eq]; exact hc
    (refine qg fun T F hT hF => ?_; simp [go_sem, hb]; refine hT ?_; clear hT hF T F)
    (refine qc fun Y Yh => ?_; simp [go_sem]; ((repeat' (first|(refine qf ?_;simp [go_sem])|intro _|apply And.intro|(apply Yh;clear Yh Y)));all_goals first|apply QS|omega|with_reducible assumption|skip))
    (refine qj ?_; simp [go_sem, hx])
   ·rw [if_neg hc] at hx
    have hb : (l[i] == s) = false := by rw [beq_eq_false_iff_ne]; exact hc
    (refine qg fun T F hT hF => ?_; simp [go_sem, hb]; refine hF ?_; clear hT hF T F)
    refine qi ?_
    refine hK5 _ ?_; clear hK5
    have hbl := bytesLess_eq s l[i]
    (refine qc fun Y Yh => ?_; simp [go_sem, h4, hge]; ((repeat' (first|(refine qf ?_;simp [go_sem, h4, hge])|intro _|apply And.intro|(apply Yh;clear Yh Y)));all_goals first|apply QS|omega|with_reducible assumption|skip))
    by_cases hlt : s < l[i]
    ·rw [if_pos hlt] at hx
     have hb2 : Op.bytesLess s l[i] = true := by rw [hbl]; simpa using hlt
     (refine qg fun T F hT hF => ?_; simp [go_sem, hb2]; refine hT ?_; clear hT hF T F)
     have hi2 : (i : Int) ≤ l.length := by omega
     ((refine qX (.qs [1, 2, 3, 5, 8, 9, 10] (.kp2 0 (.kp2 4 (.kp 6 (.one 7 (.one 11 (.qs [12] (.nil))))) 6 (.kp 4 (.one 7 (.one 11 (.qs [12] (.nil)))))) 6 (.kp 0 (.kp 4 (.one 7 (.one 11 (.qs [12] (.nil)))))))) (by kernel_rfl) ?_ ?_ ?_ ?_); (kernel_rfl); (exact (by decide +kernel)); (kernel_rfl); intro Y Yh; ((repeat' (first|(refine qf ?_;simp [go_sem, h4, hge, hi2])|refine qC ?_|refine xY ?_ ?_|((first|refine qJ fun Y Yh=>?_|refine qR fun Y Yh=>?_);simp [go_sem, h4, hge, hi2])|intro _|apply And.intro|(apply Yh;clear Yh Y)));all_goals first|apply QS|omega|with_reducible assumption|skip))
     all_goals (refine qj ?_; simp [go_sem])
     all_goals (rw [← hx]; simp [List.map_take, List.map_drop])
    ·rw [if_neg hlt] at hx
     have hb2 : Op.bytesLess s l[i] = false := by rw [hbl]; simpa using hlt
     (refine qg fun T F hT hF => ?_; simp [go_sem, hb2]; refine hF ?_; clear hT hF T F)
     refine qi ?_
     refine hK4 _ ?_; clear hK4
     (refine qx fun Y Yh => ?_; simp [go_sem]; ((repeat' (first|(refine qf ?_;simp [go_sem])|intro _|apply And.intro|(apply Yh;clear Yh Y)));all_goals first|apply QS|omega|with_reducible assumption|skip))
     refine ⟨i + 1, ?_, ⟨by omega, ?_⟩, by omega⟩
     ·(refine ql ?_ ?_ <;> simp [go_sem])
     ·rw [← hx, hnx, List.append_assoc]; rfl
  ·have hi2 : i = l.length := by omega
   subst hi2
   rw [List.take_length, List.drop_length] at hx
   simp only [insS] at hx
   (refine qg fun T F hT hF => ?_; simp [go_sem, h4]; refine hF ?_; clear hT hF T F)
   refine qH ?_
   simp only [go_sem]
   refine hK2 _ ?_; clear hK2
   (refine qc fun Y Yh => ?_; simp [go_sem]; ((repeat' (first|(refine qf ?_;simp [go_sem])|intro _|apply And.intro|(apply Yh;clear Yh Y)));all_goals first|apply QS|omega|with_reducible assumption|skip))
   (refine qj ?_; simp [go_sem])
   rw [← hx]
   simp
end Go.Proofs.YtelhdhofnohkcaaGreatDoor
namespace Go.Proofs
open Go.Shelf
def Tryz.keys45_ren : Go.Shelf.Ren := ⟨fun | 7 => 45 | 10 => 69 | n => n, fun | 23 => 89 | 26 => 9 | 3 => 4 | 28 => 92 | 0 => 0 | 27 => 91 | 33 => 55 | 4 => 4 | n => n, fun | n => n⟩
theorem Tryz.keys45 : Go.Proofs.SlLaysZ.n7 Tryz.prog Tryz.keys45_ren := {
 mixed := by kernel_rfl
 f7 := ⟨Tryz.f45.name, by decide, Tryz.func45.trans (congrArg some (by kernel_rfl))⟩
 f10 := ⟨Tryz.f69.name, by decide, Tryz.func69.trans (congrArg some (by kernel_rfl))⟩
 t0 := Tryz.underlying0
 a0 := Tryz.isAgg0
 z0 := Tryz.sizeOf0
 v0 := Tryz.zeroValue0
 t4 := Tryz.underlying4
 a4 := Tryz.isAgg4
 z4 := Tryz.sizeOf4
 v4 := Tryz.zeroValue4
 t23 := Tryz.underlying89
 a23 := Tryz.isAgg89
 z23 := Tryz.sizeOf89
 v23 := Tryz.zeroValue89
 t26 := Tryz.underlying9
 a26 := Tryz.isAgg9
 z26 := Tryz.sizeOf9
 v26 := Tryz.zeroValue9
 t27 := Tryz.underlying91
 a27 := Tryz.isAgg91
 z27 := Tryz.sizeOf91
 v27 := Tryz.zeroValue91
 t28 := Tryz.underlying92
 a28 := Tryz.isAgg92
 z28 := Tryz.sizeOf92
 v28 := Tryz.zeroValue92
 t33 := Tryz.underlying55
 a33 := Tryz.isAgg55
 z33 := Tryz.sizeOf55
 v33 := Tryz.zeroValue55 }
def Tryz.sorted44_ren : Go.Shelf.Ren := ⟨fun | 6 => 44 | 8 => 67 | 9 => 68 | 11 => 108 | 13 => 110 | 12 => 109 | 23 => 145 | 24 => 126 | 14 => 136 | 15 => 137 | 16 => 138 | 17 => 139 | 18 => 140 | 19 => 141 | 20 => 142 | 21 => 143 | 22 => 144 | 25 => 169 | 26 => 170 | 27 => 171 | 28 => 172 | 29 => 173 | 30 => 174 | 31 => 190 | n => n, fun | 26 => 9 | 28 => 92 | 24 => 23 | 0 => 0 | 3 => 3 | 37 => 39 | 48 => 153 | 50 => 105 | 4 => 4 | 40 => 211 | 39 => 210 | 45 => 137 | 5 => 5 | 9 => 9 | 51 => 236 | 55 => 123 | 57 => 263 | 58 => 264 | 33 => 55 | n => n, fun | n => n⟩
theorem Tryz.sorted44 : Go.Proofs.SlLaysZ.n6 Tryz.prog Tryz.sorted44_ren := {
 mixed := by kernel_rfl
 f6 := ⟨Tryz.f44.name, by decide, Tryz.func44.trans (congrArg some (by kernel_rfl))⟩
 f8 := ⟨Tryz.f67.name, by decide, Tryz.func67.trans (congrArg some (by kernel_rfl))⟩
 f11 := ⟨Tryz.f108.name, by decide, Tryz.func108.trans (congrArg some (by kernel_rfl))⟩
 t0 := Tryz.underlying0
 a0 := Tryz.isAgg0
 z0 := Tryz.sizeOf0
 v0 := Tryz.zeroValue0
 t24 := Tryz.underlying23
 a24 := Tryz.isAgg23
 z24 := Tryz.sizeOf23
 v24 := Tryz.zeroValue23
 t26 := Tryz.underlying9
 a26 := Tryz.isAgg9
 z26 := Tryz.sizeOf9
 v26 := Tryz.zeroValue9
 t28 := Tryz.underlying92
 a28 := Tryz.isAgg92
 z28 := Tryz.sizeOf92
 v28 := Tryz.zeroValue92
 i26 := by kernel_rfl }
def Tryz.sort68_ren : Go.Shelf.Ren := ⟨fun | 6 => 68 | 8 => 110 | 9 => 109 | 19 => 145 | 20 => 126 | 21 => 136 | 22 => 137 | 23 => 138 | 24 => 139 | 25 => 140 | 26 => 141 | 27 => 142 | 28 => 143 | 29 => 144 | 36 => 169 | 31 => 170 | 32 => 171 | 37 => 172 | 38 => 173 | 39 => 174 | 41 => 190 | n => n, fun | 27 => 23 | 29 => 9 | 3 => 3 | 32 => 39 | 26 => 23 | 0 => 0 | 44 => 153 | 46 => 105 | 4 => 4 | 36 => 211 | 35 => 210 | 41 => 137 | 5 => 5 | 9 => 9 | 53 => 236 | 57 => 123 | 63 => 263 | 64 => 264 | n => n, fun | n => n⟩
theorem Tryz.sort68 : Go.Proofs.SlLaysM.n6 Tryz.prog Tryz.sort68_ren := {
 mixed := by kernel_rfl
 f6 := ⟨Tryz.f68.name, by decide, Tryz.func68.trans (congrArg some (by kernel_rfl))⟩
 f8 := Tryz.func110.trans (congrArg some (by kernel_rfl))
 f9 := ⟨Tryz.f109.name, by decide, Tryz.func109.trans (congrArg some (by kernel_rfl))⟩
 f19 := Tryz.func145.trans (congrArg some (by kernel_rfl))
 f20 := Tryz.func126.trans (congrArg some (by kernel_rfl))
 f21 := ⟨Tryz.f136.name, by decide, Tryz.func136.trans (congrArg some (by kernel_rfl))⟩
 f22 := ⟨Tryz.f137.name, by decide, Tryz.func137.trans (congrArg some (by kernel_rfl))⟩
 f23 := ⟨Tryz.f138.name, by decide, Tryz.func138.trans (congrArg some (by kernel_rfl))⟩
 f24 := ⟨Tryz.f139.name, by decide, Tryz.func139.trans (congrArg some (by kernel_rfl))⟩
 f25 := ⟨Tryz.f140.name, by decide, Tryz.func140.trans (congrArg some (by kernel_rfl))⟩
 f26 := ⟨Tryz.f141.name, by decide, Tryz.func141.trans (congrArg some (by kernel_rfl))⟩
 f27 := ⟨Tryz.f142.name, by decide, Tryz.func142.trans (congrArg some (by kernel_rfl))⟩
 f28 := ⟨Tryz.f143.name, by decide, Tryz.func143.trans (congrArg some (by kernel_rfl))⟩
 f29 := ⟨Tryz.f144.name, by decide, Tryz.func144.trans (congrArg some (by kernel_rfl))⟩
 f31 := Tryz.func170.trans (congrArg some (by kernel_rfl))
 f32 := Tryz.func171.trans (congrArg some (by kernel_rfl))
 f36 := ⟨Tryz.f169.name, by decide, Tryz.func169.trans (congrArg some (by kernel_rfl))⟩
 f37 := ⟨Tryz.f172.name, by decide, Tryz.func172.trans (congrArg some (by kernel_rfl))⟩
 f38 := ⟨Tryz.f173.name, by decide, Tryz.func173.trans (congrArg some (by kernel_rfl))⟩
 f39 := ⟨Tryz.f174.name, by decide, Tryz.func174.trans (congrArg some (by kernel_rfl))⟩
 f41 := ⟨Tryz.f190.name, by decide, Tryz.func190.trans (congrArg some (by kernel_rfl))⟩
 t0 := Tryz.underlying0
 a0 := Tryz.isAgg0
 z0 := Tryz.sizeOf0
 v0 := Tryz.zeroValue0
 t3 := Tryz.underlying3
 a3 := Tryz.isAgg3
 z3 := Tryz.sizeOf3
 v3 := Tryz.zeroValue3
 t4 := Tryz.underlying4
 a4 := Tryz.isAgg4
 z4 := Tryz.sizeOf4
 v4 := Tryz.zeroValue4
 t5 := Tryz.underlying5
 a5 := Tryz.isAgg5
 z5 := Tryz.sizeOf5
 v5 := Tryz.zeroValue5
 t9 := Tryz.underlying9
 a9 := Tryz.isAgg9
 z9 := Tryz.sizeOf9
 v9 := Tryz.zeroValue9
 t26 := Tryz.underlying23
 a26 := Tryz.isAgg23
 z26 := Tryz.sizeOf23
 v26 := Tryz.zeroValue23
 t27 := Tryz.underlying23
 a27 := Tryz.isAgg23
 z27 := Tryz.sizeOf23
 v27 := Tryz.zeroValue23
 t29 := Tryz.underlying9
 a29 := Tryz.isAgg9
 z29 := Tryz.sizeOf9
 v29 := Tryz.zeroValue9
 t32 := Tryz.underlying39
 a32 := Tryz.isAgg39
 z32 := Tryz.sizeOf39
 v32 := Tryz.zeroValue39
 t35 := Tryz.underlying210
 a35 := Tryz.isAgg210
 z35 := Tryz.sizeOf210
 v35 := Tryz.zeroValue210
 t36 := Tryz.underlying211
 a36 := Tryz.isAgg211
 z36 := Tryz.sizeOf211
 v36 := Tryz.zeroValue211
 t41 := Tryz.underlying137
 a41 := Tryz.isAgg137
 z41 := Tryz.sizeOf137
 v41 := Tryz.zeroValue137
 t44 := Tryz.underlying153
 a44 := Tryz.isAgg153
 z44 := Tryz.sizeOf153
 v44 := Tryz.zeroValue153
 t46 := Tryz.underlying105
 a46 := Tryz.isAgg105
 z46 := Tryz.sizeOf105
 v46 := Tryz.zeroValue105
 t53 := Tryz.underlying236
 a53 := Tryz.isAgg236
 z53 := Tryz.sizeOf236
 v53 := Tryz.zeroValue236
 t57 := Tryz.underlying123
 a57 := Tryz.isAgg123
 z57 := Tryz.sizeOf123
 v57 := Tryz.zeroValue123
 t63 := Tryz.underlying263
 a63 := Tryz.isAgg263
 z63 := Tryz.sizeOf263
 v63 := Tryz.zeroValue263
 t64 := Tryz.underlying264
 a64 := Tryz.isAgg264
 z64 := Tryz.sizeOf264
 v64 := Tryz.zeroValue264 }
end Go.Proofs
namespace Go.Proofs.YtelhdhofnohkcaaGreatDoor
open Go.Eng Go.Fm Go.RowKit Go.Maps Go.Sort Go.Shelf
set_option maxRecDepth 20000
theorem sorts44 (m : Nat) : AnyZ.SortsIn Tryz.prog Tryz.sorted44_ren Fence.wide m :=
 ⟨fun blk off cap ss W hH hblk hsz => callsIn_wide.2 (AnyM.slices_Sort_string Tryz.sort68 blk off cap ss W hH hblk hsz),
  fun p cap W => callsIn_wide.2 (AnyM.slices_Sort_string_none Tryz.sort68 p cap W)⟩
theorem sortedKeys_w {H : Type} (b bb nn : Nat) (D0 : DataW H) (R : Value → Option (DataW H × List MemPlace)) (w : World) (hbb : bb < w.heap.size) (hm : w.cell? ⟨bb, 0, none⟩ = some (.map (some b))) (hown : w.ownsMap Tryz.prog 9 R b nn D0) (hmax : Maps.size D0 ≤ maxLen) (hbytes : Maps.size D0 * 16 ≤ 140737488355328) :
  Calls Tryz.prog 44 #[.func (.func 69) #[] #[.pointer (some ⟨bb, 0, none⟩)]] w fun e w' => ∃ (v : Value) (ss : List (List UInt8)), e = .returned v ∧ ss.Perm (strKeys D0) ∧
   w'.ownsRow w.heap.size 9 1 v ss.length ((ss.mergeSort (fun x y => decide (x ≤ y))).map encStr) ∧ (v = .slice none 0 0 ↔ ss = []) ∧ Below w.heap.size w w' := by
 have hseq : SeqGives Fence.wide 2 Tryz.prog 69 #[.pointer (some ⟨bb, 0, none⟩)] encStr (fun ss => ss.Perm (strKeys D0)) (Maps.size D0) w :=
  AnyZ.keys_gives (ρ := Tryz.keys45_ren) { Tryz.keys45 with } Fence.wide _ trivial rfl (by omega) bb b nn D0 _ hbb hm hown
 exact callsIn_wide.1 (AnyZ.sorted_in Tryz.sorted44 Fence.wide 5 trivial trivial trivial trivial rfl (by omega) (sorts44 _) (enters_of Tryz.func68 (by kernel_rfl) rfl) 69 #[.pointer (some ⟨bb, 0, none⟩)] trivial (enters_of Tryz.func69 (by kernel_rfl) rfl) _ _ hmax hbytes _ hseq)
theorem rep_owned {C : Ctx} {w w' : World} {e : TypeId} {u : Value} {xs : List Value} (hc : CtxOk C w) (h : w'.ownsRow w.heap.size e 1 u xs.length xs) : Rep C w' (.sl 1 (xs.map fun x => [.v x])) u := by
 obtain ⟨_, h⟩ := h
 rcases h with ⟨rfl, hz⟩ | ⟨gb, cap, cur, rfl, hbase, hgb, r1, r2, r3, r4⟩
 ·obtain rfl := List.eq_nil_of_length_eq_zero hz
  exact .slE 1 none 0 (by decide)
 ·have hno : ¬ C.owns gb := fun ⟨s, g, v, q1, q2, q3⟩ => by have := hc.bound s g v gb q1 q2 q3; omega
  have hl : (xs.map fun x => [D.v x]).length = xs.length := by simp
  have := Rep.sl (C := C) (w := w') 1 (xs.map fun x => [D.v x]) gb 0 cap (fun i _ => xs.getD i default) (by rw [hl]; exact r1) r2 (by simp) (fun i j e' c he hc' => ?_) (fun i j e' c he hc' => ?_)
  ·rw [hl] at this; exact this
  ·simp only [List.getElem?_map, Option.map_eq_some_iff] at he
   obtain ⟨x, hx, rfl⟩ := he
   match j, hc' with
   | 0, hc' =>
    refine ⟨hno, ?_⟩
    have hi : i < xs.length := (List.getElem?_eq_some_iff.1 hx).1
    have e1 : cur[i]? = some x := by
     have : (cur.toList.take (xs.length * 1))[i]? = some x := by rw [r4]; exact hx
     rw [List.getElem?_take, if_pos (by omega), Array.getElem?_toList] at this
     exact this
    unfold World.cell?
    rw [hgb]
    simp [e1, List.getD, hx]
   | j + 1, hc' => simp at hc'
  ·simp only [List.getElem?_map, Option.map_eq_some_iff] at he
   obtain ⟨x, hx, rfl⟩ := he
   match j, hc' with
   | 0, hc' =>
    simp at hc'
    subst hc'
    have : xs.getD i default = x := by simp [List.getD, hx]
    rw [this]
    exact .v x
   | j + 1, hc' => simp at hc'
abbrev leB : Bs → Bs → Bool := fun x y => decide (x ≤ y)
def esM (ks : List Bs) : List (Value × D) := ks.map fun k => (.string ⟨k.toArray⟩, dB true)
theorem xA (gm gb : Nat) (ks : List Bs) (hl : ks.length ≤ 1000000) (hk : ∀ k ∈ ks, k.length ≤ 1000000) : ACall Tryz.prog 44 [.fn 69 [.ptr 900021 gb 0]] [(900020, (gm, .map (esM ks))), (900021, (gb, .box [.own 900020 gm]))] [900020, 900021] fun ps r =>
  ps = [(gm, .map (esM ks)), (gb, .box [.own 900020 gm])] ∧ r = dSs (ks.mergeSort leB) := by 
 refine kS (es := [(900020, (gm, .map (esM ks))), (900021, (gb, .box [.own 900020 gm]))]) (R := fun r => r = dSs (ks.mergeSort leB)) ⟨_, Tryz.func44, rfl, rfl⟩ (by simp [qO]) (by simp [Eng.look]) fun C w us hc _ hr hent => ?_
 obtain ⟨r, arr, clock, q1, q2, q3, ⟨q4, q5⟩, q6⟩ := hent 900020 gm _ rfl
 obtain ⟨b, arr2, ty, p1, p2, p3, p4, p5⟩ := hent 900021 gb _ rfl
 have hus : us = [.func (.func 69) #[] #[.pointer (some ⟨b, 0, none⟩)]] := by
  obtain ⟨hl, hh⟩ := hr
  match us, hl with
  | [u1], _ =>
   have r1 := hh 0 _ _ rfl rfl
   cases r1 with
   | fn _ _ us hn h =>
    obtain ⟨l⟩ := us
    match l, hn, h with
    | [u0], _, h =>
     have h0 := h 0 _ u0 rfl rfl
     cases h0 with
     | ptr _ _ _ b' hb' =>
      rw [p1] at hb'
      cases hb'
      rfl
 subst hus
 have hm : w.cell? ⟨b, 0, none⟩ = some (.map (some r)) := by
  have h0 : 0 < arr2.size := by rw [p4]; simp
  have h1 := (p5 0 _ arr2[0] rfl (Array.getElem?_eq_getElem h0)).1
  have : arr2[0] = .map (some r) := by
   cases h1 with
   | own _ _ _ hv _ => rw [q1] at hv; simpa using hv.symm
  unfold World.cell?
  rw [p3]
  simp [h0, this]
 have hent1 : ∀ (j : Nat) k x, ks[j]? = some k → arr[j]? = some x → x.key = .string ⟨k.toArray⟩ ∧ x.val = .bool true := fun j k x h1 h2 => by
  obtain ⟨e1, e2⟩ := q6 j (.string ⟨k.toArray⟩, dB true) x (by simp [esM, h1]) h2
  exact ⟨e1, e2.v_inv⟩
 have hsz : arr.size = ks.length := by rw [q4]; simp [esM]
 let R : Value → Option (DataW Unit × List MemPlace) := plainElem Tryz.prog 4
 have hrd : ∀ (j : Nat) k x, ks[j]? = some k → arr[j]? = some x → WideElems.rd Tryz.prog 9 R x = some (.string k, .lit (.bool true)) := fun j k x h1 h2 => by
  obtain ⟨e1, e2⟩ := hent1 j k x h1 h2
  have hkl := hk k (List.mem_of_getElem? h1)
  have hv : R (.bool true) = some (.lit (.bool true), []) := plainElem_bool Tryz.underlying4 true
  unfold WideElems.rd
  rw [e1, e2, WideMaps.keyOf_string_mk (P := Tryz.prog) (k := 9) Tryz.underlying9 (s := ⟨k.toArray⟩) (by simp [ByteArray.size, maxLen]; omega), hv]
  rfl
 have hmap : arr.toList.map (WideElems.rg Tryz.prog 9 R) = ks.map fun k => ((.string k, .lit (.bool true)) : Lit × DataW Unit) := by
  refine List.ext_getElem (by simp [hsz]) fun j h1 h2 => ?_
  simp only [List.length_map, Array.length_toList] at h1 h2
  simp only [List.getElem_map, Array.getElem_toList]
  exact WideElems.rg_of (hrd j ks[j] arr[j] (List.getElem?_eq_getElem h2) (Array.getElem?_eq_getElem h1))
 have hown : w.ownsMap Tryz.prog 9 R r arr.size (.map ((arr.toList.map (WideElems.rg Tryz.prog 9 R)).foldr DataW.insert [])) := by
  refine ⟨arr, clock, q3, ⟨by rw [hsz]; simp [maxLen]; omega, q5, fun x hx => ?_⟩, Nat.le_refl _, rfl⟩
  obtain ⟨j, hj, rfl⟩ := List.mem_iff_getElem.1 hx
  have hj' : j < arr.size := by simpa using hj
  have hj2 : j < ks.length := by omega
  exact ⟨_, by rw [Array.getElem_toList]; exact hrd j ks[j] arr[j] (List.getElem?_eq_getElem hj2) (Array.getElem?_eq_getElem hj')⟩
 rw [hmap] at hown
 have hlen : Maps.size (.map ((ks.map fun k => ((.string k, .lit (.bool true)) : Lit × DataW Unit)).foldr DataW.insert [])) = ks.length := by
  rw [Maps.size_eq, length_sorted]; simp
 refine (sortedKeys_w r b _ _ R w (Array.getElem?_eq_some_iff.1 p3).1 hm hown (by rw [hlen]; simp [maxLen]; omega) (by rw [hlen]; omega)).mono ?_
 rintro e w' ⟨v, ss, rfl, hp, hrow, _, hb⟩
 have hp2 : ss.Perm ks := by
  refine hp.trans ?_
  have := (WideShapes.sorted_perm (ks.map fun k => ((.string k, .lit (.bool true)) : Lit × DataW Unit))).map fun p => strOf p.1
  rw [List.map_map] at this
  have e2 : (List.map ((fun p : Lit × DataW Unit => strOf p.1) ∘ fun k => ((.string k, .lit (.bool true)) : Lit × DataW Unit)) ks) = ks := by
   conv => rhs; rw [← List.map_id ks]
   rfl
  rw [e2] at this
  exact this
 refine ⟨v, _, rfl, rfl, ?_, hb⟩
 have hrow' : w'.ownsRow w.heap.size 9 1 v ((ks.mergeSort leB).map encStr).length ((ks.mergeSort leB).map encStr) := by
  have e3 : (ss.mergeSort fun x y => decide (x ≤ y)) = ks.mergeSort leB := mergeSort_of_perm hp2
  have e4 : ((ks.mergeSort leB).map encStr).length = ss.length := by rw [List.length_map, List.length_mergeSort]; exact hp2.length_eq.symm
  rw [e4, ← e3]
  exact hrow
 have := rep_owned hc hrow'
 simp only [List.map_map] at this
 exact this
end Go.Proofs.YtelhdhofnohkcaaGreatDoor
namespace Go.Proofs.YtelhdhofnohkcaaGreatDoor
open Go.Eng Go.Fm
set_option maxRecDepth 20000
attribute [local irreducible] AG CallA CallT AWp PCall ACall AgC
theorem wO (gm : Nat) (es : List (Value × D)) : ACall Tryz.prog 45 [.own 900020 gm] [(900020, (gm, .map es))] [900020, 900021] fun ps r => ∃ gb, ps = [(gm, .map es), (gb, .box [.own 900020 gm])] ∧ r = .fn 69 [.ptr 900021 gb 0] := by 
 refine qY Tryz.func45 rfl rfl Tryz.ntmps45 (rs := [.tmp 2]) (tys := [92]) rfl rfl (by simp) (by simp [qO]) ?_
 (refine qc fun Y Yh => ?_; simp [go_sem]; ((repeat' (first|(refine qf ?_;simp [go_sem])|intro _|apply And.intro|(apply Yh;clear Yh Y)));all_goals first|apply QS|omega|with_reducible assumption|skip))
 refine zf 1 900021 rfl rfl (by decide) fun gb => ?_
 simp only [go_sem]
 (refine qc fun Y Yh => ?_; simp [go_sem]; ((repeat' (first|(refine qf ?_;simp [go_sem])|intro _|apply And.intro|(apply Yh;clear Yh Y)));all_goals first|apply QS|omega|with_reducible assumption|skip))
 (refine qj ?_; simp [go_sem])
theorem mput_K (ks : List Bs) (k : Bs) (hk : k ≠ []) : mput 1 (.string ⟨k.toArray⟩) (dB true) (esM ks) = esM (addK ks k) ∧ (mfind 1 (.string ⟨k.toArray⟩) (esM ks)).isSome = true := by
 have e : addK ks k = if k ∈ ks then ks else ks ++ [k] := by unfold addK; simp [hk]
 rw [e]
 clear e
 induction ks with
 | nil => exact ⟨rfl, rfl⟩
 | cons x r ih =>
  have ee : esM (x :: r) = (.string ⟨x.toArray⟩, dB true) :: esM r := rfl
  have hq : keyEq 1 (.string ⟨k.toArray⟩) (.string ⟨x.toArray⟩) = some (k == x) := by simp [keyEq]
  rw [ee]
  simp only [mput, mfind, hq]
  by_cases hx : k = x
  ·subst hx
   simp [ee]
  ·have hb : (k == x) = false := by rw [beq_eq_false_iff_ne]; exact hx
   rw [hb]
   simp only [ih.1, ih.2, and_true]
   by_cases hm : k ∈ r
   ·rw [if_pos hm, if_pos (by simp [hm])]; rfl
   ·rw [if_neg hm, if_neg (by simp [hm, hx])]; rfl
def ksV (L : List Fld) : List Bs := (L.map (·.nm)).foldl addK []
theorem Qp {L : List Fld} {i : Nat} {f : Fld} (h : L[i]? = some f) : ksV (L.take (i + 1)) = addK (ksV (L.take i)) f.nm := by
 unfold ksV
 rw [List.take_add_one, h]
 simp
theorem addK_len (ks : List Bs) (s : Bs) : (addK ks s).length ≤ ks.length + 1 := by
 unfold addK; split <;> simp
theorem QE (L : List Fld) : (ksV L).length ≤ L.length := by
 have : ∀ (ns ks : List Bs), (ns.foldl addK ks).length ≤ ks.length + ns.length := by
  intro ns
  induction ns with
  | nil => intro ks; simp
  | cons s r ih => intro ks; have := ih (addK ks s); have := addK_len ks s; simp only [List.foldl_cons, List.length_cons]; omega
 have := this (L.map (·.nm)) []
 simpa [ksV] using this
theorem QD (L : List Fld) : ∀ k ∈ ksV L, ∃ f ∈ L, k = f.nm := by
 have : ∀ (ns ks : List Bs), ∀ k ∈ ns.foldl addK ks, k ∈ ks ∨ k ∈ ns := by
  intro ns
  induction ns with
  | nil => intro ks k h; exact .inl h
  | cons s r ih =>
   intro ks k h
   rcases ih _ k h with h | h
   ·unfold addK at h
    split at h
    ·exact .inl h
    ·rcases List.mem_append.1 h with h | h
     ·exact .inl h
     ·rw [List.mem_singleton] at h; subst h; exact .inr (by simp)
   ·exact .inr (by simp [h])
 intro k h
 rcases this _ _ k h with h | h
 ·simp at h
 ·obtain ⟨f, hf, rfl⟩ := List.mem_map.1 h; exact ⟨f, hf, rfl⟩
theorem wU {s r : Bs} {f : Fld} (h : fieldV s = some (f, r)) : f.nm.length ≤ s.length := by
 unfold fieldV at h
 split at h
 ·cases h
 ·rename_i nm s1 hn
  have hl : nm.length ≤ s.length := by
   unfold nameV at hn
   split at hn
   ·cases hn; simp
   ·simp only at hn
    split at hn
    ·cases hn
     rw [List.length_drop, List.length_take]; omega
    ·cases hn
  simp only [flag_same] at h
  repeat' split at h
  all_goals first | (cases h; done) | skip
  cases h
  exact hl
theorem readF_nm : ∀ (k : Nat) (s : Bs) (out : List Fld) (a b : Bool) (L : List Fld), (∀ f ∈ out, f.nm.length ≤ 2000) → s.length ≤ 2000 → readF k s out a b = some L → ∀ f ∈ L, f.nm.length ≤ 2000 := by
 intro k
 induction k with
 | zero => intro s out a b L _ _ h; simp [readF] at h
 | succ k ih =>
  intro s out a b L ho hs h
  have snoc : ∀ g : Fld, g.nm.length ≤ 2000 → ∀ f ∈ out ++ [g], f.nm.length ≤ 2000 := fun g hg f hf => by
   rcases List.mem_append.1 hf with hf | hf
   ·exact ho f hf
   ·rw [List.mem_singleton.1 hf]; exact hg
  have hT : ∀ t, (fdT t).nm.length ≤ 2000 := fun t => by simp [fdT]
  rw [readF] at h
  split at h
  ·split at h
   ·cases h
   ·cases h; exact ho
  ·simp only at h
   split at h
   ·split at h
    ·cases h
    ·cases h; exact snoc _ (hT _)
   ·split at h
    ·exact ih _ _ _ _ _ (snoc _ (hT _)) (by rw [List.length_drop]; omega) h
    ·split at h
     ·exact ih _ _ _ _ _ (snoc _ (hT _)) (by rw [List.length_drop]; omega) h
     ·split at h
      ·cases h
      ·rename_i f r hf
       have := zJ hf
       have := wU hf
       exact ih _ _ _ _ _ (snoc _ (by rw [List.length_tail] at this; omega)) (by rw [List.length_tail] at *; omega) h
theorem Qi {s : Bs} {L : List Fld} (h : readV s = some L) : ∀ f ∈ L, f.nm.length ≤ 2000 := by
 unfold readV at h
 split at h
 ·cases h
 ·exact readF_nm _ s [] _ _ L (by simp) (by omega) h
set_option maxHeartbeats 8000000 in
theorem vF (form : Bs) (hfl : form.length ≤ 9223372036854775807) : PCall Tryz.prog 26 [dS form] fun r => r = .tup [dSs (namesV form).1, dI (namesV form).2] := by 
 refine qB Tryz.func26 rfl rfl Tryz.ntmps26 (rs := [.tmp 2, .tmp 3]) (tys := [23, 34]) rfl rfl (by simp) ?_
 have hR := zL form hfl
 unfold namesV
 cases hr : readV form with
 | none =>
  rw [hr] at hR
  simp only
  (refine qc fun Y Yh => ?_; simp [go_sem]; ((repeat' (first|(refine qf ?_;simp [go_sem])|intro _|apply And.intro|(apply Yh;clear Yh Y)));all_goals first|apply QS|omega|with_reducible assumption|skip))
  (refine qc fun Y Yh => ?_; simp [go_sem]; ((repeat' (first|(refine qf ?_;simp [go_sem])|intro _|apply And.intro|(apply Yh;clear Yh Y)));all_goals first|apply QS|omega|with_reducible assumption|skip))
  ((try refine QT ?_); refine qm (.inl ⟨rfl,rfl⟩) (by simp [go_sem]) ?_; intro args ha; simp [go_sem] at ha; subst ha; refine ⟨_, hR, ?_⟩; rintro _ ⟨L', rfl⟩; simp [go_sem]; ((repeat' (first|(refine qf ?_;simp [go_sem])|intro _|apply And.intro|(apply Yh;clear Yh Y)));all_goals first|apply QS|omega|with_reducible assumption|skip))
  refine qh fun K1 hK1 => ?_
  (refine qc fun Y Yh => ?_; simp [go_sem]; ((repeat' (first|(refine qf ?_;simp [go_sem])|intro _|apply And.intro|(apply Yh;clear Yh Y)));all_goals first|apply QS|omega|with_reducible assumption|skip))
  (refine qg fun T F hT hF => ?_; simp [go_sem]; refine hT ?_; clear hT hF T F)
  (refine qc fun Y Yh => ?_; simp [go_sem]; ((repeat' (first|(refine qf ?_;simp [go_sem])|intro _|apply And.intro|(apply Yh;clear Yh Y)));all_goals first|apply QS|omega|with_reducible assumption|skip))
  (refine qj ?_; simp [go_sem])
 | some L =>
  rw [hr] at hR
  have hlen : L.length ≤ 100000 := jm hr
  have hkl := QE L
  have hkm : ∀ k ∈ ksV L, k.length ≤ 1000000 := fun k hk => by
   obtain ⟨f, hf, rfl⟩ := QD L k hk
   have := Qi hr f hf
   omega
  have hS := fun gm gb => xA gm gb (ksV L) (by omega) hkm
  have hVe : (List.map (fun x => x.nm) L).foldl addK [] = ksV L := rfl
  simp only
  rw [hVe]
  generalize hZ : (ksV L).mergeSort leB = Z at *
  (refine qc fun Y Yh => ?_; simp [go_sem]; ((repeat' (first|(refine qf ?_;simp [go_sem])|intro _|apply And.intro|(apply Yh;clear Yh Y)));all_goals first|apply QS|omega|with_reducible assumption|skip))
  (refine qc fun Y Yh => ?_; simp [go_sem]; ((repeat' (first|(refine qf ?_;simp [go_sem])|intro _|apply And.intro|(apply Yh;clear Yh Y)));all_goals first|apply QS|omega|with_reducible assumption|skip))
  ((try refine QT ?_); refine qm (.inl ⟨rfl,rfl⟩) (by simp [go_sem]) ?_; intro args ha; simp [go_sem] at ha; subst ha; refine ⟨_, hR, ?_⟩; rintro _ rfl; simp [go_sem]; ((repeat' (first|(refine qf ?_;simp [go_sem])|intro _|apply And.intro|(apply Yh;clear Yh Y)));all_goals first|apply QS|omega|with_reducible assumption|skip))
  refine qh fun K1 hK1 => ?_
  (refine qc fun Y Yh => ?_; simp [go_sem]; ((repeat' (first|(refine qf ?_;simp [go_sem])|intro _|apply And.intro|(apply Yh;clear Yh Y)));all_goals first|apply QS|omega|with_reducible assumption|skip))
  (refine qg fun T F hT hF => ?_; simp [go_sem]; refine hF ?_; clear hT hF T F)
  refine qi ?_
  refine hK1 _ ?_; clear hK1
  (refine qc fun Y Yh => ?_; simp [go_sem]; ((repeat' (first|(refine qf ?_;simp [go_sem])|intro _|apply And.intro|(apply Yh;clear Yh Y)));all_goals first|apply QS|omega|with_reducible assumption|skip))
  refine vX 6 900020 rfl rfl (by decide) fun gm => ?_
  simp only [go_sem]
  refine qh fun K3 hK3 => ?_
  (refine qc fun Y Yh => ?_; simp [go_sem]; ((repeat' (first|(refine qf ?_;simp [go_sem])|intro _|apply And.intro|(apply Yh;clear Yh Y)));all_goals first|apply QS|omega|with_reducible assumption|skip))
  refine qo ?_
  refine qM (σ := Nat) (fun i => ⟨[(6, .own 900020 gm), (17, dFs L), (18, dI L.length), (19, dI i)], [(900020, (gm, .map (esM (ksV (L.take i)))))]⟩) (fun i => i ≤ L.length) (fun i => L.length - i) 0 ?_ ?_ ?_
  ·(refine ql ?_ ?_ <;> simp [go_sem])
   rfl
  ·simp
  intro i hi
  (refine qc fun Y Yh => ?_; simp [go_sem]; ((repeat' (first|(refine qf ?_;simp [go_sem])|intro _|apply And.intro|(apply Yh;clear Yh Y)));all_goals first|apply QS|omega|with_reducible assumption|skip))
  refine qh fun K4 hK4 => ?_
  by_cases hend : i < L.length
  ·obtain ⟨f, hf⟩ : ∃ f, L[i]? = some f := ⟨_, List.getElem?_eq_getElem hend⟩
   have hst := Qp hf
   generalize ksV (L.take i) = ks at *
   (refine qg fun T F hT hF => ?_; simp [go_sem, hend]; refine hT ?_; clear hT hF T F)
   refine qi ?_
   refine hK4 _ ?_; clear hK4
   refine qh fun K6 hK6 => ?_
   have tl6 : ∀ S', Cov S' ⟨[(6, .own 900020 gm), (17, dFs L), (18, dI L.length), (19, dI i)], [(900020, (gm, .map (esM (addK ks f.nm))))]⟩ → K6 S' := fun S' hS' => by
    refine hK6 _ ?_; clear hK6
    refine qG hS' ?_; clear hS'
    (refine qx fun Y Yh => ?_; simp [go_sem]; ((repeat' (first|(refine qf ?_;simp [go_sem])|intro _|apply And.intro|(apply Yh;clear Yh Y)));all_goals first|apply QS|omega|with_reducible assumption|skip))
    refine ⟨i + 1, ?_, by omega, by omega⟩
    rw [hst]
    (refine ql ?_ ?_ <;> simp [go_sem])
   clear hK6
   refine qo ?_
   (refine qc fun Y Yh => ?_; simp [go_sem, hf]; ((repeat' (first|(refine qf ?_;simp [go_sem, hf])|intro _|apply And.intro|(apply Yh;clear Yh Y)));all_goals first|apply QS|omega|with_reducible assumption|skip))
   (refine qc fun Y Yh => ?_; simp [go_sem]; ((repeat' (first|(refine qf ?_;simp [go_sem])|intro _|apply And.intro|(apply Yh;clear Yh Y)));all_goals first|apply QS|omega|with_reducible assumption|skip))
   by_cases hn : f.nm = []
   ·have hb : f.nm.isEmpty = true := by rw [hn]; rfl
    have e : addK ks f.nm = ks := by unfold addK; rw [if_pos (.inl hn)]
    rw [e] at tl6
    (refine qg fun T F hT hF => ?_; simp [go_sem, hb]; refine hF ?_; clear hT hF T F)
    refine qi ?_
    refine tl6 _ ?_
    (refine ql ?_ ?_ <;> simp [go_sem])
   ·have hb : f.nm.isEmpty = false := by
     cases hq : f.nm with
     | nil => exact absurd hq hn
     | cons _ _ => rfl
    obtain ⟨m1, m2⟩ := mput_K ks f.nm hn
    (refine qg fun T F hT hF => ?_; simp [go_sem, hb]; refine hT ?_; clear hT hF T F)
    (refine qx fun Y Yh => ?_; simp [go_sem, m1, m2]; ((repeat' (first|(refine qf ?_;simp [go_sem, m1, m2])|intro _|apply And.intro|(apply Yh;clear Yh Y)));all_goals first|apply QS|omega|with_reducible assumption|skip))
    refine tl6 _ ?_
    (refine ql ?_ ?_ <;> simp [go_sem])
  ·have hi2 : i = L.length := by omega
   subst hi2
   rw [List.take_length] at *
   (refine qg fun T F hT hF => ?_; simp [go_sem]; refine hF ?_; clear hT hF T F)
   refine qH ?_
   simp only [go_sem]
   refine hK3 _ ?_; clear hK3
   (refine qc fun Y Yh => ?_; simp [go_sem]; ((repeat' (first|(refine qf ?_;simp [go_sem])|intro _|apply And.intro|(apply Yh;clear Yh Y)));all_goals first|apply QS|omega|with_reducible assumption|skip))
   (refine qN [900020, 900021] (.inl ⟨rfl,rfl⟩) (by simp [go_sem]) ?_; intro args ha; simp [go_sem] at ha; subst ha; refine ⟨_, _, (wO gm (esM (ksV L))), (by simp [go_sem]), ?_⟩; rintro ps r hps ⟨gb, rfl, rfl⟩; simp [go_sem]; ((repeat' (first|(refine qf ?_;simp [go_sem])|intro _|apply And.intro|(apply Yh;clear Yh Y)));all_goals first|apply QS|omega|with_reducible assumption|skip))
   refine QF [900020, 900021] (.inl ⟨rfl, rfl⟩) ?_
   intro args ha; simp [go_sem] at ha; subst ha
   refine ⟨_, _, hS gm gb, (by simp [go_sem]), ?_⟩
   rintro ps r hps ⟨rfl, rfl⟩
   simp [go_sem]
   ((repeat' (first|(refine qf ?_;simp [go_sem])|refine qC ?_|refine zX ?_ ?_|refine jc ?_ ?_|refine xx ?_ ?_ ?_|refine kR ?_ ?_ ?_ ?_|refine xY ?_ ?_|refine wo ?_ ?_ ?_|((first|refine qJ fun Y Yh=>?_|refine qR fun Y Yh=>?_);simp [go_sem])|intro _|apply And.intro|(apply Yh;clear Yh Y)));all_goals first|apply QS|omega|with_reducible assumption|skip)
   (refine qj ?_; simp [go_sem])
end Go.Proofs.YtelhdhofnohkcaaGreatDoor
namespace Go.Proofs.YtelhdhofnohkcaaGreatDoor
open Go.Eng Go.Fm
set_option maxRecDepth 20000
abbrev dOn : D := .sl 1 [[dS [92]], [dS [92, 92]], [dS [34]], [dS [92, 34]], [dS [10]], [dS [92, 110]]]
attribute [local irreducible] AG CallA CallT AWp PCall ACall AgC
set_option maxHeartbeats 8000000 in
theorem jq : ACall Tryz.prog 76 [dOn] [] [900010] fun ps r => ∃ g, ps = [(g, .box [.v (.int .u32 0), .v (.int .i32 0), .v (.int .u32 0), .v .nilIface, dOn])] ∧ r = .ptr 900010 g 0 := by 
 refine qY Tryz.func76 rfl rfl Tryz.ntmps76 (rs := [.tmp 2]) (tys := [135]) rfl rfl (by simp) (by simp) ?_
 (refine qc fun Y Yh => ?_; simp [go_sem]; ((repeat' (first|(refine qf ?_;simp [go_sem])|intro _|apply And.intro|(apply Yh;clear Yh Y)));all_goals first|apply QS|omega|with_reducible assumption|skip))
 refine qh fun K1 hK1 => ?_
 (refine qc fun Y Yh => ?_; simp [go_sem]; ((repeat' (first|(refine qf ?_;simp [go_sem])|intro _|apply And.intro|(apply Yh;clear Yh Y)));all_goals first|apply QS|omega|with_reducible assumption|skip))
 (refine qg fun T F hT hF => ?_; simp [go_sem]; refine hF ?_; clear hT hF T F)
 refine qi ?_
 refine hK1 _ ?_; clear hK1
 (refine qc fun Y Yh => ?_; simp [go_sem]; ((repeat' (first|(refine qf ?_;simp [go_sem])|intro _|apply And.intro|(apply Yh;clear Yh Y)));all_goals first|apply QS|omega|with_reducible assumption|skip))
 refine zf 2 900010 rfl rfl (by decide) fun g => ?_
 simp only [go_sem]
 refine xq 9 900010 4 rfl rfl (by decide) rfl ?_
 simp only [go_sem, List.set]
 (refine qj ?_; simp [go_sem])
end Go.Proofs.YtelhdhofnohkcaaGreatDoor
namespace Go.Proofs.YtelhdhofnohkcaaGreatDoor
open Go.Eng Go.Fm
set_option maxRecDepth 20000
attribute [local irreducible] AG CallA CallT AWp PCall ACall AgC
@[go_sem] theorem sob68 : Go.Eng.strOf Tryz.prog 68 9 = true := by kernel_rfl
def escN (c : Nat) : List (List D) := [[.v (.int .u8 92)], [.v (.int .u8 (if c = 10 then 110 else (c : Int)))]]
def tbC (l : List Nat) : List D := (List.range 256).map fun c => if c ∈ l then .sl 1 (escN c) else .v (.slice none 0 0)
def toL : Nat → List (List D)
 | 0 => []
 | 1 => [[dS [10]]]
 | 2 => [[dS [10]], [dS [34]]]
 | _ => [[dS [10]], [dS [34]], [dS [92]]]
def doneL : Nat → List Nat
 | 0 => []
 | 1 => [10]
 | 2 => [34, 10]
 | _ => [92, 34, 10]
theorem tb_len (l : List Nat) (c : D) : (tbC l ++ [c]).length = 257 := by simp [tbC]
theorem tb_256 (l : List Nat) (c : D) : (tbC l ++ [c]).drop 256 = [c] := by
 rw [List.drop_append, List.drop_eq_nil_of_le (by simp [tbC])]; simp [tbC]
theorem tb_put (l : List Nat) (c c' : D) : (tbC l ++ [c]).take 256 ++ (c' :: (tbC l ++ [c]).drop 257) = tbC l ++ [c'] := by
 rw [List.drop_eq_nil_of_le (by simp [tbC]), List.take_append_of_le_length (by simp [tbC]), List.take_of_length_le (by simp [tbC])]
theorem tb_get (l : List Nat) (c : D) {o : Nat} (h : o < 256) : (tbC l ++ [c]).drop o = (if o ∈ l then .sl 1 (escN o) else .v (.slice none 0 0)) :: (tbC l ++ [c]).drop (o + 1) := by
 rw [List.drop_eq_getElem_cons (by simp [tbC]; omega)]
 congr 1
 rw [List.getElem_append_left (by simp [tbC]; omega)]
 simp [tbC]
theorem tb_set (l : List Nat) (c : D) {o : Nat} (h : o < 256) : (tbC l ++ [c]).take o ++ (.sl 1 (escN o) :: (tbC l ++ [c]).drop (o + 1)) = tbC (o :: l) ++ [c] := by
 have e : (tbC l ++ [c]).take o ++ (.sl 1 (escN o) :: (tbC l ++ [c]).drop (o + 1)) = (tbC l ++ [c]).set o (.sl 1 (escN o)) := by
  rw [List.set_eq_take_append_cons_drop, if_pos (by simp [tbC]; omega)]
 rw [e, List.set_append_left _ _ (by simp [tbC]; omega)]
 congr 1
 apply List.ext_getElem?
 intro i
 rw [List.getElem?_set]
 by_cases hi : i < 256
 ·simp only [tbC, List.getElem?_map, List.getElem?_range hi, Option.map_some, List.length_map, List.length_range]
  by_cases e : o = i
  ·subst e; simp [h]
  ·rw [if_neg e]; simp [Ne.symm e]
 ·rw [if_neg (by omega), List.getElem?_eq_none (by simp [tbC]; omega), List.getElem?_eq_none (by simp [tbC]; omega)]
theorem tb_last (l : List Nat) (c : D) : (tbC l ++ [c])[256]? = some c := by
 rw [List.getElem?_append_right (by simp [tbC])]; simp [tbC]
theorem tb_lset (l : List Nat) (c c' : D) : (tbC l ++ [c]).set 256 c' = tbC l ++ [c'] := by
 rw [List.set_append_right _ _ (by simp [tbC])]; simp [tbC]
set_option maxHeartbeats 8000000 in
theorem vT (g : Nat) (c0 c1 c2 : Value) : ACall Tryz.prog 148 [.ptr 900010 g 0] [(900010, (g, .box [.v c0, .v c1, .v c2, .v .nilIface, dOn]))] [900010, 900012] fun ps r =>
  ∃ g2, ps = [(g, .box [.v c0, .v c1, .v c2, .v .nilIface, dOn]), (g2, .box (tbC [92, 34, 10] ++ [.sl 1 (toL 3)]))] ∧ r = .ifc 254 (.ptr 900012 g2 0) := by 
 refine qY Tryz.func148 rfl rfl Tryz.ntmps148 (rs := [.tmp 2]) (tys := [190]) rfl rfl (by simp) (by simp [qO]) ?_
 (refine qc fun Y Yh => ?_; simp [go_sem]; ((repeat' (first|(refine qf ?_;simp [go_sem])|intro _|apply And.intro|(apply Yh;clear Yh Y)));all_goals first|apply QS|omega|with_reducible assumption|skip))
 (refine qc fun Y Yh => ?_; simp [go_sem]; ((repeat' (first|(refine qf ?_;simp [go_sem])|intro _|apply And.intro|(apply Yh;clear Yh Y)));all_goals first|apply QS|omega|with_reducible assumption|skip))
 refine qh fun K1 hK1 => ?_
 (refine qc fun Y Yh => ?_; simp [go_sem]; ((repeat' (first|(refine qf ?_;simp [go_sem])|intro _|apply And.intro|(apply Yh;clear Yh Y)));all_goals first|apply QS|omega|with_reducible assumption|skip))
 (refine qg fun T F hT hF => ?_; simp [go_sem]; refine hF ?_; clear hT hF T F)
 refine qi ?_
 refine hK1 _ ?_; clear hK1
 (refine qc fun Y Yh => ?_; simp [go_sem]; ((repeat' (first|(refine qf ?_;simp [go_sem])|intro _|apply And.intro|(apply Yh;clear Yh Y)));all_goals first|apply QS|omega|with_reducible assumption|skip))
 refine qh fun K3 hK3 => ?_
 (refine qc fun Y Yh => ?_; simp [go_sem]; ((repeat' (first|(refine qf ?_;simp [go_sem])|intro _|apply And.intro|(apply Yh;clear Yh Y)));all_goals first|apply QS|omega|with_reducible assumption|skip))
 refine qo ?_
 refine qM (σ := Nat) (fun x => ⟨[(0, .ptr 900010 g 0), (3, dOn), (4, dB (decide (x = 0))), (5, dI ((2 * x : Nat) : Int))], [(900010, (g, .box [.v c0, .v c1, .v c2, .v .nilIface, dOn]))]⟩) (fun x => x ≤ 3) (fun x => 3 - x) 0 ?_ ?_ ?_
 ·(refine ql ?_ ?_ <;> simp [go_sem])
 ·simp
 intro x hx
 refine qh fun K4 hK4 => ?_
 have hx' : x = 0 ∨ x = 1 ∨ x = 2 ∨ x = 3 := by omega
 rcases hx' with rfl | rfl | rfl | rfl
 ·(refine qc fun Y Yh => ?_; simp [go_sem]; ((repeat' (first|(refine qf ?_;simp [go_sem])|intro _|apply And.intro|(apply Yh;clear Yh Y)));all_goals first|apply QS|omega|with_reducible assumption|skip))
  (refine qg fun T F hT hF => ?_; simp [go_sem]; refine hT ?_; clear hT hF T F)
  refine qi ?_
  refine hK4 _ ?_; clear hK4
  refine qh fun K6 hK6 => ?_
  refine qo ?_
  refine qh fun K7 hK7 => ?_
  (refine qc fun Y Yh => ?_; simp [go_sem]; ((repeat' (first|(refine qf ?_;simp [go_sem])|intro _|apply And.intro|(apply Yh;clear Yh Y)));all_goals first|apply QS|omega|with_reducible assumption|skip))
  (refine qg fun T F hT hF => ?_; simp [go_sem]; refine hF ?_; clear hT hF T F)
  refine qi ?_
  refine hK7 _ ?_; clear hK7
  (refine qc fun Y Yh => ?_; simp [go_sem]; ((repeat' (first|(refine qf ?_;simp [go_sem])|intro _|apply And.intro|(apply Yh;clear Yh Y)));all_goals first|apply QS|omega|with_reducible assumption|skip))
  (refine qg fun T F hT hF => ?_; simp [go_sem]; refine hT ?_; clear hT hF T F)
  (refine qx fun Y Yh => ?_; simp [go_sem]; ((repeat' (first|(refine qf ?_;simp [go_sem])|intro _|apply And.intro|(apply Yh;clear Yh Y)));all_goals first|apply QS|omega|with_reducible assumption|skip))
  refine hK6 _ ?_; clear hK6
  (refine qx fun Y Yh => ?_; simp [go_sem]; ((repeat' (first|(refine qf ?_;simp [go_sem])|intro _|apply And.intro|(apply Yh;clear Yh Y)));all_goals first|apply QS|omega|with_reducible assumption|skip))
  refine ⟨(1 : Nat), ?_, by omega, by omega⟩
  (refine ql ?_ ?_ <;> simp [go_sem])
 ·(refine qc fun Y Yh => ?_; simp [go_sem]; ((repeat' (first|(refine qf ?_;simp [go_sem])|intro _|apply And.intro|(apply Yh;clear Yh Y)));all_goals first|apply QS|omega|with_reducible assumption|skip))
  (refine qg fun T F hT hF => ?_; simp [go_sem]; refine hT ?_; clear hT hF T F)
  refine qi ?_
  refine hK4 _ ?_; clear hK4
  refine qh fun K6 hK6 => ?_
  refine qo ?_
  refine qh fun K7 hK7 => ?_
  (refine qc fun Y Yh => ?_; simp [go_sem]; ((repeat' (first|(refine qf ?_;simp [go_sem])|intro _|apply And.intro|(apply Yh;clear Yh Y)));all_goals first|apply QS|omega|with_reducible assumption|skip))
  (refine qg fun T F hT hF => ?_; simp [go_sem]; refine hF ?_; clear hT hF T F)
  refine qi ?_
  refine hK7 _ ?_; clear hK7
  (refine qc fun Y Yh => ?_; simp [go_sem]; ((repeat' (first|(refine qf ?_;simp [go_sem])|intro _|apply And.intro|(apply Yh;clear Yh Y)));all_goals first|apply QS|omega|with_reducible assumption|skip))
  (refine qg fun T F hT hF => ?_; simp [go_sem]; refine hT ?_; clear hT hF T F)
  (refine qx fun Y Yh => ?_; simp [go_sem]; ((repeat' (first|(refine qf ?_;simp [go_sem])|intro _|apply And.intro|(apply Yh;clear Yh Y)));all_goals first|apply QS|omega|with_reducible assumption|skip))
  refine hK6 _ ?_; clear hK6
  (refine qx fun Y Yh => ?_; simp [go_sem]; ((repeat' (first|(refine qf ?_;simp [go_sem])|intro _|apply And.intro|(apply Yh;clear Yh Y)));all_goals first|apply QS|omega|with_reducible assumption|skip))
  refine ⟨(2 : Nat), ?_, by omega, by omega⟩
  (refine ql ?_ ?_ <;> simp [go_sem])
 ·(refine qc fun Y Yh => ?_; simp [go_sem]; ((repeat' (first|(refine qf ?_;simp [go_sem])|intro _|apply And.intro|(apply Yh;clear Yh Y)));all_goals first|apply QS|omega|with_reducible assumption|skip))
  (refine qg fun T F hT hF => ?_; simp [go_sem]; refine hT ?_; clear hT hF T F)
  refine qi ?_
  refine hK4 _ ?_; clear hK4
  refine qh fun K6 hK6 => ?_
  refine qo ?_
  refine qh fun K7 hK7 => ?_
  (refine qc fun Y Yh => ?_; simp [go_sem]; ((repeat' (first|(refine qf ?_;simp [go_sem])|intro _|apply And.intro|(apply Yh;clear Yh Y)));all_goals first|apply QS|omega|with_reducible assumption|skip))
  (refine qg fun T F hT hF => ?_; simp [go_sem]; refine hF ?_; clear hT hF T F)
  refine qi ?_
  refine hK7 _ ?_; clear hK7
  (refine qc fun Y Yh => ?_; simp [go_sem]; ((repeat' (first|(refine qf ?_;simp [go_sem])|intro _|apply And.intro|(apply Yh;clear Yh Y)));all_goals first|apply QS|omega|with_reducible assumption|skip))
  (refine qg fun T F hT hF => ?_; simp [go_sem]; refine hT ?_; clear hT hF T F)
  (refine qx fun Y Yh => ?_; simp [go_sem]; ((repeat' (first|(refine qf ?_;simp [go_sem])|intro _|apply And.intro|(apply Yh;clear Yh Y)));all_goals first|apply QS|omega|with_reducible assumption|skip))
  refine hK6 _ ?_; clear hK6
  (refine qx fun Y Yh => ?_; simp [go_sem]; ((repeat' (first|(refine qf ?_;simp [go_sem])|intro _|apply And.intro|(apply Yh;clear Yh Y)));all_goals first|apply QS|omega|with_reducible assumption|skip))
  refine ⟨(3 : Nat), ?_, by omega, by omega⟩
  (refine ql ?_ ?_ <;> simp [go_sem])
 ·(refine qc fun Y Yh => ?_; simp [go_sem]; ((repeat' (first|(refine qf ?_;simp [go_sem])|intro _|apply And.intro|(apply Yh;clear Yh Y)));all_goals first|apply QS|omega|with_reducible assumption|skip))
  (refine qg fun T F hT hF => ?_; simp [go_sem]; refine hF ?_; clear hT hF T F)
  refine qH ?_
  simp only [go_sem]
  refine hK3 _ ?_; clear hK3
  refine qh fun K10 hK10 => ?_
  (refine qc fun Y Yh => ?_; simp [go_sem]; ((repeat' (first|(refine qf ?_;simp [go_sem])|intro _|apply And.intro|(apply Yh;clear Yh Y)));all_goals first|apply QS|omega|with_reducible assumption|skip))
  (refine qg fun T F hT hF => ?_; simp [go_sem]; refine hF ?_; clear hT hF T F)
  refine qi ?_
  refine hK10 _ ?_; clear hK10
  (refine qc fun Y Yh => ?_; simp [go_sem]; ((repeat' (first|(refine qf ?_;simp [go_sem])|intro _|apply And.intro|(apply Yh;clear Yh Y)));all_goals first|apply QS|omega|with_reducible assumption|skip))
  rename_i g0 gb
  refine qh fun K20 hK20 => ?_
  (refine qc fun Y Yh => ?_; simp [go_sem]; ((repeat' (first|(refine qf ?_;simp [go_sem])|intro _|apply And.intro|(apply Yh;clear Yh Y)));all_goals first|apply QS|omega|with_reducible assumption|skip))
  refine qo ?_
  refine qM (σ := Nat × Nat) (fun x => ⟨[(0, .ptr 900010 g 0), (3, dOn), (11, .ptr 11 gb 0), (12, dI (4 - 2 * (x.1 : Int)))], [(900010, (g, .box [.v c0, .v c1, .v c2, .v .nilIface, dOn])), (11, (gb, .box (tbC (doneL x.1) ++ [.own 94 x.2]))), (94, (x.2, .row 9 1 (toL x.1)))]⟩) (fun x => x.1 ≤ 3) (fun x => 3 - x.1) (0, g0) ?_ ?_ ?_
  ·(refine ql ?_ ?_ <;> simp [go_sem])
   exact ⟨rfl, rfl⟩
  ·simp
  rintro ⟨x, g1⟩ hx
  simp only at hx ⊢
  refine qh fun K21 hK21 => ?_
  have hx' : x = 0 ∨ x = 1 ∨ x = 2 ∨ x = 3 := by omega
  rcases hx' with rfl | rfl | rfl | rfl
  ·simp only [doneL, toL]
   have hln := tb_len [] (.own 94 g1)
   have h256 := tb_256 [] (.own 94 g1)
   have hput := fun g2 => tb_put [] (.own 94 g1) (.own 94 g2)
   have hget := tb_get [] (.own 94 g1) (o := 10) (by decide)
   have hset := fun g2 => tb_set [] (.own 94 g2) (o := 10) (by decide)
   have hln2 := fun g2 => tb_len [] (.own 94 g2)
   have hget2 := fun g2 => tb_get [] (.own 94 g2) (o := 10) (by decide)
   simp only [escN] at hset
   rw [if_neg (by decide)] at hget
   (refine qc fun Y Yh => ?_; simp [go_sem]; ((repeat' (first|(refine qf ?_;simp [go_sem])|intro _|apply And.intro|(apply Yh;clear Yh Y)));all_goals first|apply QS|omega|with_reducible assumption|skip))
   (refine qg fun T F hT hF => ?_; simp [go_sem]; refine hT ?_; clear hT hF T F)
   refine qi ?_
   refine hK21 _ ?_; clear hK21
   refine qh fun K23 hK23 => ?_
   refine qo ?_
   (refine qc fun Y Yh => ?_; simp [go_sem]; ((repeat' (first|(refine qf ?_;simp [go_sem])|intro _|apply And.intro|(apply Yh;clear Yh Y)));all_goals first|apply QS|omega|with_reducible assumption|skip))
   (refine qc fun Y Yh => ?_; simp [go_sem]; ((repeat' (first|(refine qf ?_;simp [go_sem])|intro _|apply And.intro|(apply Yh;clear Yh Y)));all_goals first|apply QS|omega|with_reducible assumption|skip))
   refine qh fun K24 hK24 => ?_
   generalize tbC [] ++ [D.own 94 g1] = T at *
   refine zk ?_
   refine zG ?_
   simp only [AGs]
   refine qp rfl ?_
   simp [go_sem]
   refine qp rfl ?_
   simp [go_sem]
   refine qp rfl ?_
   simp [go_sem, hln]
   refine qp rfl ?_
   simp [go_sem, hln, hget]
   refine zU (e := 5) true (by simp [dstOk]) rfl (.inl ⟨rfl, rfl⟩) (by simp [go_sem]) ?_
   simp [go_sem]
   (refine qg fun T F hT hF => ?_; simp [go_sem]; refine hT ?_; clear hT hF T F)
   (refine qx fun Y Yh => ?_; simp [go_sem, hln, h256, hput]; ((repeat' (first|(refine qf ?_;simp [go_sem, hln, h256, hput])|intro _|apply And.intro|(apply Yh;clear Yh Y)));all_goals first|apply QS|omega|with_reducible assumption|skip))
   rename_i g2
   refine hK24 _ ?_; clear hK24
   have hset := hset g2
   have hln2 := hln2 g2
   have hget2 := hget2 g2
   clear hput
   generalize tbC [] ++ [D.own 94 g2] = T2 at *
   (refine qx fun Y Yh => ?_; simp [go_sem, hln2]; ((repeat' (first|(refine qf ?_;simp [go_sem, hln2])|intro _|apply And.intro|(apply Yh;clear Yh Y)));all_goals first|apply QS|omega|with_reducible assumption|skip))
   refine hK23 _ ?_; clear hK23
   (refine qx fun Y Yh => ?_; simp [go_sem]; ((repeat' (first|(refine qf ?_;simp [go_sem])|intro _|apply And.intro|(apply Yh;clear Yh Y)));all_goals first|apply QS|omega|with_reducible assumption|skip))
   refine ⟨(1, g2), ?_, by simp only; omega, by simp only; omega⟩
   (refine ql ?_ ?_ <;> simp [go_sem])
   all_goals first | exact hset | exact ⟨hset, rfl⟩ | rfl
  ·simp only [doneL, toL]
   have hln := tb_len [10] (.own 94 g1)
   have h256 := tb_256 [10] (.own 94 g1)
   have hput := fun g2 => tb_put [10] (.own 94 g1) (.own 94 g2)
   have hget := tb_get [10] (.own 94 g1) (o := 34) (by decide)
   have hset := fun g2 => tb_set [10] (.own 94 g2) (o := 34) (by decide)
   have hln2 := fun g2 => tb_len [10] (.own 94 g2)
   have hget2 := fun g2 => tb_get [10] (.own 94 g2) (o := 34) (by decide)
   simp only [escN] at hset
   rw [if_neg (by decide)] at hget
   (refine qc fun Y Yh => ?_; simp [go_sem]; ((repeat' (first|(refine qf ?_;simp [go_sem])|intro _|apply And.intro|(apply Yh;clear Yh Y)));all_goals first|apply QS|omega|with_reducible assumption|skip))
   (refine qg fun T F hT hF => ?_; simp [go_sem]; refine hT ?_; clear hT hF T F)
   refine qi ?_
   refine hK21 _ ?_; clear hK21
   refine qh fun K23 hK23 => ?_
   refine qo ?_
   (refine qc fun Y Yh => ?_; simp [go_sem]; ((repeat' (first|(refine qf ?_;simp [go_sem])|intro _|apply And.intro|(apply Yh;clear Yh Y)));all_goals first|apply QS|omega|with_reducible assumption|skip))
   (refine qc fun Y Yh => ?_; simp [go_sem]; ((repeat' (first|(refine qf ?_;simp [go_sem])|intro _|apply And.intro|(apply Yh;clear Yh Y)));all_goals first|apply QS|omega|with_reducible assumption|skip))
   refine qh fun K24 hK24 => ?_
   generalize tbC [10] ++ [D.own 94 g1] = T at *
   refine zk ?_
   refine zG ?_
   simp only [AGs]
   refine qp rfl ?_
   simp [go_sem]
   refine qp rfl ?_
   simp [go_sem]
   refine qp rfl ?_
   simp [go_sem, hln]
   refine qp rfl ?_
   simp [go_sem, hln, hget]
   refine zU (e := 5) true (by simp [dstOk]) rfl (.inl ⟨rfl, rfl⟩) (by simp [go_sem]) ?_
   simp [go_sem]
   (refine qg fun T F hT hF => ?_; simp [go_sem]; refine hT ?_; clear hT hF T F)
   (refine qx fun Y Yh => ?_; simp [go_sem, hln, h256, hput]; ((repeat' (first|(refine qf ?_;simp [go_sem, hln, h256, hput])|intro _|apply And.intro|(apply Yh;clear Yh Y)));all_goals first|apply QS|omega|with_reducible assumption|skip))
   rename_i g2
   refine hK24 _ ?_; clear hK24
   have hset := hset g2
   have hln2 := hln2 g2
   have hget2 := hget2 g2
   clear hput
   generalize tbC [10] ++ [D.own 94 g2] = T2 at *
   (refine qx fun Y Yh => ?_; simp [go_sem, hln2]; ((repeat' (first|(refine qf ?_;simp [go_sem, hln2])|intro _|apply And.intro|(apply Yh;clear Yh Y)));all_goals first|apply QS|omega|with_reducible assumption|skip))
   refine hK23 _ ?_; clear hK23
   (refine qx fun Y Yh => ?_; simp [go_sem]; ((repeat' (first|(refine qf ?_;simp [go_sem])|intro _|apply And.intro|(apply Yh;clear Yh Y)));all_goals first|apply QS|omega|with_reducible assumption|skip))
   refine ⟨(2, g2), ?_, by simp only; omega, by simp only; omega⟩
   (refine ql ?_ ?_ <;> simp [go_sem])
   all_goals first | exact hset | exact ⟨hset, rfl⟩ | rfl
  ·simp only [doneL, toL]
   have hln := tb_len [34, 10] (.own 94 g1)
   have h256 := tb_256 [34, 10] (.own 94 g1)
   have hput := fun g2 => tb_put [34, 10] (.own 94 g1) (.own 94 g2)
   have hget := tb_get [34, 10] (.own 94 g1) (o := 92) (by decide)
   have hset := fun g2 => tb_set [34, 10] (.own 94 g2) (o := 92) (by decide)
   have hln2 := fun g2 => tb_len [34, 10] (.own 94 g2)
   have hget2 := fun g2 => tb_get [34, 10] (.own 94 g2) (o := 92) (by decide)
   simp only [escN] at hset
   rw [if_neg (by decide)] at hget
   (refine qc fun Y Yh => ?_; simp [go_sem]; ((repeat' (first|(refine qf ?_;simp [go_sem])|intro _|apply And.intro|(apply Yh;clear Yh Y)));all_goals first|apply QS|omega|with_reducible assumption|skip))
   (refine qg fun T F hT hF => ?_; simp [go_sem]; refine hT ?_; clear hT hF T F)
   refine qi ?_
   refine hK21 _ ?_; clear hK21
   refine qh fun K23 hK23 => ?_
   refine qo ?_
   (refine qc fun Y Yh => ?_; simp [go_sem]; ((repeat' (first|(refine qf ?_;simp [go_sem])|intro _|apply And.intro|(apply Yh;clear Yh Y)));all_goals first|apply QS|omega|with_reducible assumption|skip))
   (refine qc fun Y Yh => ?_; simp [go_sem]; ((repeat' (first|(refine qf ?_;simp [go_sem])|intro _|apply And.intro|(apply Yh;clear Yh Y)));all_goals first|apply QS|omega|with_reducible assumption|skip))
   refine qh fun K24 hK24 => ?_
   generalize tbC [34, 10] ++ [D.own 94 g1] = T at *
   refine zk ?_
   refine zG ?_
   simp only [AGs]
   refine qp rfl ?_
   simp [go_sem]
   refine qp rfl ?_
   simp [go_sem]
   refine qp rfl ?_
   simp [go_sem, hln]
   refine qp rfl ?_
   simp [go_sem, hln, hget]
   refine zU (e := 5) true (by simp [dstOk]) rfl (.inl ⟨rfl, rfl⟩) (by simp [go_sem]) ?_
   simp [go_sem]
   (refine qg fun T F hT hF => ?_; simp [go_sem]; refine hT ?_; clear hT hF T F)
   (refine qx fun Y Yh => ?_; simp [go_sem, hln, h256, hput]; ((repeat' (first|(refine qf ?_;simp [go_sem, hln, h256, hput])|intro _|apply And.intro|(apply Yh;clear Yh Y)));all_goals first|apply QS|omega|with_reducible assumption|skip))
   rename_i g2
   refine hK24 _ ?_; clear hK24
   have hset := hset g2
   have hln2 := hln2 g2
   have hget2 := hget2 g2
   clear hput
   generalize tbC [34, 10] ++ [D.own 94 g2] = T2 at *
   (refine qx fun Y Yh => ?_; simp [go_sem, hln2]; ((repeat' (first|(refine qf ?_;simp [go_sem, hln2])|intro _|apply And.intro|(apply Yh;clear Yh Y)));all_goals first|apply QS|omega|with_reducible assumption|skip))
   refine hK23 _ ?_; clear hK23
   (refine qx fun Y Yh => ?_; simp [go_sem]; ((repeat' (first|(refine qf ?_;simp [go_sem])|intro _|apply And.intro|(apply Yh;clear Yh Y)));all_goals first|apply QS|omega|with_reducible assumption|skip))
   refine ⟨(3, g2), ?_, by simp only; omega, by simp only; omega⟩
   (refine ql ?_ ?_ <;> simp [go_sem])
   all_goals first | exact hset | exact ⟨hset, rfl⟩ | rfl
  ·(refine qc fun Y Yh => ?_; simp [go_sem]; ((repeat' (first|(refine qf ?_;simp [go_sem])|intro _|apply And.intro|(apply Yh;clear Yh Y)));all_goals first|apply QS|omega|with_reducible assumption|skip))
   (refine qg fun T F hT hF => ?_; simp [go_sem]; refine hF ?_; clear hT hF T F)
   refine qH ?_
   simp only [go_sem]
   refine hK20 _ ?_; clear hK20
   refine zf 11 900012 rfl rfl (by decide) fun g2 => ?_
   simp only [go_sem]
   refine xq 94 900012 256 rfl rfl (by decide) (tb_last _ _) ?_
   simp only [go_sem, tb_lset]
   refine zk ?_
   refine zG ?_
   simp only [AGs]
   refine Qy (by simp [dstOk]) (by kernel_rfl) ?_
   simp [go_sem]
   refine qp rfl ?_
   simp [go_sem]
   (refine qj ?_; simp [go_sem])
   all_goals rfl
def TB : List D := tbC [92, 34, 10] ++ [.sl 1 (toL 3)]
set_option maxHeartbeats 8000000 in
theorem vU (g : Nat) (c0 c1 c2 : Value) : ACall Tryz.prog 115 [.ptr 900010 g 0] [(900010, (g, .box [.v c0, .v c1, .v c2, .v .nilIface, dOn]))] [900010, 900012] fun ps r =>
  ∃ g2, ps = [(g, .box [.v c0, .v c1, .v c2, .ifc 254 (.ptr 900012 g2 0), .v (.slice none 0 0)]), (g2, .box TB)] ∧ r = .tup [] := by 
 refine qY Tryz.func115 rfl rfl Tryz.ntmps115 (rs := []) (tys := []) rfl rfl (by simp) (by simp [qO]) ?_
 have H := vT g c0 c1 c2
 have hTB : tbC [92, 34, 10] ++ [.sl 1 (toL 3)] = TB := rfl
 rw [hTB] at H
 generalize TB = T at *
 (refine qc fun Y Yh => ?_; simp [go_sem]; ((repeat' (first|(refine qf ?_;simp [go_sem])|intro _|apply And.intro|(apply Yh;clear Yh Y)));all_goals first|apply QS|omega|with_reducible assumption|skip))
 (refine qN [900010, 900012] (.inl ⟨rfl,rfl⟩) (by simp [go_sem]) ?_; intro args ha; simp [go_sem] at ha; subst ha; refine ⟨_, _, H, (by simp [go_sem]), ?_⟩; rintro ps r hps ⟨g2, rfl, rfl⟩; simp [go_sem]; ((repeat' (first|(refine qf ?_;simp [go_sem])|intro _|apply And.intro|(apply Yh;clear Yh Y)));all_goals first|apply QS|omega|with_reducible assumption|skip))
 (refine qx fun Y Yh => ?_; simp [go_sem]; ((repeat' (first|(refine qf ?_;simp [go_sem])|intro _|apply And.intro|(apply Yh;clear Yh Y)));all_goals first|apply QS|omega|with_reducible assumption|skip))
 unfold retA
 simp [go_sem, qO]
end Go.Proofs.YtelhdhofnohkcaaGreatDoor
namespace Go.Proofs.YtelhdhofnohkcaaGreatDoor
set_option maxRecDepth 100000
theorem rdisable (w : World) : (callFunc 201 #[]).run Tryz.prog w = .ok (.value (.tuple #[])) w := run_call_mark0 Tryz.func201 (by kernel_rfl) (by kernel_rfl) (by kernel_rfl) .disable (by kernel_rfl) w
theorem renable (w : World) : (callFunc 203 #[]).run Tryz.prog w = .ok (.value (.tuple #[])) w := run_call_mark0 Tryz.func203 (by kernel_rfl) (by kernel_rfl) (by kernel_rfl) .enable (by kernel_rfl) w
theorem racquire (a : Addr) (w : World) : (callFunc 204 #[.pointer (some a)]).run Tryz.prog w = .ok (.value (.tuple #[])) w := run_call_marked Tryz.func204 (by kernel_rfl) (by kernel_rfl) (by kernel_rfl) .acquire (by kernel_rfl) a w
theorem rrelease (a : Addr) (w : World) : (callFunc 206 #[.pointer (some a)]).run Tryz.prog w = .ok (.value (.tuple #[])) w := run_call_marked Tryz.func206 (by kernel_rfl) (by kernel_rfl) (by kernel_rfl) .releaseMerge (by kernel_rfl) a w
theorem store_deferred (a : Addr) (x : Value) (u : FrameMode) (w : World) (hc : w.cell? a = some x) (hz : w.frozen? a = false) :
  CallsD Tryz.prog 178 #[.pointer (some a), .bool true] u w fun e u' w' => u' = u ∧ (e = .returned (.tuple #[]) ∧ w' = w.drew.setCell a (.int .u32 1)) := by
 have hc' : w.drew.cell? a = some x := by go_simp
 have hz' : w.drew.frozen? a = false := by go_simp
 have hst := run_call_store (P := Tryz.prog) Tryz.func193 (by kernel_rfl) (by kernel_rfl) (by kernel_rfl) (by kernel_rfl) (k := .u32) (y := 1) hc' hz'
 go_enter_d Tryz.func178, Tryz.ntmps178
 go_wp2
 go_region_calls
 all_goals (go_end0; exact ⟨rfl, rfl⟩)
theorem unlock_deferred (a : Addr) (u : FrameMode) (w : World) (hc : w.cell? a = some (.int .i32 1)) (hz : w.frozen? a = false) :
  CallsD Tryz.prog 177 #[.pointer (some a)] u w fun e u' w' => u' = u ∧ (e = .returned (.tuple #[]) ∧ w' = w.setCell a (.int .i32 0)) := by
 have hd := rdisable
 have he := renable
 have hr := rrelease
 have hadd := run_call_add (P := Tryz.prog) Tryz.func207 (by kernel_rfl) (by kernel_rfl) (by kernel_rfl) .i32 (by kernel_rfl) (y := -1) (s := 0) hc hz (by simp [go_sem]; rfl)
 have hcv := run_convert_to_unsafe (P := Tryz.prog) (src := 285) (dst := 151) Tryz.underlying285 Tryz.underlying151 (by kernel_rfl) hc
 go_enter_d Tryz.func177, Tryz.ntmps177
 go_wp2
 go_end0
 go_wp2
 go_end0
 exact ⟨rfl, rfl⟩
theorem lock_free (a : Addr) (w : World) (hc : w.cell? a = some (.int .i32 0)) (hz : w.frozen? a = false) :
  Calls Tryz.prog 176 #[.pointer (some a)] w fun e w' => e = .returned (.tuple #[]) ∧ w' = w.setCell a (.int .i32 1) := by
 have hd := rdisable
 have he := renable
 have ha := racquire
 have hcas := run_call_cas_hit (P := Tryz.prog) Tryz.func202 (by kernel_rfl) (by kernel_rfl) (by kernel_rfl) .i32 (by kernel_rfl) (y := 1) hc hz
 have hc' : (w.setCell a (.int .i32 1)).cell? a = some (.int .i32 1) := World.cell?_setCell_same w a _ hc
 have hcv := run_convert_to_unsafe (P := Tryz.prog) (src := 285) (dst := 151) Tryz.underlying285 Tryz.underlying151 (by kernel_rfl) hc'
 go_enter Tryz.func176, Tryz.ntmps176
 go_wp2
 first | go_end0 | (simp only [Exit.inBlock, Exit.then]; refine bodyPost_ret (results_none rfl _ _ _) rfl ?_) | refine bodyPost_ret (results_none rfl _ _ _) rfl ?_
 go_wp2
 go_end0
 exact ⟨rfl, rfl⟩
set_option maxHeartbeats 3200000 in
theorem slow_any (b : Nat) (w : World) (h0 : w.cell? ⟨b, 0, none⟩ = some (.int .u32 0)) (h1 : w.cell? ⟨b, 1, none⟩ = some (.int .i32 0)) (f0 : w.frozen? ⟨b, 0, none⟩ = false) (f1 : w.frozen? ⟨b, 1, none⟩ = false)
  (R : World → Prop) (H : Calls Tryz.prog 115 #[.pointer (some ⟨b, 0, none⟩)] (w.setCell ⟨b, 1, none⟩ (.int .i32 1)) fun e w' => e = .returned (.tuple #[]) ∧ R w')
  (HR : ∀ w', R w' → w'.cell? ⟨b, 0, none⟩ = some (.int .u32 0) ∧ w'.cell? ⟨b, 1, none⟩ = some (.int .i32 1) ∧ w'.frozen? ⟨b, 0, none⟩ = false ∧ w'.frozen? ⟨b, 1, none⟩ = false) :
  Calls Tryz.prog 147 #[.pointer (some ⟨b, 0, none⟩), .func (.func 115) #[.pointer (some ⟨b, 0, none⟩)] #[]] w fun e w' => e = .returned (.tuple #[]) ∧
   ∃ w1, R w1 ∧ w' = (w1.drew.setCell ⟨b, 0, none⟩ (.int .u32 1)).setCell ⟨b, 1, none⟩ (.int .i32 0) := by
 have hl := run_call_load (P := Tryz.prog) Tryz.func175 (by kernel_rfl) (by kernel_rfl) (by kernel_rfl) .u32 (by kernel_rfl) (w := w.setCell ⟨b, 1, none⟩ (.int .i32 1)) (a := ⟨b, 0, none⟩) (x := 0) ((World.cell?_setCell_other _ ⟨b, 1, none⟩ ⟨b, 0, none⟩ _ (by simp)).trans h0)
 have hnot : ∀ (x : Bool) (w : World), (Op.unary .not (.bool x)).run Tryz.prog w = .ok (.bool (!x)) w := fun _ _ => rfl
 go_enter_defers Tryz.func147, Tryz.ntmps147
 go_wp2_with (go_at_call 176; refine (lock_free ⟨b, 1, none⟩ _ (by go_simp) (by go_simp)).mono ?_; rintro e w' ⟨rfl, rfl⟩)
 go_wp2_with (first | (go_at_call 115; refine H.mono ?_; rintro e w' ⟨rfl, hR⟩) | (go_at_call 146; go_in))
 obtain ⟨r0, r1, z0, z1⟩ := HR _ hR
 refine leaves_cons (f := 178) (args := #[.pointer (some ⟨b, 0, none⟩), .bool true]) (by simp) (by simp [go_sem]) ?_
 refine (store_deferred ⟨b, 0, none⟩ (.int .u32 0) .returning _ r0 z0).mono ?_
 rintro e u' w'' ⟨rfl, rfl, rfl⟩
 refine leaves_cons (f := 177) (args := #[.pointer (some ⟨b, 1, none⟩)]) (by simp [settle]) (by simp [go_sem]) ?_
 refine (unlock_deferred ⟨b, 1, none⟩ _ _ ?_ (by simp [z1])).mono ?_
 ·refine (World.cell?_setCell_other _ ⟨b, 0, none⟩ ⟨b, 1, none⟩ _ (by simp)).trans ?_
  rw [World.cell?_drew]
  exact r1
 rintro e u' w'' ⟨rfl, rfl, rfl⟩
 simp [Leaves, settle, results, Tryz.results147]
 exact ⟨_, hR, rfl⟩
set_option maxHeartbeats 3200000 in
theorem do_first (b : Nat) (w : World) (h0 : w.cell? ⟨b, 0, none⟩ = some (.int .u32 0)) (h1 : w.cell? ⟨b, 1, none⟩ = some (.int .i32 0)) (f0 : w.frozen? ⟨b, 0, none⟩ = false) (f1 : w.frozen? ⟨b, 1, none⟩ = false)
  (R : World → Prop) (H : Calls Tryz.prog 115 #[.pointer (some ⟨b, 0, none⟩)] (w.setCell ⟨b, 1, none⟩ (.int .i32 1)) fun e w' => e = .returned (.tuple #[]) ∧ R w')
  (HR : ∀ w', R w' → w'.cell? ⟨b, 0, none⟩ = some (.int .u32 0) ∧ w'.cell? ⟨b, 1, none⟩ = some (.int .i32 1) ∧ w'.frozen? ⟨b, 0, none⟩ = false ∧ w'.frozen? ⟨b, 1, none⟩ = false) :
  Calls Tryz.prog 114 #[.pointer (some ⟨b, 0, none⟩), .func (.func 115) #[.pointer (some ⟨b, 0, none⟩)] #[]] w fun e w' => e = .returned (.tuple #[]) ∧
   ∃ w1, R w1 ∧ w' = (w1.drew.setCell ⟨b, 0, none⟩ (.int .u32 1)).setCell ⟨b, 1, none⟩ (.int .i32 0) := by
 have hl := run_call_load (P := Tryz.prog) Tryz.func175 (by kernel_rfl) (by kernel_rfl) (by kernel_rfl) .u32 (by kernel_rfl) h0
 have hnot : ∀ (x : Bool) (w : World), (Op.unary .not (.bool x)).run Tryz.prog w = .ok (.bool (!x)) w := fun _ _ => rfl
 go_enter Tryz.func114, Tryz.ntmps114
 go_wp2_with (first | (go_at_call 147; refine (slow_any b _ h0 h1 f0 f1 R H HR).mono ?_; rintro e w' ⟨rfl, hR⟩) | (go_at_call 146; go_in))
 go_end0
 exact ⟨rfl, hR⟩
end Go.Proofs.YtelhdhofnohkcaaGreatDoor
namespace Go.Proofs.YtelhdhofnohkcaaGreatDoor
open Go.Eng Go.Fm
set_option maxRecDepth 20000
abbrev bxR (d s : Int) (c2 : Value) (r o : D) : Blk := .box [.v (.int .u32 d), .v (.int .i32 s), .v c2, r, o]
theorem wH (g : Nat) (c2 : Value) (h2 : c2.oneCell' = true) : ACall Tryz.prog 114 [.ptr 900010 g 0, .mfn 115 (.ptr 900010 g 0)] [(900010, (g, bxR 0 0 c2 (.v .nilIface) dOn))] [900010, 900012] fun ps r =>
  ∃ g2, ps = [(g, bxR 1 0 c2 (.ifc 254 (.ptr 900012 g2 0)) (.v (.slice none 0 0))), (g2, .box TB)] ∧ r = .tup [] := by
 have hes : ∀ p ∈ [((900010, (g, bxR 0 0 c2 (.v .nilIface) dOn)) : Nat × (Nat × Blk))], 900000 ≤ p.1 ∧ qO p.2.2 = true ∧ p.1 ∈ [900010, 900012] := by simp [qO]
 refine ⟨⟨_, Tryz.func114, rfl, rfl⟩, hes, fun C w us hc hg hr hent => ?_⟩
 have E := Env.start hg hent fun p hp => (hes p hp).2.1
 have I := Inv.start hc hent fun p hp => (hes p hp).1
 
 obtain ⟨b, hv, hus⟩ : ∃ b, C.val 900010 g = some (.pointer (some ⟨b, 0, none⟩)) ∧ us = [.pointer (some ⟨b, 0, none⟩), .func (.func 115) #[.pointer (some ⟨b, 0, none⟩)] #[]] := by
  obtain ⟨hl, hh⟩ := hr
  match us, hl with
  | [u1, u2], _ =>
   have r1 := hh 0 _ _ rfl rfl
   have r2 := hh 1 _ _ rfl rfl
   cases r1 with
   | ptr _ _ _ b hb =>
    refine ⟨b, hb, ?_⟩
    cases r2 with
    | mfn _ _ u0 h0 =>
     cases h0 with
     | ptr _ _ _ b' hb' =>
      rw [hb] at hb'
      simp only [Option.some.injEq, Value.pointer.injEq, Addr.mk.injEq, and_true] at hb'
      subst hb'
      rfl
 subst hus
 have hx0 : Eng.look (⟨[], [(900010, (g, bxR 0 0 c2 (.v .nilIface) dOn))]⟩ : St).heap 900010 = some (g, bxR 0 0 c2 (.v .nilIface) dOn) := rfl
 obtain ⟨a0, f0⟩ := I.boxCell (j := 0) hx0 rfl hv
 obtain ⟨a1, f1⟩ := I.boxCell (j := 1) hx0 rfl hv
 have I1 := I.cellSet (j := 1) (v := .int .i32 1) hx0 hv rfl
 have H := (vU g (.int .u32 0) (.int .i32 1) c2).2.2 C _ [.pointer (some ⟨b, 0, none⟩)] I1.ctxOk (E.now I1) ⟨rfl, fun j d u hd hu => by
   match j, hd, hu with
   | 0, hd, hu => simp at hd hu; subst hd hu; exact .ptr _ _ _ _ hv
   | j + 1, hd, _ => simp at hd⟩
  (fun s g' x hx => by
   have : Eng.look (St.hput ⟨[], [(900010, (g, bxR 0 0 c2 (.v .nilIface) dOn))]⟩ 900010 g (.box ([.v (.int .u32 0), .v (.int .i32 0), .v c2, .v .nilIface, dOn].set 1 (.v (.int .i32 1))))).heap s = some (g', x) := by
    simp only [Eng.look] at hx
    split at hx
    ·rename_i e; subst e; simp at hx; obtain ⟨rfl, rfl⟩ := hx; rfl
    ·cases hx
   exact I1.heap s g' x this)
 refine (do_first b w a0 a1 f0 f1 (fun w' => ∃ g2 C' S', Inv w (LentB [(900010, (g, bxR 0 0 c2 (.v .nilIface) dOn))]) C 0 S' C' act0 w' ∧ C'.val 900010 g = some (.pointer (some ⟨b, 0, none⟩)) ∧
   Eng.look S'.heap 900010 = some (g, bxR 0 1 c2 (.ifc 254 (.ptr 900012 g2 0)) (.v (.slice none 0 0))) ∧ Eng.look S'.heap 900012 = some (g2, .box TB)) (H.mono ?_) ?_).mono ?_
 ·rintro e w' ⟨u, r, ps, C', rfl, ⟨g2, rfl, rfl⟩, hru, hok, ext, hp, hm, he, hl, hd, hfrm⟩
  have I2 := I1.afterL (ss := [900010, 900012]) (es := [(900010, (g, bxR 0 1 c2 (.v .nilIface) dOn))]) (fun s g' x hx => by
   simp only [Eng.look] at hx
   split at hx
   ·rename_i e; subst e; simp at hx; obtain ⟨rfl, rfl⟩ := hx; exact ⟨rfl, by decide, rfl, by simp⟩
   ·cases hx) ext hok hp hm he hl hd hfrm
  refine ⟨?_, g2, C', _, I2, ext.val _ _ _ hv, rfl, rfl⟩
  cases hru with
  | tup _ vs hn _ =>
   have : vs = #[] := Array.eq_empty_of_size_eq_zero hn
   rw [this]
 ·rintro w' ⟨g2, C', S', I', hv', q1, q2⟩
  obtain ⟨b0, z0⟩ := I'.boxCell (j := 0) q1 rfl hv'
  obtain ⟨b1, z1⟩ := I'.boxCell (j := 1) q1 rfl hv'
  exact ⟨b0, b1, z0, z1⟩
 ·rintro e w' ⟨rfl, w1, ⟨g2, C', S', I', hv', q1, q2⟩, rfl⟩
  have I4 := (I'.drew).cellSet (j := 0) (v := .int .u32 1) q1 hv' rfl
  have I5 := I4.cellSet (s := 900010) (g := g) (j := 1) (v := .int .i32 0) (cs := [.v (.int .u32 1), .v (.int .i32 1), .v c2, .ifc 254 (.ptr 900012 g2 0), .v (.slice none 0 0)]) rfl hv' rfl
  refine ⟨.tuple #[], .tup [], [(g, bxR 1 0 c2 (.ifc 254 (.ptr 900012 g2 0)) (.v (.slice none 0 0))), (g2, .box TB)], C', rfl, ⟨g2, rfl, rfl⟩, .tup _ _ rfl (fun j c u hj => by simp at hj), ?_⟩
  refine Inv.finish (ss := [900010, 900012]) hc hent (fun p hp => (hes p hp).2.1) I5 rfl (fun j s p h1 h2 => ?_)
  match j, h1, h2 with
  | 0, h1, h2 => simp at h1 h2; subst h1 h2; exact ⟨rfl, rfl⟩
  | 1, h1, h2 => simp at h1 h2; subst h1 h2; exact ⟨q2, rfl⟩
  | j + 2, h1, _ => simp at h1
end Go.Proofs.YtelhdhofnohkcaaGreatDoor
namespace Go.Proofs.YtelhdhofnohkcaaGreatDoor
open Go.Eng Go.RowKit Go.Sort Go.Fm
set_option maxRecDepth 20000
attribute [local irreducible] AG CallA CallT AWp PCall ACall AgC
theorem jb (s : Bs) (c : UInt8) : PCall Tryz.prog 80 [dS s, dS [c]] fun r => r = dI (s.count c : Nat) := by
 refine qV ⟨_, Tryz.func80, rfl, rfl⟩ fun C w us hc' hg hr => ?_
 obtain rfl := repL_v (us := [.string ⟨s.toArray⟩, .string ⟨[c].toArray⟩]) hr
 refine (Tryz.strings_Count_one ⟨s.toArray⟩ c w).mono ?_
 rintro e w' ⟨rfl, rfl⟩
 exact ⟨_, _, rfl, by simp [Lib.countByte], .v _, Below.refl _ _⟩
theorem tb_at {c : Nat} (h : c < 256) : TB.drop c = (if c = 92 ∨ c = 34 ∨ c = 10 then .sl 1 (escN c) else .v (.slice none 0 0)) :: TB.drop (c + 1) := by
 have := tb_get [92, 34, 10] (.sl 1 (toL 3)) h
 unfold TB
 rw [this]
 simp
theorem spc_nat (c : UInt8) : spc c = true ↔ (c.toNat = 92 ∨ c.toNat = 34 ∨ c.toNat = 10) := by
 simp only [spc, Bool.or_eq_true, beq_iff_eq, ← UInt8.toNat_inj]
 have h1 : (10 : UInt8).toNat = 10 := rfl
 have h2 : (34 : UInt8).toNat = 34 := rfl
 have h3 : (92 : UInt8).toNat = 92 := rfl
 omega
theorem tb_ln : TB.length = 257 := tb_len _ _
theorem tb_rows : TB.drop 256 = [.sl 1 [[dS [10]], [dS [34]], [dS [92]]]] := tb_256 _ _
def bufD (o : Bs) (n : Nat) : List (List D) := (o.map fun c => [D.v (.int .u8 (c.toNat : Int))]) ++ List.replicate n [D.v (.int .u8 0)]
theorem bufD_len (o : Bs) (n : Nat) : (bufD o n).length = o.length + n := by simp [bufD]
theorem bufD_set (o : Bs) (n : Nat) (c : UInt8) : (bufD o (n + 1)).set o.length [D.v (.int .u8 (c.toNat : Int))] = bufD (o ++ [c]) n := by
 unfold bufD
 rw [List.set_append_right _ _ (by simp)]
 simp [List.replicate_succ]
theorem bufD_get (o : Bs) (n : Nat) : (bufD o (n + 1))[o.length]? = some [D.v (.int .u8 0)] := by
 unfold bufD
 rw [List.getElem?_append_right (by simp)]
 simp
theorem bufD_put2 (o : Bs) (n : Nat) (c : UInt8) : (bufD o (n + 2)).take o.length ++ [D.v (.int .u8 92)] :: [D.v (.int .u8 (c.toNat : Int))] :: (bufD o (n + 2)).drop (o.length + 2) = bufD (o ++ [92, c]) n := by
 unfold bufD
 rw [List.take_append_of_le_length (by simp), List.take_of_length_le (by simp), List.drop_append, List.drop_eq_nil_of_le (by simp)]
 simp [List.replicate_succ]
theorem esc_e (c : UInt8) : ((if c.toNat = 10 then 110 else (c.toNat : Int)) : Int) = (((if c = 10 then 110 else c) : UInt8).toNat : Int) := by
 have h1 : (10 : UInt8).toNat = 10 := rfl
 by_cases h : c = 10
 ·subst h; rfl
 ·rw [if_neg h, if_neg (fun q => h (UInt8.toNat_inj.1 (by omega)))]
def preV (s : Bs) : Nat → Nat
 | 0 => 0
 | 1 => s.count 10
 | 2 => s.count 10 + s.count 34
 | _ => s.count 10 + s.count 34 + s.count 92
theorem QO (s : Bs) : preV s 1 = preV s 0 + s.count 10 := by simp [preV]
theorem QN (s : Bs) : preV s 2 = preV s 1 + s.count 34 := rfl
theorem QM (s : Bs) : preV s 3 = preV s 2 + s.count 92 := rfl
theorem xM (s : Bs) (k : Nat) : preV s k ≤ 3 * s.length := by
 have h1 := List.count_le_length (a := (10 : UInt8)) (l := s)
 have h2 := List.count_le_length (a := (34 : UInt8)) (l := s)
 have h3 := List.count_le_length (a := (92 : UInt8)) (l := s)
 unfold preV; split <;> omega
set_option maxHeartbeats 8000000 in
theorem wX (g : Nat) (s : Bs) (hl : s.length ≤ 1100000) : ACall Tryz.prog 249 [.ptr 900012 g 0, dS s] [(900012, (g, .box TB))] [900012] fun ps r => ps = [(g, .box TB)] ∧ r = dS (qF s) := by 
 refine qY Tryz.func249 rfl rfl Tryz.ntmps249 (rs := [.tmp 4]) (tys := [9]) rfl rfl (by simp) (by simp [qO]) ?_
 have hln := tb_ln
 have hrow := tb_rows
 have hat := fun (c : UInt8) => tb_at (c := c.toNat) (by have := c.toNat_lt; omega)
 have hc10 := jb s 10
 have hc34 := jb s 34
 have hc92 := jb s 92
 have hparts := vN s
 have hcl := cntS_le s
 generalize TB = T at *
 (refine qc fun Y Yh => ?_; simp [go_sem]; ((repeat' (first|(refine qf ?_;simp [go_sem])|intro _|apply And.intro|(apply Yh;clear Yh Y)));all_goals first|apply QS|omega|with_reducible assumption|skip))
 (refine qc fun Y Yh => ?_; simp [go_sem, ba_size]; ((repeat' (first|(refine qf ?_;simp [go_sem, ba_size])|intro _|apply And.intro|(apply Yh;clear Yh Y)));all_goals first|apply QS|omega|with_reducible assumption|skip))
 (refine qc fun Y Yh => ?_; simp [go_sem]; ((repeat' (first|(refine qf ?_;simp [go_sem])|intro _|apply And.intro|(apply Yh;clear Yh Y)));all_goals first|apply QS|omega|with_reducible assumption|skip))
 refine qh fun K1 hK1 => ?_
 have tl1 : ∀ S', Cov S' ⟨[(0, .ptr 900012 g 0), (1, dS s), (5, dI (s.length + cntS s : Nat)), (6, dB (decide (cntS s ≠ 0)))], [(900012, (g, .box T))]⟩ → K1 S' := fun S' hS => by
  refine hK1 _ ?_; clear hK1
  refine qG hS ?_; clear hS
  refine qh fun K2 hK2 => ?_
  by_cases h0 : cntS s = 0
  ·rw [qF_none h0]
   (refine qc fun Y Yh => ?_; simp [go_sem, h0]; ((repeat' (first|(refine qf ?_;simp [go_sem, h0])|intro _|apply And.intro|(apply Yh;clear Yh Y)));all_goals first|apply QS|omega|with_reducible assumption|skip))
   (refine qg fun T F hT hF => ?_; simp [go_sem]; refine hT ?_; clear hT hF T F)
   (refine qc fun Y Yh => ?_; simp [go_sem]; ((repeat' (first|(refine qf ?_;simp [go_sem])|intro _|apply And.intro|(apply Yh;clear Yh Y)));all_goals first|apply QS|omega|with_reducible assumption|skip))
   (refine qj ?_; simp [go_sem])
  ·have hql := qF_len s
   (refine qc fun Y Yh => ?_; simp [go_sem, h0]; ((repeat' (first|(refine qf ?_;simp [go_sem, h0])|intro _|apply And.intro|(apply Yh;clear Yh Y)));all_goals first|apply QS|omega|with_reducible assumption|skip))
   (refine qg fun T F hT hF => ?_; simp [go_sem]; refine hF ?_; clear hT hF T F)
   refine qi ?_
   refine hK2 _ ?_; clear hK2
   (refine qc fun Y Yh => ?_; simp [go_sem]; ((repeat' (first|(refine qf ?_;simp [go_sem])|intro _|apply And.intro|(apply Yh;clear Yh Y)));all_goals first|apply QS|omega|with_reducible assumption|skip))
   (refine qc fun Y Yh => ?_; simp [go_sem]; ((repeat' (first|(refine qf ?_;simp [go_sem])|intro _|apply And.intro|(apply Yh;clear Yh Y)));all_goals first|apply QS|omega|with_reducible assumption|skip))
   refine qh fun K4 hK4 => ?_
   (refine qc fun Y Yh => ?_; simp [go_sem]; ((repeat' (first|(refine qf ?_;simp [go_sem])|intro _|apply And.intro|(apply Yh;clear Yh Y)));all_goals first|apply QS|omega|with_reducible assumption|skip))
   refine qo ?_
   have hN : (((s.length : Int) + (cntS s : Int))).toNat = (qF s).length := by omega
   rw [hN]
   rename_i gq
   refine qM (σ := Nat) (fun i => ⟨[(0, .ptr 900012 g 0), (1, dS s), (12, .own 85 gq), (13, dI (qF (s.take i)).length), (14, dI i)], [(900012, (g, .box T)), (85, (gq, .row 5 1 (bufD (qF (s.take i)) ((qF s).length - (qF (s.take i)).length))))]⟩) (fun i => i ≤ s.length) (fun i => s.length - i) 0 ?_ ?_ ?_
   ·(refine ql ?_ ?_ <;> simp [go_sem, bufD, qF_nil])
   ·simp
   ·intro i hi
    refine qh fun K5 hK5 => ?_
    (refine qc fun Y Yh => ?_; simp [go_sem, ba_size]; ((repeat' (first|(refine qf ?_;simp [go_sem, ba_size])|intro _|apply And.intro|(apply Yh;clear Yh Y)));all_goals first|apply QS|omega|with_reducible assumption|skip))
    by_cases h15 : i < s.length
    ·(refine qg fun T F hT hF => ?_; simp [go_sem, h15]; refine hT ?_; clear hT hF T F)
     refine qi ?_
     refine hK5 _ ?_; clear hK5
     refine qh fun K7 hK7 => ?_
     have hst := qF_take h15
     have hle := qF_le s (i + 1)
     have hle2 : (qF s).length ≤ 2200000 := by omega
     have tl7 : ∀ S', Cov S' ⟨[(0, .ptr 900012 g 0), (1, dS s), (12, .own 85 gq), (13, dI (qF (s.take (i + 1))).length), (14, dI i)], [(900012, (g, .box T)), (85, (gq, .row 5 1 (bufD (qF (s.take (i + 1))) ((qF s).length - (qF (s.take (i + 1))).length))))]⟩ → K7 S' := fun S' hS => by
      refine hK7 _ ?_; clear hK7
      refine qG hS ?_; clear hS
      (refine qx fun Y Yh => ?_; simp [go_sem]; ((repeat' (first|(refine qf ?_;simp [go_sem])|intro _|apply And.intro|(apply Yh;clear Yh Y)));all_goals first|apply QS|omega|with_reducible assumption|skip))
      refine ⟨i + 1, ?_, by omega, by omega⟩
      (refine ql ?_ ?_ <;> simp [go_sem])
     clear hK7
     refine qo ?_
     have hc256 : (s[i].toNat : Int) < 256 := by have := s[i].toNat_lt; omega
     have hc256' : s[i].toNat < 256 := by omega
     have ha := hat s[i]
     generalize qF (s.take (i + 1)) = o1 at *
     generalize qF (s.take i) = o at *
     generalize (qF s).length = N at *
     generalize hc : s[i] = c at *
     cases hs : spc c with
     | true =>
      rw [quoC_spc hs] at hst
      rw [if_pos ((spc_nat c).1 hs)] at ha
      simp only [escN] at ha
      have hol : o1.length = o.length + 2 := by rw [hst]; simp
      obtain ⟨n, rfl⟩ : ∃ n, N = o.length + 2 + n := ⟨N - o.length - 2, by omega⟩
      rw [show o.length + 2 + n - o.length = n + 2 by omega]
      have hbl := bufD_len o (n + 2)
      generalize hR : bufD o (n + 2) = R at *
      (refine qc fun Y Yh => ?_; simp [go_sem, h15, hc, ba_size]; ((repeat' (first|(refine qf ?_;simp [go_sem, h15, hc, ba_size])|intro _|apply And.intro|(apply Yh;clear Yh Y)));all_goals first|apply QS|omega|with_reducible assumption|skip))
      (refine qc fun Y Yh => ?_; simp [go_sem, hln, ha, hc256, hc256']; ((repeat' (first|(refine qf ?_;simp [go_sem, hln, ha, hc256, hc256'])|intro _|apply And.intro|(apply Yh;clear Yh Y)));all_goals first|apply QS|omega|with_reducible assumption|skip))
      (refine qg fun T F hT hF => ?_; simp [go_sem]; refine hT ?_; clear hT hF T F)
      ((refine QK (.qs [0, 1, 2, 3, 4, 5, 6, 7, 8, 9] (.one 10 (.qs [11, 12] (.nil)))) (by kernel_rfl) ?_ ?_ ?_ ?_); (kernel_rfl); (exact (by decide +kernel)); (kernel_rfl); intro Y Yh; ((repeat' (first|(refine qf ?_;simp [go_sem, hln, ha, hc256, hc256', hbl])|refine qC ?_|((first|refine qJ fun Y Yh=>?_|refine qR fun Y Yh=>?_);simp [go_sem, hln, ha, hc256, hc256', hbl])|intro _|apply And.intro|(apply Yh;clear Yh Y)));all_goals first|apply QS|omega|with_reducible assumption|skip))
      refine tl7 _ ?_
      have he : ((if c.toNat = 10 then 110 else (c.toNat : Int)) : Int) = (((if c = 10 then 110 else c) : UInt8).toNat : Int) := esc_e c
      rw [he] at *
      have hb2 := bufD_put2 o n (if c = 10 then 110 else c)
      rw [hR] at hb2
      (refine ql ?_ ?_ <;> simp [go_sem])
      ·rw [hol]; simp
      ·rw [hol, show o.length + 2 + n - (o.length + 2) = n by omega, hst, ← hb2]
     | false =>
      rw [quoC_no hs] at hst
      rw [if_neg (fun q => by rw [(spc_nat c).2 q] at hs; cases hs)] at ha
      have hol : o1.length = o.length + 1 := by rw [hst]; simp
      obtain ⟨n, rfl⟩ : ∃ n, N = o.length + 1 + n := ⟨N - o.length - 1, by omega⟩
      rw [show o.length + 1 + n - o.length = n + 1 by omega]
      have hbs := bufD_set o n c
      have hbl := bufD_len o (n + 1)
      obtain ⟨hC, hg2⟩ := List.getElem?_eq_some_iff.1 (bufD_get o n)
      generalize hR : bufD o (n + 1) = R at *
      (refine qc fun Y Yh => ?_; simp [go_sem, h15, hc, ba_size]; ((repeat' (first|(refine qf ?_;simp [go_sem, h15, hc, ba_size])|intro _|apply And.intro|(apply Yh;clear Yh Y)));all_goals first|apply QS|omega|with_reducible assumption|skip))
      refine zk ?_
      refine zG ?_
      simp only [AGs]
      refine qp rfl ?_
      simp [go_sem, hln, ha, hc256, hc256']
      refine qp rfl ?_
      simp [go_sem, hln, ha, hc256, hc256']
      refine qp rfl ?_
      simp [go_sem, hln, ha, hc256, hc256']
      refine qp rfl ?_
      simp [go_sem, hln, ha, hc256, hc256']
      refine qp rfl ?_
      simp [go_sem, hln, ha, hc256, hc256']
      refine qp rfl ?_
      simp [go_sem, hln, ha, hc256, hc256']
      refine zU (e := 5) false (by simp [dstOk]) rfl (.inr ⟨rfl, rfl⟩) (by simp [go_sem]) ?_
      simp [go_sem]
      (refine qg fun T F hT hF => ?_; simp [go_sem]; refine hF ?_; clear hT hF T F)
      (refine qc fun Y Yh => ?_; simp [go_sem, hbl, hg2, hC, hbs]; ((repeat' (first|(refine qf ?_;simp [go_sem, hbl, hg2, hC, hbs])|intro _|apply And.intro|(apply Yh;clear Yh Y)));all_goals first|apply QS|omega|with_reducible assumption|skip))
      (refine qx fun Y Yh => ?_; simp [go_sem]; ((repeat' (first|(refine qf ?_;simp [go_sem])|intro _|apply And.intro|(apply Yh;clear Yh Y)));all_goals first|apply QS|omega|with_reducible assumption|skip))
      refine tl7 _ ?_
      (refine ql ?_ ?_ <;> simp [go_sem])
      ·rw [hol]; simp
      ·rw [hol, show o.length + 1 + n - (o.length + 1) = n by omega, hst]
    ·(refine qg fun T F hT hF => ?_; simp [go_sem, h15]; refine hF ?_; clear hT hF T F)
     refine qH ?_
     simp only [go_sem]
     refine hK4 _ ?_; clear hK4
     have hi2 : i = s.length := by omega
     subst hi2
     rw [List.take_length, Nat.sub_self]
     (refine qc fun Y Yh => ?_; simp [go_sem, bufD]; ((repeat' (first|(refine qf ?_;simp [go_sem, bufD])|intro _|apply And.intro|(apply Yh;clear Yh Y)));all_goals first|apply QS|omega|with_reducible assumption|skip))
     (refine qj ?_; simp [go_sem])
 clear hK1
 (refine qc fun Y Yh => ?_; simp [go_sem, hln, hrow, ba_size]; ((repeat' (first|(refine qf ?_;simp [go_sem, hln, hrow, ba_size])|intro _|apply And.intro|(apply Yh;clear Yh Y)));all_goals first|apply QS|omega|with_reducible assumption|skip))
 by_cases h24 : 24 ≤ s.length
 ·have h24' : (24 : Int) ≤ s.length := by omega
  (refine qg fun T F hT hF => ?_; simp [go_sem, h24']; refine hT ?_; clear hT hF T F)
  (refine qc fun Y Yh => ?_; simp [go_sem, hln, hrow]; ((repeat' (first|(refine qf ?_;simp [go_sem, hln, hrow])|intro _|apply And.intro|(apply Yh;clear Yh Y)));all_goals first|apply QS|omega|with_reducible assumption|skip))
  refine qo ?_
  refine qM (σ := Nat) (fun k => ⟨[(0, .ptr 900012 g 0), (1, dS s), (5, dI (s.length + preV s k : Nat)), (6, dB (decide (preV s k ≠ 0))), (30, .sl 1 [[dS [10]], [dS [34]], [dS [92]]]), (31, dI 3), (32, dI k)], [(900012, (g, .box T))]⟩) (fun k => k ≤ 3) (fun k => 3 - k) 0 ?_ ?_ ?_
  ·(refine ql ?_ ?_ <;> simp [go_sem, preV])
  ·simp
  ·intro k hk
   have hk' : k = 0 ∨ k = 1 ∨ k = 2 ∨ k = 3 := by omega
   (refine qc fun Y Yh => ?_; simp [go_sem]; ((repeat' (first|(refine qf ?_;simp [go_sem])|intro _|apply And.intro|(apply Yh;clear Yh Y)));all_goals first|apply QS|omega|with_reducible assumption|skip))
   refine qh fun K10 hK10 => ?_
   rcases hk' with rfl | rfl | rfl | rfl
   ·(refine qg fun T F hT hF => ?_; simp [go_sem]; refine hT ?_; clear hT hF T F)
    refine qi ?_
    refine hK10 _ ?_; clear hK10
    refine qh fun K12 hK12 => ?_
    have tl12 : ∀ S', Cov S' ⟨[(0, .ptr 900012 g 0), (1, dS s), (5, dI (s.length + preV s 1 : Nat)), (6, dB (decide (preV s 1 ≠ 0))), (30, .sl 1 [[dS [10]], [dS [34]], [dS [92]]]), (31, dI 3), (32, dI (0 : Nat))], [(900012, (g, .box T))]⟩ → K12 S' := fun S' hS => by
     refine hK12 _ ?_; clear hK12
     refine qG hS ?_; clear hS
     (refine qx fun Y Yh => ?_; simp [go_sem]; ((repeat' (first|(refine qf ?_;simp [go_sem])|intro _|apply And.intro|(apply Yh;clear Yh Y)));all_goals first|apply QS|omega|with_reducible assumption|skip))
     refine ⟨(1 : Nat), ?_, by omega, by omega⟩
     (refine ql ?_ ?_ <;> simp [go_sem])
    clear hK12
    refine qo ?_
    have hp := QO s
    have hp0 := xM s 0
    generalize preV s 1 = m1 at *
    generalize preV s 0 = m0 at *
    have ha := hat 10
    rw [show ((10 : UInt8)).toNat = 10 from rfl, if_pos (by decide)] at ha
    simp only [escN] at ha
    have hcc := List.count_le_length (a := (10 : UInt8)) (l := s)
    generalize List.count 10 s = q at *
    (refine qc fun Y Yh => ?_; simp [go_sem]; ((repeat' (first|(refine qf ?_;simp [go_sem])|intro _|apply And.intro|(apply Yh;clear Yh Y)));all_goals first|apply QS|omega|with_reducible assumption|skip))
    (refine qc fun Y Yh => ?_; simp [go_sem]; ((repeat' (first|(refine qf ?_;simp [go_sem])|intro _|apply And.intro|(apply Yh;clear Yh Y)));all_goals first|apply QS|omega|with_reducible assumption|skip))
    ((try refine QT ?_); refine qm (.inl ⟨rfl,rfl⟩) (by simp [go_sem]) ?_; intro args ha; simp [go_sem] at ha; subst ha; refine ⟨_, hc10, ?_⟩; rintro _ rfl; simp [go_sem]; ((repeat' (first|(refine qf ?_;simp [go_sem])|intro _|apply And.intro|(apply Yh;clear Yh Y)));all_goals first|apply QS|omega|with_reducible assumption|skip))
    (refine qc fun Y Yh => ?_; simp [go_sem]; ((repeat' (first|(refine qf ?_;simp [go_sem])|intro _|apply And.intro|(apply Yh;clear Yh Y)));all_goals first|apply QS|omega|with_reducible assumption|skip))
    by_cases hq : q = 0
    ·subst hq
     (refine qg fun T F hT hF => ?_; simp [go_sem]; refine hF ?_; clear hT hF T F)
     refine qi ?_
     refine tl12 _ ?_
     (refine ql ?_ ?_ <;> simp [go_sem])
     simp [hp]
    ·have hq' : ¬ (q : Int) = 0 := by omega
     (refine qg fun T F hT hF => ?_; simp [go_sem, hq]; refine hT ?_; clear hT hF T F)
     ((refine qX (.qs [0, 1, 2, 3, 4, 5, 6, 7, 8, 9, 10, 11, 12, 13] (.nil)) (by kernel_rfl) ?_ ?_ ?_ ?_); (kernel_rfl); (exact (by decide +kernel)); (kernel_rfl); intro Y Yh; ((repeat' (first|(refine qf ?_;simp [go_sem, hln, ha])|refine qC ?_|((first|refine qJ fun Y Yh=>?_|refine qR fun Y Yh=>?_);simp [go_sem, hln, ha])|intro _|apply And.intro|(apply Yh;clear Yh Y)));all_goals first|apply QS|omega|with_reducible assumption|skip))
     (refine qx fun Y Yh => ?_; simp [go_sem]; ((repeat' (first|(refine qf ?_;simp [go_sem])|intro _|apply And.intro|(apply Yh;clear Yh Y)));all_goals first|apply QS|omega|with_reducible assumption|skip))
     refine tl12 _ ?_
     (refine ql ?_ ?_ <;> simp [go_sem])
     exact ⟨by omega, by omega⟩
   ·(refine qg fun T F hT hF => ?_; simp [go_sem]; refine hT ?_; clear hT hF T F)
    refine qi ?_
    refine hK10 _ ?_; clear hK10
    refine qh fun K12 hK12 => ?_
    have tl12 : ∀ S', Cov S' ⟨[(0, .ptr 900012 g 0), (1, dS s), (5, dI (s.length + preV s 2 : Nat)), (6, dB (decide (preV s 2 ≠ 0))), (30, .sl 1 [[dS [10]], [dS [34]], [dS [92]]]), (31, dI 3), (32, dI (1 : Nat))], [(900012, (g, .box T))]⟩ → K12 S' := fun S' hS => by
     refine hK12 _ ?_; clear hK12
     refine qG hS ?_; clear hS
     (refine qx fun Y Yh => ?_; simp [go_sem]; ((repeat' (first|(refine qf ?_;simp [go_sem])|intro _|apply And.intro|(apply Yh;clear Yh Y)));all_goals first|apply QS|omega|with_reducible assumption|skip))
     refine ⟨(2 : Nat), ?_, by omega, by omega⟩
     (refine ql ?_ ?_ <;> simp [go_sem])
    clear hK12
    refine qo ?_
    have hp := QN s
    have hp0 := xM s 1
    generalize preV s 2 = m1 at *
    generalize preV s 1 = m0 at *
    have ha := hat 34
    rw [show ((34 : UInt8)).toNat = 34 from rfl, if_pos (by decide)] at ha
    simp only [escN] at ha
    have hcc := List.count_le_length (a := (34 : UInt8)) (l := s)
    generalize List.count 34 s = q at *
    (refine qc fun Y Yh => ?_; simp [go_sem]; ((repeat' (first|(refine qf ?_;simp [go_sem])|intro _|apply And.intro|(apply Yh;clear Yh Y)));all_goals first|apply QS|omega|with_reducible assumption|skip))
    (refine qc fun Y Yh => ?_; simp [go_sem]; ((repeat' (first|(refine qf ?_;simp [go_sem])|intro _|apply And.intro|(apply Yh;clear Yh Y)));all_goals first|apply QS|omega|with_reducible assumption|skip))
    ((try refine QT ?_); refine qm (.inl ⟨rfl,rfl⟩) (by simp [go_sem]) ?_; intro args ha; simp [go_sem] at ha; subst ha; refine ⟨_, hc34, ?_⟩; rintro _ rfl; simp [go_sem]; ((repeat' (first|(refine qf ?_;simp [go_sem])|intro _|apply And.intro|(apply Yh;clear Yh Y)));all_goals first|apply QS|omega|with_reducible assumption|skip))
    (refine qc fun Y Yh => ?_; simp [go_sem]; ((repeat' (first|(refine qf ?_;simp [go_sem])|intro _|apply And.intro|(apply Yh;clear Yh Y)));all_goals first|apply QS|omega|with_reducible assumption|skip))
    by_cases hq : q = 0
    ·subst hq
     (refine qg fun T F hT hF => ?_; simp [go_sem]; refine hF ?_; clear hT hF T F)
     refine qi ?_
     refine tl12 _ ?_
     (refine ql ?_ ?_ <;> simp [go_sem])
     simp [hp]
    ·have hq' : ¬ (q : Int) = 0 := by omega
     (refine qg fun T F hT hF => ?_; simp [go_sem, hq]; refine hT ?_; clear hT hF T F)
     ((refine qX (.qs [0, 1, 2, 3, 4, 5, 6, 7, 8, 9, 10, 11, 12, 13] (.nil)) (by kernel_rfl) ?_ ?_ ?_ ?_); (kernel_rfl); (exact (by decide +kernel)); (kernel_rfl); intro Y Yh; ((repeat' (first|(refine qf ?_;simp [go_sem, hln, ha])|refine qC ?_|((first|refine qJ fun Y Yh=>?_|refine qR fun Y Yh=>?_);simp [go_sem, hln, ha])|intro _|apply And.intro|(apply Yh;clear Yh Y)));all_goals first|apply QS|omega|with_reducible assumption|skip))
     (refine qx fun Y Yh => ?_; simp [go_sem]; ((repeat' (first|(refine qf ?_;simp [go_sem])|intro _|apply And.intro|(apply Yh;clear Yh Y)));all_goals first|apply QS|omega|with_reducible assumption|skip))
     refine tl12 _ ?_
     (refine ql ?_ ?_ <;> simp [go_sem])
     exact ⟨by omega, by omega⟩
   ·(refine qg fun T F hT hF => ?_; simp [go_sem]; refine hT ?_; clear hT hF T F)
    refine qi ?_
    refine hK10 _ ?_; clear hK10
    refine qh fun K12 hK12 => ?_
    have tl12 : ∀ S', Cov S' ⟨[(0, .ptr 900012 g 0), (1, dS s), (5, dI (s.length + preV s 3 : Nat)), (6, dB (decide (preV s 3 ≠ 0))), (30, .sl 1 [[dS [10]], [dS [34]], [dS [92]]]), (31, dI 3), (32, dI (2 : Nat))], [(900012, (g, .box T))]⟩ → K12 S' := fun S' hS => by
     refine hK12 _ ?_; clear hK12
     refine qG hS ?_; clear hS
     (refine qx fun Y Yh => ?_; simp [go_sem]; ((repeat' (first|(refine qf ?_;simp [go_sem])|intro _|apply And.intro|(apply Yh;clear Yh Y)));all_goals first|apply QS|omega|with_reducible assumption|skip))
     refine ⟨(3 : Nat), ?_, by omega, by omega⟩
     (refine ql ?_ ?_ <;> simp [go_sem])
    clear hK12
    refine qo ?_
    have hp := QM s
    have hp0 := xM s 2
    generalize preV s 3 = m1 at *
    generalize preV s 2 = m0 at *
    have ha := hat 92
    rw [show ((92 : UInt8)).toNat = 92 from rfl, if_pos (by decide)] at ha
    simp only [escN] at ha
    have hcc := List.count_le_length (a := (92 : UInt8)) (l := s)
    generalize List.count 92 s = q at *
    (refine qc fun Y Yh => ?_; simp [go_sem]; ((repeat' (first|(refine qf ?_;simp [go_sem])|intro _|apply And.intro|(apply Yh;clear Yh Y)));all_goals first|apply QS|omega|with_reducible assumption|skip))
    (refine qc fun Y Yh => ?_; simp [go_sem]; ((repeat' (first|(refine qf ?_;simp [go_sem])|intro _|apply And.intro|(apply Yh;clear Yh Y)));all_goals first|apply QS|omega|with_reducible assumption|skip))
    ((try refine QT ?_); refine qm (.inl ⟨rfl,rfl⟩) (by simp [go_sem]) ?_; intro args ha; simp [go_sem] at ha; subst ha; refine ⟨_, hc92, ?_⟩; rintro _ rfl; simp [go_sem]; ((repeat' (first|(refine qf ?_;simp [go_sem])|intro _|apply And.intro|(apply Yh;clear Yh Y)));all_goals first|apply QS|omega|with_reducible assumption|skip))
    (refine qc fun Y Yh => ?_; simp [go_sem]; ((repeat' (first|(refine qf ?_;simp [go_sem])|intro _|apply And.intro|(apply Yh;clear Yh Y)));all_goals first|apply QS|omega|with_reducible assumption|skip))
    by_cases hq : q = 0
    ·subst hq
     (refine qg fun T F hT hF => ?_; simp [go_sem]; refine hF ?_; clear hT hF T F)
     refine qi ?_
     refine tl12 _ ?_
     (refine ql ?_ ?_ <;> simp [go_sem])
     simp [hp]
    ·have hq' : ¬ (q : Int) = 0 := by omega
     (refine qg fun T F hT hF => ?_; simp [go_sem, hq]; refine hT ?_; clear hT hF T F)
     ((refine qX (.qs [0, 1, 2, 3, 4, 5, 6, 7, 8, 9, 10, 11, 12, 13] (.nil)) (by kernel_rfl) ?_ ?_ ?_ ?_); (kernel_rfl); (exact (by decide +kernel)); (kernel_rfl); intro Y Yh; ((repeat' (first|(refine qf ?_;simp [go_sem, hln, ha])|refine qC ?_|((first|refine qJ fun Y Yh=>?_|refine qR fun Y Yh=>?_);simp [go_sem, hln, ha])|intro _|apply And.intro|(apply Yh;clear Yh Y)));all_goals first|apply QS|omega|with_reducible assumption|skip))
     (refine qx fun Y Yh => ?_; simp [go_sem]; ((repeat' (first|(refine qf ?_;simp [go_sem])|intro _|apply And.intro|(apply Yh;clear Yh Y)));all_goals first|apply QS|omega|with_reducible assumption|skip))
     refine tl12 _ ?_
     (refine ql ?_ ?_ <;> simp [go_sem])
     exact ⟨by omega, by omega⟩
   ·(refine qg fun T F hT hF => ?_; simp [go_sem]; refine hF ?_; clear hT hF T F)
    refine qH ?_
    simp only [go_sem]
    have hp3 : preV s 3 = cntS s := hparts
    rw [hp3]
    refine tl1 _ ?_
    (refine ql ?_ ?_ <;> simp [go_sem])
 ·have h24' : ¬ (24 : Int) ≤ s.length := by omega
  (refine qg fun T F hT hF => ?_; simp [go_sem, h24']; refine hF ?_; clear hT hF T F)
  (refine qc fun Y Yh => ?_; simp [go_sem]; ((repeat' (first|(refine qf ?_;simp [go_sem])|intro _|apply And.intro|(apply Yh;clear Yh Y)));all_goals first|apply QS|omega|with_reducible assumption|skip))
  refine qo ?_
  refine qM (σ := Nat) (fun i => ⟨[(0, .ptr 900012 g 0), (1, dS s), (5, dI (s.length + cntS (s.take i) : Nat)), (6, dB (decide (cntS (s.take i) ≠ 0))), (10, dI i)], [(900012, (g, .box T))]⟩) (fun i => i ≤ s.length) (fun i => s.length - i) 0 ?_ ?_ ?_
  ·(refine ql ?_ ?_ <;> simp [go_sem, cntS])
  ·simp
  ·intro i hi
   refine qh fun K14 hK14 => ?_
   (refine qc fun Y Yh => ?_; simp [go_sem, ba_size]; ((repeat' (first|(refine qf ?_;simp [go_sem, ba_size])|intro _|apply And.intro|(apply Yh;clear Yh Y)));all_goals first|apply QS|omega|with_reducible assumption|skip))
   by_cases h15 : i < s.length
   ·(refine qg fun T F hT hF => ?_; simp [go_sem, h15]; refine hT ?_; clear hT hF T F)
    refine qi ?_
    refine hK14 _ ?_; clear hK14
    refine qh fun K16 hK16 => ?_
    have hst := cntS_take h15
    have hcl0 := cntS_le (s.take i)
    rw [List.length_take] at hcl0
    have tl16 : ∀ S', Cov S' ⟨[(0, .ptr 900012 g 0), (1, dS s), (5, dI (s.length + cntS (s.take (i + 1)) : Nat)), (6, dB (decide (cntS (s.take (i + 1)) ≠ 0))), (10, dI i)], [(900012, (g, .box T))]⟩ → K16 S' := fun S' hS => by
     refine hK16 _ ?_; clear hK16
     refine qG hS ?_; clear hS
     (refine qx fun Y Yh => ?_; simp [go_sem]; ((repeat' (first|(refine qf ?_;simp [go_sem])|intro _|apply And.intro|(apply Yh;clear Yh Y)));all_goals first|apply QS|omega|with_reducible assumption|skip))
     refine ⟨i + 1, ?_, by omega, by omega⟩
     (refine ql ?_ ?_ <;> simp [go_sem])
    clear hK16
    refine qo ?_
    have hc256 : (s[i].toNat : Int) < 256 := by have := s[i].toNat_lt; omega
    have hc256' : s[i].toNat < 256 := by omega
    have ha := hat s[i]
    generalize cntS (s.take (i + 1)) = m1 at *
    generalize cntS (s.take i) = m0 at *
    generalize hc : s[i] = c at *
    cases hs : spc c with
    | true =>
     rw [if_pos ((spc_nat c).1 hs)] at ha
     rw [hs] at hst
     simp only [escN] at ha
     generalize (if c.toNat = 10 then (110 : Int) else (c.toNat : Int)) = e2 at *
     (refine qc fun Y Yh => ?_; simp [go_sem, h15, hc, ba_size]; ((repeat' (first|(refine qf ?_;simp [go_sem, h15, hc, ba_size])|intro _|apply And.intro|(apply Yh;clear Yh Y)));all_goals first|apply QS|omega|with_reducible assumption|skip))
     (refine qc fun Y Yh => ?_; simp [go_sem, hln, ha, hc256, hc256']; ((repeat' (first|(refine qf ?_;simp [go_sem, hln, ha, hc256, hc256'])|intro _|apply And.intro|(apply Yh;clear Yh Y)));all_goals first|apply QS|omega|with_reducible assumption|skip))
     (refine qg fun T F hT hF => ?_; simp [go_sem]; refine hT ?_; clear hT hF T F)
     (refine qc fun Y Yh => ?_; simp [go_sem, hln, ha, hc256, hc256']; ((repeat' (first|(refine qf ?_;simp [go_sem, hln, ha, hc256, hc256'])|intro _|apply And.intro|(apply Yh;clear Yh Y)));all_goals first|apply QS|omega|with_reducible assumption|skip))
     (refine qx fun Y Yh => ?_; simp [go_sem]; ((repeat' (first|(refine qf ?_;simp [go_sem])|intro _|apply And.intro|(apply Yh;clear Yh Y)));all_goals first|apply QS|omega|with_reducible assumption|skip))
     refine tl16 _ ?_
     (refine ql ?_ ?_ <;> simp [go_sem])
     simp at hst
     exact ⟨by omega, by omega⟩
    | false =>
     rw [if_neg (fun q => by rw [(spc_nat c).2 q] at hs; cases hs)] at ha
     rw [hs] at hst
     simp at hst
     subst hst
     (refine qc fun Y Yh => ?_; simp [go_sem, h15, hc, ba_size]; ((repeat' (first|(refine qf ?_;simp [go_sem, h15, hc, ba_size])|intro _|apply And.intro|(apply Yh;clear Yh Y)));all_goals first|apply QS|omega|with_reducible assumption|skip))
     refine zk ?_
     refine zG ?_
     simp only [AGs]
     refine qp rfl ?_
     simp [go_sem, hln, ha, hc256, hc256']
     refine qp rfl ?_
     simp [go_sem, hln, ha, hc256, hc256']
     refine qp rfl ?_
     simp [go_sem, hln, ha, hc256, hc256']
     refine qp rfl ?_
     simp [go_sem, hln, ha, hc256, hc256']
     refine qp rfl ?_
     simp [go_sem, hln, ha, hc256, hc256']
     refine qp rfl ?_
     simp [go_sem, hln, ha, hc256, hc256']
     refine zU (e := 5) false (by simp [dstOk]) rfl (.inr ⟨rfl, rfl⟩) (by simp [go_sem]) ?_
     simp [go_sem]
     (refine qg fun T F hT hF => ?_; simp [go_sem]; refine hF ?_; clear hT hF T F)
     refine qi ?_
     refine tl16 _ ?_
     (refine ql ?_ ?_ <;> simp [go_sem])
   ·(refine qg fun T F hT hF => ?_; simp [go_sem, h15]; refine hF ?_; clear hT hF T F)
    refine qH ?_
    simp only [go_sem]
    have hi2 : i = s.length := by omega
    subst hi2
    rw [List.take_length]
    refine tl1 _ ?_
    (refine ql ?_ ?_ <;> simp [go_sem])
end Go.Proofs.YtelhdhofnohkcaaGreatDoor
namespace Go.Proofs.YtelhdhofnohkcaaGreatDoor
open Go.Eng Go.Fm
set_option maxRecDepth 20000
attribute [local irreducible] AG CallA CallT AWp PCall ACall AgC
set_option maxHeartbeats 8000000 in
theorem wC (g : Nat) (s : Bs) (hl : s.length ≤ 1100000) : ACall Tryz.prog 77 [.ptr 900010 g 0, dS s] [(900010, (g, bxR 0 0 (.int .u32 0) (.v .nilIface) dOn))] [900010] fun ps r =>
  (∃ x, ps = [(g, x)]) ∧ r = dS (qF s) := by 
 refine qY Tryz.func77 rfl rfl Tryz.ntmps77 (rs := [.tmp 4]) (tys := [9]) rfl rfl (by simp) (by simp [qO]) ?_
 (refine qc fun Y Yh => ?_; simp [go_sem]; ((repeat' (first|(refine qf ?_;simp [go_sem])|intro _|apply And.intro|(apply Yh;clear Yh Y)));all_goals first|apply QS|omega|with_reducible assumption|skip))
 refine zk ?_
 refine zG ?_
 simp only [AGs]
 refine qp rfl ?_
 simp [go_sem]
 refine qp rfl ?_
 simp [go_sem]
 refine qp rfl ?_
 simp [go_sem]
 refine qp rfl ?_
 simp [go_sem]
 refine kQ (by simp [dstOk]) ?_
 simp [go_sem]
 refine qp rfl ?_
 simp [go_sem]
 (refine qN [900010, 900012] (.inl ⟨rfl,rfl⟩) (by simp [go_sem]) ?_; intro args ha; simp [go_sem] at ha; subst ha; refine ⟨_, _, (wH g (.int .u32 0) rfl), (by simp [go_sem]), ?_⟩; rintro ps r hps ⟨g2, rfl, rfl⟩; simp [go_sem]; ((repeat' (first|(refine qf ?_;simp [go_sem])|intro _|apply And.intro|(apply Yh;clear Yh Y)));all_goals first|apply QS|omega|with_reducible assumption|skip))
 refine zk ?_
 refine zG ?_
 simp only [AGs]
 refine qp rfl ?_
 simp [go_sem]
 refine qp rfl ?_
 simp [go_sem]
 refine qp rfl ?_
 simp [go_sem]
 refine qp rfl ?_
 simp [go_sem]
 refine qp rfl ?_
 simp [go_sem]
 refine wZ 249 254 (by simp [dstOk]) (fun _ _ => by kernel_rfl) ?_
 simp [go_sem]
 refine qN [900012] (.inl ⟨rfl, rfl⟩) (by simp [go_sem]) ?_
 intro args ha
 simp [go_sem] at ha
 subst ha
 refine ⟨_, _, wX g2 s hl, (by simp [go_sem]), ?_⟩
 rintro ps r hps ⟨rfl, rfl⟩
 simp [go_sem]
 refine qp rfl ?_
 simp [go_sem]
 (refine qj ?_; simp [go_sem])
end Go.Proofs.YtelhdhofnohkcaaGreatDoor
