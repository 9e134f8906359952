/- Part of a proof: see the last text. -/
import Derived.Test.YtkgmecjaejaehaaGreatDoorG10
import Derived.Test.YtkgmecjaejaehaaGreatDoorG08
set_option linter.unusedVariables false
set_option linter.unusedSimpArgs false
namespace Go.Proofs.YtkgmecjaejaehaaGreatDoor
open Go.Eng Go.Js
set_option maxRecDepth 20000
attribute [local irreducible] AG CallA CallT AWp PCall ACall XCall AgC
abbrev sv0 : JV := .mk 6 [] [[97]] [.mk 5 [] [] [.mk 3 [49] [] [], .mk 3 [50] [] []]]
theorem sane_p1 : parO [123, 34, 97, 34, 58, 91, 49, 44, 50, 93, 125] = (sv0, 0, 0) := by kernel_rfl
theorem sane_p2 : parO [91, 49, 44, 93] = (.mk 0 [] [] [], 3, 4) := by kernel_rfl
theorem sane_ok : (vldV sv0 2000 1).1 = true := by
 have h1 : isNumV [49] = true := by decide +kernel
 have h2 : isNumV [50] = true := by decide +kernel
 have h3 : Lib.validD [97] = true := by decide +kernel
 have h4 : (Lib.compact [([97] : List UInt8)]).length = 1 := by decide +kernel
 simp [vldV, vldL, okNames, leafV, h1, h2, h3, h4]
theorem sane_tk : toksV [47, 97, 47, 49] = some [[97], [49]] := by decide +kernel
theorem sane_at : atV sv0 [47, 97, 47, 49] = (.mk 3 [50] [] [], 0) := by
 have e1 : idxT sv0 [97] = 0 := by decide +kernel
 have e2 : idxT (.mk 5 [] [] [.mk 3 [49] [] [], .mk 3 [50] [] []]) [49] = 1 := by decide +kernel
 unfold atV
 rw [sane_ok, sane_tk]
 simp [goV, e1, e2, JV.items]
set_option maxHeartbeats 16000000 in
theorem sane_spec : PCall Tryz.prog 13 [] fun r => r = dB true := by
 refine pcall_of Tryz.func13 rfl rfl Tryz.ntmps13 (rs := [.tmp 0]) (tys := [4]) rfl rfl (by simp) ?_
 have H1 := parse_spec [123, 34, 97, 34, 58, 91, 49, 44, 50, 93, 125] (by simp)
 have H2 := parse_spec [91, 49, 44, 93] (by simp)
 have H3 := at_spec sv0 [47, 97, 47, 49] (by simp) (by decide +kernel) (by decide +kernel)
 rw [sane_p1] at H1
 rw [sane_p2] at H2
 rw [sane_at] at H3
 simp only [dJ_mk, List.map_cons, List.map_nil, cJ_mk] at H1 H2 H3
 (refine awp_sr fun Y Yh => ?_; simp [go_sem]; ((repeat' (first|(refine ag_x ?_;simp [go_sem])|intro _|apply And.intro|(apply Yh;clear Yh Y)));all_goals first|apply Hold.mk|omega|with_reducible assumption|skip))
 (refine awp_sr fun Y Yh => ?_; simp [go_sem]; ((repeat' (first|(refine ag_x ?_;simp [go_sem])|intro _|apply And.intro|(apply Yh;clear Yh Y)));all_goals first|apply Hold.mk|omega|with_reducible assumption|skip))
 ((try refine CallT.toA ?_); refine callT_m (by first|exact .inl ⟨rfl,rfl⟩|exact .inr rfl) (by simp [go_sem]) ?_; intro args ha; simp [go_sem] at ha; subst ha; refine ⟨_, H1, ?_⟩; rintro _ rfl; simp [go_sem]; ((repeat' (first|(refine ag_x ?_;simp [go_sem])|intro _|apply And.intro|(apply Yh;clear Yh Y)));all_goals first|apply Hold.mk|omega|with_reducible assumption|skip))
 (refine awp_sr fun Y Yh => ?_; simp [go_sem]; ((repeat' (first|(refine ag_x ?_;simp [go_sem])|intro _|apply And.intro|(apply Yh;clear Yh Y)));all_goals first|apply Hold.mk|omega|with_reducible assumption|skip))
 ((try refine CallT.toA ?_); refine callT_m (by first|exact .inl ⟨rfl,rfl⟩|exact .inr rfl) (by simp [go_sem]) ?_; intro args ha; simp [go_sem] at ha; subst ha; refine ⟨_, H3, ?_⟩; rintro _ rfl; simp [go_sem]; ((repeat' (first|(refine ag_x ?_;simp [go_sem])|intro _|apply And.intro|(apply Yh;clear Yh Y)));all_goals first|apply Hold.mk|omega|with_reducible assumption|skip))
 (refine awp_sr fun Y Yh => ?_; simp [go_sem]; ((repeat' (first|(refine ag_x ?_;simp [go_sem])|intro _|apply And.intro|(apply Yh;clear Yh Y)));all_goals first|apply Hold.mk|omega|with_reducible assumption|skip))
 ((try refine CallT.toA ?_); refine callT_m (by first|exact .inl ⟨rfl,rfl⟩|exact .inr rfl) (by simp [go_sem]) ?_; intro args ha; simp [go_sem] at ha; subst ha; refine ⟨_, H2, ?_⟩; rintro _ rfl; simp [go_sem]; ((repeat' (first|(refine ag_x ?_;simp [go_sem])|intro _|apply And.intro|(apply Yh;clear Yh Y)));all_goals first|apply Hold.mk|omega|with_reducible assumption|skip))
 (refine awp_sr fun Y Yh => ?_; simp [go_sem]; ((repeat' (first|(refine ag_x ?_;simp [go_sem])|intro _|apply And.intro|(apply Yh;clear Yh Y)));all_goals first|apply Hold.mk|omega|with_reducible assumption|skip))
 (refine awp_ret ?_; simp [go_sem])
end Go.Proofs.YtkgmecjaejaehaaGreatDoor
namespace Go.Js
/-! whether two values are the same; where one of them is turned -/
mutual
def eqJ : JV → JV → Bool
 | .mk k t ns xs, .mk k' t' ns' xs' => decide (k = k') && decide (t = t') && decide (ns = ns') && eqJs xs xs'
def eqJs : List JV → List JV → Bool
 | [], [] => true
 | x :: xs, y :: ys => eqJ x y && eqJs xs ys
 | _, _ => false
end
theorem eqJs_iff : ∀ (xs ys : List JV), (∀ x ∈ xs, ∀ y, eqJ x y = true ↔ x = y) → (eqJs xs ys = true ↔ xs = ys)
 | [], [], _ => by simp [eqJs]
 | [], _ :: _, _ => by simp [eqJs]
 | _ :: _, [], _ => by simp [eqJs]
 | x :: xs, y :: ys, H => by
  simp only [eqJs, Bool.and_eq_true, List.cons.injEq]
  rw [H x (List.mem_cons_self ..), eqJs_iff xs ys (fun z hz => H z (List.mem_cons_of_mem _ hz))]
theorem eqJ_iffN : ∀ (N : Nat) (v w : JV), sizeJ v ≤ N → (eqJ v w = true ↔ v = w) := by
 intro N
 induction N using Nat.strongRecOn with
 | _ N ih =>
 rintro ⟨k, t, ns, xs⟩ ⟨k', t', ns', xs'⟩ hv
 simp only [eqJ, Bool.and_eq_true, decide_eq_true_eq, JV.mk.injEq]
 rw [eqJs_iff xs xs' (fun x hx y => ih (sizeJ x) (by have := sizeJ_item (k := k) (t := t) (ns := ns) hx; omega) x y (Nat.le_refl _))]
 constructor
 ·rintro ⟨⟨⟨a, b⟩, c⟩, d⟩; exact ⟨a, b, c, d⟩
 ·rintro ⟨a, b, c, d⟩; exact ⟨⟨⟨a, b⟩, c⟩, d⟩
theorem eqJ_iff (v w : JV) : eqJ v w = true ↔ v = w := eqJ_iffN _ v w (Nat.le_refl _)
theorem eqJ_not {v w : JV} (h : v ≠ w) : eqJ v w = false := by
 rw [Bool.eq_false_iff]; intro q; exact h ((eqJ_iff v w).1 q)
theorem eqJ_self (v : JV) : eqJ v v = true := (eqJ_iff v v).2 rfl
theorem take_next {α : Type} {l l' : List α} {i : Nat} {a : α} (h : l.take i = l'.take i) (h1 : l[i]? = some a) (h2 : l'[i]? = some a) : l.take (i + 1) = l'.take (i + 1) := by
 rw [List.take_add_one, List.take_add_one, h, h1, h2]
theorem same_get {α : Type} {l l' : List α} {i : Nat} {a b : α} (h : l = l') (h1 : l[i]? = some a) (h2 : l'[i]? = some b) : a = b := by
 subst h; rw [h1] at h2; exact Option.some.inj h2
end Go.Js
namespace Go.Proofs.YtkgmecjaejaehaaGreatDoor
open Go.Eng Go.Js
set_option maxRecDepth 20000
attribute [local irreducible] AG CallA CallT AWp PCall ACall XCall AgC
set_option maxHeartbeats 16000000 in
theorem same_spec : ∀ (N : Nat) (v w : JV), sizeJ v ≤ N → N ≤ 10000000 → PCall Tryz.prog 16 [dJ v, dJ w] fun r => r = dB (eqJ v w) := by
 intro N
 induction N using Nat.strongRecOn with
 | _ N ih =>
 rintro ⟨k, t, ns, xs⟩ ⟨k', t', ns', xs'⟩ hv hN
 have hlen := sizeJ_names k t ns xs
 have HI : ∀ x ∈ xs, ∀ y, PCall Tryz.prog 16 [dJ x, dJ y] fun r => r = dB (eqJ x y) := fun x hx y => ih (sizeJ x) (by have := sizeJ_item (k := k) (t := t) (ns := ns) hx; omega) x y (Nat.le_refl _) (by have := sizeJ_item (k := k) (t := t) (ns := ns) hx; omega)
 have hno := @eqJ_not (.mk k t ns xs) (.mk k' t' ns' xs')
 have hyes := (eqJ_iff (.mk k t ns xs) (.mk k' t' ns' xs')).2
 generalize eqJ (.mk k t ns xs) (.mk k' t' ns' xs') = res at *
 rw [dJ_mk, dJ_mk]
 refine pcall_of Tryz.func16 rfl rfl Tryz.ntmps16 (rs := [.tmp 4]) (tys := [4]) rfl rfl (by simp) ?_
 refine awp_seq ?_
 refine awp_r fun Y Yh => ?_
 simp [go_sem]
 intro g2 g3
 apply Yh; clear Yh Y
 refine Hold.mk ?_
 refine awp_seq_k fun K1 hK1 => ?_
 by_cases e1 : ¬ k = k'
 ·(refine awp_sr fun Y Yh => ?_; simp [go_sem, e1]; ((repeat' (first|(refine ag_false ?_ ?_ ?_;(focus (simp [go_sem, undef, e1];done));(focus (simp [go_sem];done));simp [go_sem, e1])|(refine ag_x ?_;simp [go_sem, undef, e1])|intro _|apply And.intro|(apply Yh;clear Yh Y)));all_goals first|apply Hold.mk|omega|with_reducible assumption|skip))
  (refine awp_if fun T F hT hF => ?_; simp [go_sem]; refine hT ?_; clear hT hF T F)
  (refine awp_sr fun Y Yh => ?_; simp [go_sem]; ((repeat' (first|(refine ag_x ?_;simp [go_sem])|intro _|apply And.intro|(apply Yh;clear Yh Y)));all_goals first|apply Hold.mk|omega|with_reducible assumption|skip))
  rw [hno (fun q => e1 (by injection q))]
  (refine awp_ret ?_; simp [go_sem])
 rw [Classical.not_not] at e1
 by_cases e2 : ¬ t = t'
 ·(refine awp_sr fun Y Yh => ?_; simp [go_sem, e1, e2]; ((repeat' (first|(refine ag_false ?_ ?_ ?_;(focus (simp [go_sem, undef, e1, e2];done));(focus (simp [go_sem];done));simp [go_sem, e1, e2])|(refine ag_true ?_ ?_;(focus (simp [go_sem, undef, e1, e2];done));simp [go_sem, e1, e2])|(refine ag_x ?_;simp [go_sem, undef, e1, e2])|intro _|apply And.intro|(apply Yh;clear Yh Y)));all_goals first|apply Hold.mk|omega|with_reducible assumption|skip))
  (refine awp_if fun T F hT hF => ?_; simp [go_sem]; refine hT ?_; clear hT hF T F)
  (refine awp_sr fun Y Yh => ?_; simp [go_sem]; ((repeat' (first|(refine ag_x ?_;simp [go_sem])|intro _|apply And.intro|(apply Yh;clear Yh Y)));all_goals first|apply Hold.mk|omega|with_reducible assumption|skip))
  rw [hno (fun q => e2 (by injection q))]
  (refine awp_ret ?_; simp [go_sem])
 rw [Classical.not_not] at e2
 by_cases e3 : ¬ ns.length = ns'.length
 ·have e3' : ¬ (ns.length : Int) = ns'.length := by omega
  (refine awp_sr fun Y Yh => ?_; simp [go_sem, e1, e2, e3, e3']; ((repeat' (first|(refine ag_false ?_ ?_ ?_;(focus (simp [go_sem, undef, e1, e2, e3, e3'];done));(focus (simp [go_sem];done));simp [go_sem, e1, e2, e3, e3'])|(refine ag_true ?_ ?_;(focus (simp [go_sem, undef, e1, e2, e3, e3'];done));simp [go_sem, e1, e2, e3, e3'])|(refine ag_x ?_;simp [go_sem, undef, e1, e2, e3, e3'])|intro _|apply And.intro|(apply Yh;clear Yh Y)));all_goals first|apply Hold.mk|omega|with_reducible assumption|skip))
  (refine awp_if fun T F hT hF => ?_; simp [go_sem]; refine hT ?_; clear hT hF T F)
  (refine awp_sr fun Y Yh => ?_; simp [go_sem]; ((repeat' (first|(refine ag_x ?_;simp [go_sem])|intro _|apply And.intro|(apply Yh;clear Yh Y)));all_goals first|apply Hold.mk|omega|with_reducible assumption|skip))
  rw [hno (fun q => e3 (by injection q with _ _ q3 _; rw [q3]))]
  (refine awp_ret ?_; simp [go_sem])
 rw [Classical.not_not] at e3
 by_cases e4 : ¬ xs.length = xs'.length
 ·have e4' : ¬ (xs.length : Int) = xs'.length := by omega
  (refine awp_sr fun Y Yh => ?_; simp [go_sem, e1, e2, e3, e4, e4']; ((repeat' (first|(refine ag_false ?_ ?_ ?_;(focus (simp [go_sem, undef, e1, e2, e3, e4, e4'];done));(focus (simp [go_sem];done));simp [go_sem, e1, e2, e3, e4, e4'])|(refine ag_true ?_ ?_;(focus (simp [go_sem, undef, e1, e2, e3, e4, e4'];done));simp [go_sem, e1, e2, e3, e4, e4'])|(refine ag_x ?_;simp [go_sem, undef, e1, e2, e3, e4, e4'])|intro _|apply And.intro|(apply Yh;clear Yh Y)));all_goals first|apply Hold.mk|omega|with_reducible assumption|skip))
  (refine awp_if fun T F hT hF => ?_; simp [go_sem]; refine hT ?_; clear hT hF T F)
  (refine awp_sr fun Y Yh => ?_; simp [go_sem]; ((repeat' (first|(refine ag_x ?_;simp [go_sem])|intro _|apply And.intro|(apply Yh;clear Yh Y)));all_goals first|apply Hold.mk|omega|with_reducible assumption|skip))
  rw [hno (fun q => e4 (by injection q with _ _ _ q4; rw [q4]))]
  (refine awp_ret ?_; simp [go_sem])
 rw [Classical.not_not] at e4
 have e3' : (ns.length : Int) = ns'.length := by omega
 have e4' : (xs.length : Int) = xs'.length := by omega
 subst e1
 subst e2
 (refine awp_sr fun Y Yh => ?_; simp [go_sem, e3, e4, e3', e4']; ((repeat' (first|(refine ag_false ?_ ?_ ?_;(focus (simp [go_sem, undef, e3, e4, e3', e4'];done));(focus (simp [go_sem];done));simp [go_sem, e3, e4, e3', e4'])|(refine ag_true ?_ ?_;(focus (simp [go_sem, undef, e3, e4, e3', e4'];done));simp [go_sem, e3, e4, e3', e4'])|(refine ag_x ?_;simp [go_sem, undef, e3, e4, e3', e4'])|intro _|apply And.intro|(apply Yh;clear Yh Y)));all_goals first|apply Hold.mk|omega|with_reducible assumption|skip))
 (refine awp_if fun T F hT hF => ?_; simp [go_sem]; refine hF ?_; clear hT hF T F)
 refine awp_skip ?_
 refine hK1 _ ?_; clear hK1
 refine awp_seq_k fun K2 hK2 => ?_
 (refine awp_sr fun Y Yh => ?_; simp [go_sem]; ((repeat' (first|(refine ag_x ?_;simp [go_sem])|intro _|apply And.intro|(apply Yh;clear Yh Y)));all_goals first|apply Hold.mk|omega|with_reducible assumption|skip))
 refine awp_block ?_
 refine awp_loop (σ := Nat) (fun i => ⟨[(2, .ptr 2 g2 0), (3, .ptr 3 g3 0), (4, dB false), (5, dI i)], [(2, (g2, .box [dI k, dS t, dSs ns, .sl 4 (xs.map cJ)])), (3, (g3, .box [dI k, dS t, dSs ns', .sl 4 (xs'.map cJ)]))]⟩) (fun i => i ≤ ns.length ∧ ns.take i = ns'.take i) (fun i => ns.length - i) 0 ?_ (by simp) ?_
 ·(refine cov_of ?_ ?_ <;> simp [go_sem])
 ·rintro i ⟨hi, ht⟩
  refine awp_seq_k fun K3 hK3 => ?_
  (refine awp_sr fun Y Yh => ?_; simp [go_sem]; ((repeat' (first|(refine ag_x ?_;simp [go_sem])|intro _|apply And.intro|(apply Yh;clear Yh Y)));all_goals first|apply Hold.mk|omega|with_reducible assumption|skip))
  by_cases h : i < ns.length
  ·have hlt' : i < ns'.length := by omega
   have q1 : ns[i]? = some ns[i] := List.getElem?_eq_getElem h
   have q2 : ns'[i]? = some ns'[i] := List.getElem?_eq_getElem hlt'
   have hbad : ns[i] ≠ ns'[i] → res = false := fun q => hno fun e => by
    injection e with _ _ e5 _
    exact q (same_get e5 q1 q2)
   (refine awp_if fun T F hT hF => ?_; simp [go_sem, h]; refine hT ?_; clear hT hF T F)
   refine awp_skip ?_
   refine hK3 _ ?_; clear hK3
   refine awp_seq_k fun K4 hK4 => ?_
   refine awp_block ?_
   generalize ns[i] = a at *
   generalize ns'[i] = b at *
   ((refine awp_dr (.qs [0, 2, 5, 7, 1, 3, 4, 6, 8, 9, 10] (.nil)) (by kernel_rfl) ?_ ?_ ?_ ?_); (kernel_rfl); (exact (by decide +kernel)); (kernel_rfl); intro Y Yh; ((repeat' (first|(refine ag_x ?_;simp [go_sem, q1, q2])|refine adr_nil ?_|((first|refine adr_qs fun Y Yh=>?_|refine adr_y fun Y Yh=>?_);simp [go_sem, q1, q2])|intro _|apply And.intro|(apply Yh;clear Yh Y)));all_goals first|apply Hold.mk|omega|with_reducible assumption|skip))
   (refine awp_if fun T F hT hF => ?_; simp [go_sem]; refine BR.intro (fun h5 => hT ?_) (fun h5 => hF ?_); all_goals clear hT hF T F; try simp at h5)
   ·(refine awp_sr fun Y Yh => ?_; simp [go_sem]; ((repeat' (first|(refine ag_x ?_;simp [go_sem])|intro _|apply And.intro|(apply Yh;clear Yh Y)));all_goals first|apply Hold.mk|omega|with_reducible assumption|skip))
    rw [hbad h5]
    (refine awp_ret ?_; simp [go_sem])
   ·refine awp_skip ?_
    refine hK4 _ ?_; clear hK4
    subst h5
    (refine awp_r fun Y Yh => ?_; simp [go_sem]; ((repeat' (first|(refine ag_x ?_;simp [go_sem])|intro _|apply And.intro|(apply Yh;clear Yh Y)));all_goals first|apply Hold.mk|omega|with_reducible assumption|skip))
    refine ⟨i + 1, ?_, ⟨by omega, take_next ht q1 q2⟩, by omega⟩
    (refine cov_of ?_ ?_ <;> simp [go_sem])
  ·(refine awp_if fun T F hT hF => ?_; simp [go_sem, h]; refine hF ?_; clear hT hF T F)
   refine awp_exit ?_
   simp only [go_sem]
   refine hK2 _ ?_; clear hK2
   obtain rfl : i = ns.length := by omega
   rw [List.take_length, e3, List.take_length] at ht
   subst ht
   refine awp_seq_k fun K5 hK5 => ?_
   (refine awp_sr fun Y Yh => ?_; simp [go_sem]; ((repeat' (first|(refine ag_x ?_;simp [go_sem])|intro _|apply And.intro|(apply Yh;clear Yh Y)));all_goals first|apply Hold.mk|omega|with_reducible assumption|skip))
   refine awp_block ?_
   refine awp_loop (σ := Nat) (fun i => ⟨[(2, .ptr 2 g2 0), (3, .ptr 3 g3 0), (4, dB false), (6, dI i)], [(2, (g2, .box [dI k, dS t, dSs ns, .sl 4 (xs.map cJ)])), (3, (g3, .box [dI k, dS t, dSs ns, .sl 4 (xs'.map cJ)]))]⟩) (fun i => i ≤ xs.length ∧ xs.take i = xs'.take i) (fun i => xs.length - i) 0 ?_ (by simp) ?_
   ·(refine cov_of ?_ ?_ <;> simp [go_sem])
   ·rintro i ⟨hi, ht⟩
    refine awp_seq_k fun K6 hK6 => ?_
    (refine awp_sr fun Y Yh => ?_; simp [go_sem]; ((repeat' (first|(refine ag_x ?_;simp [go_sem])|intro _|apply And.intro|(apply Yh;clear Yh Y)));all_goals first|apply Hold.mk|omega|with_reducible assumption|skip))
    by_cases h : i < xs.length
    ·have hlt' : i < xs'.length := by omega
     have q1 : xs[i]? = some xs[i] := List.getElem?_eq_getElem h
     have q2 : xs'[i]? = some xs'[i] := List.getElem?_eq_getElem hlt'
     have H := HI xs[i] (List.getElem_mem h) xs'[i]
     have hbad : eqJ xs[i] xs'[i] = false → res = false := fun q => hno fun e => by
      injection e with _ _ _ e5
      rw [same_get e5 q1 q2, eqJ_self] at q
      cases q
     have hsame : eqJ xs[i] xs'[i] = true → xs.take (i + 1) = xs'.take (i + 1) := fun q => take_next ht q1 (by rw [q2, (eqJ_iff _ _).1 q])
     obtain ⟨k1, t1, ns1, xs1, hx1⟩ : ∃ k t ns ys, xs[i] = .mk k t ns ys := by
      cases hx : xs[i] with
      | mk k t ns ys => exact ⟨_, _, _, _, rfl⟩
     obtain ⟨k2, t2, ns2, xs2, hx2⟩ : ∃ k t ns ys, xs'[i] = .mk k t ns ys := by
      cases hx : xs'[i] with
      | mk k t ns ys => exact ⟨_, _, _, _, rfl⟩
     generalize eqJ xs[i] xs'[i] = ok at *
     rw [hx1, hx2, dJ_mk, dJ_mk] at H
     (refine awp_if fun T F hT hF => ?_; simp [go_sem, h]; refine hT ?_; clear hT hF T F)
     refine awp_skip ?_
     refine hK6 _ ?_; clear hK6
     refine awp_seq_k fun K7 hK7 => ?_
     refine awp_block ?_
     ((refine awp_dr (.qs [0, 2, 5, 7, 1, 3, 4, 6, 8, 9] (.one 10 (.qs [11] (.nil)))) (by kernel_rfl) ?_ ?_ ?_ ?_); (kernel_rfl); (exact (by decide +kernel)); (kernel_rfl); intro Y Yh; ((repeat' (first|(refine ag_x ?_;simp [go_sem, h, hlt', hx1, hx2, cJ_mk])|refine adr_nil ?_|((first|refine adr_qs fun Y Yh=>?_|refine adr_y fun Y Yh=>?_);simp [go_sem, h, hlt', hx1, hx2, cJ_mk])|intro _|apply And.intro|(apply Yh;clear Yh Y)));all_goals first|apply Hold.mk|omega|with_reducible assumption|skip))
     ((try refine CallT.toA ?_); refine callT_m (by first|exact .inl ⟨rfl,rfl⟩|exact .inr rfl) (by simp [go_sem]) ?_; intro args ha; simp [go_sem] at ha; subst ha; refine ⟨_, H, ?_⟩; rintro _ rfl; simp [go_sem]; ((repeat' (first|(refine ag_x ?_;simp [go_sem])|refine adr_nil ?_|((first|refine adr_qs fun Y Yh=>?_|refine adr_y fun Y Yh=>?_);simp [go_sem])|intro _|apply And.intro|(apply Yh;clear Yh Y)));all_goals first|apply Hold.mk|omega|with_reducible assumption|skip))
     cases ok with
     | false =>
      (refine awp_if fun T F hT hF => ?_; simp [go_sem]; refine hT ?_; clear hT hF T F)
      (refine awp_sr fun Y Yh => ?_; simp [go_sem]; ((repeat' (first|(refine ag_x ?_;simp [go_sem])|intro _|apply And.intro|(apply Yh;clear Yh Y)));all_goals first|apply Hold.mk|omega|with_reducible assumption|skip))
      rw [hbad rfl]
      (refine awp_ret ?_; simp [go_sem])
     | true =>
      (refine awp_if fun T F hT hF => ?_; simp [go_sem]; refine hF ?_; clear hT hF T F)
      refine awp_skip ?_
      refine hK7 _ ?_; clear hK7
      (refine awp_r fun Y Yh => ?_; simp [go_sem]; ((repeat' (first|(refine ag_x ?_;simp [go_sem])|intro _|apply And.intro|(apply Yh;clear Yh Y)));all_goals first|apply Hold.mk|omega|with_reducible assumption|skip))
      refine ⟨i + 1, ?_, ⟨by omega, hsame rfl⟩, by omega⟩
      (refine cov_of ?_ ?_ <;> simp [go_sem])
    ·(refine awp_if fun T F hT hF => ?_; simp [go_sem, h]; refine hF ?_; clear hT hF T F)
     refine awp_exit ?_
     simp only [go_sem]
     refine hK5 _ ?_; clear hK5
     obtain rfl : i = xs.length := by omega
     rw [List.take_length, e4, List.take_length] at ht
     subst ht
     (refine awp_sr fun Y Yh => ?_; simp [go_sem]; ((repeat' (first|(refine ag_x ?_;simp [go_sem])|intro _|apply And.intro|(apply Yh;clear Yh Y)));all_goals first|apply Hold.mk|omega|with_reducible assumption|skip))
     rw [hyes rfl]
     (refine awp_ret ?_; simp [go_sem])
set_option maxHeartbeats 8000000 in
theorem as_spec : ∀ (N : Nat) (v : JV), sizeJ v ≤ N → N ≤ 10000000 → PCall Tryz.prog 17 [dJ v] fun r => r = dJ v := by
 intro N
 induction N using Nat.strongRecOn with
 | _ N ih =>
 rintro ⟨k, t, ns, xs⟩ hv hN
 have hlen := sizeJ_names k t ns xs
 have HI : ∀ x ∈ xs, PCall Tryz.prog 17 [dJ x] fun r => r = dJ x := fun x hx => ih (sizeJ x) (by have := sizeJ_item (k := k) (t := t) (ns := ns) hx; omega) x (Nat.le_refl _) (by have := sizeJ_item (k := k) (t := t) (ns := ns) hx; omega)
 rw [dJ_mk]
 refine pcall_of Tryz.func17 rfl rfl Tryz.ntmps17 (rs := [.cell 2 32]) (tys := [32]) rfl rfl (by simp) ?_
 refine awp_seq ?_
 refine awp_r fun Y Yh => ?_
 simp [go_sem]
 intro g1 g2
 apply Yh; clear Yh Y
 refine Hold.mk ?_
 refine awp_seq_j (α := Nat × Nat) (fun a => ⟨[(1, .ptr 1 g1 0), (2, .ptr 2 g2 0), (3, .ptr 3 a.2 0)], [(1, (g1, .box [dI k, dS t, dSs ns, .sl 4 (xs.map cJ)])), (2, (g2, .box [dI 0, dS [], nS, nS])), (3, (a.2, .box [dI k, dS t, .own 9 a.1, nS])), (9, (a.1, .row 9 1 (ns.map cS)))]⟩) (fun K1 hK1 hM1 => ?_) ?_
 ·((refine awp_d (.qs [0, 2, 5, 1, 3, 6] (.kp2 4 (.kp2 7 (.qs [8] (.kp 9 (.one 10 (.nil)))) 9 (.kp 7 (.qs [8] (.one 10 (.nil))))) 9 (.kp 4 (.kp 7 (.qs [8] (.one 10 (.nil))))))) (by kernel_rfl) ?_ ?_ ?_ ?_); (kernel_rfl); (exact (by decide +kernel)); (kernel_rfl); intro Y Yh; ((repeat' (first|(refine ag_x ?_;simp [go_sem])|refine adr_nil ?_|refine adr_kp2 ?_ ?_|((first|refine adr_qs fun Y Yh=>?_|refine adr_y fun Y Yh=>?_);simp [go_sem])|intro _|apply And.intro|(apply Yh;clear Yh Y)));all_goals first|apply Hold.mk|omega|with_reducible assumption|skip))
  ·rename_i gr gn g3
   show K1 _
   refine hK1 _ (hM1 (gn, g3) _ ?_)
   (refine cov_of ?_ ?_ <;> simp [go_sem])
  ·rename_i gr g3 gn
   show K1 _
   refine hK1 _ (hM1 (gn, g3) _ ?_)
   (refine cov_of ?_ ?_ <;> simp [go_sem])
  ·rename_i g3 gr gn
   show K1 _
   refine hK1 _ (hM1 (gn, g3) _ ?_)
   (refine cov_of ?_ ?_ <;> simp [go_sem])
 rintro ⟨gn, g3⟩
 simp only [go_sem]
 refine awp_nilbox 33 32 4 3 (sb := 3) rfl rfl (by decide) fun gi => ?_
 simp only [go_sem, List.set_cons_succ, List.set_cons_zero]
 refine awp_seq_k fun K2 hK2 => ?_
 (refine awp_sr fun Y Yh => ?_; simp [go_sem]; ((repeat' (first|(refine ag_x ?_;simp [go_sem])|intro _|apply And.intro|(apply Yh;clear Yh Y)));all_goals first|apply Hold.mk|omega|with_reducible assumption|skip))
 refine awp_block ?_
 refine awp_loop (σ := Nat × Nat) (fun a => ⟨[(1, .ptr 1 g1 0), (2, .ptr 2 g2 0), (3, .ptr 3 g3 0), (4, dI a.1)], [(1, (g1, .box [dI k, dS t, dSs ns, .sl 4 (xs.map cJ)])), (2, (g2, .box [dI 0, dS [], nS, nS])), (3, (g3, .box [dI k, dS t, .own 9 gn, .own 33 a.2])), (9, (gn, .row 9 1 (ns.map cS))), (33, (a.2, .row 32 4 ((xs.map cJ).take a.1)))]⟩) (fun a => a.1 ≤ xs.length) (fun a => xs.length - a.1) (0, gi) ?_ (by simp) ?_
 ·(refine cov_of ?_ ?_ <;> simp [go_sem])
 rintro ⟨i, gr⟩ hi
 simp only at hi ⊢
 refine awp_seq_k fun K3 hK3 => ?_
 (refine awp_sr fun Y Yh => ?_; simp [go_sem]; ((repeat' (first|(refine ag_x ?_;simp [go_sem])|intro _|apply And.intro|(apply Yh;clear Yh Y)));all_goals first|apply Hold.mk|omega|with_reducible assumption|skip))
 by_cases h : i < xs.length
 ·have H := HI xs[i] (List.getElem_mem h)
  have htk : (xs.map cJ).take i ++ [cJ xs[i]] = (xs.map cJ).take (i + 1) := by rw [List.take_succ_eq_append_getElem (by simpa using h)]; simp
  obtain ⟨k', t', ns', xs', hx⟩ : ∃ k' t' ns' xs', xs[i] = .mk k' t' ns' xs' := by
   cases h : xs[i] with
   | mk k' t' ns' xs' => exact ⟨_, _, _, _, rfl⟩
  rw [hx, dJ_mk] at H
  rw [hx, cJ_mk] at htk
  have htl : ((xs.map cJ).take i).length = i := by simp; omega
  generalize hR : (xs.map cJ).take i = R at *
  generalize hR2 : (xs.map cJ).take (i + 1) = R2 at *
  (refine awp_if fun T F hT hF => ?_; simp [go_sem, h]; refine hT ?_; clear hT hF T F)
  refine awp_skip ?_
  refine hK3 _ ?_; clear hK3
  refine awp_seq_k fun K4 hK4 => ?_
  refine awp_block ?_
  ((refine awp_d (.qs [0, 2, 4, 1, 3, 5, 6] (.kp 7 (.kp 8 (.one 9 (.qs [10] (.one 11 (.nil))))))) (by kernel_rfl) ?_ ?_ ?_ ?_); (kernel_rfl); (exact (by decide +kernel)); (kernel_rfl); intro Y Yh; ((repeat' (first|(refine ag_x ?_;simp [go_sem, h, hx, cJ_mk])|refine adr_nil ?_|((first|refine adr_qs fun Y Yh=>?_|refine adr_y fun Y Yh=>?_);simp [go_sem, h, hx, cJ_mk])|intro _|apply And.intro|(apply Yh;clear Yh Y)));all_goals first|apply Hold.mk|omega|with_reducible assumption|skip))
  ((try refine CallT.toA ?_); refine callT_m (by first|exact .inl ⟨rfl,rfl⟩|exact .inr rfl) (by simp [go_sem]) ?_; intro args ha; simp [go_sem] at ha; subst ha; refine ⟨_, H, ?_⟩; rintro _ rfl; simp [go_sem, htk, htl]; ((repeat' (first|(refine ag_x ?_;simp [go_sem, htk, htl])|refine adr_nil ?_|((first|refine adr_qs fun Y Yh=>?_|refine adr_y fun Y Yh=>?_);simp [go_sem, htk, htl])|intro _|apply And.intro|(apply Yh;clear Yh Y)));all_goals first|apply Hold.mk|omega|with_reducible assumption|skip))
  show K4 _
  refine hK4 _ ?_; clear hK4
  rename_i gz
  (refine awp_r fun Y Yh => ?_; simp [go_sem]; ((repeat' (first|(refine ag_x ?_;simp [go_sem])|intro _|apply And.intro|(apply Yh;clear Yh Y)));all_goals first|apply Hold.mk|omega|with_reducible assumption|skip))
  refine ⟨(i + 1, gz), ?_, by simp only; omega, by simp only; omega⟩
  simp only
  rw [hR2]
  (refine cov_of ?_ ?_ <;> simp [go_sem, htk])
 ·(refine awp_if fun T F hT hF => ?_; simp [go_sem, h]; refine hF ?_; clear hT hF T F)
  refine awp_exit ?_
  simp only [go_sem]
  refine hK2 _ ?_; clear hK2
  obtain rfl : i = xs.length := by omega
  rw [List.take_of_length_le (by simp)]
  (refine awp_sr fun Y Yh => ?_; simp [go_sem]; ((repeat' (first|(refine ag_x ?_;simp [go_sem])|intro _|apply And.intro|(apply Yh;clear Yh Y)));all_goals first|apply Hold.mk|omega|with_reducible assumption|skip))
  (refine awp_ret ?_; simp [go_sem])
set_option maxHeartbeats 8000000 in
theorem back_spec : ∀ (N : Nat) (v : JV), sizeJ v ≤ N → N ≤ 10000000 → PCall Tryz.prog 20 [dJ v] fun r => r = dJ v := by
 intro N
 induction N using Nat.strongRecOn with
 | _ N ih =>
 rintro ⟨k, t, ns, xs⟩ hv hN
 have hlen := sizeJ_names k t ns xs
 have HI : ∀ x ∈ xs, PCall Tryz.prog 20 [dJ x] fun r => r = dJ x := fun x hx => ih (sizeJ x) (by have := sizeJ_item (k := k) (t := t) (ns := ns) hx; omega) x (Nat.le_refl _) (by have := sizeJ_item (k := k) (t := t) (ns := ns) hx; omega)
 rw [dJ_mk]
 refine pcall_of Tryz.func20 rfl rfl Tryz.ntmps20 (rs := [.cell 2 26]) (tys := [26]) rfl rfl (by simp) ?_
 refine awp_seq ?_
 refine awp_r fun Y Yh => ?_
 simp [go_sem]
 intro g1 g2
 apply Yh; clear Yh Y
 refine Hold.mk ?_
 refine awp_seq_j (α := Nat × Nat) (fun a => ⟨[(1, .ptr 1 g1 0), (2, .ptr 2 g2 0), (3, .ptr 3 a.2 0)], [(1, (g1, .box [dI k, dS t, dSs ns, .sl 4 (xs.map cJ)])), (2, (g2, .box [dI 0, dS [], nS, nS])), (3, (a.2, .box [dI k, dS t, .own 9 a.1, nS])), (9, (a.1, .row 9 1 (ns.map cS)))]⟩) (fun K1 hK1 hM1 => ?_) ?_
 ·((refine awp_d (.qs [0, 2, 5, 1, 3, 6] (.kp2 4 (.kp2 7 (.qs [8] (.kp 9 (.one 10 (.nil)))) 9 (.kp 7 (.qs [8] (.one 10 (.nil))))) 9 (.kp 4 (.kp 7 (.qs [8] (.one 10 (.nil))))))) (by kernel_rfl) ?_ ?_ ?_ ?_); (kernel_rfl); (exact (by decide +kernel)); (kernel_rfl); intro Y Yh; ((repeat' (first|(refine ag_x ?_;simp [go_sem])|refine adr_nil ?_|refine adr_kp2 ?_ ?_|((first|refine adr_qs fun Y Yh=>?_|refine adr_y fun Y Yh=>?_);simp [go_sem])|intro _|apply And.intro|(apply Yh;clear Yh Y)));all_goals first|apply Hold.mk|omega|with_reducible assumption|skip))
  ·rename_i gr gn g3
   show K1 _
   refine hK1 _ (hM1 (gn, g3) _ ?_)
   (refine cov_of ?_ ?_ <;> simp [go_sem])
  ·rename_i gr g3 gn
   show K1 _
   refine hK1 _ (hM1 (gn, g3) _ ?_)
   (refine cov_of ?_ ?_ <;> simp [go_sem])
  ·rename_i g3 gr gn
   show K1 _
   refine hK1 _ (hM1 (gn, g3) _ ?_)
   (refine cov_of ?_ ?_ <;> simp [go_sem])
 rintro ⟨gn, g3⟩
 simp only [go_sem]
 refine awp_nilbox 33 26 4 3 (sb := 3) rfl rfl (by decide) fun gi => ?_
 simp only [go_sem, List.set_cons_succ, List.set_cons_zero]
 refine awp_seq_k fun K2 hK2 => ?_
 (refine awp_sr fun Y Yh => ?_; simp [go_sem]; ((repeat' (first|(refine ag_x ?_;simp [go_sem])|intro _|apply And.intro|(apply Yh;clear Yh Y)));all_goals first|apply Hold.mk|omega|with_reducible assumption|skip))
 refine awp_block ?_
 refine awp_loop (σ := Nat × Nat) (fun a => ⟨[(1, .ptr 1 g1 0), (2, .ptr 2 g2 0), (3, .ptr 3 g3 0), (4, dI a.1)], [(1, (g1, .box [dI k, dS t, dSs ns, .sl 4 (xs.map cJ)])), (2, (g2, .box [dI 0, dS [], nS, nS])), (3, (g3, .box [dI k, dS t, .own 9 gn, .own 33 a.2])), (9, (gn, .row 9 1 (ns.map cS))), (33, (a.2, .row 26 4 ((xs.map cJ).take a.1)))]⟩) (fun a => a.1 ≤ xs.length) (fun a => xs.length - a.1) (0, gi) ?_ (by simp) ?_
 ·(refine cov_of ?_ ?_ <;> simp [go_sem])
 rintro ⟨i, gr⟩ hi
 simp only at hi ⊢
 refine awp_seq_k fun K3 hK3 => ?_
 (refine awp_sr fun Y Yh => ?_; simp [go_sem]; ((repeat' (first|(refine ag_x ?_;simp [go_sem])|intro _|apply And.intro|(apply Yh;clear Yh Y)));all_goals first|apply Hold.mk|omega|with_reducible assumption|skip))
 by_cases h : i < xs.length
 ·have H := HI xs[i] (List.getElem_mem h)
  have htk : (xs.map cJ).take i ++ [cJ xs[i]] = (xs.map cJ).take (i + 1) := by rw [List.take_succ_eq_append_getElem (by simpa using h)]; simp
  obtain ⟨k', t', ns', xs', hx⟩ : ∃ k' t' ns' xs', xs[i] = .mk k' t' ns' xs' := by
   cases h : xs[i] with
   | mk k' t' ns' xs' => exact ⟨_, _, _, _, rfl⟩
  rw [hx, dJ_mk] at H
  rw [hx, cJ_mk] at htk
  have htl : ((xs.map cJ).take i).length = i := by simp; omega
  generalize hR : (xs.map cJ).take i = R at *
  generalize hR2 : (xs.map cJ).take (i + 1) = R2 at *
  (refine awp_if fun T F hT hF => ?_; simp [go_sem, h]; refine hT ?_; clear hT hF T F)
  refine awp_skip ?_
  refine hK3 _ ?_; clear hK3
  refine awp_seq_k fun K4 hK4 => ?_
  refine awp_block ?_
  ((refine awp_d (.qs [0, 2, 4, 1, 3, 5, 6] (.kp 7 (.kp 8 (.one 9 (.qs [10] (.one 11 (.nil))))))) (by kernel_rfl) ?_ ?_ ?_ ?_); (kernel_rfl); (exact (by decide +kernel)); (kernel_rfl); intro Y Yh; ((repeat' (first|(refine ag_x ?_;simp [go_sem, h, hx, cJ_mk])|refine adr_nil ?_|((first|refine adr_qs fun Y Yh=>?_|refine adr_y fun Y Yh=>?_);simp [go_sem, h, hx, cJ_mk])|intro _|apply And.intro|(apply Yh;clear Yh Y)));all_goals first|apply Hold.mk|omega|with_reducible assumption|skip))
  ((try refine CallT.toA ?_); refine callT_m (by first|exact .inl ⟨rfl,rfl⟩|exact .inr rfl) (by simp [go_sem]) ?_; intro args ha; simp [go_sem] at ha; subst ha; refine ⟨_, H, ?_⟩; rintro _ rfl; simp [go_sem, htk, htl]; ((repeat' (first|(refine ag_x ?_;simp [go_sem, htk, htl])|refine adr_nil ?_|((first|refine adr_qs fun Y Yh=>?_|refine adr_y fun Y Yh=>?_);simp [go_sem, htk, htl])|intro _|apply And.intro|(apply Yh;clear Yh Y)));all_goals first|apply Hold.mk|omega|with_reducible assumption|skip))
  show K4 _
  refine hK4 _ ?_; clear hK4
  rename_i gz
  (refine awp_r fun Y Yh => ?_; simp [go_sem]; ((repeat' (first|(refine ag_x ?_;simp [go_sem])|intro _|apply And.intro|(apply Yh;clear Yh Y)));all_goals first|apply Hold.mk|omega|with_reducible assumption|skip))
  refine ⟨(i + 1, gz), ?_, by simp only; omega, by simp only; omega⟩
  simp only
  rw [hR2]
  (refine cov_of ?_ ?_ <;> simp [go_sem, htk])
 ·(refine awp_if fun T F hT hF => ?_; simp [go_sem, h]; refine hF ?_; clear hT hF T F)
  refine awp_exit ?_
  simp only [go_sem]
  refine hK2 _ ?_; clear hK2
  obtain rfl : i = xs.length := by omega
  rw [List.take_of_length_le (by simp)]
  (refine awp_sr fun Y Yh => ?_; simp [go_sem]; ((repeat' (first|(refine ag_x ?_;simp [go_sem])|intro _|apply And.intro|(apply Yh;clear Yh Y)));all_goals first|apply Hold.mk|omega|with_reducible assumption|skip))
  (refine awp_ret ?_; simp [go_sem])
theorem wrap_mod (x m : Int) (hm : 0 < m) : ∃ n : Nat, (IntKind.u64.wrap x).tmod m = n ∧ (n : Int) < m := by
 have h0 : 0 ≤ IntKind.u64.wrap x := by rw [IntKind.wrap_u64]; omega
 have h1 := Int.tmod_nonneg m h0
 have h2 := Int.tmod_lt_of_pos (IntKind.u64.wrap x) hm
 exact ⟨((IntKind.u64.wrap x).tmod m).toNat, by omega, by omega⟩
end Go.Proofs.YtkgmecjaejaehaaGreatDoor
namespace Go.Js
/-! values that numbers make -/
abbrev textT : List (List UInt8) := [[97], [98], [], [97, 47, 98], [126], [10, 1, 34], [195, 169, 240, 159, 152, 128], [48]]
abbrev numT : List (List UInt8) := [[48], [45, 49], [49, 50], [48, 46, 53], [49, 101, 57], [45, 48], [49, 69, 45, 50]]
def leafG (v : JV) : Prop := (∃ k : Nat, k < 3 ∧ v = .mk k [] [] []) ∨ (∃ t ∈ numT, v = .mk 3 t [] []) ∨ ∃ t ∈ textT, v = .mk 4 t [] []
def namesG (ns : List (List UInt8)) : Prop := ns.Nodup ∧ ∀ s ∈ ns, s ∈ textT
def okG : Nat → JV → Prop
 | 0, v => leafG v
 | d + 1, v => leafG v ∨ ∃ k ns xs, v = .mk k [] ns xs ∧ xs.length ≤ 4 ∧ (k = 5 ∧ ns = [] ∨ k = 6 ∧ ns.length = xs.length ∧ namesG ns) ∧ ∀ x ∈ xs, okG d x
theorem okG_leaf {d : Nat} {v : JV} (h : leafG v) : okG d v := by
 cases d with
 | zero => exact h
 | succ d => exact .inl h
end Go.Js
namespace Go.Proofs.YtkgmecjaejaehaaGreatDoor
open Go.Eng Go.Js
set_option maxRecDepth 20000
attribute [local irreducible] AG CallA CallT AWp PCall ACall XCall AgC
theorem rindex_spec (l : List Bs) (x : Bs) (hl : l.length ≤ 1000000) : PCall Tryz.prog 95 [dSs l, dS x] fun r => r = dI (ixV l x) := by
 refine pcall_of Tryz.func95 rfl rfl Tryz.ntmps95 (rs := [.tmp 4]) (tys := [3]) rfl rfl (by simp) ?_
 unfold ixV
 (refine awp_sr fun Y Yh => ?_; simp [go_sem]; ((repeat' (first|(refine ag_x ?_;simp [go_sem])|intro _|apply And.intro|(apply Yh;clear Yh Y)));all_goals first|apply Hold.mk|omega|with_reducible assumption|skip))
 refine awp_seq_k fun K1 hK1 => ?_
 (refine awp_sr fun Y Yh => ?_; simp [go_sem]; ((repeat' (first|(refine ag_x ?_;simp [go_sem])|intro _|apply And.intro|(apply Yh;clear Yh Y)));all_goals first|apply Hold.mk|omega|with_reducible assumption|skip))
 refine awp_block ?_
 refine awp_loop (σ := Nat) (fun i => ⟨[(0, dSs l), (1, dS x), (5, dI i)], []⟩) (fun i => i ≤ l.length ∧ (l.take i).any (fun y => y == x) = false) (fun i => l.length - i) 0 (by (refine cov_of ?_ ?_ <;> simp [go_sem])) (by simp) ?_
 rintro i ⟨hi, hany⟩
 refine awp_seq_k fun K2 hK2 => ?_
 (refine awp_sr fun Y Yh => ?_; simp [go_sem]; ((repeat' (first|(refine ag_x ?_;simp [go_sem])|intro _|apply And.intro|(apply Yh;clear Yh Y)));all_goals first|apply Hold.mk|omega|with_reducible assumption|skip))
 (refine awp_if fun T F hT hF => ?_; simp [go_sem]; refine BR.intro (fun h3 => hT ?_) (fun h3 => hF ?_); all_goals clear hT hF T F; try simp at h3)
 ·refine awp_skip ?_
  refine hK2 _ ?_; clear hK2
  obtain ⟨y, hy⟩ : ∃ y, l[i]? = some y := ⟨_, List.getElem?_eq_getElem (by omega)⟩
  refine awp_seq_k fun K4 hK4 => ?_
  refine awp_block ?_
  (refine awp_sr fun Y Yh => ?_; simp [go_sem, hy]; ((repeat' (first|(refine ag_x ?_;simp [go_sem, hy])|intro _|apply And.intro|(apply Yh;clear Yh Y)));all_goals first|apply Hold.mk|omega|with_reducible assumption|skip))
  (refine awp_if fun T F hT hF => ?_; simp [go_sem]; refine BR.intro (fun h5 => hT ?_) (fun h5 => hF ?_); all_goals clear hT hF T F; try simp at h5)
  ·have hxy : x = y := by simpa using h5.symm
   (refine awp_sr fun Y Yh => ?_; simp [go_sem]; ((repeat' (first|(refine ag_x ?_;simp [go_sem])|intro _|apply And.intro|(apply Yh;clear Yh Y)));all_goals first|apply Hold.mk|omega|with_reducible assumption|skip))
   (refine awp_ret ?_; simp [go_sem])
   rw [fIx_at hany hy (by simp [hxy])]
  ·have hxy : ¬ x = y := fun q => h5 (by simpa using q.symm)
   refine awp_skip ?_
   refine hK4 _ ?_; clear hK4
   (refine awp_r fun Y Yh => ?_; simp [go_sem]; ((repeat' (first|(refine ag_x ?_;simp [go_sem])|intro _|apply And.intro|(apply Yh;clear Yh Y)));all_goals first|apply Hold.mk|omega|with_reducible assumption|skip))
   refine ⟨i + 1, ?_, ⟨by omega, take_anyG hany hy (by simp; exact fun q => hxy q.symm)⟩, by omega⟩
   (refine cov_of ?_ ?_ <;> simp [go_sem])
 ·refine awp_exit ?_
  simp only [go_sem]
  refine hK1 _ ?_; clear hK1
  (refine awp_sr fun Y Yh => ?_; simp [go_sem]; ((repeat' (first|(refine ag_x ?_;simp [go_sem])|intro _|apply And.intro|(apply Yh;clear Yh Y)));all_goals first|apply Hold.mk|omega|with_reducible assumption|skip))
  (refine awp_ret ?_; simp [go_sem])
  have : i = l.length := by omega
  subst this
  rw [List.take_length] at hany
  rw [fIx_none hany]
abbrev grB (gg : Nat) (l : List Int) (a : Nat) : Nat × Blk := (gg, .box [dIs l, dI a])
set_option maxHeartbeats 4000000 in
theorem pick_spec (gg : Nat) (l : List Int) (a n : Nat) (ha : a ≤ 151) (hn0 : 0 < n) (hn : n ≤ 100) : ACall Tryz.prog 93 [.ptr 900070 gg 0, dI n] [(900070, grB gg l a)] [900070] fun ps r => ∃ a' x : Nat, ps = [grB gg l a'] ∧ a' ≤ 151 ∧ x < n ∧ r = dI x := by
 refine acall_of Tryz.func93 rfl rfl Tryz.ntmps93 (rs := [.tmp 4]) (tys := [3]) rfl rfl (by simp) (by simp [notFroz]) ?_
 have hw : IntKind.u64.wrap (n : Int) = n := by rw [IntKind.wrap_u64]; omega
 (refine awp_sr fun Y Yh => ?_; simp [go_sem]; ((repeat' (first|(refine ag_x ?_;simp [go_sem])|intro _|apply And.intro|(apply Yh;clear Yh Y)));all_goals first|apply Hold.mk|omega|with_reducible assumption|skip))
 refine awp_seq_k fun K1 hK1 => ?_
 by_cases c1 : l.length ≤ a
 ·have c1' : (l.length : Int) ≤ a := by omega
  ((refine awp_dr (.qs [0, 1, 2, 4, 5, 6, 3, 7, 8, 9, 10, 11, 12, 13, 14, 15, 16] (.nil)) (by kernel_rfl) ?_ ?_ ?_ ?_); (kernel_rfl); (exact (by decide +kernel)); (kernel_rfl); intro Y Yh; ((repeat' (first|(refine ag_false ?_ ?_ ?_;(focus (simp [go_sem, undef, c1, c1'];done));(focus (simp [go_sem];done));simp [go_sem, c1, c1'])|(refine ag_true ?_ ?_;(focus (simp [go_sem, undef, c1, c1'];done));simp [go_sem, c1, c1'])|(refine ag_x ?_;simp [go_sem, undef, c1, c1'])|refine adr_nil ?_|((first|refine adr_qs fun Y Yh=>?_|refine adr_y fun Y Yh=>?_);simp [go_sem, undef, c1, c1'])|intro _|apply And.intro|(apply Yh;clear Yh Y)));all_goals first|apply Hold.mk|omega|with_reducible assumption|skip))
  (refine awp_if fun T F hT hF => ?_; simp [go_sem]; refine hT ?_; clear hT hF T F)
  (refine awp_sr fun Y Yh => ?_; simp [go_sem]; ((repeat' (first|(refine ag_x ?_;simp [go_sem])|intro _|apply And.intro|(apply Yh;clear Yh Y)));all_goals first|apply Hold.mk|omega|with_reducible assumption|skip))
  (refine awp_ret ?_; simp [go_sem, retA])
  exact ⟨ha, 0, hn0, rfl⟩
 ·have c1' : ¬ (l.length : Int) ≤ a := by omega
  by_cases c2 : 150 < a
  ·have c2' : (150 : Int) < a := by omega
   ((refine awp_dr (.qs [0, 1, 2, 4, 5, 6, 3, 7, 8, 9, 10, 11, 12, 13, 14, 15, 16] (.nil)) (by kernel_rfl) ?_ ?_ ?_ ?_); (kernel_rfl); (exact (by decide +kernel)); (kernel_rfl); intro Y Yh; ((repeat' (first|(refine ag_false ?_ ?_ ?_;(focus (simp [go_sem, undef, c1, c1', c2, c2'];done));(focus (simp [go_sem];done));simp [go_sem, c1, c1', c2, c2'])|(refine ag_true ?_ ?_;(focus (simp [go_sem, undef, c1, c1', c2, c2'];done));simp [go_sem, c1, c1', c2, c2'])|(refine ag_x ?_;simp [go_sem, undef, c1, c1', c2, c2'])|refine adr_nil ?_|((first|refine adr_qs fun Y Yh=>?_|refine adr_y fun Y Yh=>?_);simp [go_sem, undef, c1, c1', c2, c2'])|intro _|apply And.intro|(apply Yh;clear Yh Y)));all_goals first|apply Hold.mk|omega|with_reducible assumption|skip))
   (refine awp_if fun T F hT hF => ?_; simp [go_sem]; refine hT ?_; clear hT hF T F)
   (refine awp_sr fun Y Yh => ?_; simp [go_sem]; ((repeat' (first|(refine ag_x ?_;simp [go_sem])|intro _|apply And.intro|(apply Yh;clear Yh Y)));all_goals first|apply Hold.mk|omega|with_reducible assumption|skip))
   (refine awp_ret ?_; simp [go_sem, retA])
   exact ⟨ha, 0, hn0, rfl⟩
  ·have c2' : ¬ (150 : Int) < a := by omega
   ((refine awp_dr (.qs [0, 1, 2, 4, 5, 6, 3, 7, 8, 9, 10, 11, 12, 13, 14, 15, 16] (.nil)) (by kernel_rfl) ?_ ?_ ?_ ?_); (kernel_rfl); (exact (by decide +kernel)); (kernel_rfl); intro Y Yh; ((repeat' (first|(refine ag_false ?_ ?_ ?_;(focus (simp [go_sem, undef, c1, c1', c2, c2'];done));(focus (simp [go_sem];done));simp [go_sem, c1, c1', c2, c2'])|(refine ag_true ?_ ?_;(focus (simp [go_sem, undef, c1, c1', c2, c2'];done));simp [go_sem, c1, c1', c2, c2'])|(refine ag_x ?_;simp [go_sem, undef, c1, c1', c2, c2'])|refine adr_nil ?_|((first|refine adr_qs fun Y Yh=>?_|refine adr_y fun Y Yh=>?_);simp [go_sem, undef, c1, c1', c2, c2'])|intro _|apply And.intro|(apply Yh;clear Yh Y)));all_goals first|apply Hold.mk|omega|with_reducible assumption|skip))
   (refine awp_if fun T F hT hF => ?_; simp [go_sem]; refine hF ?_; clear hT hF T F)
   refine awp_skip ?_
   refine hK1 _ ?_; clear hK1
   have hlt : a < l.length := by omega
   have hz : l[a]? = some l[a] := List.getElem?_eq_getElem hlt
   obtain ⟨x, hx, hxn⟩ := wrap_mod l[a] n (by omega)
   generalize l[a] = z at *
   (refine awp_sr fun Y Yh => ?_; simp [go_sem]; ((repeat' (first|(refine ag_x ?_;simp [go_sem])|intro _|apply And.intro|(apply Yh;clear Yh Y)));all_goals first|apply Hold.mk|omega|with_reducible assumption|skip))
   ((refine awp_dr (.qs [0, 1, 2, 4, 5, 6, 12, 13, 3, 7, 8, 9, 10, 11, 14, 15, 16] (.nil)) (by kernel_rfl) ?_ ?_ ?_ ?_); (kernel_rfl); (exact (by decide +kernel)); (kernel_rfl); intro Y Yh; ((repeat' (first|(refine ag_x ?_;simp [go_sem, hz, hw, hx])|refine adr_nil ?_|((first|refine adr_qs fun Y Yh=>?_|refine adr_y fun Y Yh=>?_);simp [go_sem, hz, hw, hx])|intro _|apply And.intro|(apply Yh;clear Yh Y)));all_goals first|apply Hold.mk|omega|with_reducible assumption|skip))
   (refine awp_ret ?_; simp [go_sem, retA])
   exact ⟨a + 1, by omega, by omega, by omega⟩
def txtN (x : Nat) : Bs := textT.getD x []
def numN (x : Nat) : Bs := numT.getD x []
theorem txt_at {x : Nat} (h : x < 8) : ([[D.v (.string ⟨#[97]⟩)], [D.v (.string ⟨#[98]⟩)], [D.v (.string ⟨#[]⟩)], [D.v (.string ⟨#[97, 47, 98]⟩)], [D.v (.string ⟨#[126]⟩)], [D.v (.string ⟨#[10, 1, 34]⟩)], [D.v (.string ⟨#[195, 169, 240, 159, 152, 128]⟩)], [D.v (.string ⟨#[48]⟩)]] : List (List D))[x]? = some [D.v (.string ⟨(txtN x).toArray⟩)] := by
 have : x = 0 ∨ x = 1 ∨ x = 2 ∨ x = 3 ∨ x = 4 ∨ x = 5 ∨ x = 6 ∨ x = 7 := by omega
 rcases this with rfl | rfl | rfl | rfl | rfl | rfl | rfl | rfl <;> rfl
theorem num_at {x : Nat} (h : x < 7) : ([[D.v (.string ⟨#[48]⟩)], [D.v (.string ⟨#[45, 49]⟩)], [D.v (.string ⟨#[49, 50]⟩)], [D.v (.string ⟨#[48, 46, 53]⟩)], [D.v (.string ⟨#[49, 101, 57]⟩)], [D.v (.string ⟨#[45, 48]⟩)], [D.v (.string ⟨#[49, 69, 45, 50]⟩)]] : List (List D))[x]? = some [D.v (.string ⟨(numN x).toArray⟩)] := by
 have : x = 0 ∨ x = 1 ∨ x = 2 ∨ x = 3 ∨ x = 4 ∨ x = 5 ∨ x = 6 := by omega
 rcases this with rfl | rfl | rfl | rfl | rfl | rfl | rfl <;> rfl
theorem txt_mem {x : Nat} (h : x < 8) : txtN x ∈ textT := by
 have : x = 0 ∨ x = 1 ∨ x = 2 ∨ x = 3 ∨ x = 4 ∨ x = 5 ∨ x = 6 ∨ x = 7 := by omega
 rcases this with rfl | rfl | rfl | rfl | rfl | rfl | rfl | rfl <;> simp [txtN]
theorem num_mem {x : Nat} (h : x < 7) : numN x ∈ numT := by
 have : x = 0 ∨ x = 1 ∨ x = 2 ∨ x = 3 ∨ x = 4 ∨ x = 5 ∨ x = 6 := by omega
 rcases this with rfl | rfl | rfl | rfl | rfl | rfl | rfl <;> simp [numN]
set_option maxHeartbeats 4000000 in
theorem text_spec (gg : Nat) (l : List Int) (a : Nat) (ha : a ≤ 151) : ACall Tryz.prog 94 [.ptr 900070 gg 0] [(900070, grB gg l a)] [900070] fun ps r => ∃ a' s, ps = [grB gg l a'] ∧ a' ≤ 151 ∧ s ∈ textT ∧ r = dS s := by
 refine acall_of Tryz.func94 rfl rfl Tryz.ntmps94 (rs := [.tmp 2]) (tys := [9]) rfl rfl (by simp) (by simp [notFroz]) ?_
 (refine awp_sr fun Y Yh => ?_; simp [go_sem]; ((repeat' (first|(refine ag_x ?_;simp [go_sem])|intro _|apply And.intro|(apply Yh;clear Yh Y)));all_goals first|apply Hold.mk|omega|with_reducible assumption|skip))
 (refine awp_sr fun Y Yh => ?_; simp [go_sem]; ((repeat' (first|(refine ag_x ?_;simp [go_sem])|intro _|apply And.intro|(apply Yh;clear Yh Y)));all_goals first|apply Hold.mk|omega|with_reducible assumption|skip))
 (refine callA_l [900070] (by first|exact .inl ⟨rfl,rfl⟩|exact .inr rfl) (by simp [go_sem]) ?_; intro args ha; simp [go_sem] at ha; subst ha; refine ⟨_, _, (pick_spec gg l a 8 ha (by decide) (by decide)), (by simp [go_sem]), ?_⟩; rintro ps r hps ⟨a', x, rfl, ha', hx, rfl⟩; simp [go_sem]; ((repeat' (first|(refine ag_x ?_;simp [go_sem])|intro _|apply And.intro|(apply Yh;clear Yh Y)));all_goals first|apply Hold.mk|omega|with_reducible assumption|skip))
 rw [txt_at hx]
 simp [go_sem]
 ((repeat' (first|(refine ag_x ?_;simp [go_sem])|refine adr_nil ?_|refine adr_two ?_ ?_|refine adr_kq ?_ ?_|refine adr_three ?_ ?_ ?_|refine adr_four ?_ ?_ ?_ ?_|refine adr_kp2 ?_ ?_|refine adr_kp3 ?_ ?_ ?_|((first|refine adr_qs fun Y Yh=>?_|refine adr_y fun Y Yh=>?_);simp [go_sem])|intro _|apply And.intro|(apply Yh;clear Yh Y)));all_goals first|apply Hold.mk|omega|with_reducible assumption|skip)
 (refine awp_ret ?_; simp [go_sem, retA])
 exact ⟨ha', by simpa using txt_mem hx⟩
structure GrS where
 j : Nat
 a : Nat
 ns : List Bs
 xs : List JV
 gn : Nat
 gx : Nat
def grInv (d : Nat) (kk : Int) (y : GrS) : Prop := y.a ≤ 151 ∧ y.j + y.xs.length ≤ 4 ∧ (kk = 5 ∧ y.ns = [] ∨ kk = 6 ∧ y.ns.length = y.xs.length ∧ namesG y.ns) ∧ ∀ x ∈ y.xs, okG d x
set_option maxHeartbeats 16000000 in
theorem value_spec : ∀ (d : Nat), d ≤ 100 → ∀ (gg : Nat) (l : List Int) (a : Nat), a ≤ 151 → ACall Tryz.prog 48 [.ptr 900070 gg 0, dI d] [(900070, grB gg l a)] [900070] fun ps r => ∃ a' v, ps = [grB gg l a'] ∧ a' ≤ 151 ∧ okG d v ∧ r = dJ v := by
 intro d
 induction d with
 | zero =>
  intro _ gg l a ha
  refine acall_of Tryz.func48 rfl rfl Tryz.ntmps48 (rs := [.cell 4 32]) (tys := [32]) rfl rfl (by simp) (by simp [notFroz]) ?_
  refine awp_seq ?_
  refine awp_r fun Y Yh => ?_
  simp [go_sem]
  intro g4
  apply Yh; clear Yh Y
  refine Hold.mk ?_
  (refine awp_sr fun Y Yh => ?_; simp [go_sem]; ((repeat' (first|(refine ag_x ?_;simp [go_sem])|intro _|apply And.intro|(apply Yh;clear Yh Y)));all_goals first|apply Hold.mk|omega|with_reducible assumption|skip))
  (refine callA_l [900070] (by first|exact .inl ⟨rfl,rfl⟩|exact .inr rfl) (by simp [go_sem]) ?_; intro args ha; simp [go_sem] at ha; subst ha; refine ⟨_, _, (pick_spec gg l a 12 ha (by decide) (by decide)), (by simp [go_sem]), ?_⟩; rintro ps r hps ⟨a1, x, rfl, ha1, hx, rfl⟩; simp [go_sem]; ((repeat' (first|(refine ag_x ?_;simp [go_sem])|intro _|apply And.intro|(apply Yh;clear Yh Y)));all_goals first|apply Hold.mk|omega|with_reducible assumption|skip))
  refine awp_seq_k fun K1 hK1 => ?_
  (refine awp_sr fun Y Yh => ?_; simp [go_sem]; ((repeat' (first|(refine ag_x ?_;simp [go_sem])|intro _|apply And.intro|(apply Yh;clear Yh Y)));all_goals first|apply Hold.mk|omega|with_reducible assumption|skip))
  by_cases c1 : x < 3
  ·have c1' : (x : Int) < 3 := by omega
   (refine awp_if fun T F hT hF => ?_; simp [go_sem, c1, c1']; refine hT ?_; clear hT hF T F)
   (refine awp_sr fun Y Yh => ?_; simp [go_sem]; ((repeat' (first|(refine ag_x ?_;simp [go_sem])|intro _|apply And.intro|(apply Yh;clear Yh Y)));all_goals first|apply Hold.mk|omega|with_reducible assumption|skip))
   (refine awp_ret ?_; simp [go_sem, retA])
   exact ⟨ha1, .mk x [] [] [], okG_leaf (.inl ⟨x, c1, rfl⟩), by simp [dJ_mk]⟩
  have c1' : ¬ (x : Int) < 3 := by omega
  (refine awp_if fun T F hT hF => ?_; simp [go_sem, c1, c1']; refine hF ?_; clear hT hF T F)
  refine awp_skip ?_
  refine hK1 _ ?_; clear hK1
  refine awp_seq_k fun K3 hK3 => ?_
  by_cases c2 : x < 8
  ·have c2b : (x : Int) < 8 := by omega
   by_cases c3 : x < 5
   ·have c3' : (x : Int) < 5 := by omega
    (refine awp_sr fun Y Yh => ?_; simp [go_sem, c3, c3']; ((repeat' (first|(refine ag_false ?_ ?_ ?_;(focus (simp [go_sem, undef, c3, c3'];done));(focus (simp [go_sem];done));simp [go_sem, c3, c3'])|(refine ag_true ?_ ?_;(focus (simp [go_sem, undef, c3, c3'];done));simp [go_sem, c3, c3'])|(refine ag_x ?_;simp [go_sem, undef, c3, c3'])|intro _|apply And.intro|(apply Yh;clear Yh Y)));all_goals first|apply Hold.mk|omega|with_reducible assumption|skip))
    (refine awp_if fun T F hT hF => ?_; simp [go_sem]; refine hT ?_; clear hT hF T F)
    (refine awp_sr fun Y Yh => ?_; simp [go_sem]; ((repeat' (first|(refine ag_x ?_;simp [go_sem])|intro _|apply And.intro|(apply Yh;clear Yh Y)));all_goals first|apply Hold.mk|omega|with_reducible assumption|skip))
    (refine callA_l [900070] (by first|exact .inl ⟨rfl,rfl⟩|exact .inr rfl) (by simp [go_sem]) ?_; intro args ha; simp [go_sem] at ha; subst ha; refine ⟨_, _, (pick_spec gg l a1 7 ha1 (by decide) (by decide)), (by simp [go_sem]), ?_⟩; rintro ps r hps ⟨a2, y, rfl, ha2, hy, rfl⟩; simp [go_sem]; ((repeat' (first|(refine ag_x ?_;simp [go_sem])|intro _|apply And.intro|(apply Yh;clear Yh Y)));all_goals first|apply Hold.mk|omega|with_reducible assumption|skip))
    rw [num_at hy]
    simp [go_sem]
    ((repeat' (first|(refine ag_x ?_;simp [go_sem])|refine adr_nil ?_|refine adr_two ?_ ?_|refine adr_kq ?_ ?_|refine adr_three ?_ ?_ ?_|refine adr_four ?_ ?_ ?_ ?_|refine adr_kp2 ?_ ?_|refine adr_kp3 ?_ ?_ ?_|((first|refine adr_qs fun Y Yh=>?_|refine adr_y fun Y Yh=>?_);simp [go_sem])|intro _|apply And.intro|(apply Yh;clear Yh Y)));all_goals first|apply Hold.mk|omega|with_reducible assumption|skip)
    (refine awp_ret ?_; simp [go_sem, retA])
    exact ⟨ha2, .mk 3 (numN y) [] [], okG_leaf (.inr (.inl ⟨_, num_mem hy, rfl⟩)), by simp [dJ_mk]⟩
   ·have c3' : ¬ (x : Int) < 5 := by omega
    (refine awp_sr fun Y Yh => ?_; simp [go_sem, c3, c3', c2, c2b]; ((repeat' (first|(refine ag_false ?_ ?_ ?_;(focus (simp [go_sem, undef, c3, c3', c2, c2b];done));(focus (simp [go_sem];done));simp [go_sem, c3, c3', c2, c2b])|(refine ag_true ?_ ?_;(focus (simp [go_sem, undef, c3, c3', c2, c2b];done));simp [go_sem, c3, c3', c2, c2b])|(refine ag_x ?_;simp [go_sem, undef, c3, c3', c2, c2b])|intro _|apply And.intro|(apply Yh;clear Yh Y)));all_goals first|apply Hold.mk|omega|with_reducible assumption|skip))
    (refine awp_if fun T F hT hF => ?_; simp [go_sem]; refine hT ?_; clear hT hF T F)
    (refine awp_sr fun Y Yh => ?_; simp [go_sem]; ((repeat' (first|(refine ag_x ?_;simp [go_sem])|intro _|apply And.intro|(apply Yh;clear Yh Y)));all_goals first|apply Hold.mk|omega|with_reducible assumption|skip))
    (refine callA_l [900070] (by first|exact .inl ⟨rfl,rfl⟩|exact .inr rfl) (by simp [go_sem]) ?_; intro args ha; simp [go_sem] at ha; subst ha; refine ⟨_, _, (pick_spec gg l a1 7 ha1 (by decide) (by decide)), (by simp [go_sem]), ?_⟩; rintro ps r hps ⟨a2, y, rfl, ha2, hy, rfl⟩; simp [go_sem]; ((repeat' (first|(refine ag_x ?_;simp [go_sem])|intro _|apply And.intro|(apply Yh;clear Yh Y)));all_goals first|apply Hold.mk|omega|with_reducible assumption|skip))
    rw [num_at hy]
    simp [go_sem]
    ((repeat' (first|(refine ag_x ?_;simp [go_sem])|refine adr_nil ?_|refine adr_two ?_ ?_|refine adr_kq ?_ ?_|refine adr_three ?_ ?_ ?_|refine adr_four ?_ ?_ ?_ ?_|refine adr_kp2 ?_ ?_|refine adr_kp3 ?_ ?_ ?_|((first|refine adr_qs fun Y Yh=>?_|refine adr_y fun Y Yh=>?_);simp [go_sem])|intro _|apply And.intro|(apply Yh;clear Yh Y)));all_goals first|apply Hold.mk|omega|with_reducible assumption|skip)
    (refine awp_ret ?_; simp [go_sem, retA])
    exact ⟨ha2, .mk 3 (numN y) [] [], okG_leaf (.inr (.inl ⟨_, num_mem hy, rfl⟩)), by simp [dJ_mk]⟩
  ·have c2b : ¬ (x : Int) < 8 := by omega
   have c3 : ¬ x < 5 := by omega
   have c3' : ¬ (x : Int) < 5 := by omega
   have c4 : ¬ x < 7 := by omega
   have c4' : ¬ (x : Int) < 7 := by omega
   (refine awp_sr fun Y Yh => ?_; simp [go_sem, c3, c3', c2, c2b]; ((repeat' (first|(refine ag_false ?_ ?_ ?_;(focus (simp [go_sem, undef, c3, c3', c2, c2b];done));(focus (simp [go_sem];done));simp [go_sem, c3, c3', c2, c2b])|(refine ag_true ?_ ?_;(focus (simp [go_sem, undef, c3, c3', c2, c2b];done));simp [go_sem, c3, c3', c2, c2b])|(refine ag_x ?_;simp [go_sem, undef, c3, c3', c2, c2b])|intro _|apply And.intro|(apply Yh;clear Yh Y)));all_goals first|apply Hold.mk|omega|with_reducible assumption|skip))
   (refine awp_if fun T F hT hF => ?_; simp [go_sem]; refine hF ?_; clear hT hF T F)
   refine awp_skip ?_
   refine hK3 _ ?_; clear hK3
   refine awp_seq_k fun K5 hK5 => ?_
   (refine awp_sr fun Y Yh => ?_; simp [go_sem, c4, c4']; ((repeat' (first|(refine ag_false ?_ ?_ ?_;(focus (simp [go_sem, undef, c4, c4'];done));(focus (simp [go_sem];done));simp [go_sem, c4, c4'])|(refine ag_true ?_ ?_;(focus (simp [go_sem, undef, c4, c4'];done));simp [go_sem, c4, c4'])|(refine ag_x ?_;simp [go_sem, undef, c4, c4'])|intro _|apply And.intro|(apply Yh;clear Yh Y)));all_goals first|apply Hold.mk|omega|with_reducible assumption|skip))
   (refine awp_if fun T F hT hF => ?_; simp [go_sem]; refine hT ?_; clear hT hF T F)
   (refine awp_sr fun Y Yh => ?_; simp [go_sem]; ((repeat' (first|(refine ag_x ?_;simp [go_sem])|intro _|apply And.intro|(apply Yh;clear Yh Y)));all_goals first|apply Hold.mk|omega|with_reducible assumption|skip))
   (refine callA_l [900070] (by first|exact .inl ⟨rfl,rfl⟩|exact .inr rfl) (by simp [go_sem]) ?_; intro args ha; simp [go_sem] at ha; subst ha; refine ⟨_, _, (text_spec gg l a1 ha1), (by simp [go_sem]), ?_⟩; rintro ps r hps ⟨a2, s, rfl, ha2, hs, rfl⟩; simp [go_sem]; ((repeat' (first|(refine ag_x ?_;simp [go_sem])|intro _|apply And.intro|(apply Yh;clear Yh Y)));all_goals first|apply Hold.mk|omega|with_reducible assumption|skip))
   (refine awp_ret ?_; simp [go_sem, retA])
   exact ⟨ha2, .mk 4 s [] [], okG_leaf (.inr (.inr ⟨_, hs, rfl⟩)), by simp [dJ_mk]⟩
 | succ d ih =>
 intro hd gg l a ha
 refine acall_of Tryz.func48 rfl rfl Tryz.ntmps48 (rs := [.cell 4 32]) (tys := [32]) rfl rfl (by simp) (by simp [notFroz]) ?_
 refine awp_seq ?_
 refine awp_r fun Y Yh => ?_
 simp [go_sem]
 intro g4
 apply Yh; clear Yh Y
 refine Hold.mk ?_
 (refine awp_sr fun Y Yh => ?_; simp [go_sem]; ((repeat' (first|(refine ag_x ?_;simp [go_sem])|intro _|apply And.intro|(apply Yh;clear Yh Y)));all_goals first|apply Hold.mk|omega|with_reducible assumption|skip))
 (refine callA_l [900070] (by first|exact .inl ⟨rfl,rfl⟩|exact .inr rfl) (by simp [go_sem]) ?_; intro args ha; simp [go_sem] at ha; subst ha; refine ⟨_, _, (pick_spec gg l a 12 ha (by decide) (by decide)), (by simp [go_sem]), ?_⟩; rintro ps r hps ⟨a1, x, rfl, ha1, hx, rfl⟩; simp [go_sem]; ((repeat' (first|(refine ag_x ?_;simp [go_sem])|intro _|apply And.intro|(apply Yh;clear Yh Y)));all_goals first|apply Hold.mk|omega|with_reducible assumption|skip))
 refine awp_seq_k fun K1 hK1 => ?_
 (refine awp_sr fun Y Yh => ?_; simp [go_sem]; ((repeat' (first|(refine ag_x ?_;simp [go_sem])|intro _|apply And.intro|(apply Yh;clear Yh Y)));all_goals first|apply Hold.mk|omega|with_reducible assumption|skip))
 by_cases c1 : x < 3
 ·have c1' : (x : Int) < 3 := by omega
  (refine awp_if fun T F hT hF => ?_; simp [go_sem, c1, c1']; refine hT ?_; clear hT hF T F)
  (refine awp_sr fun Y Yh => ?_; simp [go_sem]; ((repeat' (first|(refine ag_x ?_;simp [go_sem])|intro _|apply And.intro|(apply Yh;clear Yh Y)));all_goals first|apply Hold.mk|omega|with_reducible assumption|skip))
  (refine awp_ret ?_; simp [go_sem, retA])
  exact ⟨ha1, .mk x [] [] [], okG_leaf (.inl ⟨x, c1, rfl⟩), by simp [dJ_mk]⟩
 have c1' : ¬ (x : Int) < 3 := by omega
 (refine awp_if fun T F hT hF => ?_; simp [go_sem, c1, c1']; refine hF ?_; clear hT hF T F)
 refine awp_skip ?_
 refine hK1 _ ?_; clear hK1
 refine awp_seq_k fun K3 hK3 => ?_
 have hd0 : ¬ (d : Int) + 1 = 0 := by omega
 by_cases c2 : x < 5
 ·have c2' : (x : Int) < 5 := by omega
  (refine awp_sr fun Y Yh => ?_; simp [go_sem, c2, c2']; ((repeat' (first|(refine ag_false ?_ ?_ ?_;(focus (simp [go_sem, undef, c2, c2'];done));(focus (simp [go_sem];done));simp [go_sem, c2, c2'])|(refine ag_true ?_ ?_;(focus (simp [go_sem, undef, c2, c2'];done));simp [go_sem, c2, c2'])|(refine ag_x ?_;simp [go_sem, undef, c2, c2'])|intro _|apply And.intro|(apply Yh;clear Yh Y)));all_goals first|apply Hold.mk|omega|with_reducible assumption|skip))
  (refine awp_if fun T F hT hF => ?_; simp [go_sem]; refine hT ?_; clear hT hF T F)
  (refine awp_sr fun Y Yh => ?_; simp [go_sem]; ((repeat' (first|(refine ag_x ?_;simp [go_sem])|intro _|apply And.intro|(apply Yh;clear Yh Y)));all_goals first|apply Hold.mk|omega|with_reducible assumption|skip))
  (refine callA_l [900070] (by first|exact .inl ⟨rfl,rfl⟩|exact .inr rfl) (by simp [go_sem]) ?_; intro args ha; simp [go_sem] at ha; subst ha; refine ⟨_, _, (pick_spec gg l a1 7 ha1 (by decide) (by decide)), (by simp [go_sem]), ?_⟩; rintro ps r hps ⟨a2, y, rfl, ha2, hy, rfl⟩; simp [go_sem]; ((repeat' (first|(refine ag_x ?_;simp [go_sem])|intro _|apply And.intro|(apply Yh;clear Yh Y)));all_goals first|apply Hold.mk|omega|with_reducible assumption|skip))
  rw [num_at hy]
  simp [go_sem]
  ((repeat' (first|(refine ag_x ?_;simp [go_sem])|refine adr_nil ?_|refine adr_two ?_ ?_|refine adr_kq ?_ ?_|refine adr_three ?_ ?_ ?_|refine adr_four ?_ ?_ ?_ ?_|refine adr_kp2 ?_ ?_|refine adr_kp3 ?_ ?_ ?_|((first|refine adr_qs fun Y Yh=>?_|refine adr_y fun Y Yh=>?_);simp [go_sem])|intro _|apply And.intro|(apply Yh;clear Yh Y)));all_goals first|apply Hold.mk|omega|with_reducible assumption|skip)
  (refine awp_ret ?_; simp [go_sem, retA])
  exact ⟨ha2, .mk 3 (numN y) [] [], okG_leaf (.inr (.inl ⟨_, num_mem hy, rfl⟩)), by simp [dJ_mk]⟩
 have c2' : ¬ (x : Int) < 5 := by omega
 (refine awp_sr fun Y Yh => ?_; simp [go_sem, c2, c2', hd0]; ((repeat' (first|(refine ag_false ?_ ?_ ?_;(focus (simp [go_sem, undef, c2, c2', hd0];done));(focus (simp [go_sem];done));simp [go_sem, c2, c2', hd0])|(refine ag_true ?_ ?_;(focus (simp [go_sem, undef, c2, c2', hd0];done));simp [go_sem, c2, c2', hd0])|(refine ag_x ?_;simp [go_sem, undef, c2, c2', hd0])|intro _|apply And.intro|(apply Yh;clear Yh Y)));all_goals first|apply Hold.mk|omega|with_reducible assumption|skip))
 (refine awp_if fun T F hT hF => ?_; simp [go_sem]; refine hF ?_; clear hT hF T F)
 refine awp_skip ?_
 refine hK3 _ ?_; clear hK3
 refine awp_seq_k fun K5 hK5 => ?_
 by_cases c3 : x < 7
 ·have c3' : (x : Int) < 7 := by omega
  (refine awp_sr fun Y Yh => ?_; simp [go_sem, c3, c3']; ((repeat' (first|(refine ag_false ?_ ?_ ?_;(focus (simp [go_sem, undef, c3, c3'];done));(focus (simp [go_sem];done));simp [go_sem, c3, c3'])|(refine ag_true ?_ ?_;(focus (simp [go_sem, undef, c3, c3'];done));simp [go_sem, c3, c3'])|(refine ag_x ?_;simp [go_sem, undef, c3, c3'])|intro _|apply And.intro|(apply Yh;clear Yh Y)));all_goals first|apply Hold.mk|omega|with_reducible assumption|skip))
  (refine awp_if fun T F hT hF => ?_; simp [go_sem]; refine hT ?_; clear hT hF T F)
  (refine awp_sr fun Y Yh => ?_; simp [go_sem]; ((repeat' (first|(refine ag_x ?_;simp [go_sem])|intro _|apply And.intro|(apply Yh;clear Yh Y)));all_goals first|apply Hold.mk|omega|with_reducible assumption|skip))
  (refine callA_l [900070] (by first|exact .inl ⟨rfl,rfl⟩|exact .inr rfl) (by simp [go_sem]) ?_; intro args ha; simp [go_sem] at ha; subst ha; refine ⟨_, _, (text_spec gg l a1 ha1), (by simp [go_sem]), ?_⟩; rintro ps r hps ⟨a2, s, rfl, ha2, hs, rfl⟩; simp [go_sem]; ((repeat' (first|(refine ag_x ?_;simp [go_sem])|intro _|apply And.intro|(apply Yh;clear Yh Y)));all_goals first|apply Hold.mk|omega|with_reducible assumption|skip))
  (refine awp_ret ?_; simp [go_sem, retA])
  exact ⟨ha2, .mk 4 s [] [], okG_leaf (.inr (.inr ⟨_, hs, rfl⟩)), by simp [dJ_mk]⟩
 have c3' : ¬ (x : Int) < 7 := by omega
 (refine awp_sr fun Y Yh => ?_; simp [go_sem, c3, c3', hd0]; ((repeat' (first|(refine ag_false ?_ ?_ ?_;(focus (simp [go_sem, undef, c3, c3', hd0];done));(focus (simp [go_sem];done));simp [go_sem, c3, c3', hd0])|(refine ag_true ?_ ?_;(focus (simp [go_sem, undef, c3, c3', hd0];done));simp [go_sem, c3, c3', hd0])|(refine ag_x ?_;simp [go_sem, undef, c3, c3', hd0])|intro _|apply And.intro|(apply Yh;clear Yh Y)));all_goals first|apply Hold.mk|omega|with_reducible assumption|skip))
 (refine awp_if fun T F hT hF => ?_; simp [go_sem]; refine hF ?_; clear hT hF T F)
 refine awp_skip ?_
 refine hK5 _ ?_; clear hK5
 (refine awp_sr fun Y Yh => ?_; simp [go_sem]; ((repeat' (first|(refine ag_x ?_;simp [go_sem])|intro _|apply And.intro|(apply Yh;clear Yh Y)));all_goals first|apply Hold.mk|omega|with_reducible assumption|skip))
 rename_i g6
 refine awp_seq_k fun K7 hK7 => ?_
 have tl7 : ∀ kk : Int, (kk = 5 ∨ kk = 6) → ∀ S', Cov S' ⟨[(0, .ptr 900070 gg 0), (1, dI (d + 1 : Nat)), (4, .ptr 4 g4 0), (6, .ptr 6 g6 0)], [(4, (g4, .box [dI 0, dS [], nS, nS])), (6, (g6, .box [dI kk, dS [], nS, nS])), (900070, grB gg l a1)]⟩ → K7 S' := fun kk hkk S' hS => by
  refine hK7 _ ?_; clear hK7
  refine awp_cov hS ?_; clear hS
  refine awp_nilbox 34 9 1 2 (sb := 6) rfl rfl (by decide) fun gn => ?_
  simp only [go_sem, List.set_cons_succ, List.set_cons_zero]
  refine awp_nilbox 33 32 4 3 (sb := 6) rfl rfl (by decide) fun gx => ?_
  simp only [go_sem, List.set_cons_succ, List.set_cons_zero]
  refine awp_seq_k fun K8 hK8 => ?_
  (refine awp_sr fun Y Yh => ?_; simp [go_sem]; ((repeat' (first|(refine ag_x ?_;simp [go_sem])|intro _|apply And.intro|(apply Yh;clear Yh Y)));all_goals first|apply Hold.mk|omega|with_reducible assumption|skip))
  (refine callA_l [900070] (by first|exact .inl ⟨rfl,rfl⟩|exact .inr rfl) (by simp [go_sem]) ?_; intro args ha; simp [go_sem] at ha; subst ha; refine ⟨_, _, (pick_spec gg l a1 5 ha1 (by decide) (by decide)), (by simp [go_sem]), ?_⟩; rintro ps r hps ⟨a2, j0, rfl, ha2, hj0, rfl⟩; simp [go_sem]; ((repeat' (first|(refine ag_x ?_;simp [go_sem])|intro _|apply And.intro|(apply Yh;clear Yh Y)));all_goals first|apply Hold.mk|omega|with_reducible assumption|skip))
  refine awp_block ?_
  refine awp_loop (σ := GrS) (fun y => ⟨[(0, .ptr 900070 gg 0), (1, dI (d + 1 : Nat)), (4, .ptr 4 g4 0), (6, .ptr 6 g6 0), (7, dI y.j)], [(4, (g4, .box [dI 0, dS [], nS, nS])), (6, (g6, .box [dI kk, dS [], .own 34 y.gn, .own 33 y.gx])), (34, (y.gn, .row 9 1 (y.ns.map cS))), (33, (y.gx, .row 32 4 (y.xs.map cJ))), (900070, grB gg l y.a)]⟩) (grInv d kk) (fun y => y.j) ⟨j0, a2, [], [], gn, gx⟩ ?_ ?_ ?_
  ·(refine cov_of ?_ ?_ <;> simp [go_sem])
  ·refine ⟨ha2, by simp only [List.length_nil]; omega, ?_, by simp⟩
   rcases hkk with rfl | rfl
   ·exact .inl ⟨rfl, rfl⟩
   ·exact .inr ⟨rfl, rfl, by simp [namesG]⟩
  rintro ⟨j, a3, ns, xs, gn, gx⟩ ⟨ha3, hjx, hns, hxs⟩
  simp only at ha3 hjx hns hxs ⊢
  refine awp_seq_k fun K9 hK9 => ?_
  (refine awp_sr fun Y Yh => ?_; simp [go_sem]; ((repeat' (first|(refine ag_x ?_;simp [go_sem])|intro _|apply And.intro|(apply Yh;clear Yh Y)));all_goals first|apply Hold.mk|omega|with_reducible assumption|skip))
  by_cases h10 : 0 < j
  ·have h10' : (0 : Int) < j := by omega
   (refine awp_if fun T F hT hF => ?_; simp [go_sem, h10, h10']; refine hT ?_; clear hT hF T F)
   refine awp_skip ?_
   refine hK9 _ ?_; clear hK9
   refine awp_seq_k fun K11 hK11 => ?_
   have tl11 : ∀ (y : GrS), y.j = j → grInv d kk ⟨j - 1, y.a, y.ns, y.xs, y.gn, y.gx⟩ → ∀ S', Cov S' ⟨[(0, .ptr 900070 gg 0), (1, dI (d + 1 : Nat)), (4, .ptr 4 g4 0), (6, .ptr 6 g6 0), (7, dI j)], [(4, (g4, .box [dI 0, dS [], nS, nS])), (6, (g6, .box [dI kk, dS [], .own 34 y.gn, .own 33 y.gx])), (34, (y.gn, .row 9 1 (y.ns.map cS))), (33, (y.gx, .row 32 4 (y.xs.map cJ))), (900070, grB gg l y.a)]⟩ → K11 S' := fun y hy hinv S' hS => by
    refine hK11 _ ?_; clear hK11
    refine awp_cov hS ?_; clear hS
    (refine awp_r fun Y Yh => ?_; simp [go_sem]; ((repeat' (first|(refine ag_x ?_;simp [go_sem])|intro _|apply And.intro|(apply Yh;clear Yh Y)));all_goals first|apply Hold.mk|omega|with_reducible assumption|skip))
    refine ⟨⟨j - 1, y.a, y.ns, y.xs, y.gn, y.gx⟩, ?_, hinv, by simp only; omega⟩
    (refine cov_of ?_ ?_ <;> simp [go_sem])
    omega
   clear hK11
   refine awp_block ?_
   refine awp_seq_k fun K12 hK12 => ?_
   have tl12 : ∀ (a4 : Nat) (ns' : List Bs) (gn' : Nat), a4 ≤ 151 → (kk = 5 ∧ ns' = [] ∨ kk = 6 ∧ ns'.length = xs.length + 1 ∧ namesG ns') → ∀ S', Cov S' ⟨[(0, .ptr 900070 gg 0), (1, dI (d + 1 : Nat)), (4, .ptr 4 g4 0), (6, .ptr 6 g6 0), (7, dI j)], [(4, (g4, .box [dI 0, dS [], nS, nS])), (6, (g6, .box [dI kk, dS [], .own 34 gn', .own 33 gx])), (34, (gn', .row 9 1 (ns'.map cS))), (33, (gx, .row 32 4 (xs.map cJ))), (900070, grB gg l a4)]⟩ → K12 S' := fun a4 ns' gn' ha4 hns' S' hS => by
    refine hK12 _ ?_; clear hK12
    refine awp_cov hS ?_; clear hS
    have hxl : (xs.map cJ).length = xs.length := by simp
    have hinv : ∀ a5 v gx', a5 ≤ 151 → okG d v → grInv d kk ⟨j - 1, a5, ns', xs ++ [v], gn', gx'⟩ := fun a5 v gx' h1 h2 => by
     refine ⟨h1, by simp; omega, ?_, fun y hy => ?_⟩
     ·rcases hns' with ⟨q1, q2⟩ | ⟨q1, q2, q3⟩
      ·exact .inl ⟨q1, q2⟩
      ·exact .inr ⟨q1, by simp only [List.length_append, List.length_cons, List.length_nil]; exact q2, q3⟩
     ·rcases List.mem_append.1 hy with hy | hy
      ·exact hxs y hy
      ·rw [List.mem_singleton.1 hy]; exact h2
    ((refine awp_d (.qs [0, 2, 3, 4] (.kq 1 (.one 5 (.kp 6 (.one 7 (.qs [8] (.one 9 (.nil)))))) 5 (.qs [1] (.kp 6 (.one 7 (.qs [8] (.one 9 (.nil)))))))) (by kernel_rfl) ?_ ?_ ?_ ?_); (kernel_rfl); (exact (by decide +kernel)); (kernel_rfl); intro Y Yh; ((repeat' (first|(refine ag_x ?_;simp [go_sem])|refine adr_nil ?_|refine adr_kq ?_ ?_|((first|refine adr_qs fun Y Yh=>?_|refine adr_y fun Y Yh=>?_);simp [go_sem])|intro _|apply And.intro|(apply Yh;clear Yh Y)));all_goals first|apply Hold.mk|omega|with_reducible assumption|skip))
    all_goals (refine callA_l [900070] (by first|exact .inl ⟨rfl,rfl⟩|exact .inr rfl) (by simp [go_sem]) ?_; intro args ha; simp [go_sem] at ha; subst ha; refine ⟨_, _, (ih (by omega) gg l a4 ha4), (by simp [go_sem, dJ_mk, hxl]), ?_⟩; rintro ps r hps ⟨a5, ⟨k', t', nn, xx⟩, rfl, ha5, hok, rfl⟩; simp [go_sem, dJ_mk, hxl]; ((repeat' (first|(refine ag_x ?_;simp [go_sem, dJ_mk, hxl])|refine adr_nil ?_|refine adr_kq ?_ ?_|((first|refine adr_qs fun Y Yh=>?_|refine adr_y fun Y Yh=>?_);simp [go_sem, dJ_mk, hxl])|intro _|apply And.intro|(apply Yh;clear Yh Y)));all_goals first|apply Hold.mk|omega|with_reducible assumption|skip))
    all_goals rename_i gx'
    all_goals refine tl11 ⟨j, a5, ns', xs ++ [.mk k' t' nn xx], gn', gx'⟩ rfl (hinv a5 _ gx' ha5 hok) _ ?_
    all_goals (refine cov_of ?_ ?_ <;> simp [go_sem, cJ_mk])
   clear hK12
   rcases hns with ⟨rfl, rfl⟩ | ⟨rfl, hnl, hng⟩
   ·(refine awp_sr fun Y Yh => ?_; simp [go_sem]; ((repeat' (first|(refine ag_x ?_;simp [go_sem])|intro _|apply And.intro|(apply Yh;clear Yh Y)));all_goals first|apply Hold.mk|omega|with_reducible assumption|skip))
    (refine awp_if fun T F hT hF => ?_; simp [go_sem]; refine hF ?_; clear hT hF T F)
    refine awp_skip ?_
    refine tl12 a3 [] gn ha3 (.inl ⟨rfl, rfl⟩) _ ?_
    (refine cov_of ?_ ?_ <;> simp [go_sem])
   ·(refine awp_sr fun Y Yh => ?_; simp [go_sem]; ((repeat' (first|(refine ag_x ?_;simp [go_sem])|intro _|apply And.intro|(apply Yh;clear Yh Y)));all_goals first|apply Hold.mk|omega|with_reducible assumption|skip))
    (refine awp_if fun T F hT hF => ?_; simp [go_sem]; refine hT ?_; clear hT hF T F)
    (refine awp_sr fun Y Yh => ?_; simp [go_sem]; ((repeat' (first|(refine ag_x ?_;simp [go_sem])|intro _|apply And.intro|(apply Yh;clear Yh Y)));all_goals first|apply Hold.mk|omega|with_reducible assumption|skip))
    (refine callA_l [900070] (by first|exact .inl ⟨rfl,rfl⟩|exact .inr rfl) (by simp [go_sem]) ?_; intro args ha; simp [go_sem] at ha; subst ha; refine ⟨_, _, (text_spec gg l a3 ha3), (by simp [go_sem]), ?_⟩; rintro ps r hps ⟨a4, s, rfl, ha4, hs, rfl⟩; simp [go_sem]; ((repeat' (first|(refine ag_x ?_;simp [go_sem])|intro _|apply And.intro|(apply Yh;clear Yh Y)));all_goals first|apply Hold.mk|omega|with_reducible assumption|skip))
    refine awp_seq_k fun K14 hK14 => ?_
    (refine awp_sr fun Y Yh => ?_; simp [go_sem]; ((repeat' (first|(refine ag_x ?_;simp [go_sem])|intro _|apply And.intro|(apply Yh;clear Yh Y)));all_goals first|apply Hold.mk|omega|with_reducible assumption|skip))
    ((try refine CallT.toA ?_); refine callT_f (by first|exact .inl ⟨rfl,rfl⟩|exact .inr rfl) ?_; intro args ha; simp [go_sem] at ha; subst ha; refine ⟨_, (rindex_spec ns s (by omega)), ?_⟩; rintro _ rfl; refine ⟨rfl, ?_⟩; simp [go_sem]; ((repeat' (first|(refine ag_x ?_;simp [go_sem])|intro _|apply And.intro|(apply Yh;clear Yh Y)));all_goals first|apply Hold.mk|omega|with_reducible assumption|skip))
    have hmem := ixV_mem ns s
    by_cases h15 : s ∈ ns
    ·have hi := hmem.2 h15
     (refine awp_if fun T F hT hF => ?_; simp [go_sem, hi]; refine hT ?_; clear hT hF T F)
     refine awp_exit ?_
     simp only [go_sem]
     rw [if_pos trivial]
     refine tl11 ⟨j, a4, ns, xs, gn, gx⟩ rfl ⟨ha4, by simp only; omega, .inr ⟨rfl, hnl, hng⟩, hxs⟩ _ ?_
     (refine cov_of ?_ ?_ <;> simp [go_sem])
    ·have hi : ¬ (0 ≤ ixV ns s) := fun q => h15 (hmem.1 q)
     (refine awp_if fun T F hT hF => ?_; simp [go_sem, hi]; refine hF ?_; clear hT hF T F)
     refine awp_skip ?_
     refine hK14 _ ?_; clear hK14
     (refine awp_r fun Y Yh => ?_; simp [go_sem]; ((repeat' (first|(refine ag_x ?_;simp [go_sem])|intro _|apply And.intro|(apply Yh;clear Yh Y)));all_goals first|apply Hold.mk|omega|with_reducible assumption|skip))
     rename_i gn'
     refine tl12 a4 (ns ++ [s]) gn' ha4 (.inr ⟨rfl, by simp [hnl], ?_⟩) _ ?_
     ·refine ⟨?_, ?_⟩
      ·rw [List.nodup_append]
       refine ⟨hng.1, by simp, ?_⟩
       intro u hu w hw
       rw [List.mem_singleton.1 hw]
       exact fun q => h15 (q ▸ hu)
      ·intro u hu
       rcases List.mem_append.1 hu with hu | hu
       ·exact hng.2 u hu
       ·rw [List.mem_singleton.1 hu]; exact hs
     ·(refine cov_of ?_ ?_ <;> simp [go_sem])
  ·have h10' : ¬ (0 : Int) < j := by omega
   (refine awp_if fun T F hT hF => ?_; simp [go_sem, h10, h10']; refine hF ?_; clear hT hF T F)
   refine awp_exit ?_
   simp only [go_sem]
   refine hK8 _ ?_; clear hK8
   (refine awp_sr fun Y Yh => ?_; simp [go_sem]; ((repeat' (first|(refine ag_x ?_;simp [go_sem])|intro _|apply And.intro|(apply Yh;clear Yh Y)));all_goals first|apply Hold.mk|omega|with_reducible assumption|skip))
   (refine awp_ret ?_; simp [go_sem, retA])
   exact ⟨ha3, .mk kk [] ns xs, .inr ⟨kk, ns, xs, rfl, by omega, hns, hxs⟩, by simp [dJ_mk]⟩
 clear hK7
 (refine awp_sr fun Y Yh => ?_; simp [go_sem]; ((repeat' (first|(refine ag_x ?_;simp [go_sem])|intro _|apply And.intro|(apply Yh;clear Yh Y)));all_goals first|apply Hold.mk|omega|with_reducible assumption|skip))
 by_cases h16 : 8 < x
 ·have h16' : (8 : Int) < x := by omega
  (refine awp_if fun T F hT hF => ?_; simp [go_sem, h16, h16']; refine hT ?_; clear hT hF T F)
  (refine awp_r fun Y Yh => ?_; simp [go_sem]; ((repeat' (first|(refine ag_x ?_;simp [go_sem])|intro _|apply And.intro|(apply Yh;clear Yh Y)));all_goals first|apply Hold.mk|omega|with_reducible assumption|skip))
  refine tl7 6 (.inr rfl) _ ?_
  (refine cov_of ?_ ?_ <;> simp [go_sem])
 ·have h16' : ¬ (8 : Int) < x := by omega
  (refine awp_if fun T F hT hF => ?_; simp [go_sem, h16, h16']; refine hF ?_; clear hT hF T F)
  refine awp_skip ?_
  refine tl7 5 (.inl rfl) _ ?_
  (refine cov_of ?_ ?_ <;> simp [go_sem])
theorem grown_spec (l : List Int) : PCall Tryz.prog 21 [dIs l] fun r => ∃ v, okG 4 v ∧ r = dJ v := by
 refine pcall_of Tryz.func21 rfl rfl Tryz.ntmps21 (rs := [.cell 2 32]) (tys := [32]) rfl rfl (by simp) ?_
 (refine awp_sr fun Y Yh => ?_; simp [go_sem]; ((repeat' (first|(refine ag_x ?_;simp [go_sem])|intro _|apply And.intro|(apply Yh;clear Yh Y)));all_goals first|apply Hold.mk|omega|with_reducible assumption|skip))
 (refine awp_sr fun Y Yh => ?_; simp [go_sem]; ((repeat' (first|(refine ag_x ?_;simp [go_sem])|intro _|apply And.intro|(apply Yh;clear Yh Y)));all_goals first|apply Hold.mk|omega|with_reducible assumption|skip))
 rename_i g6
 refine awp_renbox 3 900070 rfl rfl (by decide) fun gg => ?_
 simp only [go_sem]
 (refine awp_sr fun Y Yh => ?_; simp [go_sem]; ((repeat' (first|(refine ag_x ?_;simp [go_sem])|intro _|apply And.intro|(apply Yh;clear Yh Y)));all_goals first|apply Hold.mk|omega|with_reducible assumption|skip))
 (refine callA_l [900070] (by first|exact .inl ⟨rfl,rfl⟩|exact .inr rfl) (by simp [go_sem]) ?_; intro args ha; simp [go_sem] at ha; subst ha; refine ⟨_, _, (value_spec 4 (by decide) gg l 0 (by decide)), (by simp [go_sem, dJ_mk]), ?_⟩; rintro ps r hps ⟨a', ⟨k, t, ns, xs⟩, rfl, ha', hv, rfl⟩; simp [go_sem, dJ_mk]; ((repeat' (first|(refine ag_x ?_;simp [go_sem, dJ_mk])|intro _|apply And.intro|(apply Yh;clear Yh Y)));all_goals first|apply Hold.mk|omega|with_reducible assumption|skip))
 (refine awp_ret ?_; simp [go_sem])
 exact ⟨_, hv, by simp [dJ_mk]⟩
end Go.Proofs.YtkgmecjaejaehaaGreatDoor
namespace Go.Js
/-! values turned, and values in order -/
mutual
def turnV : JV → JV
 | .mk k t ns xs => if k = 6 then .mk k t ns.reverse (turnL xs).reverse else .mk k t [] (turnL xs)
def turnL : List JV → List JV
 | [] => []
 | x :: xs => turnV x :: turnL xs
end
theorem turnL_map : ∀ xs : List JV, turnL xs = xs.map turnV
 | [] => by simp [turnL]
 | x :: xs => by simp [turnL, turnL_map xs]
def srtV (ns : List (List UInt8)) : List (List UInt8) := ns.mergeSort fun x y => decide (x ≤ y)
mutual
def canonV : JV → JV
 | .mk k t ns xs => if k = 6 then .mk k t (srtV ns) ((srtV ns).map fun n => (canonL xs).getD (ixV ns n).toNat default) else .mk k t [] (canonL xs)
def canonL : List JV → List JV
 | [] => []
 | x :: xs => canonV x :: canonL xs
end
theorem canonL_map : ∀ xs : List JV, canonL xs = xs.map canonV
 | [] => by simp [canonL]
 | x :: xs => by simp [canonL, canonL_map xs]
end Go.Js
namespace Go.Proofs.YtkgmecjaejaehaaGreatDoor
open Go.Eng Go.Js
set_option maxRecDepth 20000
attribute [local irreducible] AG CallA CallT AWp PCall ACall XCall AgC
theorem take_more {α : Type} {l : List α} {i : Nat} {a : α} (h : l[i]? = some a) : l.take i ++ [a] = l.take (i + 1) := by
 rw [List.take_add_one, h]; rfl
structure TuS where
 i : Nat
 gn : Nat
 gx : Nat
set_option maxHeartbeats 16000000 in
theorem turned_spec : ∀ (N : Nat) (v : JV), sizeJ v ≤ N → N ≤ 10000000 → fitV v → PCall Tryz.prog 23 [dJ v] fun r => r = dJ (turnV v) := by
 intro N
 induction N using Nat.strongRecOn with
 | _ N ih =>
 rintro ⟨k, t, ns, xs⟩ hv hN hfit
 have hlen := sizeJ_names k t ns xs
 have HI : ∀ x ∈ xs, PCall Tryz.prog 23 [dJ x] fun r => r = dJ (turnV x) := fun x hx => ih (sizeJ x) (by have := sizeJ_item (k := k) (t := t) (ns := ns) hx; omega) x (Nat.le_refl _) (by have := sizeJ_item (k := k) (t := t) (ns := ns) hx; omega) (by simp only [fitV] at hfit; exact fitL_mem hfit.2 x hx)
 have hnl : k = 6 → ns.length = xs.length := by simp only [fitV] at hfit; exact hfit.1
 obtain ⟨NT, T, hT⟩ : ∃ NT T, turnV (.mk k t ns xs) = .mk k t NT T ∧ NT = (if k = 6 then ns.reverse else []) ∧ T = (if k = 6 then (turnL xs).reverse else turnL xs) := by
  refine ⟨_, _, ?_, rfl, rfl⟩
  simp only [turnV]
  split <;> rfl
 obtain ⟨hT0, hNT, hTT⟩ := hT
 rw [hT0, dJ_mk, dJ_mk]
 have hTl : T.length = xs.length := by rw [hTT, turnL_map]; split <;> simp
 have hNl : k = 6 → NT.length = xs.length := fun q => by rw [hNT, if_pos q]; simp [hnl q]
 have hT6 : k = 6 → ∀ i, i < xs.length → T[i]? = (xs[xs.length - 1 - i]?).map turnV := fun q i h => by
  rw [hTT, if_pos q, turnL_map, List.getElem?_reverse (by simpa using h), List.getElem?_map, List.length_map]
 have hT5 : ¬ k = 6 → ∀ i : Nat, T[i]? = (xs[i]?).map turnV := fun q i => by
  rw [hTT, if_neg q, turnL_map, List.getElem?_map]
 have hNi : ∀ (q : k = 6) i (h : i < xs.length), NT[i]? = ns[xs.length - 1 - i]? := fun q i h => by
  rw [hNT, if_pos q, List.getElem?_reverse (by rw [hnl q]; exact h), hnl q]
 have hN0 : ¬ k = 6 → NT = [] := fun q => by rw [hNT, if_neg q]
 clear hT0 hNT hTT hfit ih
 refine pcall_of Tryz.func23 rfl rfl Tryz.ntmps23 (rs := [.cell 2 32]) (tys := [32]) rfl rfl (by simp) ?_
 refine awp_seq ?_
 refine awp_r fun Y Yh => ?_
 simp [go_sem]
 intro g1 g2
 apply Yh; clear Yh Y
 refine Hold.mk ?_
 (refine awp_sr fun Y Yh => ?_; simp [go_sem]; ((repeat' (first|(refine ag_x ?_;simp [go_sem])|intro _|apply And.intro|(apply Yh;clear Yh Y)));all_goals first|apply Hold.mk|omega|with_reducible assumption|skip))
 rename_i g3
 refine awp_nilbox 34 9 1 2 (sb := 3) rfl rfl (by decide) fun gn => ?_
 simp only [go_sem, List.set_cons_succ, List.set_cons_zero]
 refine awp_nilbox 33 32 4 3 (sb := 3) rfl rfl (by decide) fun gx => ?_
 simp only [go_sem, List.set_cons_succ, List.set_cons_zero]
 refine awp_seq_k fun K2 hK2 => ?_
 (refine awp_sr fun Y Yh => ?_; simp [go_sem]; ((repeat' (first|(refine ag_x ?_;simp [go_sem])|intro _|apply And.intro|(apply Yh;clear Yh Y)));all_goals first|apply Hold.mk|omega|with_reducible assumption|skip))
 refine awp_block ?_
 refine awp_loop (σ := TuS) (fun y => ⟨[(1, .ptr 1 g1 0), (2, .ptr 2 g2 0), (3, .ptr 3 g3 0), (4, dI y.i)], [(1, (g1, .box [dI k, dS t, dSs ns, .sl 4 (xs.map cJ)])), (2, (g2, .box [dI 0, dS [], nS, nS])), (3, (g3, .box [dI k, dS t, .own 34 y.gn, .own 33 y.gx])), (34, (y.gn, .row 9 1 ((NT.map cS).take y.i))), (33, (y.gx, .row 32 4 ((T.map cJ).take y.i)))]⟩) (fun y => y.i ≤ xs.length) (fun y => xs.length - y.i) ⟨0, gn, gx⟩ ?_ (by simp) ?_
 ·(refine cov_of ?_ ?_ <;> simp [go_sem])
 rintro ⟨i, gn, gx⟩ hi
 simp only at hi ⊢
 refine awp_seq_k fun K3 hK3 => ?_
 (refine awp_sr fun Y Yh => ?_; simp [go_sem]; ((repeat' (first|(refine ag_x ?_;simp [go_sem])|intro _|apply And.intro|(apply Yh;clear Yh Y)));all_goals first|apply Hold.mk|omega|with_reducible assumption|skip))
 by_cases h : i < xs.length
 ·(refine awp_if fun T F hT hF => ?_; simp [go_sem, h]; refine hT ?_; clear hT hF T F)
  refine awp_skip ?_
  refine hK3 _ ?_; clear hK3
  refine awp_seq_k fun K4 hK4 => ?_
  refine awp_block ?_
  (refine awp_sr fun Y Yh => ?_; simp [go_sem]; ((repeat' (first|(refine ag_x ?_;simp [go_sem])|intro _|apply And.intro|(apply Yh;clear Yh Y)));all_goals first|apply Hold.mk|omega|with_reducible assumption|skip))
  refine awp_seq_k fun K5 hK5 => ?_
  have tl5 : ∀ (kx : Nat) (gn' : Nat), kx < xs.length → T[i]? = (xs[kx]?).map turnV → ∀ S', Cov S' ⟨[(1, .ptr 1 g1 0), (2, .ptr 2 g2 0), (3, .ptr 3 g3 0), (4, dI i), (5, dI kx)], [(1, (g1, .box [dI k, dS t, dSs ns, .sl 4 (xs.map cJ)])), (2, (g2, .box [dI 0, dS [], nS, nS])), (3, (g3, .box [dI k, dS t, .own 34 gn', .own 33 gx])), (34, (gn', .row 9 1 ((NT.map cS).take (i + 1)))), (33, (gx, .row 32 4 ((T.map cJ).take i)))]⟩ → K5 S' := fun kx gn' hkx hTk S' hS => by
   refine hK5 _ ?_; clear hK5
   refine awp_cov hS ?_; clear hS
   have hgx : xs[kx]? = some xs[kx] := List.getElem?_eq_getElem hkx
   have H := HI xs[kx] (List.getElem_mem hkx)
   rw [hgx] at hTk
   simp only [Option.map_some] at hTk
   have htk : (T.map cJ).take i ++ [cJ (turnV xs[kx])] = (T.map cJ).take (i + 1) := take_more (by rw [List.getElem?_map, hTk]; rfl)
   have htl : ((T.map cJ).take i).length = i := by simp; omega
   obtain ⟨k1, t1, ns1, xs1, hx1⟩ : ∃ k t ns ys, xs[kx] = .mk k t ns ys := by
    cases hx : xs[kx] with
    | mk k t ns ys => exact ⟨_, _, _, _, rfl⟩
   obtain ⟨k2, t2, ns2, xs2, hx2⟩ : ∃ k t ns ys, turnV xs[kx] = .mk k t ns ys := by
    cases hx : turnV xs[kx] with
    | mk k t ns ys => exact ⟨_, _, _, _, rfl⟩
   rw [hx2] at H htk
   rw [hx1, dJ_mk, dJ_mk] at H
   rw [cJ_mk] at htk
   generalize hR : (T.map cJ).take i = R at *
   generalize hR2 : (T.map cJ).take (i + 1) = R2 at *
   generalize hM : (NT.map cS).take (i + 1) = M at *
   ((refine awp_d (.qs [0, 2, 4, 1, 3, 5, 6] (.kp 7 (.kp 8 (.one 9 (.qs [10] (.one 11 (.nil))))))) (by kernel_rfl) ?_ ?_ ?_ ?_); (kernel_rfl); (exact (by decide +kernel)); (kernel_rfl); intro Y Yh; ((repeat' (first|(refine ag_x ?_;simp [go_sem, hkx, hx1, cJ_mk])|refine adr_nil ?_|((first|refine adr_qs fun Y Yh=>?_|refine adr_y fun Y Yh=>?_);simp [go_sem, hkx, hx1, cJ_mk])|intro _|apply And.intro|(apply Yh;clear Yh Y)));all_goals first|apply Hold.mk|omega|with_reducible assumption|skip))
   ((try refine CallT.toA ?_); refine callT_m (by first|exact .inl ⟨rfl,rfl⟩|exact .inr rfl) (by simp [go_sem]) ?_; intro args ha; simp [go_sem] at ha; subst ha; refine ⟨_, H, ?_⟩; rintro _ rfl; simp [go_sem, htk, htl]; ((repeat' (first|(refine ag_x ?_;simp [go_sem, htk, htl])|refine adr_nil ?_|((first|refine adr_qs fun Y Yh=>?_|refine adr_y fun Y Yh=>?_);simp [go_sem, htk, htl])|intro _|apply And.intro|(apply Yh;clear Yh Y)));all_goals first|apply Hold.mk|omega|with_reducible assumption|skip))
   show K4 _
   refine hK4 _ ?_; clear hK4
   rename_i gz
   (refine awp_r fun Y Yh => ?_; simp [go_sem]; ((repeat' (first|(refine ag_x ?_;simp [go_sem])|intro _|apply And.intro|(apply Yh;clear Yh Y)));all_goals first|apply Hold.mk|omega|with_reducible assumption|skip))
   refine ⟨⟨i + 1, gn', gz⟩, ?_, by simp only; omega, by simp only; omega⟩
   simp only
   rw [hR2, hM]
   (refine cov_of ?_ ?_ <;> simp [go_sem, htk])
  clear hK5
  (refine awp_sr fun Y Yh => ?_; simp [go_sem]; ((repeat' (first|(refine ag_x ?_;simp [go_sem])|intro _|apply And.intro|(apply Yh;clear Yh Y)));all_goals first|apply Hold.mk|omega|with_reducible assumption|skip))
  by_cases q : k = 6
  ·have hn2 := hnl q
   have e1 : (xs.length : Int) - 1 - i = ((xs.length - 1 - i : Nat) : Int) := by omega
   have hlt : xs.length - 1 - i < ns.length := by omega
   have hgn : ns[xs.length - 1 - i]? = some ns[xs.length - 1 - i] := List.getElem?_eq_getElem hlt
   have htk := take_more (l := NT.map cS) (i := i) (a := cS ns[xs.length - 1 - i]) (by rw [List.getElem?_map, hNi q i h, hgn]; rfl)
   have htl : ((NT.map cS).take i).length = i := by simp; have := hNl q; omega
   have ht6 := hT6 q i h
   generalize ns[xs.length - 1 - i] = w at *
   generalize hR : (NT.map cS).take i = R at *
   generalize hR2 : (NT.map cS).take (i + 1) = R2 at *
   (refine awp_if fun T F hT hF => ?_; simp [go_sem, q]; refine hT ?_; clear hT hF T F)
   (refine awp_sr fun Y Yh => ?_; simp [go_sem, e1]; ((repeat' (first|(refine ag_x ?_;simp [go_sem, e1])|intro _|apply And.intro|(apply Yh;clear Yh Y)));all_goals first|apply Hold.mk|omega|with_reducible assumption|skip))
   generalize hkx : xs.length - 1 - i = kx at *
   ((refine awp_d (.qs [0, 2, 4, 1, 3, 5, 6] (.kp 7 (.one 8 (.qs [9] (.one 10 (.nil)))))) (by kernel_rfl) ?_ ?_ ?_ ?_); (kernel_rfl); (exact (by decide +kernel)); (kernel_rfl); intro Y Yh; ((repeat' (first|(refine ag_x ?_;simp [go_sem, hgn, htk, htl])|refine adr_nil ?_|((first|refine adr_qs fun Y Yh=>?_|refine adr_y fun Y Yh=>?_);simp [go_sem, hgn, htk, htl])|intro _|apply And.intro|(apply Yh;clear Yh Y)));all_goals first|apply Hold.mk|omega|with_reducible assumption|skip))
   rename_i gn'
   refine tl5 kx gn' (by omega) ht6 _ ?_
   (refine cov_of ?_ ?_ <;> simp [go_sem])
  ·have e0 := hN0 q
   subst e0
   (refine awp_if fun T F hT hF => ?_; simp [go_sem, q]; refine hF ?_; clear hT hF T F)
   refine awp_skip ?_
   refine tl5 i gn h (hT5 q i) _ ?_
   (refine cov_of ?_ ?_ <;> simp [go_sem])
 ·(refine awp_if fun T F hT hF => ?_; simp [go_sem, h]; refine hF ?_; clear hT hF T F)
  refine awp_exit ?_
  simp only [go_sem]
  refine hK2 _ ?_; clear hK2
  obtain rfl : i = xs.length := by omega
  have e1 : (NT.map cS).take xs.length = NT.map cS := by
   by_cases q : k = 6
   ·exact List.take_of_length_le (by rw [List.length_map, hNl q]; exact Nat.le_refl _)
   ·rw [hN0 q]; simp
  have e2 : (T.map cJ).take xs.length = T.map cJ := List.take_of_length_le (by rw [List.length_map, hTl]; exact Nat.le_refl _)
  rw [e1, e2]
  (refine awp_sr fun Y Yh => ?_; simp [go_sem]; ((repeat' (first|(refine ag_x ?_;simp [go_sem])|intro _|apply And.intro|(apply Yh;clear Yh Y)));all_goals first|apply Hold.mk|omega|with_reducible assumption|skip))
  (refine awp_ret ?_; simp [go_sem])
theorem srtV_mem (ns : List Bs) (s : Bs) : s ∈ srtV ns ↔ s ∈ ns := (List.mergeSort_perm ns _).mem_iff
theorem srtV_len (ns : List Bs) : (srtV ns).length = ns.length := (List.mergeSort_perm ns _).length_eq
set_option maxHeartbeats 16000000 in
theorem canon_spec : ∀ (N : Nat) (v : JV), sizeJ v ≤ N → N ≤ 1000000 → fitV v → PCall Tryz.prog 50 [dJ v] fun r => r = dJ (canonV v) := by
 intro N
 induction N using Nat.strongRecOn with
 | _ N ih =>
 rintro ⟨k, t, ns, xs⟩ hv hN hfit
 have hlen := sizeJ_names k t ns xs
 have HI : ∀ x ∈ xs, PCall Tryz.prog 50 [dJ x] fun r => r = dJ (canonV x) := fun x hx => ih (sizeJ x) (by have := sizeJ_item (k := k) (t := t) (ns := ns) hx; omega) x (Nat.le_refl _) (by have := sizeJ_item (k := k) (t := t) (ns := ns) hx; omega) (by simp only [fitV] at hfit; exact fitL_mem hfit.2 x hx)
 have hnl : k = 6 → ns.length = xs.length := by simp only [fitV] at hfit; exact hfit.1
 clear hfit ih
 have hc : canonV (.mk k t ns xs) = if k = 6 then .mk k t (srtV ns) ((srtV ns).map fun n => (canonL xs).getD (ixV ns n).toNat default) else .mk k t [] (canonL xs) := by simp only [canonV]
 rw [hc, dJ_mk]
 clear hc
 refine pcall_of Tryz.func50 rfl rfl Tryz.ntmps50 (rs := [.cell 2 26]) (tys := [26]) rfl rfl (by simp) ?_
 refine awp_seq ?_
 refine awp_r fun Y Yh => ?_
 simp [go_sem]
 intro g1 g2
 apply Yh; clear Yh Y
 refine Hold.mk ?_
 (refine awp_sr fun Y Yh => ?_; simp [go_sem]; ((repeat' (first|(refine ag_x ?_;simp [go_sem])|intro _|apply And.intro|(apply Yh;clear Yh Y)));all_goals first|apply Hold.mk|omega|with_reducible assumption|skip))
 rename_i g3
 refine awp_nilbox 33 26 4 3 (sb := 3) rfl rfl (by decide) fun gx => ?_
 simp only [go_sem, List.set_cons_succ, List.set_cons_zero]
 refine awp_seq_k fun K1 hK1 => ?_
 (refine awp_sr fun Y Yh => ?_; simp [go_sem]; ((repeat' (first|(refine ag_x ?_;simp [go_sem])|intro _|apply And.intro|(apply Yh;clear Yh Y)));all_goals first|apply Hold.mk|omega|with_reducible assumption|skip))
 by_cases q : k = 6
 ·rw [if_pos q]
  (refine awp_if fun T F hT hF => ?_; simp [go_sem, q]; refine hT ?_; clear hT hF T F)
  have hn2 := hnl q
  have hT : ∀ i nm, (srtV ns)[i]? = some nm → ∃ (j : Nat) (hj : j < xs.length), ixV ns nm = j ∧ ((srtV ns).map fun n => (canonL xs).getD (ixV ns n).toNat default)[i]? = some (canonV xs[j]) := fun i nm hi => by
   have hm : nm ∈ ns := (srtV_mem ns nm).1 (List.mem_of_getElem? hi)
   have h0 := (ixV_mem ns nm).2 hm
   have h1 := ixV_lt ns nm
   refine ⟨(ixV ns nm).toNat, by omega, by omega, ?_⟩
   rw [List.getElem?_map, hi, canonL_map]
   simp only [Option.map_some]
   rw [List.getD_eq_getElem?_getD, List.getElem?_map, List.getElem?_eq_getElem (by omega)]
   rfl
  have hTl : ((srtV ns).map fun n => (canonL xs).getD (ixV ns n).toNat default).length = xs.length := by rw [List.length_map, srtV_len, hn2]
  generalize ((srtV ns).map fun n => (canonL xs).getD (ixV ns n).toNat default) = T at *
  have hsl := srtV_len ns
  have HSO := sortedV_spec 900080 ns (by omega) (by omega)
  change ACall Tryz.prog 97 _ _ _ (fun ps r => ∃ g, ps = [(g, rS (srtV ns))] ∧ r = .own 900080 g) at HSO
  have hgS : ∀ i (h : i < xs.length), ∃ nm, (srtV ns)[i]? = some nm := fun i h => ⟨_, List.getElem?_eq_getElem (by omega)⟩
  generalize srtV ns = S at *
  (refine awp_sr fun Y Yh => ?_; simp [go_sem]; ((repeat' (first|(refine ag_x ?_;simp [go_sem])|intro _|apply And.intro|(apply Yh;clear Yh Y)));all_goals first|apply Hold.mk|omega|with_reducible assumption|skip))
  ((try refine CallT.toA ?_); refine callT_m (by first|exact .inl ⟨rfl,rfl⟩|exact .inr rfl) (by simp [go_sem]) ?_; intro args ha; simp [go_sem] at ha; subst ha; refine ⟨_, (seqV_spec ns), ?_⟩; rintro _ rfl; simp [go_sem]; ((repeat' (first|(refine ag_x ?_;simp [go_sem])|intro _|apply And.intro|(apply Yh;clear Yh Y)));all_goals first|apply Hold.mk|omega|with_reducible assumption|skip))
  (refine callA_l [900080] (by first|exact .inl ⟨rfl,rfl⟩|exact .inr rfl) (by simp [go_sem]) ?_; intro args ha; simp [go_sem] at ha; subst ha; refine ⟨_, _, HSO, (by simp [go_sem]), ?_⟩; rintro ps r hps ⟨gs, rfl, rfl⟩; simp [go_sem]; ((repeat' (first|(refine ag_x ?_;simp [go_sem])|intro _|apply And.intro|(apply Yh;clear Yh Y)));all_goals first|apply Hold.mk|omega|with_reducible assumption|skip))
  refine awp_seq_k fun K3 hK3 => ?_
  (refine awp_sr fun Y Yh => ?_; simp [go_sem]; ((repeat' (first|(refine ag_x ?_;simp [go_sem])|intro _|apply And.intro|(apply Yh;clear Yh Y)));all_goals first|apply Hold.mk|omega|with_reducible assumption|skip))
  refine awp_block ?_
  refine awp_loop (σ := Nat × Nat) (fun y => ⟨[(1, .ptr 1 g1 0), (2, .ptr 2 g2 0), (3, .ptr 3 g3 0), (22, .own 900080 gs), (23, dI xs.length), (24, dI y.1)], [(1, (g1, .box [dI k, dS t, dSs ns, .sl 4 (xs.map cJ)])), (2, (g2, .box [dI 0, dS [], nS, nS])), (3, (g3, .box [dI k, dS t, .own 900080 gs, .own 33 y.2])), (900080, (gs, .row 9 1 (S.map cS))), (33, (y.2, .row 26 4 ((T.map cJ).take y.1)))]⟩) (fun y => y.1 ≤ xs.length) (fun y => xs.length - y.1) (0, gx) ?_ (by simp) ?_
  ·(refine cov_of ?_ ?_ <;> simp [go_sem, hsl, hn2])
  rintro ⟨i, gx⟩ hi
  simp only at hi ⊢
  (refine awp_sr fun Y Yh => ?_; simp [go_sem]; ((repeat' (first|(refine ag_x ?_;simp [go_sem])|intro _|apply And.intro|(apply Yh;clear Yh Y)));all_goals first|apply Hold.mk|omega|with_reducible assumption|skip))
  refine awp_seq_k fun K4 hK4 => ?_
  by_cases h : i < xs.length
  ·obtain ⟨nm, hnm⟩ := hgS i h
   obtain ⟨j, hj, hij, hTi⟩ := hT i nm hnm
   have HX := index_spec ns nm (by omega)
   rw [hij] at HX
   have H := HI xs[j] (List.getElem_mem hj)
   have htk := take_more (l := T.map cJ) (i := i) (a := cJ (canonV xs[j])) (by rw [List.getElem?_map, hTi]; rfl)
   have htl : ((T.map cJ).take i).length = i := by simp; omega
   obtain ⟨k1, t1, ns1, xs1, hx1⟩ : ∃ k t ns ys, xs[j] = .mk k t ns ys := by
    cases hx : xs[j] with
    | mk k t ns ys => exact ⟨_, _, _, _, rfl⟩
   obtain ⟨k2, t2, ns2, xs2, hx2⟩ : ∃ k t ns ys, canonV xs[j] = .mk k t ns ys := by
    cases hx : canonV xs[j] with
    | mk k t ns ys => exact ⟨_, _, _, _, rfl⟩
   rw [hx2] at H htk
   rw [hx1, dJ_mk, dJ_mk] at H
   rw [cJ_mk] at htk
   generalize hR : (T.map cJ).take i = R at *
   generalize hR2 : (T.map cJ).take (i + 1) = R2 at *
   (refine awp_if fun T F hT hF => ?_; simp [go_sem, h]; refine hT ?_; clear hT hF T F)
   refine awp_skip ?_
   refine hK4 _ ?_; clear hK4
   refine awp_seq_k fun K6 hK6 => ?_
   refine awp_block ?_
   (refine awp_sr fun Y Yh => ?_; simp [go_sem, hnm]; ((repeat' (first|(refine ag_x ?_;simp [go_sem, hnm])|intro _|apply And.intro|(apply Yh;clear Yh Y)));all_goals first|apply Hold.mk|omega|with_reducible assumption|skip))
   ((refine awp_d (.qs [0, 2, 4, 6, 1, 3, 5] (.kp 7 (.qs [8] (.nb (.qs [9] (.kp 10 (.kp 11 (.one 12 (.qs [13] (.one 14 (.nil))))))))))) (by kernel_rfl) ?_ ?_ ?_ ?_); (kernel_rfl); (exact (by decide +kernel)); (kernel_rfl); intro Y Yh; ((repeat' (first|(refine ag_x ?_;simp [go_sem, hj, hx1, cJ_mk])|refine adr_nil ?_|((first|refine adr_qs fun Y Yh=>?_|refine adr_y fun Y Yh=>?_);simp [go_sem, hj, hx1, cJ_mk])|intro _|apply And.intro|(apply Yh;clear Yh Y)));all_goals first|apply Hold.mk|omega|with_reducible assumption|skip))
   ((try refine CallT.toA ?_); refine callT_m (by first|exact .inl ⟨rfl,rfl⟩|exact .inr rfl) (by simp [go_sem]) ?_; intro args ha; simp [go_sem] at ha; subst ha; refine ⟨_, HX, ?_⟩; rintro _ rfl; simp [go_sem, hj, hx1, cJ_mk]; ((repeat' (first|(refine ag_x ?_;simp [go_sem, hj, hx1, cJ_mk])|refine adr_nil ?_|((first|refine adr_qs fun Y Yh=>?_|refine adr_y fun Y Yh=>?_);simp [go_sem, hj, hx1, cJ_mk])|intro _|apply And.intro|(apply Yh;clear Yh Y)));all_goals first|apply Hold.mk|omega|with_reducible assumption|skip))
   ((try refine CallT.toA ?_); refine callT_m (by first|exact .inl ⟨rfl,rfl⟩|exact .inr rfl) (by simp [go_sem]) ?_; intro args ha; simp [go_sem] at ha; subst ha; refine ⟨_, H, ?_⟩; rintro _ rfl; simp [go_sem, htk, htl]; ((repeat' (first|(refine ag_x ?_;simp [go_sem, htk, htl])|refine adr_nil ?_|((first|refine adr_qs fun Y Yh=>?_|refine adr_y fun Y Yh=>?_);simp [go_sem, htk, htl])|intro _|apply And.intro|(apply Yh;clear Yh Y)));all_goals first|apply Hold.mk|omega|with_reducible assumption|skip))
   show K6 _
   refine hK6 _ ?_; clear hK6
   rename_i gz
   (refine awp_r fun Y Yh => ?_; simp [go_sem]; ((repeat' (first|(refine ag_x ?_;simp [go_sem])|intro _|apply And.intro|(apply Yh;clear Yh Y)));all_goals first|apply Hold.mk|omega|with_reducible assumption|skip))
   refine ⟨(i + 1, gz), ?_, by simp only; omega, by simp only; omega⟩
   simp only
   rw [hR2]
   (refine cov_of ?_ ?_ <;> simp [go_sem, htk])
  ·(refine awp_if fun T F hT hF => ?_; simp [go_sem, h]; refine hF ?_; clear hT hF T F)
   refine awp_exit ?_
   simp only [go_sem]
   refine hK3 _ ?_; clear hK3
   obtain rfl : i = xs.length := by omega
   have e2 : (T.map cJ).take xs.length = T.map cJ := List.take_of_length_le (by rw [List.length_map, hTl]; exact Nat.le_refl _)
   rw [e2]
   (refine awp_sr fun Y Yh => ?_; simp [go_sem]; ((repeat' (first|(refine ag_x ?_;simp [go_sem])|intro _|apply And.intro|(apply Yh;clear Yh Y)));all_goals first|apply Hold.mk|omega|with_reducible assumption|skip))
   (refine awp_ret ?_; simp [go_sem])
   simp [dJ_mk]
 ·rw [if_neg q]
  (refine awp_if fun T F hT hF => ?_; simp [go_sem, q]; refine hF ?_; clear hT hF T F)
  refine awp_skip ?_
  refine hK1 _ ?_; clear hK1
  have hTl : (canonL xs).length = xs.length := by rw [canonL_map]; simp
  have hT : ∀ i (h : i < xs.length), (canonL xs)[i]? = some (canonV xs[i]) := fun i h => by rw [canonL_map, List.getElem?_map, List.getElem?_eq_getElem h]; rfl
  generalize canonL xs = T at *
  refine awp_seq_k fun K7 hK7 => ?_
  (refine awp_sr fun Y Yh => ?_; simp [go_sem]; ((repeat' (first|(refine ag_x ?_;simp [go_sem])|intro _|apply And.intro|(apply Yh;clear Yh Y)));all_goals first|apply Hold.mk|omega|with_reducible assumption|skip))
  refine awp_block ?_
  refine awp_loop (σ := Nat × Nat) (fun y => ⟨[(2, .ptr 2 g2 0), (3, .ptr 3 g3 0), (45, .sl 4 (xs.map cJ)), (46, dI xs.length), (47, dI y.1)], [(2, (g2, .box [dI 0, dS [], nS, nS])), (3, (g3, .box [dI k, dS t, nS, .own 33 y.2])), (33, (y.2, .row 26 4 ((T.map cJ).take y.1)))]⟩) (fun y => y.1 ≤ xs.length) (fun y => xs.length - y.1) (0, gx) ?_ (by simp) ?_
  ·(refine cov_of ?_ ?_ <;> simp [go_sem])
  rintro ⟨i, gx⟩ hi
  simp only at hi ⊢
  (refine awp_sr fun Y Yh => ?_; simp [go_sem]; ((repeat' (first|(refine ag_x ?_;simp [go_sem])|intro _|apply And.intro|(apply Yh;clear Yh Y)));all_goals first|apply Hold.mk|omega|with_reducible assumption|skip))
  refine awp_seq_k fun K8 hK8 => ?_
  by_cases h : i < xs.length
  ·have hTi := hT i h
   have H := HI xs[i] (List.getElem_mem h)
   have htk := take_more (l := T.map cJ) (i := i) (a := cJ (canonV xs[i])) (by rw [List.getElem?_map, hTi]; rfl)
   have htl : ((T.map cJ).take i).length = i := by simp; omega
   obtain ⟨k1, t1, ns1, xs1, hx1⟩ : ∃ k t ns ys, xs[i] = .mk k t ns ys := by
    cases hx : xs[i] with
    | mk k t ns ys => exact ⟨_, _, _, _, rfl⟩
   obtain ⟨k2, t2, ns2, xs2, hx2⟩ : ∃ k t ns ys, canonV xs[i] = .mk k t ns ys := by
    cases hx : canonV xs[i] with
    | mk k t ns ys => exact ⟨_, _, _, _, rfl⟩
   rw [hx2] at H htk
   rw [hx1, dJ_mk, dJ_mk] at H
   rw [cJ_mk] at htk
   generalize hR : (T.map cJ).take i = R at *
   generalize hR2 : (T.map cJ).take (i + 1) = R2 at *
   (refine awp_if fun T F hT hF => ?_; simp [go_sem, h]; refine hT ?_; clear hT hF T F)
   refine awp_skip ?_
   refine hK8 _ ?_; clear hK8
   refine awp_seq_k fun K10 hK10 => ?_
   refine awp_block ?_
   (refine awp_sr fun Y Yh => ?_; simp [go_sem, h, hx1, cJ_mk]; ((repeat' (first|(refine ag_x ?_;simp [go_sem, h, hx1, cJ_mk])|intro _|apply And.intro|(apply Yh;clear Yh Y)));all_goals first|apply Hold.mk|omega|with_reducible assumption|skip))
   ((refine awp_d (.qs [0, 1, 2] (.kp 3 (.kp 4 (.one 5 (.qs [6] (.one 7 (.nil))))))) (by kernel_rfl) ?_ ?_ ?_ ?_); (kernel_rfl); (exact (by decide +kernel)); (kernel_rfl); intro Y Yh; ((repeat' (first|(refine ag_x ?_;simp [go_sem])|refine adr_nil ?_|((first|refine adr_qs fun Y Yh=>?_|refine adr_y fun Y Yh=>?_);simp [go_sem])|intro _|apply And.intro|(apply Yh;clear Yh Y)));all_goals first|apply Hold.mk|omega|with_reducible assumption|skip))
   ((try refine CallT.toA ?_); refine callT_m (by first|exact .inl ⟨rfl,rfl⟩|exact .inr rfl) (by simp [go_sem]) ?_; intro args ha; simp [go_sem] at ha; subst ha; refine ⟨_, H, ?_⟩; rintro _ rfl; simp [go_sem, htk, htl]; ((repeat' (first|(refine ag_x ?_;simp [go_sem, htk, htl])|refine adr_nil ?_|((first|refine adr_qs fun Y Yh=>?_|refine adr_y fun Y Yh=>?_);simp [go_sem, htk, htl])|intro _|apply And.intro|(apply Yh;clear Yh Y)));all_goals first|apply Hold.mk|omega|with_reducible assumption|skip))
   show K10 _
   refine hK10 _ ?_; clear hK10
   rename_i gz
   (refine awp_r fun Y Yh => ?_; simp [go_sem]; ((repeat' (first|(refine ag_x ?_;simp [go_sem])|intro _|apply And.intro|(apply Yh;clear Yh Y)));all_goals first|apply Hold.mk|omega|with_reducible assumption|skip))
   refine ⟨(i + 1, gz), ?_, by simp only; omega, by simp only; omega⟩
   simp only
   rw [hR2]
   (refine cov_of ?_ ?_ <;> simp [go_sem, htk])
  ·(refine awp_if fun T F hT hF => ?_; simp [go_sem, h]; refine hF ?_; clear hT hF T F)
   refine awp_exit ?_
   simp only [go_sem]
   refine hK7 _ ?_; clear hK7
   obtain rfl : i = xs.length := by omega
   have e2 : (T.map cJ).take xs.length = T.map cJ := List.take_of_length_le (by rw [List.length_map, hTl]; exact Nat.le_refl _)
   rw [e2]
   (refine awp_sr fun Y Yh => ?_; simp [go_sem]; ((repeat' (first|(refine ag_x ?_;simp [go_sem])|intro _|apply And.intro|(apply Yh;clear Yh Y)));all_goals first|apply Hold.mk|omega|with_reducible assumption|skip))
   (refine awp_ret ?_; simp [go_sem])
   simp [dJ_mk, q]
def canO (v : JV) : JV × Int := if okV v then (canonV v, 0) else (.mk 0 [] [] [], 1)
theorem canonE_spec (v : JV) (h1 : sizeJ v ≤ 1000000) (h2 : longJ v ≤ 4611686018427387904) : PCall Tryz.prog 22 [dJ v] fun r => r = .tup [dJ (canO v).1, dI (canO v).2] := by
 have HC := check_spec v h1 h2
 have HK := fun h => canon_spec (sizeJ v) v (Nat.le_refl _) h1 h
 have hf : okV v = true → fitV v := fun h => vldV_fit _ v (Nat.le_refl _) 2000 1 h
 unfold canO
 generalize okV v = ok at *
 generalize canonV v = c at *
 obtain ⟨k, t, ns, xs⟩ := v
 obtain ⟨k2, t2, ns2, xs2⟩ := c
 rw [dJ_mk] at HC HK ⊢
 refine pcall_of Tryz.func22 rfl rfl Tryz.ntmps22 (rs := [.cell 2 26, .tmp 3]) (tys := [26, 27]) rfl rfl (by simp) ?_
 refine awp_seq ?_
 refine awp_r fun Y Yh => ?_
 simp [go_sem]
 intro g1 g2
 apply Yh; clear Yh Y
 refine Hold.mk ?_
 refine awp_seq_k fun K1 hK1 => ?_
 (refine awp_sr fun Y Yh => ?_; simp [go_sem]; ((repeat' (first|(refine ag_x ?_;simp [go_sem])|intro _|apply And.intro|(apply Yh;clear Yh Y)));all_goals first|apply Hold.mk|omega|with_reducible assumption|skip))
 ((try refine CallT.toA ?_); refine callT_m (by first|exact .inl ⟨rfl,rfl⟩|exact .inr rfl) (by simp [go_sem]) ?_; intro args ha; simp [go_sem] at ha; subst ha; refine ⟨_, HC, ?_⟩; rintro _ rfl; simp [go_sem]; ((repeat' (first|(refine ag_x ?_;simp [go_sem])|intro _|apply And.intro|(apply Yh;clear Yh Y)));all_goals first|apply Hold.mk|omega|with_reducible assumption|skip))
 (refine awp_sr fun Y Yh => ?_; simp [go_sem]; ((repeat' (first|(refine ag_x ?_;simp [go_sem])|intro _|apply And.intro|(apply Yh;clear Yh Y)));all_goals first|apply Hold.mk|omega|with_reducible assumption|skip))
 cases ok with
 | false =>
  (refine awp_if fun T F hT hF => ?_; simp [go_sem]; refine hT ?_; clear hT hF T F)
  (refine awp_sr fun Y Yh => ?_; simp [go_sem]; ((repeat' (first|(refine ag_x ?_;simp [go_sem])|intro _|apply And.intro|(apply Yh;clear Yh Y)));all_goals first|apply Hold.mk|omega|with_reducible assumption|skip))
  (refine awp_ret ?_; simp [go_sem])
  simp [dJ_mk]
 | true =>
  have HK := HK (hf rfl)
  rw [dJ_mk] at HK
  (refine awp_if fun T F hT hF => ?_; simp [go_sem]; refine hF ?_; clear hT hF T F)
  refine awp_skip ?_
  refine hK1 _ ?_; clear hK1
  (refine awp_sr fun Y Yh => ?_; simp [go_sem]; ((repeat' (first|(refine ag_x ?_;simp [go_sem])|intro _|apply And.intro|(apply Yh;clear Yh Y)));all_goals first|apply Hold.mk|omega|with_reducible assumption|skip))
  ((try refine CallT.toA ?_); refine callT_m (by first|exact .inl ⟨rfl,rfl⟩|exact .inr rfl) (by simp [go_sem]) ?_; intro args ha; simp [go_sem] at ha; subst ha; refine ⟨_, HK, ?_⟩; rintro _ rfl; simp [go_sem]; ((repeat' (first|(refine ag_x ?_;simp [go_sem])|intro _|apply And.intro|(apply Yh;clear Yh Y)));all_goals first|apply Hold.mk|omega|with_reducible assumption|skip))
  (refine awp_ret ?_; simp [go_sem])
  simp [dJ_mk]
def mrg0 (v : JV) : JV := if v.kind = 6 then v else .mk 6 [] [] []
abbrev emO : JV := .mk 6 [] [] []
set_option maxHeartbeats 4000000 in
theorem merge0_spec (v : JV) (h1 : sizeJ v ≤ 1000000) : PCall Tryz.prog 51 [dJ v, dJ emO] fun r => r = dJ (mrg0 v) := by
 have HO := own_spec (sizeJ v) v (Nat.le_refl _) (by omega)
 unfold mrg0
 obtain ⟨k, t, ns, xs⟩ := v
 simp only [JV.kind]
 rw [dJ_mk] at HO ⊢
 simp only [dJ_mk, List.map_nil]
 refine pcall_of Tryz.func51 rfl rfl Tryz.ntmps51 (rs := [.cell 4 26]) (tys := [26]) rfl rfl (by simp) ?_
 refine awp_seq ?_
 refine awp_r fun Y Yh => ?_
 simp [go_sem]
 intro g2 g3 g4
 apply Yh; clear Yh Y
 refine Hold.mk ?_
 refine awp_seq_k fun K1 hK1 => ?_
 (refine awp_sr fun Y Yh => ?_; simp [go_sem]; ((repeat' (first|(refine ag_x ?_;simp [go_sem])|intro _|apply And.intro|(apply Yh;clear Yh Y)));all_goals first|apply Hold.mk|omega|with_reducible assumption|skip))
 (refine awp_if fun T F hT hF => ?_; simp [go_sem]; refine hF ?_; clear hT hF T F)
 refine awp_skip ?_
 refine hK1 _ ?_; clear hK1
 (refine awp_sr fun Y Yh => ?_; simp [go_sem]; ((repeat' (first|(refine ag_x ?_;simp [go_sem])|intro _|apply And.intro|(apply Yh;clear Yh Y)));all_goals first|apply Hold.mk|omega|with_reducible assumption|skip))
 rename_i g5
 refine awp_seq_k fun K2 hK2 => ?_
 (refine awp_sr fun Y Yh => ?_; simp [go_sem]; ((repeat' (first|(refine ag_x ?_;simp [go_sem])|intro _|apply And.intro|(apply Yh;clear Yh Y)));all_goals first|apply Hold.mk|omega|with_reducible assumption|skip))
 by_cases q : k = 6
 ·subst q
  (refine awp_if fun T F hT hF => ?_; simp [go_sem]; refine hT ?_; clear hT hF T F)
  (refine awp_r fun Y Yh => ?_; simp [go_sem]; ((repeat' (first|(refine ag_x ?_;simp [go_sem])|intro _|apply And.intro|(apply Yh;clear Yh Y)));all_goals first|apply Hold.mk|omega|with_reducible assumption|skip))
  ((try refine CallT.toA ?_); refine callT_m (by first|exact .inl ⟨rfl,rfl⟩|exact .inr rfl) (by simp [go_sem]) ?_; intro args ha; simp [go_sem] at ha; subst ha; refine ⟨_, HO, ?_⟩; rintro _ rfl; simp [go_sem]; ((repeat' (first|(refine ag_x ?_;simp [go_sem])|intro _|apply And.intro|(apply Yh;clear Yh Y)));all_goals first|apply Hold.mk|omega|with_reducible assumption|skip))
  refine hK2 _ ?_; clear hK2
  refine awp_seq_k fun K3 hK3 => ?_
  (refine awp_sr fun Y Yh => ?_; simp [go_sem]; ((repeat' (first|(refine ag_x ?_;simp [go_sem])|intro _|apply And.intro|(apply Yh;clear Yh Y)));all_goals first|apply Hold.mk|omega|with_reducible assumption|skip))
  refine awp_block ?_
  refine awp_loop (σ := Unit) (fun _ => ⟨[(4, .ptr 4 g4 0), (5, .ptr 5 g5 0), (22, dI 0), (23, dI 0)], [(4, (g4, .box [dI 0, dS [], nS, nS])), (5, (g5, .box [dI 6, dS t, dSs ns, .sl 4 (xs.map cJ)]))]⟩) (fun _ => True) (fun _ => 0) () (by (refine cov_of ?_ ?_ <;> simp [go_sem])) trivial ?_
  rintro ⟨⟩ _
  (refine awp_sr fun Y Yh => ?_; simp [go_sem]; ((repeat' (first|(refine ag_x ?_;simp [go_sem])|intro _|apply And.intro|(apply Yh;clear Yh Y)));all_goals first|apply Hold.mk|omega|with_reducible assumption|skip))
  refine awp_seq_k fun K4 hK4 => ?_
  (refine awp_if fun T F hT hF => ?_; simp [go_sem]; refine hF ?_; clear hT hF T F)
  refine awp_exit ?_
  simp only [go_sem]
  refine hK3 _ ?_; clear hK3
  (refine awp_sr fun Y Yh => ?_; simp [go_sem]; ((repeat' (first|(refine ag_x ?_;simp [go_sem])|intro _|apply And.intro|(apply Yh;clear Yh Y)));all_goals first|apply Hold.mk|omega|with_reducible assumption|skip))
  (refine awp_ret ?_; simp [go_sem])
  simp [dJ_mk]
 ·(refine awp_if fun T F hT hF => ?_; simp [go_sem, q]; refine hF ?_; clear hT hF T F)
  refine awp_skip ?_
  refine hK2 _ ?_; clear hK2
  refine awp_seq_k fun K3 hK3 => ?_
  (refine awp_sr fun Y Yh => ?_; simp [go_sem]; ((repeat' (first|(refine ag_x ?_;simp [go_sem])|intro _|apply And.intro|(apply Yh;clear Yh Y)));all_goals first|apply Hold.mk|omega|with_reducible assumption|skip))
  refine awp_block ?_
  refine awp_loop (σ := Unit) (fun _ => ⟨[(4, .ptr 4 g4 0), (5, .ptr 5 g5 0), (22, dI 0), (23, dI 0)], [(4, (g4, .box [dI 0, dS [], nS, nS])), (5, (g5, .box [dI 6, dS [], nS, nS]))]⟩) (fun _ => True) (fun _ => 0) () (by (refine cov_of ?_ ?_ <;> simp [go_sem])) trivial ?_
  rintro ⟨⟩ _
  (refine awp_sr fun Y Yh => ?_; simp [go_sem]; ((repeat' (first|(refine ag_x ?_;simp [go_sem])|intro _|apply And.intro|(apply Yh;clear Yh Y)));all_goals first|apply Hold.mk|omega|with_reducible assumption|skip))
  refine awp_seq_k fun K4 hK4 => ?_
  (refine awp_if fun T F hT hF => ?_; simp [go_sem]; refine hF ?_; clear hT hF T F)
  refine awp_exit ?_
  simp only [go_sem]
  refine hK3 _ ?_; clear hK3
  (refine awp_sr fun Y Yh => ?_; simp [go_sem]; ((repeat' (first|(refine ag_x ?_;simp [go_sem])|intro _|apply And.intro|(apply Yh;clear Yh Y)));all_goals first|apply Hold.mk|omega|with_reducible assumption|skip))
  (refine awp_ret ?_; simp [go_sem])
  simp [dJ_mk, q]
theorem mergeE_spec (v : JV) (h1 : sizeJ v ≤ 1000000) (h2 : longJ v ≤ 4611686018427387904) (hok : okV v = true) (hem : okV emO = true) : PCall Tryz.prog 24 [dJ v, dJ emO] fun r => r = .tup [dJ (mrg0 v), dI 0] := by
 have HC := check_spec v h1 h2
 rw [hok] at HC
 have HE := check_spec emO (by decide +kernel) (by decide +kernel)
 rw [hem] at HE
 have HM := merge0_spec v h1
 generalize mrg0 v = c at *
 obtain ⟨k, t, ns, xs⟩ := v
 obtain ⟨k2, t2, ns2, xs2⟩ := c
 simp only [dJ_mk, List.map_nil] at HC HE HM ⊢
 refine pcall_of Tryz.func24 rfl rfl Tryz.ntmps24 (rs := [.cell 4 26, .tmp 5]) (tys := [26, 27]) rfl rfl (by simp) ?_
 refine awp_seq ?_
 refine awp_r fun Y Yh => ?_
 simp [go_sem]
 intro g2 g3 g4
 apply Yh; clear Yh Y
 refine Hold.mk ?_
 refine awp_seq_k fun K1 hK1 => ?_
 (refine awp_sr fun Y Yh => ?_; simp [go_sem]; ((repeat' (first|(refine ag_false ?_ ?_ ?_;(focus (simp [go_sem, undef];done));(focus (simp [go_sem];done));simp [go_sem])|(refine ag_true ?_ ?_;(focus (simp [go_sem, undef];done));simp [go_sem])|(refine ag_x ?_;simp [go_sem, undef])|intro _|apply And.intro|(apply Yh;clear Yh Y)));all_goals first|apply Hold.mk|omega|with_reducible assumption|skip))
 ((try refine CallT.toA ?_); refine callT_m (by first|exact .inl ⟨rfl,rfl⟩|exact .inr rfl) (by simp [go_sem]) ?_; intro args ha; simp [go_sem] at ha; subst ha; refine ⟨_, HC, ?_⟩; rintro _ rfl; simp [go_sem]; ((repeat' (first|(refine ag_false ?_ ?_ ?_;(focus (simp [go_sem, undef];done));(focus (simp [go_sem];done));simp [go_sem])|(refine ag_true ?_ ?_;(focus (simp [go_sem, undef];done));simp [go_sem])|(refine ag_x ?_;simp [go_sem, undef])|intro _|apply And.intro|(apply Yh;clear Yh Y)));all_goals first|apply Hold.mk|omega|with_reducible assumption|skip))
 ((try refine CallT.toA ?_); refine callT_m (by first|exact .inl ⟨rfl,rfl⟩|exact .inr rfl) (by simp [go_sem]) ?_; intro args ha; simp [go_sem] at ha; subst ha; refine ⟨_, HE, ?_⟩; rintro _ rfl; simp [go_sem]; ((repeat' (first|(refine ag_false ?_ ?_ ?_;(focus (simp [go_sem, undef];done));(focus (simp [go_sem];done));simp [go_sem])|(refine ag_true ?_ ?_;(focus (simp [go_sem, undef];done));simp [go_sem])|(refine ag_x ?_;simp [go_sem, undef])|intro _|apply And.intro|(apply Yh;clear Yh Y)));all_goals first|apply Hold.mk|omega|with_reducible assumption|skip))
 (refine awp_if fun T F hT hF => ?_; simp [go_sem]; refine hF ?_; clear hT hF T F)
 refine awp_skip ?_
 refine hK1 _ ?_; clear hK1
 (refine awp_sr fun Y Yh => ?_; simp [go_sem]; ((repeat' (first|(refine ag_x ?_;simp [go_sem])|intro _|apply And.intro|(apply Yh;clear Yh Y)));all_goals first|apply Hold.mk|omega|with_reducible assumption|skip))
 ((try refine CallT.toA ?_); refine callT_m (by first|exact .inl ⟨rfl,rfl⟩|exact .inr rfl) (by simp [go_sem]) ?_; intro args ha; simp [go_sem] at ha; subst ha; refine ⟨_, HM, ?_⟩; rintro _ rfl; simp [go_sem]; ((repeat' (first|(refine ag_x ?_;simp [go_sem])|intro _|apply And.intro|(apply Yh;clear Yh Y)));all_goals first|apply Hold.mk|omega|with_reducible assumption|skip))
 (refine awp_ret ?_; simp [go_sem])
end Go.Proofs.YtkgmecjaejaehaaGreatDoor
namespace Go.Js
/-! names in order -/
theorem le_tr : ∀ (a b c : List UInt8), decide (a ≤ b) = true → decide (b ≤ c) = true → decide (a ≤ c) = true := fun a b c h1 h2 => by
 simp only [decide_eq_true_eq] at *
 exact List.le_trans h1 h2
theorem le_tot : ∀ (a b : List UInt8), (decide (a ≤ b) || decide (b ≤ a)) = true := fun a b => by
 simp only [Bool.or_eq_true, decide_eq_true_eq]
 exact List.le_total a b
theorem srtV_perm {l l' : List (List UInt8)} (h : l.Perm l') : srtV l = srtV l' := by
 unfold srtV
 refine List.Perm.eq_of_pairwise (le := fun a b => decide (a ≤ b) = true) (fun a b _ _ h1 h2 => ?_) (List.pairwise_mergeSort le_tr le_tot _) (List.pairwise_mergeSort le_tr le_tot _) (((List.mergeSort_perm _ _).trans h).trans (List.mergeSort_perm _ _).symm)
 simp only [decide_eq_true_eq] at h1 h2
 exact List.le_antisymm h1 h2
theorem srtV_of (l : List (List UInt8)) : (srtV l).Perm l := List.mergeSort_perm l _
theorem srtV_idem (l : List (List UInt8)) : srtV (srtV l) = srtV l := srtV_perm (srtV_of l)
theorem srtV_rev (l : List (List UInt8)) : srtV l.reverse = srtV l := srtV_perm l.reverse_perm
theorem compact_nodup {l : List (List UInt8)} (h : l.Nodup) : Lib.compact l = l := by
 refine Lib.compact_all l fun j hj => ?_
 unfold Lib.keeps
 simp only [decide_eq_true_eq]
 by_cases h0 : j = 0
 ·exact .inl h0
 ·right
  have h1 : j - 1 < l.length := by omega
  simp only [List.getElem!_toArray, List.getElem!_eq_getElem?_getD, List.getElem?_eq_getElem hj, List.getElem?_eq_getElem h1, Option.getD_some]
  intro q
  have := (List.nodup_iff_pairwise_ne.1 h)
  rw [List.pairwise_iff_getElem] at this
  exact this (j - 1) j h1 hj (by omega) q.symm
theorem ixV_at {ns : List (List UInt8)} (h : ns.Nodup) {j : Nat} {x : List UInt8} (hx : ns[j]? = some x) : ixV ns x = j := by
 unfold ixV
 refine fIx_at ?_ hx (by simp)
 rw [List.any_eq_false]
 intro y hy q
 simp only [beq_iff_eq] at q
 subst q
 obtain ⟨i, hi, he⟩ := List.mem_iff_getElem.1 hy
 have hj : j < ns.length := (List.getElem?_eq_some_iff.1 hx).1
 have hij : i < j := by simp at hi; omega
 have h1 := (List.getElem?_eq_some_iff.1 hx).2
 rw [List.getElem_take] at he
 have := List.pairwise_iff_getElem.1 h i j (by omega) hj hij
 exact this (he.trans h1.symm)
theorem namesG_srt {ns : List (List UInt8)} (h : namesG ns) : namesG (srtV ns) :=
 ⟨(srtV_of ns).nodup_iff.2 h.1, fun s hs => h.2 s ((srtV_of ns).mem_iff.1 hs)⟩
theorem namesG_rev {ns : List (List UInt8)} (h : namesG ns) : namesG ns.reverse :=
 ⟨ns.reverse_perm.nodup_iff.2 h.1, fun s hs => h.2 s (List.mem_reverse.1 hs)⟩
theorem texts_valid : ∀ s ∈ textT, Lib.validD s = true := by decide +kernel
theorem nums_valid : ∀ s ∈ numT, isNumV s = true := by decide +kernel
theorem okNames_of {ns : List (List UInt8)} (h : namesG ns) : okNames ns ns.length = true := by
 unfold okNames
 have e : (ns.mergeSort fun x y => decide (x ≤ y)) = srtV ns := rfl
 rw [e, compact_nodup (namesG_srt h).1, (srtV_of ns).length_eq]
 simp only [decide_true, Bool.true_and, List.all_eq_true]
 exact fun s hs => texts_valid s (h.2 s hs)
/-! values that numbers make: in order, turned -/
theorem leaf_canon {v : JV} (h : leafG v) : canonV v = v ∧ turnV v = v := by
 rcases h with ⟨k, hk, rfl⟩ | ⟨t, _, rfl⟩ | ⟨t, _, rfl⟩
 ·have : ¬ (k : Int) = 6 := by omega
  simp [canonV, canonL, turnV, turnL, this]
 ·simp [canonV, canonL, turnV, turnL]
 ·simp [canonV, canonL, turnV, turnL]
theorem canon_items {ns : List (List UInt8)} {xs : List JV} (hl : ns.length = xs.length) (hn : ns.Nodup) {i : Nat} {n : List UInt8} (h : (srtV ns)[i]? = some n) :
  ∃ (j : Nat) (hj : j < xs.length), ns[j]? = some n ∧ ((srtV ns).map fun n => (canonL xs).getD (ixV ns n).toNat default)[i]? = some (canonV xs[j]) := by
 have hm : n ∈ ns := (srtV_of ns).mem_iff.1 (List.mem_of_getElem? h)
 obtain ⟨j, hj, hjn⟩ := List.mem_iff_getElem.1 hm
 have hq : ns[j]? = some n := by rw [List.getElem?_eq_getElem hj, hjn]
 refine ⟨j, by omega, hq, ?_⟩
 rw [List.getElem?_map, h, canonL_map]
 simp only [Option.map_some]
 rw [ixV_at hn hq, Int.toNat_natCast, List.getD_eq_getElem?_getD, List.getElem?_map, List.getElem?_eq_getElem (by omega)]
 rfl
theorem canon_len (ns : List (List UInt8)) (xs : List JV) : ((srtV ns).map fun n => (canonL xs).getD (ixV ns n).toNat default).length = ns.length := by
 rw [List.length_map, (srtV_of ns).length_eq]
theorem okG_canon : ∀ (d : Nat) (v : JV), okG d v → okG d (canonV v) ∧ canonV (canonV v) = canonV v := by
 intro d
 induction d with
 | zero =>
  intro v h
  have := (leaf_canon h).1
  rw [this, this]
  exact ⟨h, rfl⟩
 | succ d ih =>
  intro v h
  rcases h with h | ⟨k, ns, xs, rfl, hl, hk, hx⟩
  ·have := (leaf_canon h).1
   rw [this, this]
   exact ⟨.inl h, rfl⟩
  ·rcases hk with ⟨rfl, rfl⟩ | ⟨rfl, hnl, hng⟩
   ·have e : canonV (.mk 5 [] [] xs) = .mk 5 [] [] (xs.map canonV) := by simp [canonV, canonL_map]
    rw [e]
    refine ⟨.inr ⟨5, [], _, rfl, by simpa using hl, .inl ⟨rfl, rfl⟩, fun y hy => ?_⟩, ?_⟩
    ·obtain ⟨x, hx', rfl⟩ := List.mem_map.1 hy
     exact (ih x (hx x hx')).1
    ·simp only [canonV, canonL_map]
     rw [if_neg (by decide)]
     congr 1
     rw [List.map_map]
     exact List.map_congr_left fun x hx' => (ih x (hx x hx')).2
   ·have e : canonV (.mk 6 [] ns xs) = .mk 6 [] (srtV ns) ((srtV ns).map fun n => (canonL xs).getD (ixV ns n).toNat default) := by simp [canonV]
    rw [e]
    have hit := fun i n => canon_items hnl hng.1 (i := i) (n := n)
    have hTl := canon_len ns xs
    have hSg := namesG_srt hng
    have hSl := (srtV_of ns).length_eq
    have hid := srtV_idem ns
    generalize ((srtV ns).map fun n => (canonL xs).getD (ixV ns n).toNat default) = T at *
    generalize srtV ns = S at *
    have hT : ∀ i (h : i < T.length), ∃ x ∈ xs, T[i] = canonV x := fun i h => by
     obtain ⟨j, hj, _, q⟩ := hit i S[i] (List.getElem?_eq_getElem (by omega))
     rw [List.getElem?_eq_getElem h] at q
     exact ⟨xs[j], List.getElem_mem hj, Option.some.inj q⟩
    refine ⟨.inr ⟨6, S, T, rfl, by omega, .inr ⟨rfl, by omega, hSg⟩, fun y hy => ?_⟩, ?_⟩
    ·obtain ⟨i, hi, rfl⟩ := List.mem_iff_getElem.1 hy
     obtain ⟨x, hx', q⟩ := hT i hi
     rw [q]
     exact (ih x (hx x hx')).1
    ·simp only [canonV]
     rw [if_pos trivial, hid]
     congr 1
     apply List.ext_getElem?
     intro i
     by_cases hi : i < S.length
     ·have hi' : i < T.length := by omega
      have q : S[i]? = some S[i] := List.getElem?_eq_getElem hi
      obtain ⟨x, hx', q2⟩ := hT i hi'
      rw [List.getElem?_map, q, canonL_map]
      simp only [Option.map_some]
      rw [ixV_at hSg.1 q, Int.toNat_natCast, List.getD_eq_getElem?_getD, List.getElem?_map, List.getElem?_eq_getElem hi', q2]
      simp only [Option.map_some, Option.getD_some]
      rw [(ih x (hx x hx')).2]
     ·rw [List.getElem?_eq_none (by rw [List.length_map]; omega), List.getElem?_eq_none (by omega)]
end Go.Js
