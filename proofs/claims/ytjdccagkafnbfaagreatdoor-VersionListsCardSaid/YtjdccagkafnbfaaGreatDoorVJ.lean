/- Part of a proof: see the last text. -/
import Derived.Test.YtjdccagkafnbfaaGreatDoorVI
set_option linter.unusedVariables false
set_option linter.unusedSimpArgs false
namespace Go.Proofs.YtjdccagkafnbfaaGreatDoor
open Go.Eng Go.Wh Go.Ver
set_option maxRecDepth 20000
set_option linter.unusedSimpArgs false
set_option linter.unusedVariables false
attribute [local irreducible] AG CallA CallT AWp PCall ACall AgC
set_option maxHeartbeats 16000000 in
theorem lists_spec (L : List (List UInt8)) (R : List UInt8) (ns az : List Int) (hL : L.length ≤ 9223372036854775807 ∧ ∀ s ∈ L, s.length ≤ 140737488355328) (hR : R.length ≤ 140737488355328) (hn : ns.length ≤ 9223372036854775807 ∧ ∀ x ∈ ns, InR x) (ha : az.length ≤ 9223372036854775807 ∧ ∀ x ∈ az, InR x) :
    PCall Tryz.prog 7 [.agg [dSs L, dS R, dIs ns, dIs az]] fun r => r = dB true := by 
  refine pcall_of Tryz.func7 rfl rfl Tryz.ntmps7 (rs := [.tmp 2]) (tys := [4]) rfl rfl (by simp) ?_
  have L1 := long_spec L hL.2
  have L2 := long_spec [R] (by intro s hs; simp at hs; subst hs; exact hR)
  have e2 : sumT [R] = R.length + 1 := by simp only [sumT]
  rw [e2] at L2
  have hsm := fun s => @sumT_mem L s
  (refine awp_sr fun KK hKK => ?_; simp [go_sem]; ((repeat' (first|(refine ag_x ?_;simp [go_sem])|intro _|refine And.intro ?_ ?_|(apply hKK;clear hKK KK)));all_goals first|refine Hold.mk ?_|omega|with_reducible assumption|(simp only [InR] at *;omega)|skip))
  refine awp_seq_k fun K1 hK1 => ?_
  have small : sumT L < 6000 → R.length + 1 < 6000 → L.length ≤ 300 → ∀ (S' : St) (g1 : Nat), Cov S' ⟨[(1, .ptr 1 g1 0)], [(1, g1, .box [dSs L, dS R, dIs ns, dIs az])]⟩ → K1 S' := fun h1 h2 h3 S' g1 hS => by
    refine hK1 _ ?_
    refine awp_cov hS ?_; clear hS
    have hst := fun i u => @mdL_step (ns.map un) i u
    have hlen := fun i => @mdL_len (ns.map un) i
    have z := mdL_zero (ns.map un)
    have hmm := fun i s => @mdL_mem (ns.map un) i s
    have hml : (ns.map un).length = ns.length := by simp
    have hat : ∀ (i : Nat) (n : Int), ns[i]? = some n → (ns.map un)[i]? = some (un n) := fun i n h => by rw [List.getElem?_map, h]; rfl
    generalize hM : mdL (ns.map un) = md at *
    rw [hml] at hlen
    have A := Asked_spec az ha.1 ha.2
    have hqa := askV_ok (az.map un)
    have hal : (textR (askV (az.map un))).length ≤ 1000 := by
      have := textR_small hqa.2 hqa.1
      omega
    generalize textR (askV (az.map un)) = ta at *
    (refine awp_sr fun KK hKK => ?_; simp [go_sem]; ((repeat' (first|(refine ag_x ?_;simp [go_sem])|intro _|refine And.intro ?_ ?_|(apply hKK;clear hKK KK)));all_goals first|refine Hold.mk ?_|omega|with_reducible assumption|(simp only [InR] at *;omega)|skip))
    refine awp_nilslot 3 3 9 1 rfl fun g3 => ?_
    simp only [go_sem]
    refine awp_seq_k fun K3 hK3 => ?_
    (refine awp_sr fun KK hKK => ?_; simp [go_sem]; ((repeat' (first|(refine ag_x ?_;simp [go_sem])|intro _|refine And.intro ?_ ?_|(apply hKK;clear hKK KK)));all_goals first|refine Hold.mk ?_|omega|with_reducible assumption|(simp only [InR] at *;omega)|skip))
    refine awp_block ?_
    refine awp_loop (σ := Nat × Nat) (fun x => ⟨[(1, .ptr 1 g1 0), (3, .own 3 x.2), (4, dI x.1)], [(1, g1, .box [dSs L, dS R, dIs ns, dIs az]), (3, x.2, .row 9 1 ((md x.1).map cS))]⟩) (fun x => x.1 ≤ ns.length ∧ x.1 ≤ 40) (fun x => 40 - x.1) (0, g3) ?_ ?_ ?_
    · (refine cov_of ?_ ?_ <;> simp [go_sem, z])
    · simp
    rintro ⟨i, g⟩ ⟨hi, hi2⟩
    simp only at hi hi2
    refine awp_seq_k fun K4 hK4 => ?_
    have exitK : ∀ S', Cov S' ⟨[(1, .ptr 1 g1 0), (3, .own 3 g)], [(1, g1, .box [dSs L, dS R, dIs ns, dIs az]), (3, g, .row 9 1 ((md i).map cS))]⟩ → K3 S' := fun S' hS => by
      refine hK3 _ ?_
      refine awp_cov hS ?_; clear hS
      have hkl := hlen i hi
      have hkm := hmm i
      generalize md i = k at *
      have hLs : ∀ s ∈ L, s.length ≤ 6000 := fun s hs => by have := hsm s hs; omega
      have hks : ∀ s ∈ k, s.length ≤ 6000 := fun s hs => by obtain ⟨u, rfl⟩ := hkm s hs; have := mdV_len u; omega
      have hcall : ∀ l r, (l = L ∨ l = k) → (r = R ∨ r = ta) → (PCall Tryz.prog 19 [dSs l, dS r] fun x => x = .tup [dI (bestP l r), dI (bestC l r)]) ∧ (PCall Tryz.prog 20 [dSs l, dS r] fun x => x = .tup [dI (bestP l r), dI (bestC l r)]) ∧ (PCall Tryz.prog 21 [dSs l] fun r => r = .tup [dSs (sortP l), dI (codeP (allV l))]) ∧ (PCall Tryz.prog 22 [dSs l] fun r => r = .tup [dSs (sortP l), dI (codeP (allV l))]) := fun l r hl hr => by
        have b1 : ∀ s ∈ l, s.length ≤ 1000000000 := fun s hs => by
          rcases hl with rfl | rfl
          · have := hLs s hs; omega
          · have := hks s hs; omega
        have b2 : l.length ≤ 1000000 := by rcases hl with rfl | rfl <;> omega
        have b3 : r.length ≤ 1000000 := by rcases hr with rfl | rfl <;> omega
        exact ⟨Best_spec l r b1 b2 b3, rBest_spec l r b1 b2 b3, Sort_spec l b1 b2, rSort_spec l b1 b2⟩
      refine awp_frzrow 3 rfl rfl ?_
      simp only [go_sem]
      (refine awp_sr fun KK hKK => ?_; simp [go_sem]; ((repeat' (first|(refine ag_x ?_;simp [go_sem])|intro _|refine And.intro ?_ ?_|(apply hKK;clear hKK KK)));all_goals first|refine Hold.mk ?_|omega|with_reducible assumption|(simp only [InR] at *;omega)|skip))
      refine awp_frzrow 5 rfl rfl ?_
      simp only [go_sem]
      ((refine awp_dr (.qs [0, 2, 4, 1, 3, 5] (.kp 6 (.kp 7 (.qs [8] (.nil))))) (by kernel_rfl) ?_ ?_ ?_ ?_); (kernel_rfl); (exact (by decide +kernel)); (kernel_rfl); intro KK hKK; ((repeat' (first|(refine ag_x ?_;simp [go_sem])|refine adr_nil ?_|refine adr_two ?_ ?_|refine adr_kq ?_ ?_|refine adr_three ?_ ?_ ?_|refine adr_four ?_ ?_ ?_ ?_|refine adr_kp2 ?_ ?_|refine adr_kp3 ?_ ?_ ?_|((first|refine adr_qs fun KK hKK=>?_|refine adr_y fun KK hKK=>?_);simp [go_sem])|intro _|refine And.intro ?_ ?_|(apply hKK;clear hKK KK)));all_goals first|refine Hold.mk ?_|omega|with_reducible assumption|(simp only [InR] at *;omega)|skip))
      ((try refine CallT.toA ?_); refine callT_m (by first | exact .inl ⟨rfl, rfl⟩ | exact .inr rfl) (by simp [go_sem]) ?_; intro args ha; simp [go_sem] at ha; subst ha; refine ⟨_, A, ?_⟩; rintro _ rfl; simp [go_sem]; ((repeat' (first|(refine ag_x ?_;simp [go_sem])|refine adr_nil ?_|refine adr_two ?_ ?_|refine adr_kq ?_ ?_|refine adr_three ?_ ?_ ?_|refine adr_four ?_ ?_ ?_ ?_|refine adr_kp2 ?_ ?_|refine adr_kp3 ?_ ?_ ?_|((first|refine adr_qs fun KK hKK=>?_|refine adr_y fun KK hKK=>?_);simp [go_sem])|intro _|refine And.intro ?_ ?_|(apply hKK;clear hKK KK)));all_goals first|refine Hold.mk ?_|omega|with_reducible assumption|(simp only [InR] at *;omega)|skip))
      refine awp_frzrow 6 rfl rfl ?_
      simp only [go_sem]
      refine awp_seq_k fun K7 hK7 => ?_
      (refine awp_sr fun KK hKK => ?_; simp [go_sem]; ((repeat' (first|(refine ag_x ?_;simp [go_sem])|intro _|refine And.intro ?_ ?_|(apply hKK;clear hKK KK)));all_goals first|refine Hold.mk ?_|omega|with_reducible assumption|(simp only [InR] at *;omega)|skip))
      refine awp_block ?_
      refine awp_loop (σ := Nat) (fun j => ⟨[(5, .sl 1 [[dSs L], [dSs k], [dSs k]]), (6, .sl 1 [cS R, cS R, cS ta]), (7, dI j)], []⟩) (fun j => j ≤ 3) (fun j => 3 - j) 0 ?_ ?_ ?_
      · (refine cov_of ?_ ?_ <;> simp [go_sem])
      · omega
      intro j hj
      refine awp_seq_k fun K8 hK8 => ?_
      (refine awp_sr fun KK hKK => ?_; simp [go_sem]; ((repeat' (first|(refine ag_x ?_;simp [go_sem])|intro _|refine And.intro ?_ ?_|(apply hKK;clear hKK KK)));all_goals first|refine Hold.mk ?_|omega|with_reducible assumption|(simp only [InR] at *;omega)|skip))
      (refine awp_if fun T F hT hF => ?_; simp [go_sem]; refine BR.intro (fun h9 => hT ?_) (fun h9 => hF ?_); all_goals clear hT hF T F; try simp at h9) 
      · refine awp_skip ?_
        refine hK8 _ ?_; clear hK8
        obtain ⟨l, r, hx, hy, hl, hr⟩ : ∃ l r, ([[dSs L], [dSs k], [dSs k]] : List (List D))[j]? = some [dSs l] ∧ ([cS R, cS R, cS ta] : List (List D))[j]? = some (cS r) ∧ (l = L ∨ l = k) ∧ (r = R ∨ r = ta) := by
          match j, h9 with
          | 0, _ => exact ⟨L, R, rfl, rfl, .inl rfl, .inl rfl⟩
          | 1, _ => exact ⟨k, R, rfl, rfl, .inr rfl, .inl rfl⟩
          | 2, _ => exact ⟨k, ta, rfl, rfl, .inr rfl, .inr rfl⟩
          | n + 3, h => exact absurd h (by omega)
        obtain ⟨B1, B2, S1, S2⟩ := hcall l r hl hr
        have T := texts_spec (sortP l) (sortP l)
        simp only [decide_true] at T
        generalize sortP l = so at *
        generalize codeP (allV l) = co at *
        generalize bestP l r = bp at *
        generalize bestC l r = bc at *
        generalize hrow : ([[dSs L], [dSs k], [dSs k]] : List (List D)) = rows at *
        generalize hrow2 : ([cS R, cS R, cS ta] : List (List D)) = rows2 at *
        have hl1 : rows.length = 3 := by rw [← hrow]; rfl
        have hl2 : rows2.length = 3 := by rw [← hrow2]; rfl
        refine awp_seq_k fun K10 hK10 => ?_
        refine awp_block ?_
        ((refine awp_dr (.qs [0, 1, 2, 4, 5, 6, 3, 7] (.one 8 (.qs [9, 10, 11, 12, 13] (.nil)))) (by kernel_rfl) ?_ ?_ ?_ ?_); (kernel_rfl); (exact (by decide +kernel)); (kernel_rfl); intro KK hKK; ((repeat' (first|(refine ag_x ?_;simp [go_sem, hx, hy])|refine adr_nil ?_|refine adr_two ?_ ?_|refine adr_kq ?_ ?_|refine adr_three ?_ ?_ ?_|refine adr_four ?_ ?_ ?_ ?_|refine adr_kp2 ?_ ?_|refine adr_kp3 ?_ ?_ ?_|((first|refine adr_qs fun KK hKK=>?_|refine adr_y fun KK hKK=>?_);simp [go_sem, hx, hy])|intro _|refine And.intro ?_ ?_|(apply hKK;clear hKK KK)));all_goals first|refine Hold.mk ?_|omega|with_reducible assumption|(simp only [InR] at *;omega)|skip))
        ((try refine CallT.toA ?_); refine callT_m (by first | exact .inl ⟨rfl, rfl⟩ | exact .inr rfl) (by simp [go_sem]) ?_; intro args ha; simp [go_sem] at ha; subst ha; refine ⟨_, B1, ?_⟩; rintro _ rfl; simp [go_sem]; ((repeat' (first|(refine ag_x ?_;simp [go_sem])|refine adr_nil ?_|refine adr_two ?_ ?_|refine adr_kq ?_ ?_|refine adr_three ?_ ?_ ?_|refine adr_four ?_ ?_ ?_ ?_|refine adr_kp2 ?_ ?_|refine adr_kp3 ?_ ?_ ?_|((first|refine adr_qs fun KK hKK=>?_|refine adr_y fun KK hKK=>?_);simp [go_sem])|intro _|refine And.intro ?_ ?_|(apply hKK;clear hKK KK)));all_goals first|refine Hold.mk ?_|omega|with_reducible assumption|(simp only [InR] at *;omega)|skip))
        ((refine awp_dr (.qs [0, 1, 2, 4, 5, 6, 3, 7] (.one 8 (.qs [9, 10, 11, 12, 13] (.nil)))) (by kernel_rfl) ?_ ?_ ?_ ?_); (kernel_rfl); (exact (by decide +kernel)); (kernel_rfl); intro KK hKK; ((repeat' (first|(refine ag_x ?_;simp [go_sem, hx, hy])|refine adr_nil ?_|refine adr_two ?_ ?_|refine adr_kq ?_ ?_|refine adr_three ?_ ?_ ?_|refine adr_four ?_ ?_ ?_ ?_|refine adr_kp2 ?_ ?_|refine adr_kp3 ?_ ?_ ?_|((first|refine adr_qs fun KK hKK=>?_|refine adr_y fun KK hKK=>?_);simp [go_sem, hx, hy])|intro _|refine And.intro ?_ ?_|(apply hKK;clear hKK KK)));all_goals first|refine Hold.mk ?_|omega|with_reducible assumption|(simp only [InR] at *;omega)|skip))
        ((try refine CallT.toA ?_); refine callT_m (by first | exact .inl ⟨rfl, rfl⟩ | exact .inr rfl) (by simp [go_sem]) ?_; intro args ha; simp [go_sem] at ha; subst ha; refine ⟨_, B2, ?_⟩; rintro _ rfl; simp [go_sem]; ((repeat' (first|(refine ag_x ?_;simp [go_sem])|refine adr_nil ?_|refine adr_two ?_ ?_|refine adr_kq ?_ ?_|refine adr_three ?_ ?_ ?_|refine adr_four ?_ ?_ ?_ ?_|refine adr_kp2 ?_ ?_|refine adr_kp3 ?_ ?_ ?_|((first|refine adr_qs fun KK hKK=>?_|refine adr_y fun KK hKK=>?_);simp [go_sem])|intro _|refine And.intro ?_ ?_|(apply hKK;clear hKK KK)));all_goals first|refine Hold.mk ?_|omega|with_reducible assumption|(simp only [InR] at *;omega)|skip))
        (refine awp_sr fun KK hKK => ?_; simp [go_sem, hx]; ((repeat' (first|(refine ag_x ?_;simp [go_sem, hx])|intro _|refine And.intro ?_ ?_|(apply hKK;clear hKK KK)));all_goals first|refine Hold.mk ?_|omega|with_reducible assumption|(simp only [InR] at *;omega)|skip))
        ((try refine CallT.toA ?_); refine callT_m (by first | exact .inl ⟨rfl, rfl⟩ | exact .inr rfl) (by simp [go_sem]) ?_; intro args ha; simp [go_sem] at ha; subst ha; refine ⟨_, S1, ?_⟩; rintro _ rfl; simp [go_sem]; ((repeat' (first|(refine ag_x ?_;simp [go_sem])|intro _|refine And.intro ?_ ?_|(apply hKK;clear hKK KK)));all_goals first|refine Hold.mk ?_|omega|with_reducible assumption|(simp only [InR] at *;omega)|skip))
        (refine awp_sr fun KK hKK => ?_; simp [go_sem, hx]; ((repeat' (first|(refine ag_x ?_;simp [go_sem, hx])|intro _|refine And.intro ?_ ?_|(apply hKK;clear hKK KK)));all_goals first|refine Hold.mk ?_|omega|with_reducible assumption|(simp only [InR] at *;omega)|skip))
        ((try refine CallT.toA ?_); refine callT_m (by first | exact .inl ⟨rfl, rfl⟩ | exact .inr rfl) (by simp [go_sem]) ?_; intro args ha; simp [go_sem] at ha; subst ha; refine ⟨_, S2, ?_⟩; rintro _ rfl; simp [go_sem]; ((repeat' (first|(refine ag_x ?_;simp [go_sem])|intro _|refine And.intro ?_ ?_|(apply hKK;clear hKK KK)));all_goals first|refine Hold.mk ?_|omega|with_reducible assumption|(simp only [InR] at *;omega)|skip))
        (refine awp_sr fun KK hKK => ?_; simp [go_sem]; ((repeat' (first|(refine ag_x ?_;simp [go_sem])|intro _|refine And.intro ?_ ?_|(apply hKK;clear hKK KK)));all_goals first|refine Hold.mk ?_|omega|with_reducible assumption|(simp only [InR] at *;omega)|skip))
        (refine agc_f (dB true) (by first | exact .inl ⟨rfl, rfl⟩ | exact .inr rfl) ?_ rfl ?_; (intro hc args ha; simp [go_sem] at ha; subst ha; exact T); simp [go_sem]; ((repeat' (first|(refine ag_x ?_;simp [go_sem])|intro _|refine And.intro ?_ ?_|(apply hKK;clear hKK KK)));all_goals first|refine Hold.mk ?_|omega|with_reducible assumption|(simp only [InR] at *;omega)|skip))
        (refine awp_if fun T F hT hF => ?_; simp [go_sem]; refine hF ?_; clear hT hF T F)
        refine awp_skip ?_
        refine hK10 _ ?_; clear hK10
        (refine awp_r fun KK hKK => ?_; simp [go_sem]; ((repeat' (first|(refine ag_x ?_;simp [go_sem])|intro _|refine And.intro ?_ ?_|(apply hKK;clear hKK KK)));all_goals first|refine Hold.mk ?_|omega|with_reducible assumption|(simp only [InR] at *;omega)|skip))
        refine ⟨j + 1, ?_, by omega, by omega⟩
        rw [← hrow, ← hrow2]
        (refine cov_of ?_ ?_ <;> simp [go_sem])
      · refine awp_exit ?_
        simp only [go_sem]
        refine hK7 _ ?_; clear hK7
        (refine awp_sr fun KK hKK => ?_; simp [go_sem]; ((repeat' (first|(refine ag_x ?_;simp [go_sem])|intro _|refine And.intro ?_ ?_|(apply hKK;clear hKK KK)));all_goals first|refine Hold.mk ?_|omega|with_reducible assumption|(simp only [InR] at *;omega)|skip))
        ((try refine CallT.toA ?_); refine callT_m (by first | exact .inl ⟨rfl, rfl⟩ | exact .inr rfl) (by simp [go_sem]) ?_; intro args ha; simp [go_sem] at ha; subst ha; refine ⟨_, sane_spec, ?_⟩; rintro _ rfl; simp [go_sem]; ((repeat' (first|(refine ag_x ?_;simp [go_sem])|intro _|refine And.intro ?_ ?_|(apply hKK;clear hKK KK)));all_goals first|refine Hold.mk ?_|omega|with_reducible assumption|(simp only [InR] at *;omega)|skip))
        (refine awp_ret ?_; simp [go_sem])
    clear hK3
    by_cases h1 : i < ns.length
    · have h1' : (i : Int) < ns.length := by omega
      (refine awp_sr fun KK hKK => ?_; simp [go_sem, h1']; ((repeat' (first|(refine ag_x ?_;simp [go_sem, h1'])|intro _|refine And.intro ?_ ?_|(apply hKK;clear hKK KK)));all_goals first|refine Hold.mk ?_|omega|with_reducible assumption|(simp only [InR] at *;omega)|skip))
      (refine awp_if fun T F hT hF => ?_; simp [go_sem]; refine BR.intro (fun h3 => hT ?_) (fun h3 => hF ?_); all_goals clear hT hF T F; try simp at h3) 
      · refine awp_skip ?_
        refine hK4 _ ?_; clear hK4
        obtain ⟨n, hx⟩ : ∃ n, ns[i]? = some n := ⟨_, List.getElem?_eq_getElem h1⟩
        have MM := Made_md n (hn.2 n (List.mem_of_getElem? hx))
        have hst1 := hst i (un n) (hat i n hx)
        have hl1 := hlen i hi
        refine awp_seq_k fun K6 hK6 => ?_
        refine awp_block ?_
        (refine awp_r fun KK hKK => ?_; simp [go_sem, hx]; ((repeat' (first|(refine ag_x ?_;simp [go_sem, hx])|intro _|refine And.intro ?_ ?_|(apply hKK;clear hKK KK)));all_goals first|refine Hold.mk ?_|omega|with_reducible assumption|(simp only [InR] at *;omega)|skip))
        ((try refine CallT.toA ?_); refine callT_m (by first | exact .inl ⟨rfl, rfl⟩ | exact .inr rfl) (by simp [go_sem]) ?_; intro args ha; simp [go_sem] at ha; subst ha; refine ⟨_, MM, ?_⟩; rintro _ rfl; simp [go_sem]; ((repeat' (first|(refine ag_x ?_;simp [go_sem])|intro _|refine And.intro ?_ ?_|(apply hKK;clear hKK KK)));all_goals first|refine Hold.mk ?_|omega|with_reducible assumption|(simp only [InR] at *;omega)|skip))
        rename_i g30 g'
        refine hK6 _ ?_; clear hK6
        (refine awp_r fun KK hKK => ?_; simp [go_sem]; ((repeat' (first|(refine ag_x ?_;simp [go_sem])|intro _|refine And.intro ?_ ?_|(apply hKK;clear hKK KK)));all_goals first|refine Hold.mk ?_|omega|with_reducible assumption|(simp only [InR] at *;omega)|skip))
        refine ⟨(i + 1, g'), ?_, ⟨by simp only; omega, by simp only; omega⟩, by simp only; omega⟩
        simp only [hst1]
        (refine cov_of ?_ ?_ <;> simp [go_sem])
      · refine awp_exit ?_
        simp only [go_sem]
        refine exitK _ ?_
        (refine cov_of ?_ ?_ <;> simp [go_sem])
    · have h1' : ¬ (i : Int) < ns.length := by omega
      (refine awp_sr fun KK hKK => ?_; simp [go_sem, h1']; ((repeat' (first|(refine ag_false (by simp [go_sem, undef, h1']) (by simp [go_sem]) ?_;simp [go_sem, h1'])|intro _|refine And.intro ?_ ?_|(apply hKK;clear hKK KK)));all_goals first|refine Hold.mk ?_|omega|with_reducible assumption|(simp only [InR] at *;omega)|skip))
      (refine awp_if fun T F hT hF => ?_; simp [go_sem]; refine hF ?_; clear hT hF T F)
      refine awp_exit ?_
      simp only [go_sem]
      refine exitK _ ?_
      (refine cov_of ?_ ?_ <;> simp [go_sem])
  clear hK1
  by_cases h1 : 6000 ≤ sumT L
  · have h1' : decide (6000 ≤ sumT L) = true := by simpa using h1
    rw [h1'] at L1
    (refine awp_sr fun KK hKK => ?_; simp [go_sem]; ((repeat' (first|(refine ag_x ?_;simp [go_sem])|intro _|refine And.intro ?_ ?_|(apply hKK;clear hKK KK)));all_goals first|refine Hold.mk ?_|omega|with_reducible assumption|(simp only [InR] at *;omega)|skip))
    ((try refine CallT.toA ?_); refine callT_m (by first | exact .inl ⟨rfl, rfl⟩ | exact .inr rfl) (by simp [go_sem]) ?_; intro args ha; simp [go_sem] at ha; subst ha; refine ⟨_, L1, ?_⟩; rintro _ rfl; simp [go_sem]; ((repeat' (first|(refine ag_false ?_ ?_ ?_;(focus (simp [go_sem, undef];done));(focus (simp [go_sem];done));simp [go_sem])|(refine ag_x ?_;simp [go_sem, undef])|intro _|refine And.intro ?_ ?_|(apply hKK;clear hKK KK)));all_goals first|refine Hold.mk ?_|omega|with_reducible assumption|(simp only [InR] at *;omega)|skip))
    (refine awp_if fun T F hT hF => ?_; simp [go_sem]; refine hT ?_; clear hT hF T F)
    (refine awp_sr fun KK hKK => ?_; simp [go_sem]; ((repeat' (first|(refine ag_x ?_;simp [go_sem])|intro _|refine And.intro ?_ ?_|(apply hKK;clear hKK KK)));all_goals first|refine Hold.mk ?_|omega|with_reducible assumption|(simp only [InR] at *;omega)|skip))
    ((try refine CallT.toA ?_); refine callT_m (by first | exact .inl ⟨rfl, rfl⟩ | exact .inr rfl) (by simp [go_sem]) ?_; intro args ha; simp [go_sem] at ha; subst ha; refine ⟨_, sane_spec, ?_⟩; rintro _ rfl; simp [go_sem]; ((repeat' (first|(refine ag_x ?_;simp [go_sem])|intro _|refine And.intro ?_ ?_|(apply hKK;clear hKK KK)));all_goals first|refine Hold.mk ?_|omega|with_reducible assumption|(simp only [InR] at *;omega)|skip))
    (refine awp_ret ?_; simp [go_sem])
  · have h1' : decide (6000 ≤ sumT L) = false := by simpa using h1
    rw [h1'] at L1
    by_cases h2 : 6000 ≤ R.length + 1
    · have h2' : decide (6000 ≤ R.length + 1) = true := by simpa using h2
      rw [h2'] at L2
      (refine awp_sr fun KK hKK => ?_; simp [go_sem]; ((repeat' (first|(refine ag_x ?_;simp [go_sem])|intro _|refine And.intro ?_ ?_|(apply hKK;clear hKK KK)));all_goals first|refine Hold.mk ?_|omega|with_reducible assumption|(simp only [InR] at *;omega)|skip))
      ((try refine CallT.toA ?_); refine callT_m (by first | exact .inl ⟨rfl, rfl⟩ | exact .inr rfl) (by simp [go_sem]) ?_; intro args ha; simp [go_sem] at ha; subst ha; refine ⟨_, L1, ?_⟩; rintro _ rfl; simp [go_sem]; ((repeat' (first|(refine ag_false ?_ ?_ ?_;(focus (simp [go_sem, undef];done));(focus (simp [go_sem];done));simp [go_sem])|(refine ag_x ?_;simp [go_sem, undef])|intro _|refine And.intro ?_ ?_|(apply hKK;clear hKK KK)));all_goals first|refine Hold.mk ?_|omega|with_reducible assumption|(simp only [InR] at *;omega)|skip))
      (refine agc_f (dB true) (by first | exact .inl ⟨rfl, rfl⟩ | exact .inr rfl) ?_ rfl ?_; (intro hc args ha; simp [go_sem] at ha; subst ha; exact L2); simp [go_sem]; ((repeat' (first|(refine ag_false ?_ ?_ ?_;(focus (simp [go_sem, undef];done));(focus (simp [go_sem];done));simp [go_sem])|(refine ag_x ?_;simp [go_sem, undef])|intro _|refine And.intro ?_ ?_|(apply hKK;clear hKK KK)));all_goals first|refine Hold.mk ?_|omega|with_reducible assumption|(simp only [InR] at *;omega)|skip))
      (refine awp_if fun T F hT hF => ?_; simp [go_sem]; refine hT ?_; clear hT hF T F)
      (refine awp_sr fun KK hKK => ?_; simp [go_sem]; ((repeat' (first|(refine ag_x ?_;simp [go_sem])|intro _|refine And.intro ?_ ?_|(apply hKK;clear hKK KK)));all_goals first|refine Hold.mk ?_|omega|with_reducible assumption|(simp only [InR] at *;omega)|skip))
      ((try refine CallT.toA ?_); refine callT_m (by first | exact .inl ⟨rfl, rfl⟩ | exact .inr rfl) (by simp [go_sem]) ?_; intro args ha; simp [go_sem] at ha; subst ha; refine ⟨_, sane_spec, ?_⟩; rintro _ rfl; simp [go_sem]; ((repeat' (first|(refine ag_x ?_;simp [go_sem])|intro _|refine And.intro ?_ ?_|(apply hKK;clear hKK KK)));all_goals first|refine Hold.mk ?_|omega|with_reducible assumption|(simp only [InR] at *;omega)|skip))
      (refine awp_ret ?_; simp [go_sem])
    · have h2' : decide (6000 ≤ R.length + 1) = false := by simpa using h2
      rw [h2'] at L2
      rename_i g1
      (refine awp_sr fun KK hKK => ?_; simp [go_sem]; ((repeat' (first|(refine ag_x ?_;simp [go_sem])|intro _|refine And.intro ?_ ?_|(apply hKK;clear hKK KK)));all_goals first|refine Hold.mk ?_|omega|with_reducible assumption|(simp only [InR] at *;omega)|skip))
      ((try refine CallT.toA ?_); refine callT_m (by first | exact .inl ⟨rfl, rfl⟩ | exact .inr rfl) (by simp [go_sem]) ?_; intro args ha; simp [go_sem] at ha; subst ha; refine ⟨_, L1, ?_⟩; rintro _ rfl; simp [go_sem]; ((repeat' (first|(refine ag_x ?_;simp [go_sem])|intro _|refine And.intro ?_ ?_|(apply hKK;clear hKK KK)));all_goals first|refine Hold.mk ?_|omega|with_reducible assumption|(simp only [InR] at *;omega)|skip))
      (refine agc_f (dB false) (by first | exact .inl ⟨rfl, rfl⟩ | exact .inr rfl) ?_ rfl ?_; (intro hc args ha; simp [go_sem] at ha; subst ha; exact L2); simp [go_sem]; ((repeat' (first|(refine ag_x ?_;simp [go_sem])|intro _|refine And.intro ?_ ?_|(apply hKK;clear hKK KK)));all_goals first|refine Hold.mk ?_|omega|with_reducible assumption|(simp only [InR] at *;omega)|skip))
      (refine awp_if fun T F hT hF => ?_; simp [go_sem]; refine BR.intro (fun h3 => hT ?_) (fun h3 => hF ?_); all_goals clear hT hF T F; try simp at h3)
      · (refine awp_sr fun KK hKK => ?_; simp [go_sem]; ((repeat' (first|(refine ag_x ?_;simp [go_sem])|intro _|refine And.intro ?_ ?_|(apply hKK;clear hKK KK)));all_goals first|refine Hold.mk ?_|omega|with_reducible assumption|(simp only [InR] at *;omega)|skip))
        ((try refine CallT.toA ?_); refine callT_m (by first | exact .inl ⟨rfl, rfl⟩ | exact .inr rfl) (by simp [go_sem]) ?_; intro args ha; simp [go_sem] at ha; subst ha; refine ⟨_, sane_spec, ?_⟩; rintro _ rfl; simp [go_sem]; ((repeat' (first|(refine ag_x ?_;simp [go_sem])|intro _|refine And.intro ?_ ?_|(apply hKK;clear hKK KK)));all_goals first|refine Hold.mk ?_|omega|with_reducible assumption|(simp only [InR] at *;omega)|skip))
        (refine awp_ret ?_; simp [go_sem])
      · refine awp_skip ?_
        refine small (by omega) (by omega) (by omega) _ g1 ?_
        (refine cov_of ?_ ?_ <;> simp [go_sem])
end Go.Proofs.YtjdccagkafnbfaaGreatDoor
