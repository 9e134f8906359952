/- Part of a proof: see the last text. -/
import Derived.Test.YtjdccagkafnbfaaGreatDoorVH
import Derived.Test.YtjdccagkafnbfaaGreatDoorVF
import Derived.Test.YtjdccagkafnbfaaGreatDoorMC
set_option linter.unusedVariables false
set_option linter.unusedSimpArgs false
namespace Go.Proofs.YtjdccagkafnbfaaGreatDoor
open Go.Eng Go.Wh Go.Ver
set_option maxRecDepth 20000
set_option linter.unusedSimpArgs false
set_option linter.unusedVariables false
attribute [local irreducible] AG CallA CallT AWp PCall ACall AgC
theorem Made_md (n : Int) (h : InR n) : PCall Tryz.prog 9 [dI n] fun r => r = dS (mdV (un n)) := Made_spec n h.1 h.2
theorem best_na (L : List (List UInt8)) (ha : allV L = true) (hl : L.length ≤ 40) (hm : ∀ s ∈ L, ∃ u, s = mdV u) : PCall Tryz.prog 19 [dSs L, dS [33, 61, 32, 57, 46, 97]] fun x => x = .tup [dI (bestN L naC L.length), dI 0] := by
  have h := Best_spec L [33, 61, 32, 57, 46, 97] (fun s hs => by obtain ⟨u, rfl⟩ := hm s hs; have := mdV_len u; omega) (by omega) (by simp)
  unfold bestP bestC at h
  rw [condsP_of naC_conds, naC_conds, ha] at h
  simp only [Option.isSome_some, Bool.and_self, if_true] at h
  rw [if_neg (by omega), if_neg (by omega)] at h
  exact h
theorem Compare_md {x y : List UInt8} (hx : (readV x).isSome = true) (hy : (readV y).isSome = true) : PCall Tryz.prog 11 [dS x, dS y] fun r => r = .tup [dI (cV x y), dI 0] := by
  obtain ⟨e1, _, _, h1⟩ := read_ok hx
  obtain ⟨e2, _, _, h2⟩ := read_ok hy
  have := Compare_of e1 e2 (by omega) (by omega)
  exact this
set_option maxHeartbeats 16000000 in
theorem sorts_spec (l : List Int) (hl : l.length ≤ 9223372036854775807) (hr : ∀ n ∈ l, InR n) : PCall Tryz.prog 8 [dIs l] fun r => r = dB true := by 
  refine pcall_of Tryz.func8 rfl rfl Tryz.ntmps8 (rs := [.tmp 2]) (tys := [4]) rfl rfl (by simp) ?_
  have hst := fun i u => @mdL_step (l.map un) i u
  have hlen := fun i => @mdL_len (l.map un) i
  have z := mdL_zero (l.map un)
  have hmm := fun i s => @mdL_mem (l.map un) i s
  have hav := mdL_all (l.map un)
  have hml : (l.map un).length = l.length := by simp
  have hat : ∀ (i : Nat) (n : Int), l[i]? = some n → (l.map un)[i]? = some (un n) := fun i n h => by rw [List.getElem?_map, h]; rfl
  generalize hM : mdL (l.map un) = md at *
  rw [hml] at hlen
  (refine awp_sr fun KK hKK => ?_; simp [go_sem]; ((repeat' (first|(refine ag_x ?_;simp [go_sem])|intro _|refine And.intro ?_ ?_|(apply hKK;clear hKK KK)));all_goals first|refine Hold.mk ?_|omega|with_reducible assumption|(simp only [InR] at *;omega)|skip))
  (refine awp_sr fun KK hKK => ?_; simp [go_sem]; ((repeat' (first|(refine ag_x ?_;simp [go_sem])|intro _|refine And.intro ?_ ?_|(apply hKK;clear hKK KK)));all_goals first|refine Hold.mk ?_|omega|with_reducible assumption|(simp only [InR] at *;omega)|skip))
  refine awp_nilslot 3 3 9 1 rfl fun g3 => ?_
  simp only [go_sem]
  refine awp_seq_k fun K1 hK1 => ?_
  (refine awp_sr fun KK hKK => ?_; simp [go_sem]; ((repeat' (first|(refine ag_x ?_;simp [go_sem])|intro _|refine And.intro ?_ ?_|(apply hKK;clear hKK KK)));all_goals first|refine Hold.mk ?_|omega|with_reducible assumption|(simp only [InR] at *;omega)|skip))
  refine awp_block ?_
  refine awp_loop (σ := Nat × Nat) (fun x => ⟨[(0, dIs l), (3, .own 3 x.2), (4, dI x.1)], [(3, x.2, .row 9 1 ((md x.1).map cS))]⟩) (fun x => x.1 ≤ l.length ∧ x.1 ≤ 30) (fun x => 30 - x.1) (0, g3) ?_ ?_ ?_
  · (refine cov_of ?_ ?_ <;> simp [go_sem, z])
  · simp
  rintro ⟨i, g⟩ ⟨hi, hi2⟩
  simp only at hi hi2
  refine awp_seq_k fun K2 hK2 => ?_
  have exitK : Cov (⟨[(3, .own 3 g)], [(3, g, .row 9 1 ((md i).map cS))]⟩ : St) ⟨[(3, .own 3 g)], [(3, g, .row 9 1 ((md i).map cS))]⟩ → ∀ S', Cov S' ⟨[(3, .own 3 g)], [(3, g, .row 9 1 ((md i).map cS))]⟩ → K1 S' := fun _ S' hS => by
    refine hK1 _ ?_
    refine awp_cov hS ?_; clear hS
    have hLl := hlen i hi
    have hLm := hmm i
    have hLv := hav i
    generalize md i = L at *
    have hLr : ∀ s ∈ L, (readV s).isSome = true := allV_mem hLv
    have SS := Sort_spec L (fun s hs => by obtain ⟨u, rfl⟩ := hLm s hs; have := mdV_len u; omega) (by omega)
    unfold sortP codeP at SS
    rw [hLv] at SS
    simp only [if_true] at SS
    have BB := best_na L hLv (by omega) hLm
    have hsl := sort_len (lt := ltC cV) L
    have hsm := fun y => @sort_mem _ (ltC cV) L y
    have hss := sort_srt wk_cV L
    have hbl := bestN_lt L naC L.length
    have hbt := bestN_top (l := L) (cs := naC) (fun s hs => by obtain ⟨u, rfl⟩ := hLm s hs; exact naC_meets u) L.length (Nat.le_refl _)
    generalize sortL (ltC cV) L = M at *
    have hMr : ∀ s ∈ M, (readV s).isSome = true := fun s hs => hLr s ((hsm s).1 hs)
    generalize hb : bestN L naC L.length = b at *
    refine awp_frzrow 3 rfl rfl ?_
    simp only [go_sem]
    (refine awp_sr fun KK hKK => ?_; simp [go_sem]; ((repeat' (first|(refine ag_x ?_;simp [go_sem])|intro _|refine And.intro ?_ ?_|(apply hKK;clear hKK KK)));all_goals first|refine Hold.mk ?_|omega|with_reducible assumption|(simp only [InR] at *;omega)|skip))
    ((try refine CallT.toA ?_); refine callT_m (by first | exact .inl ⟨rfl, rfl⟩ | exact .inr rfl) (by simp [go_sem]) ?_; intro args ha; simp [go_sem] at ha; subst ha; refine ⟨_, SS, ?_⟩; rintro _ rfl; simp [go_sem]; ((repeat' (first|(refine ag_x ?_;simp [go_sem])|intro _|refine And.intro ?_ ?_|(apply hKK;clear hKK KK)));all_goals first|refine Hold.mk ?_|omega|with_reducible assumption|(simp only [InR] at *;omega)|skip))
    refine awp_seq_k fun K5 hK5 => ?_
    have e1 : (M.length : Int) = L.length := by omega
    (refine awp_sr fun KK hKK => ?_; simp [go_sem, e1]; ((repeat' (first|(refine ag_x ?_;simp [go_sem, e1])|intro _|refine And.intro ?_ ?_|(apply hKK;clear hKK KK)));all_goals first|refine Hold.mk ?_|omega|with_reducible assumption|(simp only [InR] at *;omega)|skip))
    (refine awp_if fun T F hT hF => ?_; simp [go_sem]; refine hF ?_; clear hT hF T F)
    refine awp_skip ?_
    refine hK5 _ ?_; clear hK5
    refine awp_seq_k fun K7 hK7 => ?_
    (refine awp_sr fun KK hKK => ?_; simp [go_sem]; ((repeat' (first|(refine ag_x ?_;simp [go_sem])|intro _|refine And.intro ?_ ?_|(apply hKK;clear hKK KK)));all_goals first|refine Hold.mk ?_|omega|with_reducible assumption|(simp only [InR] at *;omega)|skip))
    refine awp_block ?_
    refine awp_loop (σ := Nat) (fun k => ⟨[(3, dSs L), (5, dSs M), (7, dI k)], []⟩) (fun k => 1 ≤ k ∧ k ≤ 31) (fun k => 31 - k) 1 ?_ ?_ ?_
    · (refine cov_of ?_ ?_ <;> simp [go_sem])
    · omega
    intro k hk
    refine awp_seq_k fun K8 hK8 => ?_
    (refine awp_sr fun KK hKK => ?_; simp [go_sem]; ((repeat' (first|(refine ag_x ?_;simp [go_sem])|intro _|refine And.intro ?_ ?_|(apply hKK;clear hKK KK)));all_goals first|refine Hold.mk ?_|omega|with_reducible assumption|(simp only [InR] at *;omega)|skip))
    (refine awp_if fun T F hT hF => ?_; simp [go_sem]; refine BR.intro (fun h9 => hT ?_) (fun h9 => hF ?_); all_goals clear hT hF T F; try simp at h9) 
    · refine awp_skip ?_
      refine hK8 _ ?_; clear hK8
      obtain ⟨k, rfl⟩ : ∃ k', k = k' + 1 := ⟨k - 1, by omega⟩
      obtain ⟨x, hx⟩ : ∃ x, M[k]? = some x := ⟨_, List.getElem?_eq_getElem (by omega)⟩
      obtain ⟨y, hy⟩ : ∃ y, M[k + 1]? = some y := ⟨_, List.getElem?_eq_getElem (by omega)⟩
      have C := Compare_md (hMr x (List.mem_of_getElem? hx)) (hMr y (List.mem_of_getElem? hy))
      have hle : cV x y ≤ 0 := by
        have := List.pairwise_iff_getElem.1 hss k (k + 1) (by omega) (by omega) (by omega)
        rw [List.getElem?_eq_getElem (by omega)] at hx hy
        cases hx; cases hy
        unfold ltC at this
        have h2 := @cV_anti M[k] M[k + 1]
        simp at this
        omega
      have i1 : ((k : Int) + 1 - 1).toNat = k := by omega
      have i2 : ((k : Int) + 1).toNat = k + 1 := by omega
      refine awp_seq_k fun K10 hK10 => ?_
      refine awp_block ?_
      ((refine awp_dr (.qs [0, 1, 2, 3, 5, 6, 7, 4, 8] (.one 9 (.qs [10, 11, 12, 13, 14] (.nil)))) (by kernel_rfl) ?_ ?_ ?_ ?_); (kernel_rfl); (exact (by decide +kernel)); (kernel_rfl); intro KK hKK; ((repeat' (first|(refine ag_x ?_;simp [go_sem, i1, i2, hx, hy])|refine adr_nil ?_|refine adr_two ?_ ?_|refine adr_kq ?_ ?_|refine adr_three ?_ ?_ ?_|refine adr_four ?_ ?_ ?_ ?_|refine adr_kp2 ?_ ?_|refine adr_kp3 ?_ ?_ ?_|((first|refine adr_qs fun KK hKK=>?_|refine adr_y fun KK hKK=>?_);simp [go_sem, i1, i2, hx, hy])|intro _|refine And.intro ?_ ?_|(apply hKK;clear hKK KK)));all_goals first|refine Hold.mk ?_|omega|with_reducible assumption|(simp only [InR] at *;omega)|skip))
      ((try refine CallT.toA ?_); refine callT_m (by first | exact .inl ⟨rfl, rfl⟩ | exact .inr rfl) (by simp [go_sem]) ?_; intro args ha; simp [go_sem] at ha; subst ha; refine ⟨_, C, ?_⟩; rintro _ rfl; simp [go_sem]; ((repeat' (first|(refine ag_x ?_;simp [go_sem])|refine adr_nil ?_|refine adr_two ?_ ?_|refine adr_kq ?_ ?_|refine adr_three ?_ ?_ ?_|refine adr_four ?_ ?_ ?_ ?_|refine adr_kp2 ?_ ?_|refine adr_kp3 ?_ ?_ ?_|((first|refine adr_qs fun KK hKK=>?_|refine adr_y fun KK hKK=>?_);simp [go_sem])|intro _|refine And.intro ?_ ?_|(apply hKK;clear hKK KK)));all_goals first|refine Hold.mk ?_|omega|with_reducible assumption|(simp only [InR] at *;omega)|skip))
      generalize cV x y = n at *
      have hn : ¬ 0 < n := by omega
      (refine awp_sr fun KK hKK => ?_; simp [go_sem, hn]; ((repeat' (first|(refine ag_x ?_;simp [go_sem, hn])|intro _|refine And.intro ?_ ?_|(apply hKK;clear hKK KK)));all_goals first|refine Hold.mk ?_|omega|with_reducible assumption|(simp only [InR] at *;omega)|skip))
      (refine awp_if fun T F hT hF => ?_; simp [go_sem]; refine hF ?_; clear hT hF T F)
      refine awp_skip ?_
      refine hK10 _ ?_; clear hK10
      (refine awp_r fun KK hKK => ?_; simp [go_sem]; ((repeat' (first|(refine ag_x ?_;simp [go_sem])|intro _|refine And.intro ?_ ?_|(apply hKK;clear hKK KK)));all_goals first|refine Hold.mk ?_|omega|with_reducible assumption|(simp only [InR] at *;omega)|skip))
      refine ⟨k + 2, ?_, by omega, by omega⟩
      (refine cov_of ?_ ?_ <;> simp [go_sem])
      all_goals omega
    · refine awp_exit ?_
      simp only [go_sem]
      refine hK7 _ ?_; clear hK7
      (refine awp_sr fun KK hKK => ?_; simp [go_sem]; ((repeat' (first|(refine ag_x ?_;simp [go_sem])|intro _|refine And.intro ?_ ?_|(apply hKK;clear hKK KK)));all_goals first|refine Hold.mk ?_|omega|with_reducible assumption|(simp only [InR] at *;omega)|skip))
      ((try refine CallT.toA ?_); refine callT_m (by first | exact .inl ⟨rfl, rfl⟩ | exact .inr rfl) (by simp [go_sem]) ?_; intro args ha; simp [go_sem] at ha; subst ha; refine ⟨_, BB, ?_⟩; rintro _ rfl; simp [go_sem]; ((repeat' (first|(refine ag_x ?_;simp [go_sem])|intro _|refine And.intro ?_ ?_|(apply hKK;clear hKK KK)));all_goals first|refine Hold.mk ?_|omega|with_reducible assumption|(simp only [InR] at *;omega)|skip))
      refine awp_seq_k fun K12 hK12 => ?_
      by_cases hL0 : L.length = 0
      · have hbn : b = -1 := by omega
        subst hbn
        have hL0' : (L.length : Int) = 0 := by omega
        (refine awp_sr fun KK hKK => ?_; simp [go_sem, hL0']; ((repeat' (first|(refine ag_x ?_;simp [go_sem, hL0'])|intro _|refine And.intro ?_ ?_|(apply hKK;clear hKK KK)));all_goals first|refine Hold.mk ?_|omega|with_reducible assumption|(simp only [InR] at *;omega)|skip))
        (refine awp_if fun T F hT hF => ?_; simp [go_sem]; refine hF ?_; clear hT hF T F)
        refine awp_skip ?_
        refine hK12 _ ?_; clear hK12
        refine awp_seq_k fun K14 hK14 => ?_
        (refine awp_sr fun KK hKK => ?_; simp [go_sem]; ((repeat' (first|(refine ag_x ?_;simp [go_sem])|intro _|refine And.intro ?_ ?_|(apply hKK;clear hKK KK)));all_goals first|refine Hold.mk ?_|omega|with_reducible assumption|(simp only [InR] at *;omega)|skip))
        (refine awp_if fun T F hT hF => ?_; simp [go_sem]; refine hF ?_; clear hT hF T F)
        refine awp_skip ?_
        refine hK14 _ ?_; clear hK14
        (refine awp_sr fun KK hKK => ?_; simp [go_sem]; ((repeat' (first|(refine ag_x ?_;simp [go_sem])|intro _|refine And.intro ?_ ?_|(apply hKK;clear hKK KK)));all_goals first|refine Hold.mk ?_|omega|with_reducible assumption|(simp only [InR] at *;omega)|skip))
        ((try refine CallT.toA ?_); refine callT_m (by first | exact .inl ⟨rfl, rfl⟩ | exact .inr rfl) (by simp [go_sem]) ?_; intro args ha; simp [go_sem] at ha; subst ha; refine ⟨_, sane_spec, ?_⟩; rintro _ rfl; simp [go_sem]; ((repeat' (first|(refine ag_x ?_;simp [go_sem])|intro _|refine And.intro ?_ ?_|(apply hKK;clear hKK KK)));all_goals first|refine Hold.mk ?_|omega|with_reducible assumption|(simp only [InR] at *;omega)|skip))
        (refine awp_ret ?_; simp [go_sem])
      · obtain ⟨b0, btop⟩ := hbt (by omega)
        obtain ⟨n, rfl⟩ : ∃ n : Nat, b = n := ⟨b.toNat, by omega⟩
        obtain ⟨x, hx⟩ : ∃ x, L[n]? = some x := ⟨_, List.getElem?_eq_getElem (by omega)⟩
        have hgd : L.getD ((n : Int)).toNat [] = x := by simp [hx]
        rw [hgd] at btop
        obtain ⟨y, hy⟩ : ∃ y, M[M.length - 1]? = some y := ⟨_, List.getElem?_eq_getElem (by omega)⟩
        have hym := List.mem_of_getElem? hy
        have hxm := List.mem_of_getElem? hx
        have C := Compare_md (hLr x hxm) (hMr y hym)
        have c1 : cV y x ≤ 0 := by
          obtain ⟨j, hj, e⟩ := List.getElem_of_mem ((hsm y).1 hym)
          exact btop j y hj (by rw [List.getElem?_eq_getElem hj, e])
        have c2 : cV x y ≤ 0 := by
          obtain ⟨j, hj, e⟩ := List.getElem_of_mem ((hsm x).2 hxm)
          have h2 := @cV_anti x y
          by_cases hjl : j = M.length - 1
          · subst hjl
            rw [List.getElem?_eq_getElem hj] at hy
            cases hy
            rw [e] at *
            have := @cV_anti x x
            omega
          · have := List.pairwise_iff_getElem.1 hss j (M.length - 1) hj (by omega) (by omega)
            rw [List.getElem?_eq_getElem (by omega)] at hy
            have hy' := Option.some.inj hy
            unfold ltC at this
            rw [hy', e] at this
            simp at this
            omega
        have c3 : cV x y = 0 := by have := @cV_anti x y; omega
        rw [c3] at C
        have g1 : ¬ (n : Int) < 0 := by omega
        have g2 : ¬ L = [] := fun q => hL0 (by rw [q]; rfl)
        have g3 : ¬ (L.length : Int) ≤ n := by omega
        have g4 : (0 : Int) ≤ n := by omega
        have i1 : ((M.length : Int) - 1).toNat = M.length - 1 := by omega
        (refine awp_sr fun KK hKK => ?_; simp [go_sem, g1, g2, g3]; ((repeat' (first|(refine ag_x ?_;simp [go_sem, g1, g2, g3])|intro _|refine And.intro ?_ ?_|(apply hKK;clear hKK KK)));all_goals first|refine Hold.mk ?_|omega|with_reducible assumption|(simp only [InR] at *;omega)|skip))
        (refine awp_if fun T F hT hF => ?_; simp [go_sem]; refine hF ?_; clear hT hF T F)
        refine awp_skip ?_
        refine hK12 _ ?_; clear hK12
        refine awp_seq_k fun K14 hK14 => ?_
        (refine awp_sr fun KK hKK => ?_; simp [go_sem]; ((repeat' (first|(refine ag_x ?_;simp [go_sem])|intro _|refine And.intro ?_ ?_|(apply hKK;clear hKK KK)));all_goals first|refine Hold.mk ?_|omega|with_reducible assumption|(simp only [InR] at *;omega)|skip))
        (refine awp_if fun T F hT hF => ?_; simp [go_sem, g4]; refine hT ?_; clear hT hF T F)
        ((refine awp_dr (.qs [0, 1, 2, 4, 5, 6, 7, 8, 3, 9] (.one 10 (.qs [11, 12, 13, 14, 15] (.nil)))) (by kernel_rfl) ?_ ?_ ?_ ?_); (kernel_rfl); (exact (by decide +kernel)); (kernel_rfl); intro KK hKK; ((repeat' (first|(refine ag_x ?_;simp [go_sem, i1, hx, hy])|refine adr_nil ?_|refine adr_two ?_ ?_|refine adr_kq ?_ ?_|refine adr_three ?_ ?_ ?_|refine adr_four ?_ ?_ ?_ ?_|refine adr_kp2 ?_ ?_|refine adr_kp3 ?_ ?_ ?_|((first|refine adr_qs fun KK hKK=>?_|refine adr_y fun KK hKK=>?_);simp [go_sem, i1, hx, hy])|intro _|refine And.intro ?_ ?_|(apply hKK;clear hKK KK)));all_goals first|refine Hold.mk ?_|omega|with_reducible assumption|(simp only [InR] at *;omega)|skip))
        ((try refine CallT.toA ?_); refine callT_m (by first | exact .inl ⟨rfl, rfl⟩ | exact .inr rfl) (by simp [go_sem]) ?_; intro args ha; simp [go_sem] at ha; subst ha; refine ⟨_, C, ?_⟩; rintro _ rfl; simp [go_sem]; ((repeat' (first|(refine ag_x ?_;simp [go_sem])|refine adr_nil ?_|refine adr_two ?_ ?_|refine adr_kq ?_ ?_|refine adr_three ?_ ?_ ?_|refine adr_four ?_ ?_ ?_ ?_|refine adr_kp2 ?_ ?_|refine adr_kp3 ?_ ?_ ?_|((first|refine adr_qs fun KK hKK=>?_|refine adr_y fun KK hKK=>?_);simp [go_sem])|intro _|refine And.intro ?_ ?_|(apply hKK;clear hKK KK)));all_goals first|refine Hold.mk ?_|omega|with_reducible assumption|(simp only [InR] at *;omega)|skip))
        (refine awp_sr fun KK hKK => ?_; simp [go_sem]; ((repeat' (first|(refine ag_x ?_;simp [go_sem])|intro _|refine And.intro ?_ ?_|(apply hKK;clear hKK KK)));all_goals first|refine Hold.mk ?_|omega|with_reducible assumption|(simp only [InR] at *;omega)|skip))
        (refine awp_if fun T F hT hF => ?_; simp [go_sem]; refine hF ?_; clear hT hF T F)
        refine awp_skip ?_
        refine hK14 _ ?_; clear hK14
        (refine awp_sr fun KK hKK => ?_; simp [go_sem]; ((repeat' (first|(refine ag_x ?_;simp [go_sem])|intro _|refine And.intro ?_ ?_|(apply hKK;clear hKK KK)));all_goals first|refine Hold.mk ?_|omega|with_reducible assumption|(simp only [InR] at *;omega)|skip))
        ((try refine CallT.toA ?_); refine callT_m (by first | exact .inl ⟨rfl, rfl⟩ | exact .inr rfl) (by simp [go_sem]) ?_; intro args ha; simp [go_sem] at ha; subst ha; refine ⟨_, sane_spec, ?_⟩; rintro _ rfl; simp [go_sem]; ((repeat' (first|(refine ag_x ?_;simp [go_sem])|intro _|refine And.intro ?_ ?_|(apply hKK;clear hKK KK)));all_goals first|refine Hold.mk ?_|omega|with_reducible assumption|(simp only [InR] at *;omega)|skip))
        (refine awp_ret ?_; simp [go_sem])
  clear hK1
  by_cases h1 : i < l.length
  · have h1' : (i : Int) < l.length := by omega
    (refine awp_sr fun KK hKK => ?_; simp [go_sem, h1']; ((repeat' (first|(refine ag_x ?_;simp [go_sem, h1'])|intro _|refine And.intro ?_ ?_|(apply hKK;clear hKK KK)));all_goals first|refine Hold.mk ?_|omega|with_reducible assumption|(simp only [InR] at *;omega)|skip))
    (refine awp_if fun T F hT hF => ?_; simp [go_sem]; refine BR.intro (fun h3 => hT ?_) (fun h3 => hF ?_); all_goals clear hT hF T F; try simp at h3) 
    · refine awp_skip ?_
      refine hK2 _ ?_; clear hK2
      obtain ⟨n, hx⟩ : ∃ n, l[i]? = some n := ⟨_, List.getElem?_eq_getElem h1⟩
      have MM := Made_md n (hr n (List.mem_of_getElem? hx))
      have hst1 := hst i (un n) (hat i n hx)
      have hl1 := hlen i hi
      refine awp_seq_k fun K4 hK4 => ?_
      refine awp_block ?_
      (refine awp_r fun KK hKK => ?_; simp [go_sem, hx]; ((repeat' (first|(refine ag_x ?_;simp [go_sem, hx])|intro _|refine And.intro ?_ ?_|(apply hKK;clear hKK KK)));all_goals first|refine Hold.mk ?_|omega|with_reducible assumption|(simp only [InR] at *;omega)|skip))
      ((try refine CallT.toA ?_); refine callT_m (by first | exact .inl ⟨rfl, rfl⟩ | exact .inr rfl) (by simp [go_sem]) ?_; intro args ha; simp [go_sem] at ha; subst ha; refine ⟨_, MM, ?_⟩; rintro _ rfl; simp [go_sem]; ((repeat' (first|(refine ag_x ?_;simp [go_sem])|intro _|refine And.intro ?_ ?_|(apply hKK;clear hKK KK)));all_goals first|refine Hold.mk ?_|omega|with_reducible assumption|(simp only [InR] at *;omega)|skip))
      rename_i g30 g'
      refine hK4 _ ?_; clear hK4
      (refine awp_r fun KK hKK => ?_; simp [go_sem]; ((repeat' (first|(refine ag_x ?_;simp [go_sem])|intro _|refine And.intro ?_ ?_|(apply hKK;clear hKK KK)));all_goals first|refine Hold.mk ?_|omega|with_reducible assumption|(simp only [InR] at *;omega)|skip))
      refine ⟨(i + 1, g'), ?_, ⟨by simp only; omega, by simp only; omega⟩, by simp only; omega⟩
      simp only [hst1]
      (refine cov_of ?_ ?_ <;> simp [go_sem])
    · refine awp_exit ?_
      simp only [go_sem]
      refine exitK (by (refine cov_of ?_ ?_ <;> simp [go_sem])) _ ?_
      (refine cov_of ?_ ?_ <;> simp [go_sem])
  · have h1' : ¬ (i : Int) < l.length := by omega
    (refine awp_sr fun KK hKK => ?_; simp [go_sem, h1']; ((repeat' (first|(refine ag_false (by simp [go_sem, undef, h1']) (by simp [go_sem]) ?_;simp [go_sem, h1'])|intro _|refine And.intro ?_ ?_|(apply hKK;clear hKK KK)));all_goals first|refine Hold.mk ?_|omega|with_reducible assumption|(simp only [InR] at *;omega)|skip))
    (refine awp_if fun T F hT hF => ?_; simp [go_sem]; refine hF ?_; clear hT hF T F)
    refine awp_exit ?_
    simp only [go_sem]
    refine exitK (by (refine cov_of ?_ ?_ <;> simp [go_sem])) _ ?_
    (refine cov_of ?_ ?_ <;> simp [go_sem])
end Go.Proofs.YtjdccagkafnbfaaGreatDoor
