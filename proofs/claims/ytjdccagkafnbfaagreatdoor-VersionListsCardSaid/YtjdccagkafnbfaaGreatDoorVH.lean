/- Part of a proof: see the last text. -/
import Derived.Test.YtjdccagkafnbfaaGreatDoorVG
import Derived.Test.YtjdccagkafnbfaaGreatDoorVE
import Derived.Test.YtjdccagkafnbfaaGreatDoorMC
set_option linter.unusedVariables false
set_option linter.unusedSimpArgs false
namespace Go.Proofs.YtjdccagkafnbfaaGreatDoor
open Go.Eng Go.Wh Go.Ver
set_option maxRecDepth 20000
set_option linter.unusedSimpArgs false
set_option linter.unusedVariables false
attribute [local irreducible] AG CallA CallT AWp PCall ACall AgC
theorem wk_cV : Weakly (ltC cV) where
  anti := fun x y h => by
    unfold ltC cV at *
    have := cmpV_neg (readP x) (readP y)
    simp at h ⊢
    omega
  neg := fun x y z h1 h2 => by
    unfold ltC cV at *
    simp at h1 h2 ⊢
    have a1 := cmpV_neg (readP x) (readP y)
    have a2 := cmpV_neg (readP y) (readP z)
    have a3 := cmpV_neg (readP x) (readP z)
    have := cmpV_trans (a := readP x) (b := readP y) (c := readP z) (by omega) (by omega)
    omega
theorem cmpS_spec (x y : List UInt8) (hx : (readV x).isSome = true) (hy : (readV y).isSome = true) : PCall Tryz.prog 58 [dS x, dS y] fun r => r = dI (cV x y) := by 
  refine pcall_of Tryz.func58 rfl rfl Tryz.ntmps58 (rs := [.tmp 4]) (tys := [3]) rfl rfl (by simp) ?_
  obtain ⟨_, x1, _, x2⟩ := read_ok hx
  obtain ⟨_, y1, _, y2⟩ := read_ok hy
  have R1 := read_spec x (by omega)
  have R2 := read_spec y (by omega)
  have C := compare_spec (readP x) (readP y) (by have := x1.1; omega) (by have := y1.1; omega)
  unfold cV
  (refine awp_sr fun KK hKK => ?_; simp [go_sem]; ((repeat' (first|(refine ag_x ?_;simp [go_sem])|intro _|refine And.intro ?_ ?_|(apply hKK;clear hKK KK)));all_goals first|refine Hold.mk ?_|omega|with_reducible assumption|(simp only [InR] at *;omega)|skip))
  (refine awp_sr fun KK hKK => ?_; simp [go_sem]; ((repeat' (first|(refine ag_x ?_;simp [go_sem])|intro _|refine And.intro ?_ ?_|(apply hKK;clear hKK KK)));all_goals first|refine Hold.mk ?_|omega|with_reducible assumption|(simp only [InR] at *;omega)|skip))
  ((try refine CallT.toA ?_); refine callT_m (by first | exact .inl ⟨rfl, rfl⟩ | exact .inr rfl) (by simp [go_sem]) ?_; intro args ha; simp [go_sem] at ha; subst ha; refine ⟨_, R1, ?_⟩; rintro _ rfl; simp [go_sem]; ((repeat' (first|(refine ag_x ?_;simp [go_sem])|intro _|refine And.intro ?_ ?_|(apply hKK;clear hKK KK)));all_goals first|refine Hold.mk ?_|omega|with_reducible assumption|(simp only [InR] at *;omega)|skip))
  (refine awp_sr fun KK hKK => ?_; simp [go_sem]; ((repeat' (first|(refine ag_x ?_;simp [go_sem])|intro _|refine And.intro ?_ ?_|(apply hKK;clear hKK KK)));all_goals first|refine Hold.mk ?_|omega|with_reducible assumption|(simp only [InR] at *;omega)|skip))
  ((try refine CallT.toA ?_); refine callT_m (by first | exact .inl ⟨rfl, rfl⟩ | exact .inr rfl) (by simp [go_sem]) ?_; intro args ha; simp [go_sem] at ha; subst ha; refine ⟨_, R2, ?_⟩; rintro _ rfl; simp [go_sem]; ((repeat' (first|(refine ag_x ?_;simp [go_sem])|intro _|refine And.intro ?_ ?_|(apply hKK;clear hKK KK)));all_goals first|refine Hold.mk ?_|omega|with_reducible assumption|(simp only [InR] at *;omega)|skip))
  (refine awp_sr fun KK hKK => ?_; simp [go_sem]; ((repeat' (first|(refine ag_x ?_;simp [go_sem])|intro _|refine And.intro ?_ ?_|(apply hKK;clear hKK KK)));all_goals first|refine Hold.mk ?_|omega|with_reducible assumption|(simp only [InR] at *;omega)|skip))
  ((try refine CallT.toA ?_); refine callT_m (by first | exact .inl ⟨rfl, rfl⟩ | exact .inr rfl) (by simp [go_sem]) ?_; intro args ha; simp [go_sem] at ha; subst ha; refine ⟨_, C, ?_⟩; rintro _ rfl; simp [go_sem]; ((repeat' (first|(refine ag_x ?_;simp [go_sem])|intro _|refine And.intro ?_ ?_|(apply hKK;clear hKK KK)));all_goals first|refine Hold.mk ?_|omega|with_reducible assumption|(simp only [InR] at *;omega)|skip))
  (refine awp_ret ?_; simp [go_sem])
/-- the versions of a list -/
def rowsV (l : List (List UInt8)) : List (List D) := l.map fun s => [dGs (readP s)]
theorem rowsV_snoc {l : List (List UInt8)} {i : Nat} {s : List UInt8} (h : l[i]? = some s) : rowsV (l.take (i + 1)) = rowsV (l.take i) ++ [[dGs (readP s)]] := by
  unfold rowsV; rw [List.take_add_one, h]; simp
theorem rowsV_len (l : List (List UInt8)) : (rowsV l).length = l.length := by unfold rowsV; simp
theorem rowsV_at {l : List (List UInt8)} {i : Nat} {s : List UInt8} (h : l[i]? = some s) : (rowsV l)[i]? = some [dGs (readP s)] := by unfold rowsV; simp [h]
theorem readAll_spec (l : List (List UInt8)) (hl : ∀ s ∈ l, s.length ≤ 1000000000) (hn : l.length ≤ 1000000000) : PCall Tryz.prog 50 [dSs l] fun r => r = .tup [.sl 1 (if allV l = true then rowsV l else []), dI (codeP (allV l))] := by 
  refine pcall_of Tryz.func50 rfl rfl Tryz.ntmps50 (rs := [.tmp 2, .tmp 3]) (tys := [67, 23]) rfl rfl (by simp) ?_
  have hbad := fun s => @allV_bad l s
  have hst := fun i s => @rowsV_snoc l i s
  have htk := fun i s => @allV_take l i s
  have hrl := fun i => rowsV_len (l.take i)
  have z : rowsV [] = [] := rfl
  have z2 : allV [] = true := rfl
  have hall : allV (l.take l.length) = allV l := by rw [List.take_length]
  have hall2 : rowsV (l.take l.length) = rowsV l := by rw [List.take_length]
  unfold codeP
  generalize hav : allV l = av at *
  (refine awp_sr fun KK hKK => ?_; simp [go_sem]; ((repeat' (first|(refine ag_x ?_;simp [go_sem])|intro _|refine And.intro ?_ ?_|(apply hKK;clear hKK KK)));all_goals first|refine Hold.mk ?_|omega|with_reducible assumption|(simp only [InR] at *;omega)|skip))
  (refine awp_sr fun KK hKK => ?_; simp [go_sem]; ((repeat' (first|(refine ag_x ?_;simp [go_sem])|intro _|refine And.intro ?_ ?_|(apply hKK;clear hKK KK)));all_goals first|refine Hold.mk ?_|omega|with_reducible assumption|(simp only [InR] at *;omega)|skip))
  refine awp_nilslot 4 4 53 1 rfl fun g4 => ?_
  simp only [go_sem]
  refine awp_seq_k fun K1 hK1 => ?_
  (refine awp_sr fun KK hKK => ?_; simp [go_sem]; ((repeat' (first|(refine ag_x ?_;simp [go_sem])|intro _|refine And.intro ?_ ?_|(apply hKK;clear hKK KK)));all_goals first|refine Hold.mk ?_|omega|with_reducible assumption|(simp only [InR] at *;omega)|skip))
  refine awp_block ?_
  refine awp_loop (σ := Nat × Nat) (fun x => ⟨[(4, .own 4 x.2), (9, dSs l), (10, dI l.length), (11, dI x.1)], [(4, x.2, .row 53 1 (rowsV (l.take x.1)))]⟩) (fun x => x.1 ≤ l.length ∧ allV (l.take x.1) = true) (fun x => l.length - x.1) (0, g4) ?_ ?_ ?_
  · (refine cov_of ?_ ?_ <;> simp [go_sem, z])
  · exact ⟨by simp, by simpa using z2⟩
  rintro ⟨i, g⟩ ⟨hi, ha⟩
  simp only at hi ha
  (refine awp_sr fun KK hKK => ?_; simp [go_sem]; ((repeat' (first|(refine ag_x ?_;simp [go_sem])|intro _|refine And.intro ?_ ?_|(apply hKK;clear hKK KK)));all_goals first|refine Hold.mk ?_|omega|with_reducible assumption|(simp only [InR] at *;omega)|skip))
  refine awp_seq_k fun K2 hK2 => ?_
  (refine awp_if fun T F hT hF => ?_; simp [go_sem]; refine BR.intro (fun h3 => hT ?_) (fun h3 => hF ?_); all_goals clear hT hF T F; try simp at h3) 
  · refine awp_skip ?_
    refine hK2 _ ?_; clear hK2
    obtain ⟨s, hx⟩ : ∃ s, l[i]? = some s := ⟨_, List.getElem?_eq_getElem (by omega)⟩
    have hm := List.mem_of_getElem? hx
    have R1 := read_spec s (hl s hm)
    have hb := hbad s hm
    have hst1 := hst i s hx
    have htk1 := htk i s ha hx
    have hrl1 := hrl i
    have hrl2 : (l.take i).length = i := by simp; omega
    generalize readP s = q at *
    generalize hrv : (readV s).isSome = rv at *
    generalize rowsV (l.take i) = rows at *
    refine awp_seq_k fun K4 hK4 => ?_
    refine awp_block ?_
    (refine awp_sr fun KK hKK => ?_; simp [go_sem, hx]; ((repeat' (first|(refine ag_x ?_;simp [go_sem, hx])|intro _|refine And.intro ?_ ?_|(apply hKK;clear hKK KK)));all_goals first|refine Hold.mk ?_|omega|with_reducible assumption|(simp only [InR] at *;omega)|skip))
    (refine awp_sr fun KK hKK => ?_; simp [go_sem]; ((repeat' (first|(refine ag_x ?_;simp [go_sem])|intro _|refine And.intro ?_ ?_|(apply hKK;clear hKK KK)));all_goals first|refine Hold.mk ?_|omega|with_reducible assumption|(simp only [InR] at *;omega)|skip))
    ((try refine CallT.toA ?_); refine callT_m (by first | exact .inl ⟨rfl, rfl⟩ | exact .inr rfl) (by simp [go_sem]) ?_; intro args ha; simp [go_sem] at ha; subst ha; refine ⟨_, R1, ?_⟩; rintro _ rfl; simp [go_sem]; ((repeat' (first|(refine ag_x ?_;simp [go_sem])|intro _|refine And.intro ?_ ?_|(apply hKK;clear hKK KK)));all_goals first|refine Hold.mk ?_|omega|with_reducible assumption|(simp only [InR] at *;omega)|skip))
    refine awp_seq_k fun K5 hK5 => ?_
    (refine awp_sr fun KK hKK => ?_; simp [go_sem]; ((repeat' (first|(refine ag_x ?_;simp [go_sem])|intro _|refine And.intro ?_ ?_|(apply hKK;clear hKK KK)));all_goals first|refine Hold.mk ?_|omega|with_reducible assumption|(simp only [InR] at *;omega)|skip))
    (refine awp_if fun T F hT hF => ?_; simp [go_sem]; refine BR.intro (fun h6 => hT ?_) (fun h6 => hF ?_); all_goals clear hT hF T F; try simp at h6) 
    · (refine awp_sr fun KK hKK => ?_; simp [go_sem]; ((repeat' (first|(refine ag_x ?_;simp [go_sem])|intro _|refine And.intro ?_ ?_|(apply hKK;clear hKK KK)));all_goals first|refine Hold.mk ?_|omega|with_reducible assumption|(simp only [InR] at *;omega)|skip))
      (refine awp_ret ?_; simp [go_sem, hb h6])
    · refine awp_skip ?_
      refine hK5 _ ?_; clear hK5
      (refine awp_r fun KK hKK => ?_; simp [go_sem]; ((repeat' (first|(refine ag_x ?_;simp [go_sem])|intro _|refine And.intro ?_ ?_|(apply hKK;clear hKK KK)));all_goals first|refine Hold.mk ?_|omega|with_reducible assumption|(simp only [InR] at *;omega)|skip))
      rename_i g24 g'
      refine hK4 _ ?_; clear hK4
      (refine awp_r fun KK hKK => ?_; simp [go_sem]; ((repeat' (first|(refine ag_x ?_;simp [go_sem])|intro _|refine And.intro ?_ ?_|(apply hKK;clear hKK KK)));all_goals first|refine Hold.mk ?_|omega|with_reducible assumption|(simp only [InR] at *;omega)|skip))
      refine ⟨(i + 1, g'), ?_, ⟨by simp only; omega, htk1 h6⟩, by simp only; omega⟩
      simp only [hst1]
      (refine cov_of ?_ ?_ <;> simp [go_sem])
  · refine awp_exit ?_
    simp only [go_sem]
    refine hK1 _ ?_; clear hK1
    have : i = l.length := by omega
    subst this
    rw [hall] at ha
    subst ha
    rw [hall2]
    generalize rowsV l = rows at *
    (refine awp_sr fun KK hKK => ?_; simp [go_sem]; ((repeat' (first|(refine ag_x ?_;simp [go_sem])|intro _|refine And.intro ?_ ?_|(apply hKK;clear hKK KK)));all_goals first|refine Hold.mk ?_|omega|with_reducible assumption|(simp only [InR] at *;omega)|skip))
    (refine awp_ret ?_; simp [go_sem])
theorem allValid_spec (l : List (List UInt8)) (hl : ∀ s ∈ l, s.length ≤ 1000000000) (hn : l.length ≤ 1000000000) : PCall Tryz.prog 52 [dSs l] fun r => r = dB (allV l) := by 
  refine pcall_of Tryz.func52 rfl rfl Tryz.ntmps52 (rs := [.tmp 2]) (tys := [4]) rfl rfl (by simp) ?_
  have hbad := fun s => @allV_bad l s
  have htk := fun i s => @allV_take l i s
  have z2 : allV [] = true := rfl
  have hall : allV (l.take l.length) = allV l := by rw [List.take_length]
  generalize hav : allV l = av at *
  (refine awp_sr fun KK hKK => ?_; simp [go_sem]; ((repeat' (first|(refine ag_x ?_;simp [go_sem])|intro _|refine And.intro ?_ ?_|(apply hKK;clear hKK KK)));all_goals first|refine Hold.mk ?_|omega|with_reducible assumption|(simp only [InR] at *;omega)|skip))
  refine awp_seq_k fun K1 hK1 => ?_
  (refine awp_sr fun KK hKK => ?_; simp [go_sem]; ((repeat' (first|(refine ag_x ?_;simp [go_sem])|intro _|refine And.intro ?_ ?_|(apply hKK;clear hKK KK)));all_goals first|refine Hold.mk ?_|omega|with_reducible assumption|(simp only [InR] at *;omega)|skip))
  refine awp_block ?_
  refine awp_loop (σ := Nat) (fun i => ⟨[(0, dSs l), (3, dI i)], []⟩) (fun i => i ≤ l.length ∧ allV (l.take i) = true) (fun i => l.length - i) 0 ?_ ?_ ?_
  · (refine cov_of ?_ ?_ <;> simp [go_sem])
  · exact ⟨by simp, by simpa using z2⟩
  rintro i ⟨hi, ha⟩
  refine awp_seq_k fun K2 hK2 => ?_
  (refine awp_sr fun KK hKK => ?_; simp [go_sem]; ((repeat' (first|(refine ag_x ?_;simp [go_sem])|intro _|refine And.intro ?_ ?_|(apply hKK;clear hKK KK)));all_goals first|refine Hold.mk ?_|omega|with_reducible assumption|(simp only [InR] at *;omega)|skip))
  (refine awp_if fun T F hT hF => ?_; simp [go_sem]; refine BR.intro (fun h3 => hT ?_) (fun h3 => hF ?_); all_goals clear hT hF T F; try simp at h3) 
  · refine awp_skip ?_
    refine hK2 _ ?_; clear hK2
    obtain ⟨s, hx⟩ : ∃ s, l[i]? = some s := ⟨_, List.getElem?_eq_getElem (by omega)⟩
    have hm := List.mem_of_getElem? hx
    have R1 := rValid_spec s (hl s hm)
    have hb := hbad s hm
    have htk1 := htk i s ha hx
    generalize hrv : (readV s).isSome = rv at *
    refine awp_seq_k fun K4 hK4 => ?_
    refine awp_block ?_
    (refine awp_sr fun KK hKK => ?_; simp [go_sem, hx]; ((repeat' (first|(refine ag_x ?_;simp [go_sem, hx])|intro _|refine And.intro ?_ ?_|(apply hKK;clear hKK KK)));all_goals first|refine Hold.mk ?_|omega|with_reducible assumption|(simp only [InR] at *;omega)|skip))
    ((try refine CallT.toA ?_); refine callT_m (by first | exact .inl ⟨rfl, rfl⟩ | exact .inr rfl) (by simp [go_sem]) ?_; intro args ha; simp [go_sem] at ha; subst ha; refine ⟨_, R1, ?_⟩; rintro _ rfl; simp [go_sem]; ((repeat' (first|(refine ag_x ?_;simp [go_sem])|intro _|refine And.intro ?_ ?_|(apply hKK;clear hKK KK)));all_goals first|refine Hold.mk ?_|omega|with_reducible assumption|(simp only [InR] at *;omega)|skip))
    (refine awp_if fun T F hT hF => ?_; simp [go_sem]; refine BR.intro (fun h5 => hT ?_) (fun h5 => hF ?_); all_goals clear hT hF T F; try simp at h5) 
    · (refine awp_sr fun KK hKK => ?_; simp [go_sem]; ((repeat' (first|(refine ag_x ?_;simp [go_sem])|intro _|refine And.intro ?_ ?_|(apply hKK;clear hKK KK)));all_goals first|refine Hold.mk ?_|omega|with_reducible assumption|(simp only [InR] at *;omega)|skip))
      (refine awp_ret ?_; simp [go_sem, hb h5])
    · refine awp_skip ?_
      refine hK4 _ ?_; clear hK4
      (refine awp_r fun KK hKK => ?_; simp [go_sem]; ((repeat' (first|(refine ag_x ?_;simp [go_sem])|intro _|refine And.intro ?_ ?_|(apply hKK;clear hKK KK)));all_goals first|refine Hold.mk ?_|omega|with_reducible assumption|(simp only [InR] at *;omega)|skip))
      refine ⟨i + 1, ?_, ⟨by omega, htk1 h5⟩, by omega⟩
      (refine cov_of ?_ ?_ <;> simp [go_sem])
  · refine awp_exit ?_
    simp only [go_sem]
    refine hK1 _ ?_; clear hK1
    have : i = l.length := by omega
    subst this
    rw [hall] at ha
    subst ha
    (refine awp_sr fun KK hKK => ?_; simp [go_sem]; ((repeat' (first|(refine ag_x ?_;simp [go_sem])|intro _|refine And.intro ?_ ?_|(apply hKK;clear hKK KK)));all_goals first|refine Hold.mk ?_|omega|with_reducible assumption|(simp only [InR] at *;omega)|skip))
    (refine awp_ret ?_; simp [go_sem])
theorem cloneS_spec (l : List (List UInt8)) (hl : l.length ≤ 1000000000) (h0 : l ≠ []) : ACall Tryz.prog 56 [dSs l] [] [900000] fun ps r => ∃ g, ps = [(g, .row 9 1 (l.map cS))] ∧ r = .own 900000 g := by
  refine acall_of Tryz.func56 rfl rfl Tryz.ntmps56 (rs := [.tmp 2]) (tys := [42]) rfl rfl (by simp) (by simp) ?_
  (refine awp_sr fun KK hKK => ?_; simp [go_sem]; ((repeat' (first|(refine ag_x ?_;simp [go_sem])|intro _|refine And.intro ?_ ?_|(apply hKK;clear hKK KK)));all_goals first|refine Hold.mk ?_|omega|with_reducible assumption|(simp only [InR] at *;omega)|skip))
  refine awp_seq_k fun K1 hK1 => ?_
  (refine awp_sr fun KK hKK => ?_; simp [go_sem]; ((repeat' (first|(refine ag_x ?_;simp [go_sem])|intro _|refine And.intro ?_ ?_|(apply hKK;clear hKK KK)));all_goals first|refine Hold.mk ?_|omega|with_reducible assumption|(simp only [InR] at *;omega)|skip))
  case refine_2 => rename_i hn; exact absurd hn h0
  refine awp_if fun T F hT hF => ?_
  simp [go_sem]
  refine hF ?_
  refine awp_skip ?_
  refine hK1 _ ?_; clear hK1
  (refine awp_sr fun KK hKK => ?_; simp [go_sem]; ((repeat' (first|(refine ag_x ?_;simp [go_sem])|intro _|refine And.intro ?_ ?_|(apply hKK;clear hKK KK)));all_goals first|refine Hold.mk ?_|omega|with_reducible assumption|(simp only [InR] at *;omega)|skip))
  refine awp_renrow 2 900000 rfl rfl (by decide) fun g => ?_
  simp only [go_sem]
  refine awp_ret ?_
  simp [go_sem]
theorem cloneS_nil : PCall Tryz.prog 56 [dSs []] fun r => r = dSs [] := by
  refine pcall_of Tryz.func56 rfl rfl Tryz.ntmps56 (rs := [.tmp 2]) (tys := [42]) rfl rfl (by simp) ?_
  (refine awp_sr fun KK hKK => ?_; simp [go_sem]; ((repeat' (first|(refine ag_x ?_;simp [go_sem])|intro _|refine And.intro ?_ ?_|(apply hKK;clear hKK KK)));all_goals first|refine Hold.mk ?_|omega|with_reducible assumption|(simp only [InR] at *;omega)|skip))
  refine awp_seq_k fun K1 hK1 => ?_
  (refine awp_sr fun KK hKK => ?_; simp [go_sem]; ((repeat' (first|(refine ag_x ?_;simp [go_sem])|intro _|refine And.intro ?_ ?_|(apply hKK;clear hKK KK)));all_goals first|refine Hold.mk ?_|omega|with_reducible assumption|(simp only [InR] at *;omega)|skip))
  · (refine awp_if fun T F hT hF => ?_; simp [go_sem]; refine hF ?_; clear hT hF T F)
    refine awp_skip ?_
    refine hK1 _ ?_; clear hK1
    (refine awp_sr fun KK hKK => ?_; simp [go_sem]; ((repeat' (first|(refine ag_x ?_;simp [go_sem])|intro _|refine And.intro ?_ ?_|(apply hKK;clear hKK KK)));all_goals first|refine Hold.mk ?_|omega|with_reducible assumption|(simp only [InR] at *;omega)|skip))
    (refine awp_ret ?_; simp [go_sem])
  · (refine awp_if fun T F hT hF => ?_; simp [go_sem]; refine hT ?_; clear hT hF T F)
    (refine awp_sr fun KK hKK => ?_; simp [go_sem]; ((repeat' (first|(refine ag_x ?_;simp [go_sem])|intro _|refine And.intro ?_ ?_|(apply hKK;clear hKK KK)));all_goals first|refine Hold.mk ?_|omega|with_reducible assumption|(simp only [InR] at *;omega)|skip))
    (refine awp_ret ?_; simp [go_sem])
theorem insertion_nil (f : Nat) : PCall Tryz.prog 97 [dSs [], dI 0, dI 0, dF f] fun r => r = .tup [] := by
  refine pcall_of Tryz.func97 rfl rfl Tryz.ntmps97 (rs := []) (tys := []) rfl rfl (by simp) ?_
  (refine awp_sr fun KK hKK => ?_; simp [go_sem]; ((repeat' (first|(refine ag_x ?_;simp [go_sem])|intro _|refine And.intro ?_ ?_|(apply hKK;clear hKK KK)));all_goals first|refine Hold.mk ?_|omega|with_reducible assumption|(simp only [InR] at *;omega)|skip))
  refine awp_block ?_
  refine awp_loop (σ := Nat) (fun i => ⟨[(0, dSs []), (1, dI 0), (2, dI 0), (3, dF f), (8, dI 1)], []⟩) (fun i => True) (fun i => 0) 0 ?_ ?_ ?_
  · (refine cov_of ?_ ?_ <;> simp [go_sem])
  · trivial
  intro i _
  refine awp_seq_k fun K1 hK1 => ?_
  (refine awp_sr fun KK hKK => ?_; simp [go_sem]; ((repeat' (first|(refine ag_x ?_;simp [go_sem])|intro _|refine And.intro ?_ ?_|(apply hKK;clear hKK KK)));all_goals first|refine Hold.mk ?_|omega|with_reducible assumption|(simp only [InR] at *;omega)|skip))
  (refine awp_if fun T F hT hF => ?_; simp [go_sem]; refine hF ?_; clear hT hF T F)
  refine awp_exit ?_
  simp [go_sem]
theorem stable_nil (f : Nat) : PCall Tryz.prog 81 [dSs [], dI 0, dF f] fun r => r = .tup [] := by
  refine pcall_of Tryz.func81 rfl rfl Tryz.ntmps81 (rs := []) (tys := []) rfl rfl (by simp) ?_
  (refine awp_sr fun KK hKK => ?_; simp [go_sem]; ((repeat' (first|(refine ag_x ?_;simp [go_sem])|intro _|refine And.intro ?_ ?_|(apply hKK;clear hKK KK)));all_goals first|refine Hold.mk ?_|omega|with_reducible assumption|(simp only [InR] at *;omega)|skip))
  (refine awp_sr fun KK hKK => ?_; simp [go_sem]; ((repeat' (first|(refine ag_x ?_;simp [go_sem])|intro _|refine And.intro ?_ ?_|(apply hKK;clear hKK KK)));all_goals first|refine Hold.mk ?_|omega|with_reducible assumption|(simp only [InR] at *;omega)|skip))
  refine awp_seq_k fun K1 hK1 => ?_
  refine awp_block ?_
  refine awp_loop (σ := Nat) (fun i => ⟨[(0, dSs []), (1, dI 0), (2, dF f), (6, dI 20), (7, dI 0), (8, dI 20)], []⟩) (fun i => True) (fun i => 0) 0 ?_ ?_ ?_
  · (refine cov_of ?_ ?_ <;> simp [go_sem])
  · trivial
  intro i _
  refine awp_seq_k fun K2 hK2 => ?_
  (refine awp_sr fun KK hKK => ?_; simp [go_sem]; ((repeat' (first|(refine ag_x ?_;simp [go_sem])|intro _|refine And.intro ?_ ?_|(apply hKK;clear hKK KK)));all_goals first|refine Hold.mk ?_|omega|with_reducible assumption|(simp only [InR] at *;omega)|skip))
  (refine awp_if fun T F hT hF => ?_; simp [go_sem]; refine hF ?_; clear hT hF T F)
  refine awp_exit ?_
  simp only [go_sem]
  refine hK1 _ ?_; clear hK1
  (refine awp_sr fun KK hKK => ?_; simp [go_sem]; ((repeat' (first|(refine ag_x ?_;simp [go_sem])|intro _|refine And.intro ?_ ?_|(apply hKK;clear hKK KK)));all_goals first|refine Hold.mk ?_|omega|with_reducible assumption|(simp only [InR] at *;omega)|skip))
  ((try refine CallT.toA ?_); refine callT_m (by first | exact .inl ⟨rfl, rfl⟩ | exact .inr rfl) (by simp [go_sem]) ?_; intro args ha; simp [go_sem] at ha; subst ha; refine ⟨_, (insertion_nil f), ?_⟩; rintro _ rfl; simp [go_sem]; ((repeat' (first|(refine ag_x ?_;simp [go_sem])|intro _|refine And.intro ?_ ?_|(apply hKK;clear hKK KK)));all_goals first|refine Hold.mk ?_|omega|with_reducible assumption|(simp only [InR] at *;omega)|skip))
  refine awp_block ?_
  refine awp_loop (σ := Nat) (fun i => ⟨[(0, dSs []), (1, dI 0), (2, dF f), (6, dI 20)], []⟩) (fun i => True) (fun i => 0) 0 ?_ ?_ ?_
  · (refine cov_of ?_ ?_ <;> simp [go_sem])
  · trivial
  intro i _
  refine awp_seq_k fun K4 hK4 => ?_
  (refine awp_sr fun KK hKK => ?_; simp [go_sem]; ((repeat' (first|(refine ag_x ?_;simp [go_sem])|intro _|refine And.intro ?_ ?_|(apply hKK;clear hKK KK)));all_goals first|refine Hold.mk ?_|omega|with_reducible assumption|(simp only [InR] at *;omega)|skip))
  (refine awp_if fun T F hT hF => ?_; simp [go_sem]; refine hF ?_; clear hT hF T F)
  refine awp_exit ?_
  simp [go_sem]
theorem sortStable_nil (f : Nat) : PCall Tryz.prog 57 [dSs [], dF f] fun r => r = .tup [] := by
  refine pcall_of Tryz.func57 rfl rfl Tryz.ntmps57 (rs := []) (tys := []) rfl rfl (by simp) ?_
  (refine awp_r fun KK hKK => ?_; simp [go_sem]; ((repeat' (first|(refine ag_x ?_;simp [go_sem])|intro _|refine And.intro ?_ ?_|(apply hKK;clear hKK KK)));all_goals first|refine Hold.mk ?_|omega|with_reducible assumption|(simp only [InR] at *;omega)|skip))
  ((try refine CallT.toA ?_); refine callT_m (by first | exact .inl ⟨rfl, rfl⟩ | exact .inr rfl) (by simp [go_sem]) ?_; intro args ha; simp [go_sem] at ha; subst ha; refine ⟨_, (stable_nil f), ?_⟩; rintro _ rfl; simp [go_sem]; ((repeat' (first|(refine ag_x ?_;simp [go_sem])|intro _|refine And.intro ?_ ?_|(apply hKK;clear hKK KK)));all_goals first|refine Hold.mk ?_|omega|with_reducible assumption|(simp only [InR] at *;omega)|skip))
  simp [go_sem]
/-- what Sort tells -/
def sortP (l : List (List UInt8)) : List (List UInt8) := if allV l = true then sortL (ltC cV) l else []
theorem Sort_spec (l : List (List UInt8)) (hl : ∀ s ∈ l, s.length ≤ 1000000000) (hn : l.length ≤ 1000000) : PCall Tryz.prog 21 [dSs l] fun r => r = .tup [dSs (sortP l), dI (codeP (allV l))] := by 
  refine pcall_of Tryz.func21 rfl rfl Tryz.ntmps21 (rs := [.tmp 2, .tmp 3]) (tys := [42, 23]) rfl rfl (by simp) ?_
  have R1 := readAll_spec l hl (by omega)
  have hv := @allV_mem l
  unfold sortP codeP at *
  (refine awp_sr fun KK hKK => ?_; simp [go_sem]; ((repeat' (first|(refine ag_x ?_;simp [go_sem])|intro _|refine And.intro ?_ ?_|(apply hKK;clear hKK KK)));all_goals first|refine Hold.mk ?_|omega|with_reducible assumption|(simp only [InR] at *;omega)|skip))
  refine awp_seq_k fun K1 hK1 => ?_
  (refine awp_sr fun KK hKK => ?_; simp [go_sem]; ((repeat' (first|(refine ag_x ?_;simp [go_sem])|intro _|refine And.intro ?_ ?_|(apply hKK;clear hKK KK)));all_goals first|refine Hold.mk ?_|omega|with_reducible assumption|(simp only [InR] at *;omega)|skip))
  ((try refine CallT.toA ?_); refine callT_m (by first | exact .inl ⟨rfl, rfl⟩ | exact .inr rfl) (by simp [go_sem]) ?_; intro args ha; simp [go_sem] at ha; subst ha; refine ⟨_, R1, ?_⟩; rintro _ rfl; simp [go_sem]; ((repeat' (first|(refine ag_x ?_;simp [go_sem])|intro _|refine And.intro ?_ ?_|(apply hKK;clear hKK KK)));all_goals first|refine Hold.mk ?_|omega|with_reducible assumption|(simp only [InR] at *;omega)|skip))
  cases hav : allV l with
  | false =>
    (refine awp_sr fun KK hKK => ?_; simp [go_sem, hav]; ((repeat' (first|(refine ag_x ?_;simp [go_sem, hav])|intro _|refine And.intro ?_ ?_|(apply hKK;clear hKK KK)));all_goals first|refine Hold.mk ?_|omega|with_reducible assumption|(simp only [InR] at *;omega)|skip))
    (refine awp_if fun T F hT hF => ?_; simp [go_sem]; refine hT ?_; clear hT hF T F)
    (refine awp_sr fun KK hKK => ?_; simp [go_sem]; ((repeat' (first|(refine ag_x ?_;simp [go_sem])|intro _|refine And.intro ?_ ?_|(apply hKK;clear hKK KK)));all_goals first|refine Hold.mk ?_|omega|with_reducible assumption|(simp only [InR] at *;omega)|skip))
    (refine awp_ret ?_; simp [go_sem, hav])
  | true =>
    have hv := hv hav
    (refine awp_sr fun KK hKK => ?_; simp [go_sem, hav]; ((repeat' (first|(refine ag_x ?_;simp [go_sem, hav])|intro _|refine And.intro ?_ ?_|(apply hKK;clear hKK KK)));all_goals first|refine Hold.mk ?_|omega|with_reducible assumption|(simp only [InR] at *;omega)|skip))
    (refine awp_if fun T F hT hF => ?_; simp [go_sem]; refine hF ?_; clear hT hF T F)
    refine awp_skip ?_
    refine hK1 _ ?_; clear hK1
    cases l with
    | nil =>
      (refine awp_sr fun KK hKK => ?_; simp [go_sem]; ((repeat' (first|(refine ag_x ?_;simp [go_sem])|intro _|refine And.intro ?_ ?_|(apply hKK;clear hKK KK)));all_goals first|refine Hold.mk ?_|omega|with_reducible assumption|(simp only [InR] at *;omega)|skip))
      ((try refine CallT.toA ?_); refine callT_m (by first | exact .inl ⟨rfl, rfl⟩ | exact .inr rfl) (by simp [go_sem]) ?_; intro args ha; simp [go_sem] at ha; subst ha; refine ⟨_, cloneS_nil, ?_⟩; rintro _ rfl; simp [go_sem]; ((repeat' (first|(refine ag_x ?_;simp [go_sem])|intro _|refine And.intro ?_ ?_|(apply hKK;clear hKK KK)));all_goals first|refine Hold.mk ?_|omega|with_reducible assumption|(simp only [InR] at *;omega)|skip))
      (refine awp_sr fun KK hKK => ?_; simp [go_sem]; ((repeat' (first|(refine ag_x ?_;simp [go_sem])|intro _|refine And.intro ?_ ?_|(apply hKK;clear hKK KK)));all_goals first|refine Hold.mk ?_|omega|with_reducible assumption|(simp only [InR] at *;omega)|skip))
      ((try refine CallT.toA ?_); refine callT_m (by first | exact .inl ⟨rfl, rfl⟩ | exact .inr rfl) (by simp [go_sem]) ?_; intro args ha; simp [go_sem] at ha; subst ha; refine ⟨_, (sortStable_nil 58), ?_⟩; rintro _ rfl; simp [go_sem]; ((repeat' (first|(refine ag_x ?_;simp [go_sem])|intro _|refine And.intro ?_ ?_|(apply hKK;clear hKK KK)));all_goals first|refine Hold.mk ?_|omega|with_reducible assumption|(simp only [InR] at *;omega)|skip))
      (refine awp_sr fun KK hKK => ?_; simp [go_sem]; ((repeat' (first|(refine ag_x ?_;simp [go_sem])|intro _|refine And.intro ?_ ?_|(apply hKK;clear hKK KK)));all_goals first|refine Hold.mk ?_|omega|with_reducible assumption|(simp only [InR] at *;omega)|skip))
      (refine awp_ret ?_; simp [go_sem, sortL, hav])
    | cons x r =>
      have C := cloneS_spec (x :: r) (by omega) (by simp)
      have S := fun g => sortStable_spec (l := x :: r) 58 g cV wk_cV (fun a ha b hb => cmpS_spec a b (hv a ha) (hv b hb)) (by omega)
      have hsl := sort_len (lt := ltC cV) (x :: r)
      generalize hL : x :: r = L at *
      generalize sortL (ltC cV) L = M at *
      (refine awp_sr fun KK hKK => ?_; simp [go_sem]; ((repeat' (first|(refine ag_x ?_;simp [go_sem])|intro _|refine And.intro ?_ ?_|(apply hKK;clear hKK KK)));all_goals first|refine Hold.mk ?_|omega|with_reducible assumption|(simp only [InR] at *;omega)|skip))
      (refine callA_l [900000] (by first | exact .inl ⟨rfl, rfl⟩ | exact .inr rfl) (by simp [go_sem]) ?_; intro args ha; simp [go_sem] at ha; subst ha; refine ⟨_, _, C, (by simp [go_sem]), ?_⟩; rintro ps r hps ⟨gw, rfl, rfl⟩; simp [go_sem]; ((repeat' (first|(refine ag_x ?_;simp [go_sem])|intro _|refine And.intro ?_ ?_|(apply hKK;clear hKK KK)));all_goals first|refine Hold.mk ?_|omega|with_reducible assumption|(simp only [InR] at *;omega)|skip))
      (refine awp_sr fun KK hKK => ?_; simp [go_sem]; ((repeat' (first|(refine ag_x ?_;simp [go_sem])|intro _|refine And.intro ?_ ?_|(apply hKK;clear hKK KK)));all_goals first|refine Hold.mk ?_|omega|with_reducible assumption|(simp only [InR] at *;omega)|skip))
      (refine callA_l [900000] (by first | exact .inl ⟨rfl, rfl⟩ | exact .inr rfl) (by simp [go_sem]) ?_; intro args ha; simp [go_sem] at ha; subst ha; refine ⟨_, _, (S gw), (by simp [go_sem]), ?_⟩; rintro ps r hps ⟨rfl, rfl⟩; simp [go_sem]; ((repeat' (first|(refine ag_x ?_;simp [go_sem])|intro _|refine And.intro ?_ ?_|(apply hKK;clear hKK KK)));all_goals first|refine Hold.mk ?_|omega|with_reducible assumption|(simp only [InR] at *;omega)|skip))
      (refine awp_sr fun KK hKK => ?_; simp [go_sem]; ((repeat' (first|(refine ag_x ?_;simp [go_sem])|intro _|refine And.intro ?_ ?_|(apply hKK;clear hKK KK)));all_goals first|refine Hold.mk ?_|omega|with_reducible assumption|(simp only [InR] at *;omega)|skip))
      (refine awp_ret ?_; simp [go_sem, hav])
end Go.Proofs.YtjdccagkafnbfaaGreatDoor

namespace Go.Proofs.YtjdccagkafnbfaaGreatDoor
open Go.Eng Go.Wh Go.Ver
set_option maxRecDepth 20000
set_option linter.unusedSimpArgs false
set_option linter.unusedVariables false
attribute [local irreducible] AG CallA CallT AWp PCall ACall AgC
theorem sort_take {l : List (List UInt8)} {i : Nat} {s : List UInt8} (h : l[i]? = some s) : sortL (ltC cV) (l.take (i + 1)) = mergeL (ltC cV) (sortL (ltC cV) (l.take i)) [s] := by
  rw [List.take_add_one, h]; exact sort_snoc wk_cV _ _
theorem rread_ok (s : List UInt8) (h : (readV s).isSome = true) : PCall Tryz.prog 53 [dS s] fun r => r = .tup [dGs (readP s), dB true] := by
  obtain ⟨e, _, _, hl⟩ := read_ok h
  have := rread_spec s (by omega)
  rw [readR_of e, h] at this
  exact this
theorem rorder_ok (x y : List UInt8) (hx : (readV x).isSome = true) (hy : (readV y).isSome = true) : PCall Tryz.prog 55 [dGs (readP x), dGs (readP y)] fun r => r = dI (cV x y) := by
  obtain ⟨_, x1, _, x2⟩ := read_ok hx
  obtain ⟨_, y1, _, y2⟩ := read_ok hy
  exact rorder_spec (readP x) (readP y) (by have := x1.1; omega) (by have := y1.1; omega) (wz_ok x1) (wz_ok y1)
set_option maxHeartbeats 16000000 in
theorem rSort_spec (l : List (List UInt8)) (hl : ∀ s ∈ l, s.length ≤ 1000000000) (hn : l.length ≤ 1000000) : PCall Tryz.prog 22 [dSs l] fun r => r = .tup [dSs (sortP l), dI (codeP (allV l))] := by 
  refine pcall_of Tryz.func22 rfl rfl Tryz.ntmps22 (rs := [.tmp 2, .tmp 3]) (tys := [42, 23]) rfl rfl (by simp) ?_
  have R1 := allValid_spec l hl (by omega)
  have hv := @allV_mem l
  unfold sortP codeP at *
  (refine awp_sr fun KK hKK => ?_; simp [go_sem]; ((repeat' (first|(refine ag_x ?_;simp [go_sem])|intro _|refine And.intro ?_ ?_|(apply hKK;clear hKK KK)));all_goals first|refine Hold.mk ?_|omega|with_reducible assumption|(simp only [InR] at *;omega)|skip))
  refine awp_seq_k fun K1 hK1 => ?_
  (refine awp_sr fun KK hKK => ?_; simp [go_sem]; ((repeat' (first|(refine ag_x ?_;simp [go_sem])|intro _|refine And.intro ?_ ?_|(apply hKK;clear hKK KK)));all_goals first|refine Hold.mk ?_|omega|with_reducible assumption|(simp only [InR] at *;omega)|skip))
  ((try refine CallT.toA ?_); refine callT_m (by first | exact .inl ⟨rfl, rfl⟩ | exact .inr rfl) (by simp [go_sem]) ?_; intro args ha; simp [go_sem] at ha; subst ha; refine ⟨_, R1, ?_⟩; rintro _ rfl; simp [go_sem]; ((repeat' (first|(refine ag_x ?_;simp [go_sem])|intro _|refine And.intro ?_ ?_|(apply hKK;clear hKK KK)));all_goals first|refine Hold.mk ?_|omega|with_reducible assumption|(simp only [InR] at *;omega)|skip))
  cases hav : allV l with
  | false =>
    (refine awp_if fun T F hT hF => ?_; simp [go_sem]; refine hT ?_; clear hT hF T F)
    (refine awp_sr fun KK hKK => ?_; simp [go_sem]; ((repeat' (first|(refine ag_x ?_;simp [go_sem])|intro _|refine And.intro ?_ ?_|(apply hKK;clear hKK KK)));all_goals first|refine Hold.mk ?_|omega|with_reducible assumption|(simp only [InR] at *;omega)|skip))
    (refine awp_ret ?_; simp [go_sem, hav])
  | true =>
    have hv := hv hav
    (refine awp_if fun T F hT hF => ?_; simp [go_sem]; refine hF ?_; clear hT hF T F)
    refine awp_skip ?_
    refine hK1 _ ?_; clear hK1
    have hst := fun i s => @sort_take l i s
    have hsl := fun i => sort_len (lt := ltC cV) (l.take i)
    have hsm := fun i y => @sort_mem _ (ltC cV) (l.take i) y
    have hss := fun i => sort_srt wk_cV (l.take i)
    have z : sortL (ltC cV) [] = [] := rfl
    have hall : sortL (ltC cV) (l.take l.length) = sortL (ltC cV) l := by rw [List.take_length]
    (refine awp_sr fun KK hKK => ?_; simp [go_sem]; ((repeat' (first|(refine ag_x ?_;simp [go_sem])|intro _|refine And.intro ?_ ?_|(apply hKK;clear hKK KK)));all_goals first|refine Hold.mk ?_|omega|with_reducible assumption|(simp only [InR] at *;omega)|skip))
    refine awp_nilslot 4 4 9 1 rfl fun g4 => ?_
    simp only [go_sem]
    refine awp_seq_k fun K3 hK3 => ?_
    (refine awp_sr fun KK hKK => ?_; simp [go_sem]; ((repeat' (first|(refine ag_x ?_;simp [go_sem])|intro _|refine And.intro ?_ ?_|(apply hKK;clear hKK KK)));all_goals first|refine Hold.mk ?_|omega|with_reducible assumption|(simp only [InR] at *;omega)|skip))
    refine awp_block ?_
    refine awp_loop (σ := Nat × Nat) (fun x => ⟨[(0, dSs l), (4, .own 4 x.2), (5, dI x.1)], [(4, x.2, .row 9 1 ((sortL (ltC cV) (l.take x.1)).map cS))]⟩) (fun x => x.1 ≤ l.length) (fun x => l.length - x.1) (0, g4) ?_ ?_ ?_
    · (refine cov_of ?_ ?_ <;> simp [go_sem, z])
    · simp
    rintro ⟨i, g⟩ hi
    simp only at hi
    refine awp_seq_k fun K4 hK4 => ?_
    (refine awp_sr fun KK hKK => ?_; simp [go_sem]; ((repeat' (first|(refine ag_x ?_;simp [go_sem])|intro _|refine And.intro ?_ ?_|(apply hKK;clear hKK KK)));all_goals first|refine Hold.mk ?_|omega|with_reducible assumption|(simp only [InR] at *;omega)|skip))
    (refine awp_if fun T F hT hF => ?_; simp [go_sem]; refine BR.intro (fun h5 => hT ?_) (fun h5 => hF ?_); all_goals clear hT hF T F; try simp at h5) 
    · refine awp_skip ?_
      refine hK4 _ ?_; clear hK4
      obtain ⟨s, hx⟩ : ∃ s, l[i]? = some s := ⟨_, List.getElem?_eq_getElem (by omega)⟩
      have hm := List.mem_of_getElem? hx
      have R2 := rread_ok s (hv s hm)
      have hst1 := hst i s hx
      have hsl1 := hsl i
      have hsl2 : (l.take i).length = i := by simp; omega
      have hsv : ∀ y ∈ sortL (ltC cV) (l.take i), (readV y).isSome = true := fun y hy => hv y (List.mem_of_mem_take ((hsm i y).1 hy))
      have hss1 := hss i
      generalize sortL (ltC cV) (l.take i) = out at *
      have OR := fun y hy => rorder_ok y s (hsv y hy) (hv s hm)
      have RR := fun y hy => rread_ok y (hsv y hy)
      refine awp_seq_k fun K6 hK6 => ?_
      refine awp_block ?_
      (refine awp_sr fun KK hKK => ?_; simp [go_sem]; ((repeat' (first|(refine ag_x ?_;simp [go_sem])|intro _|refine And.intro ?_ ?_|(apply hKK;clear hKK KK)));all_goals first|refine Hold.mk ?_|omega|with_reducible assumption|(simp only [InR] at *;omega)|skip))
      (refine awp_sr fun KK hKK => ?_; simp [go_sem, hx]; ((repeat' (first|(refine ag_x ?_;simp [go_sem, hx])|intro _|refine And.intro ?_ ?_|(apply hKK;clear hKK KK)));all_goals first|refine Hold.mk ?_|omega|with_reducible assumption|(simp only [InR] at *;omega)|skip))
      ((try refine CallT.toA ?_); refine callT_m (by first | exact .inl ⟨rfl, rfl⟩ | exact .inr rfl) (by simp [go_sem]) ?_; intro args ha; simp [go_sem] at ha; subst ha; refine ⟨_, R2, ?_⟩; rintro _ rfl; simp [go_sem]; ((repeat' (first|(refine ag_x ?_;simp [go_sem])|intro _|refine And.intro ?_ ?_|(apply hKK;clear hKK KK)));all_goals first|refine Hold.mk ?_|omega|with_reducible assumption|(simp only [InR] at *;omega)|skip))
      refine awp_seq_k fun K7 hK7 => ?_
      have tl7 : ∀ (S' : St) (at0 : Nat), at0 ≤ out.length → (∀ y ∈ out.take at0, ltC cV s y = false) → (∀ y ∈ out.drop at0, ltC cV s y = true) →
          Cov S' ⟨[(0, dSs l), (4, .own 4 g), (5, dI i), (6, dI at0)], [(4, g, .row 9 1 (out.map cS))]⟩ → K7 S' := fun S' at0 ha1 ha2 ha3 hS => by
        refine hK7 _ ?_
        refine awp_cov hS ?_; clear hS
        have hmg := merge_one_split wk_cV ha2 ha3
        rw [List.take_append_drop] at hmg
        rw [hmg] at hst1
        refine awp_frzrow 4 rfl rfl ?_
        simp only [go_sem]
        ((refine awp_d (.qs [1, 2, 3, 5, 6, 7, 11, 12, 13, 8] (.kp2 0 (.kp2 4 (.kp 9 (.one 10 (.one 14 (.qs [15] (.nil))))) 9 (.kp 4 (.one 10 (.one 14 (.qs [15] (.nil)))))) 9 (.kp 0 (.kp 4 (.one 10 (.one 14 (.qs [15] (.nil)))))))) (by kernel_rfl) ?_ ?_ ?_ ?_); (kernel_rfl); (exact (by decide +kernel)); (kernel_rfl); intro KK hKK; ((repeat' (first|(refine ag_x ?_;simp [go_sem, hx])|refine adr_nil ?_|refine adr_two ?_ ?_|refine adr_kq ?_ ?_|refine adr_three ?_ ?_ ?_|refine adr_four ?_ ?_ ?_ ?_|refine adr_kp2 ?_ ?_|refine adr_kp3 ?_ ?_ ?_|((first|refine adr_qs fun KK hKK=>?_|refine adr_y fun KK hKK=>?_);simp [go_sem, hx])|intro _|refine And.intro ?_ ?_|(apply hKK;clear hKK KK)));all_goals first|refine Hold.mk ?_|omega|with_reducible assumption|(simp only [InR] at *;omega)|skip))
        all_goals
          refine hK6 _ ?_
          refine awp_renrow 4 4 rfl rfl (by decide) fun g' => ?_
          simp only [go_sem]
          (refine awp_r fun KK hKK => ?_; simp [go_sem]; ((repeat' (first|(refine ag_x ?_;simp [go_sem])|intro _|refine And.intro ?_ ?_|(apply hKK;clear hKK KK)));all_goals first|refine Hold.mk ?_|omega|with_reducible assumption|(simp only [InR] at *;omega)|skip))
          refine ⟨(i + 1, g'), ?_, by simp only; omega, by simp only; omega⟩
          simp only [hst1]
          (refine cov_of ?_ ?_ <;> simp [go_sem])
      clear hK7 hK6 hst1
      refine awp_block ?_
      refine awp_loop (σ := Nat) (fun t => ⟨[(0, dSs l), (4, .own 4 g), (5, dI i), (6, dI t), (7, dGs (readP s))], [(4, g, .row 9 1 (out.map cS))]⟩) (fun t => t ≤ out.length ∧ ∀ y ∈ out.drop t, ltC cV s y = true) (fun t => t) out.length ?_ ?_ ?_
      · (refine cov_of ?_ ?_ <;> simp [go_sem])
      · exact ⟨Nat.le_refl _, by simp⟩
      rintro t ⟨ht1, ht2⟩
      refine awp_seq_k fun K8 hK8 => ?_
      (refine awp_sr fun KK hKK => ?_; simp [go_sem]; ((repeat' (first|(refine ag_x ?_;simp [go_sem])|intro _|refine And.intro ?_ ?_|(apply hKK;clear hKK KK)));all_goals first|refine Hold.mk ?_|omega|with_reducible assumption|(simp only [InR] at *;omega)|skip))
      (refine awp_if fun T F hT hF => ?_; simp [go_sem]; refine BR.intro (fun h9 => hT ?_) (fun h9 => hF ?_); all_goals clear hT hF T F; try simp at h9) 
      · refine awp_skip ?_
        refine hK8 _ ?_; clear hK8
        refine awp_block ?_
        obtain ⟨t, rfl⟩ : ∃ t', t = t' + 1 := ⟨t - 1, by omega⟩
        obtain ⟨y, hy⟩ : ∃ y, out[t]? = some y := ⟨_, List.getElem?_eq_getElem (by omega)⟩
        have hym := List.mem_of_getElem? hy
        have O1 := OR y hym
        have Q1 := RR y hym
        have hd := drop_at hy
        have hsy := srt_take hy hss1
        have hanti := @cV_anti s y
        have i1 : ((t : Int) + 1 - 1).toNat = t := by omega
        (refine awp_sr fun KK hKK => ?_; simp [go_sem, i1, hy]; ((repeat' (first|(refine ag_x ?_;simp [go_sem, i1, hy])|intro _|refine And.intro ?_ ?_|(apply hKK;clear hKK KK)));all_goals first|refine Hold.mk ?_|omega|with_reducible assumption|(simp only [InR] at *;omega)|skip))
        ((try refine CallT.toA ?_); refine callT_m (by first | exact .inl ⟨rfl, rfl⟩ | exact .inr rfl) (by simp [go_sem]) ?_; intro args ha; simp [go_sem] at ha; subst ha; refine ⟨_, Q1, ?_⟩; rintro _ rfl; simp [go_sem]; ((repeat' (first|(refine ag_x ?_;simp [go_sem])|intro _|refine And.intro ?_ ?_|(apply hKK;clear hKK KK)));all_goals first|refine Hold.mk ?_|omega|with_reducible assumption|(simp only [InR] at *;omega)|skip))
        refine awp_seq_k fun K10 hK10 => ?_
        (refine awp_sr fun KK hKK => ?_; simp [go_sem]; ((repeat' (first|(refine ag_x ?_;simp [go_sem])|intro _|refine And.intro ?_ ?_|(apply hKK;clear hKK KK)));all_goals first|refine Hold.mk ?_|omega|with_reducible assumption|(simp only [InR] at *;omega)|skip))
        ((try refine CallT.toA ?_); refine callT_m (by first | exact .inl ⟨rfl, rfl⟩ | exact .inr rfl) (by simp [go_sem]) ?_; intro args ha; simp [go_sem] at ha; subst ha; refine ⟨_, O1, ?_⟩; rintro _ rfl; simp [go_sem]; ((repeat' (first|(refine ag_x ?_;simp [go_sem])|intro _|refine And.intro ?_ ?_|(apply hKK;clear hKK KK)));all_goals first|refine Hold.mk ?_|omega|with_reducible assumption|(simp only [InR] at *;omega)|skip))
        (refine awp_if fun T F hT hF => ?_; simp [go_sem]; refine BR.intro (fun h11 => hT ?_) (fun h11 => hF ?_); all_goals clear hT hF T F; try simp at h11) 
        · refine awp_exit ?_
          simp only [go_sem]
          have hge : ltC cV s y = false := by unfold ltC; simp; omega
          have htk : out.take (t + 1) = out.take t ++ [y] := by rw [List.take_add_one, hy]; rfl
          refine tl7 _ (t + 1) ht1 (by rw [htk]; exact srt_before wk_cV hsy hge) ht2 ?_
          (refine cov_of ?_ ?_ <;> simp [go_sem])
        · refine awp_skip ?_
          refine hK10 _ ?_; clear hK10
          have hlt : ltC cV s y = true := by unfold ltC; simp; omega
          (refine awp_r fun KK hKK => ?_; simp [go_sem]; ((repeat' (first|(refine ag_x ?_;simp [go_sem])|intro _|refine And.intro ?_ ?_|(apply hKK;clear hKK KK)));all_goals first|refine Hold.mk ?_|omega|with_reducible assumption|(simp only [InR] at *;omega)|skip))
          refine ⟨t, ?_, ⟨by omega, ?_⟩, by omega⟩
          · (refine cov_of ?_ ?_ <;> simp [go_sem])
          · rw [hd]
            intro z hz
            rcases List.mem_cons.1 hz with rfl | hz
            · exact hlt
            · exact ht2 z hz
      · refine awp_exit ?_
        simp only [go_sem]
        have : t = 0 := by omega
        subst this
        refine tl7 _ 0 ht1 (by simp) ht2 ?_
        (refine cov_of ?_ ?_ <;> simp [go_sem])
    · refine awp_exit ?_
      simp only [go_sem]
      refine hK3 _ ?_; clear hK3
      have : i = l.length := by omega
      subst this
      rw [hall]
      (refine awp_sr fun KK hKK => ?_; simp [go_sem]; ((repeat' (first|(refine ag_x ?_;simp [go_sem])|intro _|refine And.intro ?_ ?_|(apply hKK;clear hKK KK)));all_goals first|refine Hold.mk ?_|omega|with_reducible assumption|(simp only [InR] at *;omega)|skip))
      (refine awp_ret ?_; simp [go_sem, hav])
theorem meets_ok (s : List UInt8) (cs : List Cnd) (h : (readV s).isSome = true) (hc : ∀ c ∈ cs, COk c) (hl : cs.length ≤ 1000) : PCall Tryz.prog 30 [dGs (readP s), dCs cs] fun r => r = dB (meetsV (readP s) cs) := by
  obtain ⟨_, x1, _, x2⟩ := read_ok h
  exact meets_spec (readP s) cs (by have := x1.1; omega) hl (fun c hx => (hc c hx).2.1)
theorem order_ok (x y : List UInt8) (hx : (readV x).isSome = true) (hy : (readV y).isSome = true) : PCall Tryz.prog 28 [dGs (readP x), dGs (readP y)] fun r => r = dI (cV x y) := by
  obtain ⟨_, x1, _, x2⟩ := read_ok hx
  obtain ⟨_, y1, _, y2⟩ := read_ok hy
  exact compare_spec (readP x) (readP y) (by have := x1.1; omega) (by have := y1.1; omega)
theorem rall_ok (s : List UInt8) (cs : List Cnd) (h : (readV s).isSome = true) (hc : ∀ c ∈ cs, COk c) (hl : cs.length ≤ 1000) : PCall Tryz.prog 54 [dGs (readP s), dRCs cs] fun r => r = dB (meetsV (readP s) cs) := by
  obtain ⟨_, x1, _, x2⟩ := read_ok h
  exact rall_spec (readP s) cs (by have := x1.1; omega) (wz_ok x1) hl hc
set_option maxHeartbeats 16000000 in
theorem Best_spec (l : List (List UInt8)) (r : List UInt8) (hl : ∀ s ∈ l, s.length ≤ 1000000000) (hn : l.length ≤ 1000000) (hr : r.length ≤ 1000000) : PCall Tryz.prog 19 [dSs l, dS r] fun x => x = .tup [dI (bestP l r), dI (bestC l r)] := by 
  refine pcall_of Tryz.func19 rfl rfl Tryz.ntmps19 (rs := [.tmp 4, .tmp 5]) (tys := [3, 23]) rfl rfl (by simp) ?_
  have R1 := conditions_spec r hr
  have R2 := readAll_spec l hl (by omega)
  have hv := @allV_mem l
  have hcs := @conds_ok r
  unfold bestP bestC codeP at *
  generalize condsP r = cs at *
  generalize (condsV r).isSome = x at *
  (refine awp_sr fun KK hKK => ?_; simp [go_sem]; ((repeat' (first|(refine ag_x ?_;simp [go_sem])|intro _|refine And.intro ?_ ?_|(apply hKK;clear hKK KK)));all_goals first|refine Hold.mk ?_|omega|with_reducible assumption|(simp only [InR] at *;omega)|skip))
  (refine awp_sr fun KK hKK => ?_; simp [go_sem]; ((repeat' (first|(refine ag_x ?_;simp [go_sem])|intro _|refine And.intro ?_ ?_|(apply hKK;clear hKK KK)));all_goals first|refine Hold.mk ?_|omega|with_reducible assumption|(simp only [InR] at *;omega)|skip))
  ((try refine CallT.toA ?_); refine callT_m (by first | exact .inl ⟨rfl, rfl⟩ | exact .inr rfl) (by simp [go_sem]) ?_; intro args ha; simp [go_sem] at ha; subst ha; refine ⟨_, R1, ?_⟩; rintro _ rfl; simp [go_sem]; ((repeat' (first|(refine ag_x ?_;simp [go_sem])|intro _|refine And.intro ?_ ?_|(apply hKK;clear hKK KK)));all_goals first|refine Hold.mk ?_|omega|with_reducible assumption|(simp only [InR] at *;omega)|skip))
  (refine awp_sr fun KK hKK => ?_; simp [go_sem]; ((repeat' (first|(refine ag_x ?_;simp [go_sem])|intro _|refine And.intro ?_ ?_|(apply hKK;clear hKK KK)));all_goals first|refine Hold.mk ?_|omega|with_reducible assumption|(simp only [InR] at *;omega)|skip))
  ((try refine CallT.toA ?_); refine callT_m (by first | exact .inl ⟨rfl, rfl⟩ | exact .inr rfl) (by simp [go_sem]) ?_; intro args ha; simp [go_sem] at ha; subst ha; refine ⟨_, R2, ?_⟩; rintro _ rfl; simp [go_sem]; ((repeat' (first|(refine ag_x ?_;simp [go_sem])|intro _|refine And.intro ?_ ?_|(apply hKK;clear hKK KK)));all_goals first|refine Hold.mk ?_|omega|with_reducible assumption|(simp only [InR] at *;omega)|skip))
  refine awp_seq_k fun K1 hK1 => ?_
  refine awp_block ?_
  cases x with
  | false =>
    (refine awp_sr fun KK hKK => ?_; simp [go_sem]; ((repeat' (first|(refine ag_x ?_;simp [go_sem])|intro _|refine And.intro ?_ ?_|(apply hKK;clear hKK KK)));all_goals first|refine Hold.mk ?_|omega|with_reducible assumption|(simp only [InR] at *;omega)|skip))
    (refine awp_if fun T F hT hF => ?_; simp [go_sem]; refine hT ?_; clear hT hF T F)
    (refine awp_sr fun KK hKK => ?_; simp [go_sem]; ((repeat' (first|(refine ag_x ?_;simp [go_sem])|intro _|refine And.intro ?_ ?_|(apply hKK;clear hKK KK)));all_goals first|refine Hold.mk ?_|omega|with_reducible assumption|(simp only [InR] at *;omega)|skip))
    (refine awp_ret ?_; simp [go_sem])
  | true =>
    (refine awp_sr fun KK hKK => ?_; simp [go_sem]; ((repeat' (first|(refine ag_x ?_;simp [go_sem])|intro _|refine And.intro ?_ ?_|(apply hKK;clear hKK KK)));all_goals first|refine Hold.mk ?_|omega|with_reducible assumption|(simp only [InR] at *;omega)|skip))
    (refine awp_if fun T F hT hF => ?_; simp [go_sem]; refine hF ?_; clear hT hF T F)
    cases hav : allV l with
    | false =>
      (refine awp_sr fun KK hKK => ?_; simp [go_sem, hav]; ((repeat' (first|(refine ag_x ?_;simp [go_sem, hav])|intro _|refine And.intro ?_ ?_|(apply hKK;clear hKK KK)));all_goals first|refine Hold.mk ?_|omega|with_reducible assumption|(simp only [InR] at *;omega)|skip))
      (refine awp_if fun T F hT hF => ?_; simp [go_sem]; refine hT ?_; clear hT hF T F)
      (refine awp_sr fun KK hKK => ?_; simp [go_sem]; ((repeat' (first|(refine ag_x ?_;simp [go_sem])|intro _|refine And.intro ?_ ?_|(apply hKK;clear hKK KK)));all_goals first|refine Hold.mk ?_|omega|with_reducible assumption|(simp only [InR] at *;omega)|skip))
      (refine awp_ret ?_; simp [go_sem, hav])
    | true =>
      have hv := hv hav
      obtain ⟨_, hc1, hc2⟩ := hcs rfl
      (refine awp_sr fun KK hKK => ?_; simp [go_sem, hav]; ((repeat' (first|(refine ag_x ?_;simp [go_sem, hav])|intro _|refine And.intro ?_ ?_|(apply hKK;clear hKK KK)));all_goals first|refine Hold.mk ?_|omega|with_reducible assumption|(simp only [InR] at *;omega)|skip))
      (refine awp_if fun T F hT hF => ?_; simp [go_sem]; refine hF ?_; clear hT hF T F)
      (refine awp_sr fun KK hKK => ?_; simp [go_sem]; ((repeat' (first|(refine ag_x ?_;simp [go_sem])|intro _|refine And.intro ?_ ?_|(apply hKK;clear hKK KK)));all_goals first|refine Hold.mk ?_|omega|with_reducible assumption|(simp only [InR] at *;omega)|skip))
      (refine awp_if fun T F hT hF => ?_; simp [go_sem]; refine BR.intro (fun h4 => hT ?_) (fun h4 => hF ?_); all_goals clear hT hF T F; try simp at h4) 
      · have : 200 < l.length := by omega
        (refine awp_sr fun KK hKK => ?_; simp [go_sem]; ((repeat' (first|(refine ag_x ?_;simp [go_sem])|intro _|refine And.intro ?_ ?_|(apply hKK;clear hKK KK)));all_goals first|refine Hold.mk ?_|omega|with_reducible assumption|(simp only [InR] at *;omega)|skip))
        (refine awp_ret ?_; simp [go_sem, hav, this])
      · have h4' : ¬ 200 < l.length := by omega
        refine awp_skip ?_
        refine hK1 _ ?_; clear hK1
        have hst := fun i s => @bestN_step l cs i s
        have hlt := bestN_lt l cs
        have z := bestN_zero l cs
        have hrow := fun i s => @rowsV_at l i s
        have hrl := rowsV_len l
        have ML := fun s hs => meets_ok s cs (hv s hs) hc1 (by omega)
        have OL := fun x y hx hy => order_ok x y (hv x hx) (hv y hy)
        generalize hrw : rowsV l = rows at *
        (refine awp_sr fun KK hKK => ?_; simp [go_sem]; ((repeat' (first|(refine ag_x ?_;simp [go_sem])|intro _|refine And.intro ?_ ?_|(apply hKK;clear hKK KK)));all_goals first|refine Hold.mk ?_|omega|with_reducible assumption|(simp only [InR] at *;omega)|skip))
        refine awp_seq_k fun K5 hK5 => ?_
        (refine awp_sr fun KK hKK => ?_; simp [go_sem, hav]; ((repeat' (first|(refine ag_x ?_;simp [go_sem, hav])|intro _|refine And.intro ?_ ?_|(apply hKK;clear hKK KK)));all_goals first|refine Hold.mk ?_|omega|with_reducible assumption|(simp only [InR] at *;omega)|skip))
        refine awp_block ?_
        refine awp_loop (σ := Nat) (fun i => ⟨[(6, dCs cs), (8, .sl 1 rows), (10, dI (bestN l cs i)), (34, .sl 1 rows), (35, dI l.length), (36, dI i)], []⟩) (fun i => i ≤ l.length) (fun i => l.length - i) 0 ?_ ?_ ?_
        · (refine cov_of ?_ ?_ <;> simp [go_sem, z, hav])
          exact hrl
        · omega
        intro i hi
        (refine awp_sr fun KK hKK => ?_; simp [go_sem]; ((repeat' (first|(refine ag_x ?_;simp [go_sem])|intro _|refine And.intro ?_ ?_|(apply hKK;clear hKK KK)));all_goals first|refine Hold.mk ?_|omega|with_reducible assumption|(simp only [InR] at *;omega)|skip))
        refine awp_seq_k fun K6 hK6 => ?_
        (refine awp_if fun T F hT hF => ?_; simp [go_sem]; refine BR.intro (fun h7 => hT ?_) (fun h7 => hF ?_); all_goals clear hT hF T F; try simp at h7) 
        · refine awp_skip ?_
          refine hK6 _ ?_; clear hK6
          obtain ⟨s, hx⟩ : ∃ s, l[i]? = some s := ⟨_, List.getElem?_eq_getElem (by omega)⟩
          have hm := List.mem_of_getElem? hx
          have hst1 := hst i s hx
          have hlt1 := hlt i
          have hrs := hrow i s hx
          have M1 := ML s hm
          generalize meetsV (readP s) cs = ms at *
          generalize bestN l cs i = b at *
          refine awp_seq_k fun K8 hK8 => ?_
          have tl8 : ∀ S', Cov S' ⟨[(6, dCs cs), (8, .sl 1 rows), (10, dI (bestN l cs (i + 1))), (34, .sl 1 rows), (35, dI l.length), (36, dI i)], []⟩ → K8 S' := fun S' hS => by
            refine hK8 _ ?_
            refine awp_cov hS ?_; clear hS
            (refine awp_r fun KK hKK => ?_; simp [go_sem]; ((repeat' (first|(refine ag_x ?_;simp [go_sem])|intro _|refine And.intro ?_ ?_|(apply hKK;clear hKK KK)));all_goals first|refine Hold.mk ?_|omega|with_reducible assumption|(simp only [InR] at *;omega)|skip))
            refine ⟨i + 1, ?_, by omega, by omega⟩
            (refine cov_of ?_ ?_ <;> simp [go_sem])
          clear hK8
          refine awp_block ?_
          (refine awp_sr fun KK hKK => ?_; simp [go_sem, hrs]; ((repeat' (first|(refine ag_x ?_;simp [go_sem, hrs])|intro _|refine And.intro ?_ ?_|(apply hKK;clear hKK KK)));all_goals first|refine Hold.mk ?_|omega|with_reducible assumption|(simp only [InR] at *;omega)|skip))
          (refine awp_sr fun KK hKK => ?_; simp [go_sem]; ((repeat' (first|(refine ag_x ?_;simp [go_sem])|intro _|refine And.intro ?_ ?_|(apply hKK;clear hKK KK)));all_goals first|refine Hold.mk ?_|omega|with_reducible assumption|(simp only [InR] at *;omega)|skip))
          cases ms with
          | false =>
            simp only [Bool.false_eq_true, false_and, if_false] at hst1
            ((try refine CallT.toA ?_); refine callT_m (by first | exact .inl ⟨rfl, rfl⟩ | exact .inr rfl) (by simp [go_sem]) ?_; intro args ha; simp [go_sem] at ha; subst ha; refine ⟨_, M1, ?_⟩; rintro _ rfl; simp [go_sem]; ((repeat' (first|(refine ag_false ?_ ?_ ?_;(focus (simp [go_sem, undef];done));(focus (simp [go_sem];done));simp [go_sem])|(refine ag_x ?_;simp [go_sem, undef])|intro _|refine And.intro ?_ ?_|(apply hKK;clear hKK KK)));all_goals first|refine Hold.mk ?_|omega|with_reducible assumption|(simp only [InR] at *;omega)|skip))
            (refine awp_if fun T F hT hF => ?_; simp [go_sem]; refine hF ?_; clear hT hF T F)
            refine awp_skip ?_
            refine tl8 _ ?_
            rw [hst1]
            (refine cov_of ?_ ?_ <;> simp [go_sem])
          | true =>
            simp only [true_and] at hst1
            by_cases hb : b < 0
            · rw [if_pos (.inl hb)] at hst1
              ((try refine CallT.toA ?_); refine callT_m (by first | exact .inl ⟨rfl, rfl⟩ | exact .inr rfl) (by simp [go_sem]) ?_; intro args ha; simp [go_sem] at ha; subst ha; refine ⟨_, M1, ?_⟩; rintro _ rfl; simp [go_sem, hb]; ((repeat' (first|(refine ag_false ?_ ?_ ?_;(focus (simp [go_sem, undef, hb];done));(focus (simp [go_sem];done));simp [go_sem, hb])|(refine ag_x ?_;simp [go_sem, undef, hb])|intro _|refine And.intro ?_ ?_|(apply hKK;clear hKK KK)));all_goals first|refine Hold.mk ?_|omega|with_reducible assumption|(simp only [InR] at *;omega)|skip))
              (refine awp_if fun T F hT hF => ?_; simp [go_sem]; refine hT ?_; clear hT hF T F)
              (refine awp_r fun KK hKK => ?_; simp [go_sem]; ((repeat' (first|(refine ag_x ?_;simp [go_sem])|intro _|refine And.intro ?_ ?_|(apply hKK;clear hKK KK)));all_goals first|refine Hold.mk ?_|omega|with_reducible assumption|(simp only [InR] at *;omega)|skip))
              refine tl8 _ ?_
              rw [hst1]
              (refine cov_of ?_ ?_ <;> simp [go_sem])
            · obtain ⟨n, hbn⟩ : ∃ n : Nat, b = n := ⟨b.toNat, by omega⟩
              subst hbn
              obtain ⟨y, hy⟩ : ∃ y, l[n]? = some y := ⟨_, List.getElem?_eq_getElem (by omega)⟩
              have hym := List.mem_of_getElem? hy
              have hry := hrow n y hy
              have hgd : l.getD ((n : Int)).toNat [] = y := by simp [hy]
              rw [hgd] at hst1
              have O1 := OL s y hm hym
              ((try refine CallT.toA ?_); refine callT_m (by first | exact .inl ⟨rfl, rfl⟩ | exact .inr rfl) (by simp [go_sem]) ?_; intro args ha; simp [go_sem] at ha; subst ha; refine ⟨_, M1, ?_⟩; rintro _ rfl; simp [go_sem, hry]; ((repeat' (first|(refine ag_false ?_ ?_ ?_;(focus (simp [go_sem, undef, hry];done));(focus (simp [go_sem];done));simp [go_sem, hry])|(refine ag_x ?_;simp [go_sem, undef, hry])|intro _|refine And.intro ?_ ?_|(apply hKK;clear hKK KK)));all_goals first|refine Hold.mk ?_|omega|with_reducible assumption|(simp only [InR] at *;omega)|skip))
              (refine agc_f (dI (cV s y)) (by first | exact .inl ⟨rfl, rfl⟩ | exact .inr rfl) ?_ rfl ?_; (intro hc args ha; simp [go_sem] at ha; subst ha; exact O1); simp [go_sem]; ((repeat' (first|(refine ag_false ?_ ?_ ?_;(focus (simp [go_sem, undef];done));(focus (simp [go_sem];done));simp [go_sem])|(refine ag_x ?_;simp [go_sem, undef])|intro _|refine And.intro ?_ ?_|(apply hKK;clear hKK KK)));all_goals first|refine Hold.mk ?_|omega|with_reducible assumption|(simp only [InR] at *;omega)|skip))
              (refine awp_if fun T F hT hF => ?_; simp [go_sem]; refine BR.intro (fun h9 => hT ?_) (fun h9 => hF ?_); all_goals clear hT hF T F; try simp at h9)
              · rw [if_pos (by omega)] at hst1
                (refine awp_r fun KK hKK => ?_; simp [go_sem]; ((repeat' (first|(refine ag_x ?_;simp [go_sem])|intro _|refine And.intro ?_ ?_|(apply hKK;clear hKK KK)));all_goals first|refine Hold.mk ?_|omega|with_reducible assumption|(simp only [InR] at *;omega)|skip))
                refine tl8 _ ?_
                rw [hst1]
                (refine cov_of ?_ ?_ <;> simp [go_sem])
              · rw [if_neg (by omega)] at hst1
                refine awp_skip ?_
                refine tl8 _ ?_
                rw [hst1]
                (refine cov_of ?_ ?_ <;> simp [go_sem])
        · refine awp_exit ?_
          simp only [go_sem]
          refine hK5 _ ?_; clear hK5
          have : i = l.length := by omega
          subst this
          (refine awp_sr fun KK hKK => ?_; simp [go_sem]; ((repeat' (first|(refine ag_x ?_;simp [go_sem])|intro _|refine And.intro ?_ ?_|(apply hKK;clear hKK KK)));all_goals first|refine Hold.mk ?_|omega|with_reducible assumption|(simp only [InR] at *;omega)|skip))
          (refine awp_ret ?_; simp [go_sem, hav, h4'])
set_option maxHeartbeats 16000000 in
theorem rBest_spec (l : List (List UInt8)) (r : List UInt8) (hl : ∀ s ∈ l, s.length ≤ 1000000000) (hn : l.length ≤ 1000000) (hr : r.length ≤ 1000000) : PCall Tryz.prog 20 [dSs l, dS r] fun x => x = .tup [dI (bestP l r), dI (bestC l r)] := by 
  refine pcall_of Tryz.func20 rfl rfl Tryz.ntmps20 (rs := [.tmp 4, .tmp 5]) (tys := [3, 23]) rfl rfl (by simp) ?_
  have R1 := rconditions_spec r hr
  have R2 := allValid_spec l hl (by omega)
  have hv := @allV_mem l
  have hcs := @conds_ok r
  unfold bestP bestC at *
  generalize condsP r = cs at *
  generalize (condsV r).isSome = x at *
  (refine awp_sr fun KK hKK => ?_; simp [go_sem]; ((repeat' (first|(refine ag_x ?_;simp [go_sem])|intro _|refine And.intro ?_ ?_|(apply hKK;clear hKK KK)));all_goals first|refine Hold.mk ?_|omega|with_reducible assumption|(simp only [InR] at *;omega)|skip))
  (refine awp_sr fun KK hKK => ?_; simp [go_sem]; ((repeat' (first|(refine ag_x ?_;simp [go_sem])|intro _|refine And.intro ?_ ?_|(apply hKK;clear hKK KK)));all_goals first|refine Hold.mk ?_|omega|with_reducible assumption|(simp only [InR] at *;omega)|skip))
  ((try refine CallT.toA ?_); refine callT_m (by first | exact .inl ⟨rfl, rfl⟩ | exact .inr rfl) (by simp [go_sem]) ?_; intro args ha; simp [go_sem] at ha; subst ha; refine ⟨_, R1, ?_⟩; rintro _ rfl; simp [go_sem]; ((repeat' (first|(refine ag_x ?_;simp [go_sem])|intro _|refine And.intro ?_ ?_|(apply hKK;clear hKK KK)));all_goals first|refine Hold.mk ?_|omega|with_reducible assumption|(simp only [InR] at *;omega)|skip))
  refine awp_seq_k fun K1 hK1 => ?_
  cases x with
  | false =>
    (refine awp_sr fun KK hKK => ?_; simp [go_sem]; ((repeat' (first|(refine ag_false (by simp [go_sem, undef]) (by simp [go_sem]) ?_;simp [go_sem])|intro _|refine And.intro ?_ ?_|(apply hKK;clear hKK KK)));all_goals first|refine Hold.mk ?_|omega|with_reducible assumption|(simp only [InR] at *;omega)|skip))
    (refine awp_if fun T F hT hF => ?_; simp [go_sem]; refine hT ?_; clear hT hF T F)
    (refine awp_sr fun KK hKK => ?_; simp [go_sem]; ((repeat' (first|(refine ag_x ?_;simp [go_sem])|intro _|refine And.intro ?_ ?_|(apply hKK;clear hKK KK)));all_goals first|refine Hold.mk ?_|omega|with_reducible assumption|(simp only [InR] at *;omega)|skip))
    (refine awp_ret ?_; simp [go_sem])
  | true =>
    (refine awp_sr fun KK hKK => ?_; simp [go_sem]; ((repeat' (first|(refine ag_x ?_;simp [go_sem])|intro _|refine And.intro ?_ ?_|(apply hKK;clear hKK KK)));all_goals first|refine Hold.mk ?_|omega|with_reducible assumption|(simp only [InR] at *;omega)|skip))
    (refine agc_f (dB (allV l)) (by first | exact .inl ⟨rfl, rfl⟩ | exact .inr rfl) ?_ rfl ?_; (intro hc args ha; simp [go_sem] at ha; subst ha; exact R2); simp [go_sem]; ((repeat' (first|(refine ag_x ?_;simp [go_sem])|intro _|refine And.intro ?_ ?_|(apply hKK;clear hKK KK)));all_goals first|refine Hold.mk ?_|omega|with_reducible assumption|(simp only [InR] at *;omega)|skip))
    cases hav : allV l with
    | false =>
      (refine awp_if fun T F hT hF => ?_; simp [go_sem]; refine hT ?_; clear hT hF T F)
      (refine awp_sr fun KK hKK => ?_; simp [go_sem]; ((repeat' (first|(refine ag_x ?_;simp [go_sem])|intro _|refine And.intro ?_ ?_|(apply hKK;clear hKK KK)));all_goals first|refine Hold.mk ?_|omega|with_reducible assumption|(simp only [InR] at *;omega)|skip))
      (refine awp_ret ?_; simp [go_sem, hav])
    | true =>
      have hv := hv hav
      obtain ⟨_, hc1, hc2⟩ := hcs rfl
      (refine awp_if fun T F hT hF => ?_; simp [go_sem]; refine hF ?_; clear hT hF T F)
      refine awp_skip ?_
      refine hK1 _ ?_; clear hK1
      refine awp_seq_k fun K3 hK3 => ?_
      (refine awp_sr fun KK hKK => ?_; simp [go_sem]; ((repeat' (first|(refine ag_x ?_;simp [go_sem])|intro _|refine And.intro ?_ ?_|(apply hKK;clear hKK KK)));all_goals first|refine Hold.mk ?_|omega|with_reducible assumption|(simp only [InR] at *;omega)|skip))
      (refine awp_if fun T F hT hF => ?_; simp [go_sem]; refine BR.intro (fun h4 => hT ?_) (fun h4 => hF ?_); all_goals clear hT hF T F; try simp at h4) 
      · have : 200 < l.length := by omega
        (refine awp_sr fun KK hKK => ?_; simp [go_sem]; ((repeat' (first|(refine ag_x ?_;simp [go_sem])|intro _|refine And.intro ?_ ?_|(apply hKK;clear hKK KK)));all_goals first|refine Hold.mk ?_|omega|with_reducible assumption|(simp only [InR] at *;omega)|skip))
        (refine awp_ret ?_; simp [go_sem, hav, this])
      · have h4' : ¬ 200 < l.length := by omega
        refine awp_skip ?_
        refine hK3 _ ?_; clear hK3
        have hst := fun i s => @bestN_step l cs i s
        have hlt := bestN_lt l cs
        have z := bestN_zero l cs
        have ML := fun s hs => rall_ok s cs (hv s hs) hc1 (by omega)
        have OL := fun x y hx hy => rorder_ok x y (hv x hx) (hv y hy)
        have RL := fun x hx => rread_ok x (hv x hx)
        (refine awp_sr fun KK hKK => ?_; simp [go_sem]; ((repeat' (first|(refine ag_x ?_;simp [go_sem])|intro _|refine And.intro ?_ ?_|(apply hKK;clear hKK KK)));all_goals first|refine Hold.mk ?_|omega|with_reducible assumption|(simp only [InR] at *;omega)|skip))
        refine awp_seq_k fun K5 hK5 => ?_
        (refine awp_sr fun KK hKK => ?_; simp [go_sem]; ((repeat' (first|(refine ag_x ?_;simp [go_sem])|intro _|refine And.intro ?_ ?_|(apply hKK;clear hKK KK)));all_goals first|refine Hold.mk ?_|omega|with_reducible assumption|(simp only [InR] at *;omega)|skip))
        refine awp_block ?_
        refine awp_loop (σ := Nat) (fun i => ⟨[(0, dSs l), (6, dRCs cs), (8, dI (bestN l cs i)), (9, dI i)], []⟩) (fun i => i ≤ l.length) (fun i => l.length - i) 0 ?_ ?_ ?_
        · (refine cov_of ?_ ?_ <;> simp [go_sem, z])
        · omega
        intro i hi
        refine awp_seq_k fun K6 hK6 => ?_
        (refine awp_sr fun KK hKK => ?_; simp [go_sem]; ((repeat' (first|(refine ag_x ?_;simp [go_sem])|intro _|refine And.intro ?_ ?_|(apply hKK;clear hKK KK)));all_goals first|refine Hold.mk ?_|omega|with_reducible assumption|(simp only [InR] at *;omega)|skip))
        (refine awp_if fun T F hT hF => ?_; simp [go_sem]; refine BR.intro (fun h7 => hT ?_) (fun h7 => hF ?_); all_goals clear hT hF T F; try simp at h7) 
        · refine awp_skip ?_
          refine hK6 _ ?_; clear hK6
          obtain ⟨s, hx⟩ : ∃ s, l[i]? = some s := ⟨_, List.getElem?_eq_getElem (by omega)⟩
          have hm := List.mem_of_getElem? hx
          have hst1 := hst i s hx
          have hlt1 := hlt i
          have M1 := ML s hm
          have Q1 := RL s hm
          generalize meetsV (readP s) cs = ms at *
          generalize bestN l cs i = b at *
          refine awp_seq_k fun K8 hK8 => ?_
          have tl8 : ∀ S', Cov S' ⟨[(0, dSs l), (6, dRCs cs), (8, dI (bestN l cs (i + 1))), (9, dI i)], []⟩ → K8 S' := fun S' hS => by
            refine hK8 _ ?_
            refine awp_cov hS ?_; clear hS
            (refine awp_r fun KK hKK => ?_; simp [go_sem]; ((repeat' (first|(refine ag_x ?_;simp [go_sem])|intro _|refine And.intro ?_ ?_|(apply hKK;clear hKK KK)));all_goals first|refine Hold.mk ?_|omega|with_reducible assumption|(simp only [InR] at *;omega)|skip))
            refine ⟨i + 1, ?_, by omega, by omega⟩
            (refine cov_of ?_ ?_ <;> simp [go_sem])
          clear hK8
          refine awp_block ?_
          (refine awp_sr fun KK hKK => ?_; simp [go_sem, hx]; ((repeat' (first|(refine ag_x ?_;simp [go_sem, hx])|intro _|refine And.intro ?_ ?_|(apply hKK;clear hKK KK)));all_goals first|refine Hold.mk ?_|omega|with_reducible assumption|(simp only [InR] at *;omega)|skip))
          ((try refine CallT.toA ?_); refine callT_m (by first | exact .inl ⟨rfl, rfl⟩ | exact .inr rfl) (by simp [go_sem]) ?_; intro args ha; simp [go_sem] at ha; subst ha; refine ⟨_, Q1, ?_⟩; rintro _ rfl; simp [go_sem]; ((repeat' (first|(refine ag_x ?_;simp [go_sem])|intro _|refine And.intro ?_ ?_|(apply hKK;clear hKK KK)));all_goals first|refine Hold.mk ?_|omega|with_reducible assumption|(simp only [InR] at *;omega)|skip))
          refine awp_seq_k fun K9 hK9 => ?_
          (refine awp_sr fun KK hKK => ?_; simp [go_sem]; ((repeat' (first|(refine ag_x ?_;simp [go_sem])|intro _|refine And.intro ?_ ?_|(apply hKK;clear hKK KK)));all_goals first|refine Hold.mk ?_|omega|with_reducible assumption|(simp only [InR] at *;omega)|skip))
          ((try refine CallT.toA ?_); refine callT_m (by first | exact .inl ⟨rfl, rfl⟩ | exact .inr rfl) (by simp [go_sem]) ?_; intro args ha; simp [go_sem] at ha; subst ha; refine ⟨_, M1, ?_⟩; rintro _ rfl; simp [go_sem]; ((repeat' (first|(refine ag_x ?_;simp [go_sem])|intro _|refine And.intro ?_ ?_|(apply hKK;clear hKK KK)));all_goals first|refine Hold.mk ?_|omega|with_reducible assumption|(simp only [InR] at *;omega)|skip))
          cases ms with
          | false =>
            simp only [Bool.false_eq_true, false_and, if_false] at hst1
            (refine awp_if fun T F hT hF => ?_; simp [go_sem]; refine hT ?_; clear hT hF T F)
            refine awp_exit ?_
            simp only [go_sem]
            refine tl8 _ ?_
            rw [hst1]
            (refine cov_of ?_ ?_ <;> simp [go_sem])
          | true =>
            simp only [true_and] at hst1
            (refine awp_if fun T F hT hF => ?_; simp [go_sem]; refine hF ?_; clear hT hF T F)
            refine awp_skip ?_
            refine hK9 _ ?_; clear hK9
            refine awp_seq_k fun K11 hK11 => ?_
            by_cases hb : b < 0
            · rw [if_pos (.inl hb)] at hst1
              have hb' : ¬ 0 ≤ b := by omega
              (refine awp_sr fun KK hKK => ?_; simp [go_sem]; ((repeat' (first|(refine ag_x ?_;simp [go_sem])|intro _|refine And.intro ?_ ?_|(apply hKK;clear hKK KK)));all_goals first|refine Hold.mk ?_|omega|with_reducible assumption|(simp only [InR] at *;omega)|skip))
              (refine awp_if fun T F hT hF => ?_; simp [go_sem, hb']; refine hF ?_; clear hT hF T F)
              refine awp_skip ?_
              refine hK11 _ ?_
              (refine awp_r fun KK hKK => ?_; simp [go_sem]; ((repeat' (first|(refine ag_x ?_;simp [go_sem])|intro _|refine And.intro ?_ ?_|(apply hKK;clear hKK KK)));all_goals first|refine Hold.mk ?_|omega|with_reducible assumption|(simp only [InR] at *;omega)|skip))
              refine tl8 _ ?_
              rw [hst1]
              (refine cov_of ?_ ?_ <;> simp [go_sem])
            · obtain ⟨n, hbn⟩ : ∃ n : Nat, b = n := ⟨b.toNat, by omega⟩
              subst hbn
              obtain ⟨y, hy⟩ : ∃ y, l[n]? = some y := ⟨_, List.getElem?_eq_getElem (by omega)⟩
              have hym := List.mem_of_getElem? hy
              have hgd : l.getD ((n : Int)).toNat [] = y := by simp [hy]
              rw [hgd] at hst1
              have O1 := OL s y hm hym
              have Q2 := RL y hym
              have hn0 : (0 : Int) ≤ n := by omega
              (refine awp_sr fun KK hKK => ?_; simp [go_sem]; ((repeat' (first|(refine ag_x ?_;simp [go_sem])|intro _|refine And.intro ?_ ?_|(apply hKK;clear hKK KK)));all_goals first|refine Hold.mk ?_|omega|with_reducible assumption|(simp only [InR] at *;omega)|skip))
              (refine awp_if fun T F hT hF => ?_; simp [go_sem, hn0]; refine hT ?_; clear hT hF T F)
              (refine awp_sr fun KK hKK => ?_; simp [go_sem, hy]; ((repeat' (first|(refine ag_x ?_;simp [go_sem, hy])|intro _|refine And.intro ?_ ?_|(apply hKK;clear hKK KK)));all_goals first|refine Hold.mk ?_|omega|with_reducible assumption|(simp only [InR] at *;omega)|skip))
              ((try refine CallT.toA ?_); refine callT_m (by first | exact .inl ⟨rfl, rfl⟩ | exact .inr rfl) (by simp [go_sem]) ?_; intro args ha; simp [go_sem] at ha; subst ha; refine ⟨_, Q2, ?_⟩; rintro _ rfl; simp [go_sem]; ((repeat' (first|(refine ag_x ?_;simp [go_sem])|intro _|refine And.intro ?_ ?_|(apply hKK;clear hKK KK)));all_goals first|refine Hold.mk ?_|omega|with_reducible assumption|(simp only [InR] at *;omega)|skip))
              (refine awp_sr fun KK hKK => ?_; simp [go_sem]; ((repeat' (first|(refine ag_x ?_;simp [go_sem])|intro _|refine And.intro ?_ ?_|(apply hKK;clear hKK KK)));all_goals first|refine Hold.mk ?_|omega|with_reducible assumption|(simp only [InR] at *;omega)|skip))
              ((try refine CallT.toA ?_); refine callT_m (by first | exact .inl ⟨rfl, rfl⟩ | exact .inr rfl) (by simp [go_sem]) ?_; intro args ha; simp [go_sem] at ha; subst ha; refine ⟨_, O1, ?_⟩; rintro _ rfl; simp [go_sem]; ((repeat' (first|(refine ag_x ?_;simp [go_sem])|intro _|refine And.intro ?_ ?_|(apply hKK;clear hKK KK)));all_goals first|refine Hold.mk ?_|omega|with_reducible assumption|(simp only [InR] at *;omega)|skip))
              (refine awp_if fun T F hT hF => ?_; simp [go_sem]; refine BR.intro (fun h13 => hT ?_) (fun h13 => hF ?_); all_goals clear hT hF T F; try simp at h13)
              · rw [if_neg (by omega)] at hst1
                refine awp_exit ?_
                simp only [go_sem]
                refine tl8 _ ?_
                rw [hst1]
                (refine cov_of ?_ ?_ <;> simp [go_sem])
              · rw [if_pos (by omega)] at hst1
                refine awp_skip ?_
                refine hK11 _ ?_
                (refine awp_r fun KK hKK => ?_; simp [go_sem]; ((repeat' (first|(refine ag_x ?_;simp [go_sem])|intro _|refine And.intro ?_ ?_|(apply hKK;clear hKK KK)));all_goals first|refine Hold.mk ?_|omega|with_reducible assumption|(simp only [InR] at *;omega)|skip))
                refine tl8 _ ?_
                rw [hst1]
                (refine cov_of ?_ ?_ <;> simp [go_sem])
        · refine awp_exit ?_
          simp only [go_sem]
          refine hK5 _ ?_; clear hK5
          have : i = l.length := by omega
          subst this
          (refine awp_sr fun KK hKK => ?_; simp [go_sem]; ((repeat' (first|(refine ag_x ?_;simp [go_sem])|intro _|refine And.intro ?_ ?_|(apply hKK;clear hKK KK)));all_goals first|refine Hold.mk ?_|omega|with_reducible assumption|(simp only [InR] at *;omega)|skip))
          (refine awp_ret ?_; simp [go_sem, hav, h4'])
end Go.Proofs.YtjdccagkafnbfaaGreatDoor
