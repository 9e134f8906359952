/- Part of a proof: see the last text. -/
import Derived.Test.YtmgbaegdkjcagaaDoorWD
import Derived.Test.YtmgbaegdkjcagaaDoorED
import Derived.Test.YtmgbaegdkjcagaaDoorTie
import Derived.Test.YtmgbaegdkjcagaaDoorCards
import Derived.Lay
import Derived.LaidMore
import Derived.SevenTiedAt
import Derived.LaidLaws
import Derived.Stop.LaidErr
import Derived.Lib.LaidTab
import Derived.Shelf.Vars
import Derived.Handed
set_option linter.unusedVariables false
set_option linter.unusedSimpArgs false
set_option linter.unusedSimpArgs false
set_option linter.unusedVariables false
namespace Go.Proofs.YtmgbaegdkjcagaaDoor
open Go.Eng
set_option maxRecDepth 20000
attribute [local irreducible] AG CallA CallT AWp PCall ACall AgC

theorem lineV_some {t : Tr} {ws : List (List UInt8)} (h : (lineV t ws).isSome = true) : ∃ t', lineV t ws = some t' := Option.isSome_iff_exists.1 h
theorem bkOk_nil : bkOk ⟨0, [], []⟩ := fun x hx => by simp at hx
theorem parseR_some {t : Tr} {s : List UInt8} (h : trOk t = true) (h' : textV t = s) : parseR (some t) s = (t, 0) := by simp [parseR, h, h']
theorem parseR_bad {t : Tr} {s : List UInt8} (h : ¬ (trOk t = true ∧ textV t = s)) : parseR (some t) s = (⟨0, [], []⟩, 1) := by
  unfold parseR
  simp only
  rw [if_neg]
  simpa using h
set_option maxHeartbeats 8000000 in
theorem parse_spec (s : List UInt8) (hl : s.length ≤ 20000) : PCall Tryd.prog 10 [dS s] fun r => r = .tup [dTr (parseV s).1, dI (parseV s).2] := by 
  refine pcall_of Tryd.func10 rfl rfl Tryd.ntmps10 (rs := [.cell 2 25, .tmp 3]) (tys := [25, 28]) rfl rfl (by simp) ?_
  have hpv : parseV s = parseR (goP true (spl 10 s).dropLast ⟨0, [], []⟩) s := rfl
  have hlen := spl_len 10 s
  have hmem : ∀ l ∈ (spl 10 s).dropLast, l.length ≤ 20000 := fun l h => by
    have := spl_mem 10 s l (List.dropLast_subset _ h)
    omega
  have hdl : (spl 10 s).dropLast.length + 1 = (spl 10 s).length := by
    rw [List.length_dropLast]
    have := List.length_pos_iff.2 (spl_ne 10 s)
    omega
  have htk : (spl 10 s).take (spl 10 s).dropLast.length = (spl 10 s).dropLast := by
    rw [List.dropLast_eq_take, List.length_take]
    congr 1
    omega
  generalize hL : (spl 10 s).dropLast = L at *
  have hLl : L.length ≤ 20000 := by omega
  (refine awp_sr fun KK hKK => ?_; simp [go_sem]; ((repeat' (first|(refine ag_x ?_;simp [go_sem])|intro _|refine And.intro ?_ ?_|(apply hKK;clear hKK KK)));all_goals first|refine Hold.mk ?_|omega|with_reducible assumption|(simp only [InR] at *;omega)|skip))
  rename_i g2
  (refine awp_sr fun KK hKK => ?_; simp [go_sem]; ((repeat' (first|(refine ag_x ?_;simp [go_sem])|intro _|refine And.intro ?_ ?_|(apply hKK;clear hKK KK)));all_goals first|refine Hold.mk ?_|omega|with_reducible assumption|(simp only [InR] at *;omega)|skip))
  rename_i g4
  refine awp_renbox 4 900002 rfl rfl (by decide) fun g5 => ?_
  simp only [go_sem]
  refine awp_nilbox 900003 63 6 1 (sb := 900002) rfl rfl (by decide) fun gc => ?_
  refine awp_nilbox 900004 45 2 2 (sb := 900002) rfl rfl (by decide) fun ge => ?_
  simp only [List.set, go_sem]
  (refine awp_sr fun KK hKK => ?_; simp [go_sem]; ((repeat' (first|(refine ag_x ?_;simp [go_sem])|intro _|refine And.intro ?_ ?_|(apply hKK;clear hKK KK)));all_goals first|refine Hold.mk ?_|omega|with_reducible assumption|(simp only [InR] at *;omega)|skip))
  ((try refine CallT.toA ?_); refine callT_m (by first | exact .inl ⟨rfl, rfl⟩ | exact .inr rfl) (by simp [go_sem]) ?_; intro args ha; simp [go_sem] at ha; subst ha; refine ⟨_, (split_spec s 10 (by omega)), ?_⟩; rintro _ rfl; simp [go_sem]; ((repeat' (first|(refine ag_x ?_;simp [go_sem])|intro _|refine And.intro ?_ ?_|(apply hKK;clear hKK KK)));all_goals first|refine Hold.mk ?_|omega|with_reducible assumption|(simp only [InR] at *;omega)|skip))
  refine awp_seq_k fun K1 hK1 => ?_
  (refine awp_sr fun KK hKK => ?_; simp [go_sem]; ((repeat' (first|(refine ag_x ?_;simp [go_sem])|intro _|refine And.intro ?_ ?_|(apply hKK;clear hKK KK)));all_goals first|refine Hold.mk ?_|omega|with_reducible assumption|(simp only [InR] at *;omega)|skip))
  have htk' : List.take L.length ((spl 10 s).map cS) = L.map cS := by
    rw [← List.map_take, htk]
  have hln : (spl 10 s).length - 1 = L.length := by omega
  refine awp_block ?_
  refine awp_loop (σ := Nat × Tr × Nat × Nat) (fun x => ⟨[(0, dS s), (2, .ptr 2 g2 0), (4, .ptr 900002 g5 0), (18, dSs L), (19, dI L.length), (20, dI x.1)],
    [(2, g2, .box [dI 0, .v (.slice none 0 0), .v (.slice none 0 0)]), (900002, g5, .box [dI x.2.1.regs, .own 900003 x.2.2.1, .own 900004 x.2.2.2]), (900003, x.2.2.1, .row 63 6 (x.2.1.code.map cIns)), (900004, x.2.2.2, .row 45 2 (x.2.1.exits.map cExi))]⟩)
    (fun x => x.1 ≤ L.length ∧ goP (decide (x.1 = 0)) (L.drop x.1) x.2.1 = goP true L ⟨0, [], []⟩ ∧ bkOk x.2.1 ∧ x.2.1.code.length ≤ x.1 ∧ x.2.1.exits.length ≤ x.1) (fun x => L.length - x.1) (0, ⟨0, [], []⟩, gc, ge) ?_ ?_ ?_
  · (refine cov_of ?_ ?_ <;> simp [go_sem, htk', hln])
  · simp; exact bkOk_nil
  rintro ⟨k, t, gc, ge⟩ ⟨hk, hA, hb, hcl, hel⟩
  simp only at hk hA hb hcl hel
  (refine awp_sr fun KK hKK => ?_; simp [go_sem]; ((repeat' (first|(refine ag_x ?_;simp [go_sem])|intro _|refine And.intro ?_ ?_|(apply hKK;clear hKK KK)));all_goals first|refine Hold.mk ?_|omega|with_reducible assumption|(simp only [InR] at *;omega)|skip))
  refine awp_seq_k fun K2 hK2 => ?_
  (refine awp_if fun T F hT hF => ?_; simp [go_sem]; refine BR.intro (fun h3 => hT ?_) (fun h3 => hF ?_); all_goals clear hT hF T F; try simp at h3) 
  · refine awp_skip ?_
    refine hK2 _ ?_; clear hK2
    obtain ⟨l, hl'⟩ : ∃ x, L[k]? = some x := ⟨_, List.getElem?_eq_getElem h3⟩
    have hll := hmem l (List.mem_of_getElem? hl')
    rw [drop_at hl'] at hA
    refine awp_seq_k fun K4 hK4 => ?_
    have tl4 : ∀ S' t' gc' ge', Cov S' ⟨[(0, dS s), (2, .ptr 2 g2 0), (4, .ptr 900002 g5 0), (18, dSs L), (19, dI L.length), (20, dI k)],
        [(2, g2, .box [dI 0, .v (.slice none 0 0), .v (.slice none 0 0)]), (900002, g5, .box [dI t'.regs, .own 900003 gc', .own 900004 ge']), (900003, gc', .row 63 6 (t'.code.map cIns)), (900004, ge', .row 45 2 (t'.exits.map cExi))]⟩ →
        goP false (L.drop (k + 1)) t' = goP true L ⟨0, [], []⟩ → bkOk t' → t'.code.length ≤ k + 1 → t'.exits.length ≤ k + 1 → K4 S' := fun S' t' gc' ge' hS h1 h2 h3' h4 => by
      refine hK4 _ ?_; clear hK4
      refine awp_cov hS ?_; clear hS
      (refine awp_r fun KK hKK => ?_; simp [go_sem]; ((repeat' (first|(refine ag_x ?_;simp [go_sem])|intro _|refine And.intro ?_ ?_|(apply hKK;clear hKK KK)));all_goals first|refine Hold.mk ?_|omega|with_reducible assumption|(simp only [InR] at *;omega)|skip))
      refine ⟨(k + 1, t', gc', ge'), ?_, ⟨h3, by simpa using h1, h2, h3', h4⟩, by simp; omega⟩
      (refine cov_of ?_ ?_ <;> simp [go_sem])
    clear hK4
    refine awp_block ?_
    (refine awp_sr fun KK hKK => ?_; simp [go_sem, hl']; ((repeat' (first|(refine ag_x ?_;simp [go_sem, hl'])|intro _|refine And.intro ?_ ?_|(apply hKK;clear hKK KK)));all_goals first|refine Hold.mk ?_|omega|with_reducible assumption|(simp only [InR] at *;omega)|skip))
    refine awp_seq_k fun K5 hK5 => ?_
    (refine awp_sr fun KK hKK => ?_; simp [go_sem]; ((repeat' (first|(refine ag_x ?_;simp [go_sem])|intro _|refine And.intro ?_ ?_|(apply hKK;clear hKK KK)));all_goals first|refine Hold.mk ?_|omega|with_reducible assumption|(simp only [InR] at *;omega)|skip))
    (refine awp_if fun T F hT hF => ?_; simp [go_sem]; refine BR.intro (fun h6 => hT ?_) (fun h6 => hF ?_); all_goals clear hT hF T F; try simp at h6) 
    · subst h6
      simp only [decide_true, goP] at hA
      generalize hq : Lib.trimPrefix l [114, 101, 103, 115, 32] = q at hA
      have hql : q.length ≤ 20000 := by
        rw [← hq]; unfold Lib.trimPrefix; split
        · simp; omega
        · exact hll
      by_cases hv : ∃ v, Lib.atoiAll q = .ok v
      · obtain ⟨v, hv⟩ := hv
        rw [hv] at hA
        (refine awp_sr fun KK hKK => ?_; simp [go_sem]; ((repeat' (first|(refine ag_x ?_;simp [go_sem])|intro _|refine And.intro ?_ ?_|(apply hKK;clear hKK KK)));all_goals first|refine Hold.mk ?_|omega|with_reducible assumption|(simp only [InR] at *;omega)|skip))
        ((try refine CallT.toA ?_); refine callT_m (by first | exact .inl ⟨rfl, rfl⟩ | exact .inr rfl) (by simp [go_sem]) ?_; intro args ha; simp [go_sem] at ha; subst ha; refine ⟨_, (trim_spec _ _), ?_⟩; rintro _ rfl; simp [go_sem]; ((repeat' (first|(refine ag_x ?_;simp [go_sem])|intro _|refine And.intro ?_ ?_|(apply hKK;clear hKK KK)));all_goals first|refine Hold.mk ?_|omega|with_reducible assumption|(simp only [InR] at *;omega)|skip))
        rw [hq]
        ((try refine CallT.toA ?_); refine callT_m (by first | exact .inl ⟨rfl, rfl⟩ | exact .inr rfl) (by simp [go_sem]) ?_; intro args ha; simp [go_sem] at ha; subst ha; refine ⟨_, (atoi_ok q (by omega) v hv), ?_⟩; rintro _ rfl; simp [go_sem]; ((repeat' (first|(refine ag_x ?_;simp [go_sem])|intro _|refine And.intro ?_ ?_|(apply hKK;clear hKK KK)));all_goals first|refine Hold.mk ?_|omega|with_reducible assumption|(simp only [InR] at *;omega)|skip))
        refine awp_seq_k fun K7 hK7 => ?_
        (refine awp_sr fun KK hKK => ?_; simp [go_sem]; ((repeat' (first|(refine ag_x ?_;simp [go_sem])|intro _|refine And.intro ?_ ?_|(apply hKK;clear hKK KK)));all_goals first|refine Hold.mk ?_|omega|with_reducible assumption|(simp only [InR] at *;omega)|skip))
        (refine awp_if fun T F hT hF => ?_; simp [go_sem]; refine hF ?_; clear hT hF T F)
        refine awp_skip ?_
        refine hK7 _ ?_; clear hK7
        (refine awp_sr fun KK hKK => ?_; simp [go_sem]; ((repeat' (first|(refine ag_x ?_;simp [go_sem])|intro _|refine And.intro ?_ ?_|(apply hKK;clear hKK KK)));all_goals first|refine Hold.mk ?_|omega|with_reducible assumption|(simp only [InR] at *;omega)|skip))
        refine awp_exit ?_
        simp only [go_sem]
        refine tl4 _ { t with regs := v } gc ge ?_ hA hb (by simp only; omega) (by simp only; omega)
        (refine cov_of ?_ ?_ <;> simp [go_sem])
      · have hA' : goP true L ⟨0, [], []⟩ = none := by
          rw [← hA]
          cases hc : Lib.atoiAll q with
          | ok v => exact absurd ⟨v, hc⟩ hv
          | range => rfl
          | _ => rfl
        (refine awp_sr fun KK hKK => ?_; simp [go_sem]; ((repeat' (first|(refine ag_x ?_;simp [go_sem])|intro _|refine And.intro ?_ ?_|(apply hKK;clear hKK KK)));all_goals first|refine Hold.mk ?_|omega|with_reducible assumption|(simp only [InR] at *;omega)|skip))
        ((try refine CallT.toA ?_); refine callT_m (by first | exact .inl ⟨rfl, rfl⟩ | exact .inr rfl) (by simp [go_sem]) ?_; intro args ha; simp [go_sem] at ha; subst ha; refine ⟨_, (trim_spec _ _), ?_⟩; rintro _ rfl; simp [go_sem]; ((repeat' (first|(refine ag_x ?_;simp [go_sem])|intro _|refine And.intro ?_ ?_|(apply hKK;clear hKK KK)));all_goals first|refine Hold.mk ?_|omega|with_reducible assumption|(simp only [InR] at *;omega)|skip))
        rw [hq]
        ((try refine CallT.toA ?_); refine callT_m (by first | exact .inl ⟨rfl, rfl⟩ | exact .inr rfl) (by simp [go_sem]) ?_; intro args ha; simp [go_sem] at ha; subst ha; refine ⟨_, (atoi_bad q (by omega) (fun v h => hv ⟨v, h⟩)), ?_⟩; rintro _ ⟨v, N, rfl⟩; simp [go_sem]; ((repeat' (first|(refine ag_x ?_;simp [go_sem])|intro _|refine And.intro ?_ ?_|(apply hKK;clear hKK KK)));all_goals first|refine Hold.mk ?_|omega|with_reducible assumption|(simp only [InR] at *;omega)|skip))
        refine awp_seq_k fun K7 hK7 => ?_
        (refine awp_sr fun KK hKK => ?_; simp [go_sem]; ((repeat' (first|(refine ag_x ?_;simp [go_sem])|intro _|refine And.intro ?_ ?_|(apply hKK;clear hKK KK)));all_goals first|refine Hold.mk ?_|omega|with_reducible assumption|(simp only [InR] at *;omega)|skip))
        (refine awp_if fun T F hT hF => ?_; simp [go_sem]; refine hT ?_; clear hT hF T F)
        (refine awp_sr fun KK hKK => ?_; simp [go_sem]; ((repeat' (first|(refine ag_x ?_;simp [go_sem])|intro _|refine And.intro ?_ ?_|(apply hKK;clear hKK KK)));all_goals first|refine Hold.mk ?_|omega|with_reducible assumption|(simp only [InR] at *;omega)|skip))
        (refine awp_ret ?_; simp [go_sem, hpv, hA', parseR])
    · refine awp_skip ?_
      refine hK5 _ ?_; clear hK5
      simp only [h6, decide_false, goP] at hA
      obtain ⟨w, ws, hw⟩ := spl_cons 32 l
      have hwl := spl_len 32 l
      have hwm := spl_mem 32 l
      rw [hw] at hA hwl hwm
      (refine awp_sr fun KK hKK => ?_; simp [go_sem]; ((repeat' (first|(refine ag_x ?_;simp [go_sem])|intro _|refine And.intro ?_ ?_|(apply hKK;clear hKK KK)));all_goals first|refine Hold.mk ?_|omega|with_reducible assumption|(simp only [InR] at *;omega)|skip))
      ((try refine CallT.toA ?_); refine callT_m (by first | exact .inl ⟨rfl, rfl⟩ | exact .inr rfl) (by simp [go_sem]) ?_; intro args ha; simp [go_sem] at ha; subst ha; refine ⟨_, (split_spec l 32 (by omega)), ?_⟩; rintro _ rfl; simp [go_sem]; ((repeat' (first|(refine ag_x ?_;simp [go_sem])|intro _|refine And.intro ?_ ?_|(apply hKK;clear hKK KK)));all_goals first|refine Hold.mk ?_|omega|with_reducible assumption|(simp only [InR] at *;omega)|skip))
      rw [hw]
      (refine callA_l [900002, 900003, 900004] (by first | exact .inl ⟨rfl, rfl⟩ | exact .inr rfl) (by simp [go_sem]) ?_; intro args ha; simp [go_sem] at ha; subst ha; refine ⟨_, _, (line_spec t w ws g5 gc ge (by simp at hwl; omega) (fun x hx => by have := hwm x (by simp [hx]); omega) (by omega) (by omega)), (by simp [go_sem]), ?_⟩; rintro ps r hps ⟨gc', ge', rfl, rfl⟩; simp [go_sem]; ((repeat' (first|(refine ag_x ?_;simp [go_sem])|intro _|refine And.intro ?_ ?_|(apply hKK;clear hKK KK)));all_goals first|refine Hold.mk ?_|omega|with_reducible assumption|(simp only [InR] at *;omega)|skip))
      cases hlv : lineV t (w :: ws) with
      | none =>
        rw [hlv] at hA
        have hA' : goP true L ⟨0, [], []⟩ = none := hA.symm
        (refine awp_if fun T F hT hF => ?_; simp [go_sem]; refine hT ?_; clear hT hF T F)
        (refine awp_sr fun KK hKK => ?_; simp [go_sem]; ((repeat' (first|(refine ag_x ?_;simp [go_sem])|intro _|refine And.intro ?_ ?_|(apply hKK;clear hKK KK)));all_goals first|refine Hold.mk ?_|omega|with_reducible assumption|(simp only [InR] at *;omega)|skip))
        (refine awp_ret ?_; simp [go_sem, hpv, hA', parseR])
      | some t' =>
        rw [hlv] at hA
        have hlen' := lineV_len hlv
        (refine awp_if fun T F hT hF => ?_; simp [go_sem]; refine hF ?_; clear hT hF T F)
        refine awp_skip ?_
        refine tl4 _ t' gc' ge' ?_ hA (lineV_bk hlv hb) (by omega) (by omega)
        (refine cov_of ?_ ?_ <;> simp [go_sem])
  · refine awp_exit ?_
    simp only [go_sem]
    refine hK1 _ ?_; clear hK1
    have hkl : k = L.length := by omega
    subst hkl
    rw [List.drop_length] at hA
    have hA : goP true L ⟨0, [], []⟩ = some t := by rw [← hA]; cases decide (L.length = 0) <;> rfl
    (refine awp_sr fun KK hKK => ?_; simp [go_sem]; ((repeat' (first|(refine ag_x ?_;simp [go_sem])|intro _|refine And.intro ?_ ?_|(apply hKK;clear hKK KK)));all_goals first|refine Hold.mk ?_|omega|with_reducible assumption|(simp only [InR] at *;omega)|skip))
    ((try refine CallT.toA ?_); refine callT_f (by first | exact .inl ⟨rfl, rfl⟩ | exact .inr rfl) ?_; intro args ha; simp [go_sem] at ha; subst ha; refine ⟨_, (text_spec t hb), ?_⟩; rintro _ rfl; refine ⟨rfl, ?_⟩; simp [go_sem]; ((repeat' (first|(refine ag_x ?_;simp [go_sem])|intro _|refine And.intro ?_ ?_|(apply hKK;clear hKK KK)));all_goals first|refine Hold.mk ?_|omega|with_reducible assumption|(simp only [InR] at *;omega)|skip))
    refine awp_seq_k fun K10 hK10 => ?_
    (refine awp_sr fun KK hKK => ?_; simp [go_sem]; ((repeat' (first|(refine ag_x ?_;simp [go_sem])|intro _|refine And.intro ?_ ?_|(apply hKK;clear hKK KK)));all_goals first|refine Hold.mk ?_|omega|with_reducible assumption|(simp only [InR] at *;omega)|skip))
    (refine awp_if fun T F hT hF => ?_; simp [go_sem]; refine BR.intro (fun h11 => hT ?_) (fun h11 => hF ?_); all_goals clear hT hF T F; try simp at h11) 
    · (refine awp_sr fun KK hKK => ?_; simp [go_sem]; ((repeat' (first|(refine ag_x ?_;simp [go_sem])|intro _|refine And.intro ?_ ?_|(apply hKK;clear hKK KK)));all_goals first|refine Hold.mk ?_|omega|with_reducible assumption|(simp only [InR] at *;omega)|skip))
      have e : parseV s = (⟨0, [], []⟩, 1) := by
        rw [hpv, hA]
        refine parseR_bad fun ⟨h1, h2⟩ => ?_
        simp [h1, h2] at h11
      (refine awp_ret ?_; simp [go_sem, e])
    · refine awp_skip ?_
      refine hK10 _ ?_; clear hK10
      have hok : trOk t = true := by
        cases h : trOk t with
        | true => rfl
        | false => simp [h] at h11
      have htx : textV t = s := by
        simp [hok] at h11
        exact h11
      have e : parseV s = (t, 0) := by rw [hpv, hA]; exact parseR_some hok htx
      (refine awp_sr fun KK hKK => ?_; simp [go_sem]; ((repeat' (first|(refine ag_x ?_;simp [go_sem])|intro _|refine And.intro ?_ ?_|(apply hKK;clear hKK KK)));all_goals first|refine Hold.mk ?_|omega|with_reducible assumption|(simp only [InR] at *;omega)|skip))
      (refine awp_ret ?_; simp [go_sem, e])
end Go.Proofs.YtmgbaegdkjcagaaDoor

set_option linter.unusedSimpArgs false
set_option linter.unusedVariables false
namespace Go.Proofs.YtmgbaegdkjcagaaDoor
open Go.Eng
set_option maxRecDepth 20000
attribute [local irreducible] AG CallA CallT AWp PCall ACall AgC

theorem addR_len {f : Bool} {w : List UInt8} {n : List Int} {t t' : Tr} (h : addR f w n t = some t') : t'.code.length ≤ t.code.length + 1 ∧ t'.exits.length ≤ t.exits.length + 1 := by
  unfold addR at h
  split at h
  · simp only [Option.some.injEq] at h; subst h; simp
  · split at h
    · simp only [Option.some.injEq] at h; subst h; simp
    · simp only [Option.map_eq_some_iff] at h
      obtain ⟨c, _, rfl⟩ := h
      simp
theorem numsR_len : ∀ {l : List (List UInt8)} {n : List Int}, numsR l = some n → n.length = l.length
  | [], n, h => by simp [numsR] at h; subst h; rfl
  | s :: l, n, h => by
    simp only [numsR] at h
    cases hv : numR s with
    | none => rw [hv] at h; cases h
    | some v =>
      rw [hv] at h
      simp only [Option.map_eq_some_iff] at h
      obtain ⟨m, hm, rfl⟩ := h
      simp [numsR_len hm]
theorem rline_ok (s : List UInt8) (hl : s.length ≤ 20000) {n : List Int} {w : List UInt8} (h : numsR (spl 32 s).tail = some n) (hw : (spl 32 s).headD [] = w) : PCall Tryd.prog 30 [dS s] fun r => r = .tup [dS w, dIs n, dB true] := by
  have := rline_spec s hl
  unfold rlineD at this
  rw [h, hw] at this
  exact this
theorem rline_bad (s : List UInt8) (hl : s.length ≤ 20000) (h : numsR (spl 32 s).tail = none) : PCall Tryd.prog 30 [dS s] fun r => r = .tup [dS [], dIs [], dB false] := by
  have := rline_spec s hl
  unfold rlineD at this
  rw [h] at this
  exact this
set_option maxHeartbeats 8000000 in
theorem rparse_spec (s : List UInt8) (hl : s.length ≤ 20000) : PCall Tryd.prog 12 [dS s] fun r => r = .tup [dTr (parseV s).1, dI (parseV s).2] := by 
  refine pcall_of Tryd.func12 rfl rfl Tryd.ntmps12 (rs := [.cell 2 35, .tmp 3]) (tys := [35, 28]) rfl rfl (by simp) ?_
  have hpv : parseV s = parseR (goR true (spl 10 s).dropLast ⟨0, [], []⟩) s := (parse_same s).symm
  have hlen := spl_len 10 s
  have hmem : ∀ l ∈ (spl 10 s).dropLast, l.length ≤ 20000 := fun l h => by
    have := spl_mem 10 s l (List.dropLast_subset _ h)
    omega
  have hdl : (spl 10 s).dropLast.length + 1 = (spl 10 s).length := by
    rw [List.length_dropLast]
    have := List.length_pos_iff.2 (spl_ne 10 s)
    omega
  have htk : ∀ (k : Nat), k < (spl 10 s).dropLast.length → (spl 10 s)[k]? = (spl 10 s).dropLast[k]? := fun k h => by
    rw [List.dropLast_eq_take, List.getElem?_take, if_pos (by omega)]
  generalize hL : (spl 10 s).dropLast = L at *
  have hLl : L.length ≤ 20000 := by omega
  (refine awp_sr fun KK hKK => ?_; simp [go_sem]; ((repeat' (first|(refine ag_x ?_;simp [go_sem])|intro _|refine And.intro ?_ ?_|(apply hKK;clear hKK KK)));all_goals first|refine Hold.mk ?_|omega|with_reducible assumption|(simp only [InR] at *;omega)|skip))
  rename_i g2
  (refine awp_sr fun KK hKK => ?_; simp [go_sem]; ((repeat' (first|(refine ag_x ?_;simp [go_sem])|intro _|refine And.intro ?_ ?_|(apply hKK;clear hKK KK)));all_goals first|refine Hold.mk ?_|omega|with_reducible assumption|(simp only [InR] at *;omega)|skip))
  ((try refine CallT.toA ?_); refine callT_m (by first | exact .inl ⟨rfl, rfl⟩ | exact .inr rfl) (by simp [go_sem]) ?_; intro args ha; simp [go_sem] at ha; subst ha; refine ⟨_, (split_spec s 10 (by omega)), ?_⟩; rintro _ rfl; simp [go_sem]; ((repeat' (first|(refine ag_x ?_;simp [go_sem])|intro _|refine And.intro ?_ ?_|(apply hKK;clear hKK KK)));all_goals first|refine Hold.mk ?_|omega|with_reducible assumption|(simp only [InR] at *;omega)|skip))
  (refine awp_sr fun KK hKK => ?_; simp [go_sem]; ((repeat' (first|(refine ag_x ?_;simp [go_sem])|intro _|refine And.intro ?_ ?_|(apply hKK;clear hKK KK)));all_goals first|refine Hold.mk ?_|omega|with_reducible assumption|(simp only [InR] at *;omega)|skip))
  rename_i g5
  refine awp_nilbox 900003 70 6 1 (sb := 5) rfl rfl (by decide) fun gc => ?_
  refine awp_nilbox 900004 71 2 2 (sb := 5) rfl rfl (by decide) fun ge => ?_
  simp only [List.set, go_sem]
  refine awp_seq_k fun K1 hK1 => ?_
  (refine awp_sr fun KK hKK => ?_; simp [go_sem]; ((repeat' (first|(refine ag_x ?_;simp [go_sem])|intro _|refine And.intro ?_ ?_|(apply hKK;clear hKK KK)));all_goals first|refine Hold.mk ?_|omega|with_reducible assumption|(simp only [InR] at *;omega)|skip))
  refine awp_block ?_
  refine awp_loop (σ := Nat × Tr × Nat × Nat) (fun x => ⟨[(0, dS s), (2, .ptr 2 g2 0), (4, dSs (spl 10 s)), (5, .ptr 5 g5 0), (6, dI x.1)],
    [(2, g2, .box [dI 0, .v (.slice none 0 0), .v (.slice none 0 0)]), (5, g5, .box [dI x.2.1.regs, .own 900003 x.2.2.1, .own 900004 x.2.2.2]), (900003, x.2.2.1, .row 70 6 (x.2.1.code.map cIns)), (900004, x.2.2.2, .row 71 2 (x.2.1.exits.map cExi))]⟩)
    (fun x => x.1 ≤ L.length ∧ goR (decide (x.1 = 0)) (L.drop x.1) x.2.1 = goR true L ⟨0, [], []⟩ ∧ bkOk x.2.1 ∧ x.2.1.code.length ≤ x.1 ∧ x.2.1.exits.length ≤ x.1) (fun x => L.length - x.1) (0, ⟨0, [], []⟩, gc, ge) ?_ ?_ ?_
  · (refine cov_of ?_ ?_ <;> simp [go_sem])
  · simp; exact bkOk_nil
  rintro ⟨k, t, gc, ge⟩ ⟨hk, hA, hb, hcl, hel⟩
  simp only at hk hA hb hcl hel
  refine awp_seq_k fun K2 hK2 => ?_
  (refine awp_sr fun KK hKK => ?_; simp [go_sem]; ((repeat' (first|(refine ag_x ?_;simp [go_sem])|intro _|refine And.intro ?_ ?_|(apply hKK;clear hKK KK)));all_goals first|refine Hold.mk ?_|omega|with_reducible assumption|(simp only [InR] at *;omega)|skip))
  (refine awp_if fun T F hT hF => ?_; simp [go_sem]; refine BR.intro (fun h3 => hT ?_) (fun h3 => hF ?_); all_goals clear hT hF T F; try simp at h3) 
  · refine awp_skip ?_
    refine hK2 _ ?_; clear hK2
    obtain ⟨l, hl'⟩ : ∃ x, L[k]? = some x := ⟨_, List.getElem?_eq_getElem (by omega)⟩
    have hl2 := (htk k (by omega)).trans hl'
    have hll := hmem l (List.mem_of_getElem? hl')
    rw [drop_at hl'] at hA
    simp only [goR] at hA
    refine awp_seq_k fun K4 hK4 => ?_
    have tl4 : ∀ S' t' gc' ge', Cov S' ⟨[(0, dS s), (2, .ptr 2 g2 0), (4, dSs (spl 10 s)), (5, .ptr 5 g5 0), (6, dI k)],
        [(2, g2, .box [dI 0, .v (.slice none 0 0), .v (.slice none 0 0)]), (5, g5, .box [dI t'.regs, .own 900003 gc', .own 900004 ge']), (900003, gc', .row 70 6 (t'.code.map cIns)), (900004, ge', .row 71 2 (t'.exits.map cExi))]⟩ →
        goR false (L.drop (k + 1)) t' = goR true L ⟨0, [], []⟩ → bkOk t' → t'.code.length ≤ k + 1 → t'.exits.length ≤ k + 1 → K4 S' := fun S' t' gc' ge' hS h1 h2 h3' h4 => by
      refine hK4 _ ?_; clear hK4
      refine awp_cov hS ?_; clear hS
      (refine awp_r fun KK hKK => ?_; simp [go_sem]; ((repeat' (first|(refine ag_x ?_;simp [go_sem])|intro _|refine And.intro ?_ ?_|(apply hKK;clear hKK KK)));all_goals first|refine Hold.mk ?_|omega|with_reducible assumption|(simp only [InR] at *;omega)|skip))
      refine ⟨(k + 1, t', gc', ge'), ?_, ⟨by simp only; omega, by simpa using h1, h2, h3', h4⟩, by simp; omega⟩
      (refine cov_of ?_ ?_ <;> simp [go_sem])
    clear hK4
    refine awp_block ?_
    (refine awp_sr fun KK hKK => ?_; simp [go_sem, hl2]; ((repeat' (first|(refine ag_x ?_;simp [go_sem, hl2])|intro _|refine And.intro ?_ ?_|(apply hKK;clear hKK KK)));all_goals first|refine Hold.mk ?_|omega|with_reducible assumption|(simp only [InR] at *;omega)|skip))
    cases hn : numsR (spl 32 l).tail with
    | none =>
      rw [hn] at hA
      have hA' : goR true L ⟨0, [], []⟩ = none := hA.symm
      ((try refine CallT.toA ?_); refine callT_m (by first | exact .inl ⟨rfl, rfl⟩ | exact .inr rfl) (by simp [go_sem]) ?_; intro args ha; simp [go_sem] at ha; subst ha; refine ⟨_, (rline_bad l (by omega) hn), ?_⟩; rintro _ rfl; simp [go_sem]; ((repeat' (first|(refine ag_x ?_;simp [go_sem])|intro _|refine And.intro ?_ ?_|(apply hKK;clear hKK KK)));all_goals first|refine Hold.mk ?_|omega|with_reducible assumption|(simp only [InR] at *;omega)|skip))
      refine awp_seq_k fun K5 hK5 => ?_
      (refine awp_sr fun KK hKK => ?_; simp [go_sem]; ((repeat' (first|(refine ag_x ?_;simp [go_sem])|intro _|refine And.intro ?_ ?_|(apply hKK;clear hKK KK)));all_goals first|refine Hold.mk ?_|omega|with_reducible assumption|(simp only [InR] at *;omega)|skip))
      (refine awp_if fun T F hT hF => ?_; simp [go_sem]; refine hT ?_; clear hT hF T F)
      (refine awp_sr fun KK hKK => ?_; simp [go_sem]; ((repeat' (first|(refine ag_x ?_;simp [go_sem])|intro _|refine And.intro ?_ ?_|(apply hKK;clear hKK KK)));all_goals first|refine Hold.mk ?_|omega|with_reducible assumption|(simp only [InR] at *;omega)|skip))
      (refine awp_ret ?_; simp [go_sem, hpv, hA', parseR])
    | some n =>
      rw [hn] at hA
      simp only at hA
      have hnl : n.length ≤ 20000 := by
        have h1 := spl_len 32 l
        have h2 := numsR_len hn
        rw [List.length_tail] at h2
        omega
      generalize hw : (spl 32 l).headD [] = w at *
      ((try refine CallT.toA ?_); refine callT_m (by first | exact .inl ⟨rfl, rfl⟩ | exact .inr rfl) (by simp [go_sem]) ?_; intro args ha; simp [go_sem] at ha; subst ha; refine ⟨_, (rline_ok l (by omega) hn hw), ?_⟩; rintro _ rfl; simp [go_sem]; ((repeat' (first|(refine ag_x ?_;simp [go_sem])|intro _|refine And.intro ?_ ?_|(apply hKK;clear hKK KK)));all_goals first|refine Hold.mk ?_|omega|with_reducible assumption|(simp only [InR] at *;omega)|skip))
      refine awp_seq_k fun K5 hK5 => ?_
      (refine awp_sr fun KK hKK => ?_; simp [go_sem]; ((repeat' (first|(refine ag_x ?_;simp [go_sem])|intro _|refine And.intro ?_ ?_|(apply hKK;clear hKK KK)));all_goals first|refine Hold.mk ?_|omega|with_reducible assumption|(simp only [InR] at *;omega)|skip))
      (refine awp_if fun T F hT hF => ?_; simp [go_sem]; refine hF ?_; clear hT hF T F)
      refine awp_skip ?_
      refine hK5 _ ?_; clear hK5
      refine awp_seq_k fun K7 hK7 => ?_
      (refine awp_sr fun KK hKK => ?_; simp [go_sem]; ((repeat' (first|(refine ag_x ?_;simp [go_sem])|intro _|refine And.intro ?_ ?_|(apply hKK;clear hKK KK)));all_goals first|refine Hold.mk ?_|omega|with_reducible assumption|(simp only [InR] at *;omega)|skip))
      (refine awp_if fun T F hT hF => ?_; simp [go_sem]; refine BR.intro (fun h8 => hT ?_) (fun h8 => hF ?_); all_goals clear hT hF T F; try simp at h8) 
      · have hadd : addR (decide (k = 0)) w n t = some { t with regs := n.headD 0 } := by
          unfold addR
          rw [if_pos ⟨by simpa using h8.1.1, h8.1.2, by omega⟩]
        rw [hadd] at hA
        have hn1 : n.length = 1 := by omega
        obtain ⟨v, rfl⟩ : ∃ v, n = [v] := List.length_eq_one_iff.1 hn1
        (refine awp_sr fun KK hKK => ?_; simp [go_sem]; ((repeat' (first|(refine ag_x ?_;simp [go_sem])|intro _|refine And.intro ?_ ?_|(apply hKK;clear hKK KK)));all_goals first|refine Hold.mk ?_|omega|with_reducible assumption|(simp only [InR] at *;omega)|skip))
        refine awp_exit ?_
        simp only [go_sem]
        refine tl4 _ { t with regs := v } gc ge ?_ hA hb (by simp only; omega) (by simp only; omega)
        (refine cov_of ?_ ?_ <;> simp [go_sem])
      · refine awp_skip ?_
        refine hK7 _ ?_; clear hK7
        refine awp_seq_k fun K9 hK9 => ?_
        (refine awp_sr fun KK hKK => ?_; simp [go_sem]; ((repeat' (first|(refine ag_x ?_;simp [go_sem])|intro _|refine And.intro ?_ ?_|(apply hKK;clear hKK KK)));all_goals first|refine Hold.mk ?_|omega|with_reducible assumption|(simp only [InR] at *;omega)|skip))
        (refine awp_if fun T F hT hF => ?_; simp [go_sem]; refine BR.intro (fun h10 => hT ?_) (fun h10 => hF ?_); all_goals clear hT hF T F; try simp at h10) 
        · obtain ⟨b, sl, rfl⟩ : ∃ b sl, n = b :: sl := by
            cases n with
            | nil => simp at h10
            | cons b sl => exact ⟨b, sl, rfl⟩
          have hbi := numsR_inr hn
          have hadd : addR (decide (k = 0)) w (b :: sl) t = some { t with exits := t.exits ++ [⟨b, sl⟩] } := by
            unfold addR
            rw [if_neg, if_pos ⟨h10.1, by simp⟩]
            · rfl
            · rintro ⟨q1, q2, q3⟩
              exact h8 (by simpa using q1) q2 (by omega)
          rw [hadd] at hA
          ((refine awp_dr (.qs [0, 2, 3, 5, 6, 1, 4, 7] (.kp 8 (.one 9 (.qs [10] (.one 11 (.nil)))))) (by kernel_rfl) ?_ ?_ ?_ ?_); (kernel_rfl); (exact (by decide +kernel)); (kernel_rfl); intro KK hKK; ((repeat' (first|(refine ag_x ?_;simp [go_sem])|refine adr_nil ?_|refine adr_two ?_ ?_|refine adr_kp2 ?_ ?_|((first|refine adr_qs fun KK hKK=>?_|refine adr_y fun KK hKK=>?_);simp [go_sem])|intro _|refine And.intro ?_ ?_|(apply hKK;clear hKK KK)));all_goals first|refine Hold.mk ?_|omega|with_reducible assumption|(simp only [InR] at *;omega)|skip))
          rename_i g12 g13
          refine awp_exit ?_
          simp only [go_sem]
          refine tl4 _ { t with exits := t.exits ++ [⟨b, sl⟩] } gc g13 ?_ hA (fun x hx => ?_) (by simp only; omega) (by simp; omega)
          · (refine cov_of ?_ ?_ <;> simp [go_sem])
          · simp at hx
            rcases hx with hx | hx
            · exact hb x hx
            · subst hx; exact hbi b (by simp)
        · refine awp_skip ?_
          refine hK9 _ ?_; clear hK9
          have hadd : addR (decide (k = 0)) w n t = (instrV w n).map fun c => { t with code := t.code ++ [c] } := by
            unfold addR
            rw [if_neg, if_neg]
            · rintro ⟨q1, q2⟩
              exact q2 (by simpa using h10 q1)
            · rintro ⟨q1, q2, q3⟩
              exact h8 (by simpa using q1) q2 (by omega)
          rw [hadd] at hA
          (refine awp_sr fun KK hKK => ?_; simp [go_sem]; ((repeat' (first|(refine ag_x ?_;simp [go_sem])|intro _|refine And.intro ?_ ?_|(apply hKK;clear hKK KK)));all_goals first|refine Hold.mk ?_|omega|with_reducible assumption|(simp only [InR] at *;omega)|skip))
          ((try refine CallT.toA ?_); refine callT_m (by first | exact .inl ⟨rfl, rfl⟩ | exact .inr rfl) (by simp [go_sem]) ?_; intro args ha; simp [go_sem] at ha; subst ha; refine ⟨_, (instr_spec _ _), ?_⟩; rintro _ rfl; simp [go_sem]; ((repeat' (first|(refine ag_x ?_;simp [go_sem])|intro _|refine And.intro ?_ ?_|(apply hKK;clear hKK KK)));all_goals first|refine Hold.mk ?_|omega|with_reducible assumption|(simp only [InR] at *;omega)|skip))
          refine awp_seq_k fun K11 hK11 => ?_
          (refine awp_sr fun KK hKK => ?_; simp [go_sem]; ((repeat' (first|(refine ag_x ?_;simp [go_sem])|intro _|refine And.intro ?_ ?_|(apply hKK;clear hKK KK)));all_goals first|refine Hold.mk ?_|omega|with_reducible assumption|(simp only [InR] at *;omega)|skip))
          cases hi : instrV w n with
          | none =>
            rw [hi] at hA
            have hA' : goR true L ⟨0, [], []⟩ = none := hA.symm
            (refine awp_if fun T F hT hF => ?_; simp [go_sem]; refine hT ?_; clear hT hF T F)
            (refine awp_sr fun KK hKK => ?_; simp [go_sem]; ((repeat' (first|(refine ag_x ?_;simp [go_sem])|intro _|refine And.intro ?_ ?_|(apply hKK;clear hKK KK)));all_goals first|refine Hold.mk ?_|omega|with_reducible assumption|(simp only [InR] at *;omega)|skip))
            (refine awp_ret ?_; simp [go_sem, hpv, hA', parseR])
          | some c =>
            rw [hi] at hA
            (refine awp_if fun T F hT hF => ?_; simp [go_sem]; refine hF ?_; clear hT hF T F)
            refine awp_skip ?_
            refine hK11 _ ?_; clear hK11
            (refine awp_r fun KK hKK => ?_; simp [go_sem]; ((repeat' (first|(refine ag_x ?_;simp [go_sem])|intro _|refine And.intro ?_ ?_|(apply hKK;clear hKK KK)));all_goals first|refine Hold.mk ?_|omega|with_reducible assumption|(simp only [InR] at *;omega)|skip))
            rename_i g12
            refine tl4 _ { t with code := t.code ++ [c] } g12 ge ?_ hA hb (by simp; omega) (by simp only; omega)
            (refine cov_of ?_ ?_ <;> simp [go_sem])
  · refine awp_exit ?_
    simp only [go_sem]
    refine hK1 _ ?_; clear hK1
    have hkl : k = L.length := by omega
    subst hkl
    rw [List.drop_length] at hA
    have hA : goR true L ⟨0, [], []⟩ = some t := by rw [← hA]; cases decide (L.length = 0) <;> rfl
    (refine awp_sr fun KK hKK => ?_; simp [go_sem]; ((repeat' (first|(refine ag_x ?_;simp [go_sem])|intro _|refine And.intro ?_ ?_|(apply hKK;clear hKK KK)));all_goals first|refine Hold.mk ?_|omega|with_reducible assumption|(simp only [InR] at *;omega)|skip))
    ((try refine CallT.toA ?_); refine callT_f (by first | exact .inl ⟨rfl, rfl⟩ | exact .inr rfl) ?_; intro args ha; simp [go_sem] at ha; subst ha; refine ⟨_, (rtext_spec t hb), ?_⟩; rintro _ rfl; refine ⟨rfl, ?_⟩; simp [go_sem]; ((repeat' (first|(refine ag_x ?_;simp [go_sem])|intro _|refine And.intro ?_ ?_|(apply hKK;clear hKK KK)));all_goals first|refine Hold.mk ?_|omega|with_reducible assumption|(simp only [InR] at *;omega)|skip))
    refine awp_seq_k fun K10 hK10 => ?_
    (refine awp_sr fun KK hKK => ?_; simp [go_sem]; ((repeat' (first|(refine ag_x ?_;simp [go_sem])|intro _|refine And.intro ?_ ?_|(apply hKK;clear hKK KK)));all_goals first|refine Hold.mk ?_|omega|with_reducible assumption|(simp only [InR] at *;omega)|skip))
    (refine awp_if fun T F hT hF => ?_; simp [go_sem]; refine BR.intro (fun h11 => hT ?_) (fun h11 => hF ?_); all_goals clear hT hF T F; try simp at h11) 
    · (refine awp_sr fun KK hKK => ?_; simp [go_sem]; ((repeat' (first|(refine ag_x ?_;simp [go_sem])|intro _|refine And.intro ?_ ?_|(apply hKK;clear hKK KK)));all_goals first|refine Hold.mk ?_|omega|with_reducible assumption|(simp only [InR] at *;omega)|skip))
      have e : parseV s = (⟨0, [], []⟩, 1) := by
        rw [hpv, hA]
        refine parseR_bad fun ⟨h1, h2⟩ => ?_
        simp [h1, h2] at h11
      (refine awp_ret ?_; simp [go_sem, e])
    · refine awp_skip ?_
      refine hK10 _ ?_; clear hK10
      have hok : trOk t = true := by
        cases h : trOk t with
        | true => rfl
        | false => simp [h] at h11
      have htx : textV t = s := by
        simp [hok] at h11
        exact h11
      have e : parseV s = (t, 0) := by rw [hpv, hA]; exact parseR_some hok htx
      (refine awp_sr fun KK hKK => ?_; simp [go_sem]; ((repeat' (first|(refine ag_x ?_;simp [go_sem])|intro _|refine And.intro ?_ ?_|(apply hKK;clear hKK KK)));all_goals first|refine Hold.mk ?_|omega|with_reducible assumption|(simp only [InR] at *;omega)|skip))
      (refine awp_ret ?_; simp [go_sem, e])
end Go.Proofs.YtmgbaegdkjcagaaDoor

set_option linter.unusedSimpArgs false
set_option linter.unusedVariables false
namespace Go.Proofs.YtmgbaegdkjcagaaDoor
open Go.Eng
set_option maxRecDepth 20000
attribute [local irreducible] AG CallA CallT AWp PCall ACall AgC

theorem ok_sizes {t : Tr} (h : trOk t = true) : t.code.length ≤ 500 ∧ t.exits.length ≤ 100 ∧ ∀ x ∈ t.exits, x.slots.length ≤ 2000 := by
  have hs := trOk_sizes h
  exact ⟨by omega, by omega, fun x hx => by have := (ex_inr (trOk_exits h x hx) hs.2.1).2; omega⟩
theorem parseV_sizes (s : List UInt8) : (parseV s).1.code.length ≤ 500 ∧ (parseV s).1.exits.length ≤ 100 ∧ ∀ x ∈ (parseV s).1.exits, x.slots.length ≤ 2000 := by
  have z : (⟨0, [], []⟩ : Tr).code.length ≤ 500 ∧ (⟨0, [], []⟩ : Tr).exits.length ≤ 100 ∧ ∀ x ∈ (⟨0, [], []⟩ : Tr).exits, x.slots.length ≤ 2000 := by simp
  unfold parseV
  generalize goP true (spl 10 s).dropLast ⟨0, [], []⟩ = g
  unfold parseR
  cases g with
  | none => exact z
  | some t =>
    simp only
    split
    · rename_i h
      simp at h
      exact ok_sizes h.1
    · exact z
theorem large_sizes {t : Tr} (h : largeV t = false) : t.code.length ≤ 500 ∧ t.exits.length ≤ 100 ∧ ∀ x ∈ t.exits, x.slots.length ≤ 2000 := by
  simp [largeV] at h
  refine ⟨h.1.1, h.1.2, fun x hx => ?_⟩
  have h3 := h.2
  unfold exSum at h3
  have : min x.slots.length 2000 ≤ (t.exits.map fun x => min x.slots.length 2000).sum := by
    have := List.mem_map_of_mem (f := fun x : Exi => min x.slots.length 2000) hx
    generalize (t.exits.map fun x => min x.slots.length 2000) = l at *
    induction l with
    | nil => simp at this
    | cons a l ih =>
      simp only [List.sum_cons] at *
      simp at this
      rcases this with e | e
      · omega
      · have := ih (by omega) e; omega
  omega
set_option maxHeartbeats 8000000 in
theorem traceReads_spec (s : List UInt8) : PCall Tryd.prog 4 [dS s] fun r => r = dB true := by 
  refine pcall_of Tryd.func4 rfl rfl Tryd.ntmps4 (rs := [.tmp 2]) (tys := [4]) rfl rfl (by simp) ?_
  (refine awp_sr fun KK hKK => ?_; simp [go_sem]; ((repeat' (first|(refine ag_x ?_;simp [go_sem])|intro _|refine And.intro ?_ ?_|(apply hKK;clear hKK KK)));all_goals first|refine Hold.mk ?_|omega|with_reducible assumption|(simp only [InR] at *;omega)|skip))
  refine awp_seq_k fun K1 hK1 => ?_
  (refine awp_sr fun KK hKK => ?_; simp [go_sem]; ((repeat' (first|(refine ag_x ?_;simp [go_sem])|intro _|refine And.intro ?_ ?_|(apply hKK;clear hKK KK)));all_goals first|refine Hold.mk ?_|omega|with_reducible assumption|(simp only [InR] at *;omega)|skip))
  (refine awp_if fun T F hT hF => ?_; simp [go_sem]; refine BR.intro (fun h2 => hT ?_) (fun h2 => hF ?_); all_goals clear hT hF T F; try simp at h2) 
  · (refine awp_sr fun KK hKK => ?_; simp [go_sem]; ((repeat' (first|(refine ag_x ?_;simp [go_sem])|intro _|refine And.intro ?_ ?_|(apply hKK;clear hKK KK)));all_goals first|refine Hold.mk ?_|omega|with_reducible assumption|(simp only [InR] at *;omega)|skip))
    ((try refine CallT.toA ?_); refine callT_m (by first | exact .inl ⟨rfl, rfl⟩ | exact .inr rfl) (by simp [go_sem]) ?_; intro args ha; simp [go_sem] at ha; subst ha; refine ⟨_, sane_spec, ?_⟩; rintro _ rfl; simp [go_sem]; ((repeat' (first|(refine ag_x ?_;simp [go_sem])|intro _|refine And.intro ?_ ?_|(apply hKK;clear hKK KK)));all_goals first|refine Hold.mk ?_|omega|with_reducible assumption|(simp only [InR] at *;omega)|skip))
    (refine awp_ret ?_; simp [go_sem])
  · refine awp_skip ?_
    refine hK1 _ ?_; clear hK1
    obtain ⟨z1, z2, z3⟩ := parseV_sizes s
    generalize hP : parseV s = p at *
    (refine awp_sr fun KK hKK => ?_; simp [go_sem]; ((repeat' (first|(refine ag_x ?_;simp [go_sem])|intro _|refine And.intro ?_ ?_|(apply hKK;clear hKK KK)));all_goals first|refine Hold.mk ?_|omega|with_reducible assumption|(simp only [InR] at *;omega)|skip))
    ((try refine CallT.toA ?_); refine callT_m (by first | exact .inl ⟨rfl, rfl⟩ | exact .inr rfl) (by simp [go_sem]) ?_; intro args ha; simp [go_sem] at ha; subst ha; refine ⟨_, (parse_spec s (by omega)), ?_⟩; rintro _ rfl; simp [go_sem]; ((repeat' (first|(refine ag_x ?_;simp [go_sem])|intro _|refine And.intro ?_ ?_|(apply hKK;clear hKK KK)));all_goals first|refine Hold.mk ?_|omega|with_reducible assumption|(simp only [InR] at *;omega)|skip))
    rw [hP]
    rename_i g3
    refine awp_frzbox 3 rfl rfl ?_
    simp only [go_sem]
    (refine awp_sr fun KK hKK => ?_; simp [go_sem]; ((repeat' (first|(refine ag_x ?_;simp [go_sem])|intro _|refine And.intro ?_ ?_|(apply hKK;clear hKK KK)));all_goals first|refine Hold.mk ?_|omega|with_reducible assumption|(simp only [InR] at *;omega)|skip))
    ((try refine CallT.toA ?_); refine callT_m (by first | exact .inl ⟨rfl, rfl⟩ | exact .inr rfl) (by simp [go_sem]) ?_; intro args ha; simp [go_sem] at ha; subst ha; refine ⟨_, (rparse_spec s (by omega)), ?_⟩; rintro _ rfl; simp [go_sem]; ((repeat' (first|(refine ag_x ?_;simp [go_sem])|intro _|refine And.intro ?_ ?_|(apply hKK;clear hKK KK)));all_goals first|refine Hold.mk ?_|omega|with_reducible assumption|(simp only [InR] at *;omega)|skip))
    rw [hP]
    rename_i g5
    refine awp_frzbox 5 rfl rfl ?_
    simp only [go_sem]
    ((refine awp_dr (.qs [0, 1, 2, 3, 4, 6] (.kp 5 (.one 7 (.qs [8, 9] (.one 10 (.qs [11, 12] (.nil))))))) (by kernel_rfl) ?_ ?_ ?_ ?_); (kernel_rfl); (exact (by decide +kernel)); (kernel_rfl); intro KK hKK; ((repeat' (first|(refine ag_x ?_;simp [go_sem])|refine adr_nil ?_|refine adr_two ?_ ?_|refine adr_kp2 ?_ ?_|((first|refine adr_qs fun KK hKK=>?_|refine adr_y fun KK hKK=>?_);simp [go_sem])|intro _|refine And.intro ?_ ?_|(apply hKK;clear hKK KK)));all_goals first|refine Hold.mk ?_|omega|with_reducible assumption|(simp only [InR] at *;omega)|skip))
    (refine agc_m (dTr p.1) (by first | exact .inl ⟨rfl, rfl⟩ | exact .inr rfl) (by simp [go_sem]) ?_ ?_; (intro hc args ha; simp [go_sem] at ha; subst ha; exact (as_spec p.1 z1 z2 z3)); simp [go_sem]; ((repeat' (first|(refine ag_x ?_;simp [go_sem])|refine adr_nil ?_|refine adr_two ?_ ?_|refine adr_kp2 ?_ ?_|((first|refine adr_qs fun KK hKK=>?_|refine adr_y fun KK hKK=>?_);simp [go_sem])|intro _|refine And.intro ?_ ?_|(apply hKK;clear hKK KK)));all_goals first|refine Hold.mk ?_|omega|with_reducible assumption|(simp only [InR] at *;omega)|skip))
    (refine agc_f (dB (decide (p.1 = p.1))) (by first | exact .inl ⟨rfl, rfl⟩ | exact .inr rfl) ?_ rfl ?_; (intro hc args ha; simp [go_sem] at ha; subst ha; exact (rsame_spec _ _)); simp [go_sem]; ((repeat' (first|(refine ag_x ?_;simp [go_sem])|refine adr_nil ?_|refine adr_two ?_ ?_|refine adr_kp2 ?_ ?_|((first|refine adr_qs fun KK hKK=>?_|refine adr_y fun KK hKK=>?_);simp [go_sem])|intro _|refine And.intro ?_ ?_|(apply hKK;clear hKK KK)));all_goals first|refine Hold.mk ?_|omega|with_reducible assumption|(simp only [InR] at *;omega)|skip))
    (refine agc_f (dB true) (by first | exact .inl ⟨rfl, rfl⟩ | exact .inr rfl) ?_ rfl ?_; (intro hc args ha; simp [go_sem] at ha; subst ha; exact sane_spec); simp [go_sem]; ((repeat' (first|(refine ag_x ?_;simp [go_sem])|refine adr_nil ?_|refine adr_two ?_ ?_|refine adr_kp2 ?_ ?_|((first|refine adr_qs fun KK hKK=>?_|refine adr_y fun KK hKK=>?_);simp [go_sem])|intro _|refine And.intro ?_ ?_|(apply hKK;clear hKK KK)));all_goals first|refine Hold.mk ?_|omega|with_reducible assumption|(simp only [InR] at *;omega)|skip))
    (refine awp_ret ?_; simp [go_sem])
set_option maxHeartbeats 8000000 in
theorem traceWrites_spec (t : Tr) (hb : bkOk t) : PCall Tryd.prog 3 [dTr t] fun r => r = dB true := by 
  refine pcall_of Tryd.func3 rfl rfl Tryd.ntmps3 (rs := [.tmp 2]) (tys := [4]) rfl rfl (by simp) ?_
  (refine awp_sr fun KK hKK => ?_; simp [go_sem]; ((repeat' (first|(refine ag_x ?_;simp [go_sem])|intro _|refine And.intro ?_ ?_|(apply hKK;clear hKK KK)));all_goals first|refine Hold.mk ?_|omega|with_reducible assumption|(simp only [InR] at *;omega)|skip))
  rename_i g1
  refine awp_frzbox 1 rfl rfl ?_
  simp only [go_sem]
  refine awp_seq_k fun K1 hK1 => ?_
  (refine awp_sr fun KK hKK => ?_; simp [go_sem]; ((repeat' (first|(refine ag_x ?_;simp [go_sem])|intro _|refine And.intro ?_ ?_|(apply hKK;clear hKK KK)));all_goals first|refine Hold.mk ?_|omega|with_reducible assumption|(simp only [InR] at *;omega)|skip))
  ((try refine CallT.toA ?_); refine callT_m (by first | exact .inl ⟨rfl, rfl⟩ | exact .inr rfl) (by simp [go_sem]) ?_; intro args ha; simp [go_sem] at ha; subst ha; refine ⟨_, (large_spec _), ?_⟩; rintro _ rfl; simp [go_sem]; ((repeat' (first|(refine ag_x ?_;simp [go_sem])|intro _|refine And.intro ?_ ?_|(apply hKK;clear hKK KK)));all_goals first|refine Hold.mk ?_|omega|with_reducible assumption|(simp only [InR] at *;omega)|skip))
  (refine awp_if fun T F hT hF => ?_; simp [go_sem]; refine BR.intro (fun h2 => hT ?_) (fun h2 => hF ?_); all_goals clear hT hF T F; try simp at h2) 
  · (refine awp_sr fun KK hKK => ?_; simp [go_sem]; ((repeat' (first|(refine ag_x ?_;simp [go_sem])|intro _|refine And.intro ?_ ?_|(apply hKK;clear hKK KK)));all_goals first|refine Hold.mk ?_|omega|with_reducible assumption|(simp only [InR] at *;omega)|skip))
    ((try refine CallT.toA ?_); refine callT_m (by first | exact .inl ⟨rfl, rfl⟩ | exact .inr rfl) (by simp [go_sem]) ?_; intro args ha; simp [go_sem] at ha; subst ha; refine ⟨_, sane_spec, ?_⟩; rintro _ rfl; simp [go_sem]; ((repeat' (first|(refine ag_x ?_;simp [go_sem])|intro _|refine And.intro ?_ ?_|(apply hKK;clear hKK KK)));all_goals first|refine Hold.mk ?_|omega|with_reducible assumption|(simp only [InR] at *;omega)|skip))
    (refine awp_ret ?_; simp [go_sem])
  · refine awp_skip ?_
    refine hK1 _ ?_; clear hK1
    obtain ⟨z1, z2, z3⟩ := large_sizes (by simpa using h2)
    (refine awp_sr fun KK hKK => ?_; simp [go_sem]; ((repeat' (first|(refine ag_x ?_;simp [go_sem])|intro _|refine And.intro ?_ ?_|(apply hKK;clear hKK KK)));all_goals first|refine Hold.mk ?_|omega|with_reducible assumption|(simp only [InR] at *;omega)|skip))
    ((try refine CallT.toA ?_); refine callT_m (by first | exact .inl ⟨rfl, rfl⟩ | exact .inr rfl) (by simp [go_sem]) ?_; intro args ha; simp [go_sem] at ha; subst ha; refine ⟨_, (text_spec t hb), ?_⟩; rintro _ rfl; simp [go_sem]; ((repeat' (first|(refine ag_x ?_;simp [go_sem])|intro _|refine And.intro ?_ ?_|(apply hKK;clear hKK KK)));all_goals first|refine Hold.mk ?_|omega|with_reducible assumption|(simp only [InR] at *;omega)|skip))
    (refine awp_sr fun KK hKK => ?_; simp [go_sem]; ((repeat' (first|(refine ag_x ?_;simp [go_sem])|intro _|refine And.intro ?_ ?_|(apply hKK;clear hKK KK)));all_goals first|refine Hold.mk ?_|omega|with_reducible assumption|(simp only [InR] at *;omega)|skip))
    ((try refine CallT.toA ?_); refine callT_m (by first | exact .inl ⟨rfl, rfl⟩ | exact .inr rfl) (by simp [go_sem]) ?_; intro args ha; simp [go_sem] at ha; subst ha; refine ⟨_, (as_spec t z1 z2 z3), ?_⟩; rintro _ rfl; simp [go_sem]; ((repeat' (first|(refine ag_x ?_;simp [go_sem])|intro _|refine And.intro ?_ ?_|(apply hKK;clear hKK KK)));all_goals first|refine Hold.mk ?_|omega|with_reducible assumption|(simp only [InR] at *;omega)|skip))
    ((try refine CallT.toA ?_); refine callT_m (by first | exact .inl ⟨rfl, rfl⟩ | exact .inr rfl) (by simp [go_sem]) ?_; intro args ha; simp [go_sem] at ha; subst ha; refine ⟨_, (rtext_spec t hb), ?_⟩; rintro _ rfl; simp [go_sem]; ((repeat' (first|(refine ag_x ?_;simp [go_sem])|intro _|refine And.intro ?_ ?_|(apply hKK;clear hKK KK)));all_goals first|refine Hold.mk ?_|omega|with_reducible assumption|(simp only [InR] at *;omega)|skip))
    refine awp_seq_k fun K3 hK3 => ?_
    (refine awp_sr fun KK hKK => ?_; simp [go_sem]; ((repeat' (first|(refine ag_x ?_;simp [go_sem])|intro _|refine And.intro ?_ ?_|(apply hKK;clear hKK KK)));all_goals first|refine Hold.mk ?_|omega|with_reducible assumption|(simp only [InR] at *;omega)|skip))
    (refine awp_if fun T F hT hF => ?_; simp [go_sem]; refine hF ?_; clear hT hF T F)
    refine awp_skip ?_
    refine hK3 _ ?_; clear hK3
    refine awp_seq_k fun K5 hK5 => ?_
    have tl5 : ∀ S', Cov S' ⟨[], []⟩ → K5 S' := fun S' hS => by
      refine hK5 _ ?_; clear hK5
      refine awp_cov hS ?_; clear hS
      (refine awp_sr fun KK hKK => ?_; simp [go_sem]; ((repeat' (first|(refine ag_x ?_;simp [go_sem])|intro _|refine And.intro ?_ ?_|(apply hKK;clear hKK KK)));all_goals first|refine Hold.mk ?_|omega|with_reducible assumption|(simp only [InR] at *;omega)|skip))
      ((try refine CallT.toA ?_); refine callT_m (by first | exact .inl ⟨rfl, rfl⟩ | exact .inr rfl) (by simp [go_sem]) ?_; intro args ha; simp [go_sem] at ha; subst ha; refine ⟨_, sane_spec, ?_⟩; rintro _ rfl; simp [go_sem]; ((repeat' (first|(refine ag_x ?_;simp [go_sem])|intro _|refine And.intro ?_ ?_|(apply hKK;clear hKK KK)));all_goals first|refine Hold.mk ?_|omega|with_reducible assumption|(simp only [InR] at *;omega)|skip))
      (refine awp_ret ?_; simp [go_sem])
    clear hK5
    (refine awp_sr fun KK hKK => ?_; simp [go_sem]; ((repeat' (first|(refine ag_x ?_;simp [go_sem])|intro _|refine And.intro ?_ ?_|(apply hKK;clear hKK KK)));all_goals first|refine Hold.mk ?_|omega|with_reducible assumption|(simp only [InR] at *;omega)|skip))
    (refine awp_if fun T F hT hF => ?_; simp [go_sem]; refine BR.intro (fun h6 => hT ?_) (fun h6 => hF ?_); all_goals clear hT hF T F; try simp at h6) 
    · have hok : trOk t = true := h6
      have hlt := textV_len hok hb
      have hpt := parseV_text hok hb
      have htxt : (if trOk t = true then textV t else []) = textV t := by rw [if_pos hok]
      rw [htxt]
      generalize hs : textV t = s at *
      (refine awp_sr fun KK hKK => ?_; simp [go_sem]; ((repeat' (first|(refine ag_x ?_;simp [go_sem])|intro _|refine And.intro ?_ ?_|(apply hKK;clear hKK KK)));all_goals first|refine Hold.mk ?_|omega|with_reducible assumption|(simp only [InR] at *;omega)|skip))
      ((try refine CallT.toA ?_); refine callT_m (by first | exact .inl ⟨rfl, rfl⟩ | exact .inr rfl) (by simp [go_sem]) ?_; intro args ha; simp [go_sem] at ha; subst ha; refine ⟨_, (parse_spec s (by omega)), ?_⟩; rintro _ rfl; simp [go_sem]; ((repeat' (first|(refine ag_x ?_;simp [go_sem])|intro _|refine And.intro ?_ ?_|(apply hKK;clear hKK KK)));all_goals first|refine Hold.mk ?_|omega|with_reducible assumption|(simp only [InR] at *;omega)|skip))
      rw [hpt]
      rename_i g7
      refine awp_frzbox 7 rfl rfl ?_
      simp only [go_sem]
      ((refine awp_dr (.qs [0, 1, 2, 3, 5] (.kp 4 (.one 6 (.one 7 (.qs [8, 9] (.nil)))))) (by kernel_rfl) ?_ ?_ ?_ ?_); (kernel_rfl); (exact (by decide +kernel)); (kernel_rfl); intro KK hKK; ((repeat' (first|(refine ag_x ?_;simp [go_sem])|refine adr_nil ?_|refine adr_two ?_ ?_|refine adr_kp2 ?_ ?_|((first|refine adr_qs fun KK hKK=>?_|refine adr_y fun KK hKK=>?_);simp [go_sem])|intro _|refine And.intro ?_ ?_|(apply hKK;clear hKK KK)));all_goals first|refine Hold.mk ?_|omega|with_reducible assumption|(simp only [InR] at *;omega)|skip))
      (refine agc_m (dTr t) (by first | exact .inl ⟨rfl, rfl⟩ | exact .inr rfl) (by simp [go_sem]) ?_ ?_; (intro hc args ha; simp [go_sem] at ha; subst ha; exact (as_spec t z1 z2 z3)); simp [go_sem]; ((repeat' (first|(refine ag_x ?_;simp [go_sem])|refine adr_nil ?_|refine adr_two ?_ ?_|refine adr_kp2 ?_ ?_|((first|refine adr_qs fun KK hKK=>?_|refine adr_y fun KK hKK=>?_);simp [go_sem])|intro _|refine And.intro ?_ ?_|(apply hKK;clear hKK KK)));all_goals first|refine Hold.mk ?_|omega|with_reducible assumption|(simp only [InR] at *;omega)|skip))
      (refine agc_m (dTr t) (by first | exact .inl ⟨rfl, rfl⟩ | exact .inr rfl) (by simp [go_sem]) ?_ ?_; (intro hc args ha; simp [go_sem] at ha; subst ha; exact (as_spec t z1 z2 z3)); simp [go_sem]; ((repeat' (first|(refine ag_x ?_;simp [go_sem])|refine adr_nil ?_|refine adr_two ?_ ?_|refine adr_kp2 ?_ ?_|((first|refine adr_qs fun KK hKK=>?_|refine adr_y fun KK hKK=>?_);simp [go_sem])|intro _|refine And.intro ?_ ?_|(apply hKK;clear hKK KK)));all_goals first|refine Hold.mk ?_|omega|with_reducible assumption|(simp only [InR] at *;omega)|skip))
      (refine agc_f (dB (decide (t = t))) (by first | exact .inl ⟨rfl, rfl⟩ | exact .inr rfl) ?_ rfl ?_; (intro hc args ha; simp [go_sem] at ha; subst ha; exact (rsame_spec _ _)); simp [go_sem]; ((repeat' (first|(refine ag_x ?_;simp [go_sem])|refine adr_nil ?_|refine adr_two ?_ ?_|refine adr_kp2 ?_ ?_|((first|refine adr_qs fun KK hKK=>?_|refine adr_y fun KK hKK=>?_);simp [go_sem])|intro _|refine And.intro ?_ ?_|(apply hKK;clear hKK KK)));all_goals first|refine Hold.mk ?_|omega|with_reducible assumption|(simp only [InR] at *;omega)|skip))
      (refine awp_if fun T F hT hF => ?_; simp [go_sem]; refine hF ?_; clear hT hF T F)
      refine awp_skip ?_
      refine tl5 _ ?_
      (refine cov_of ?_ ?_ <;> simp [go_sem])
    · refine awp_skip ?_
      refine tl5 _ ?_
      (refine cov_of ?_ ?_ <;> simp [go_sem])
end Go.Proofs.YtmgbaegdkjcagaaDoor

namespace Go.Proofs.YtmgbaegdkjcagaaDoor
open Go.Eng Go.WideShapes
set_option maxRecDepth 100000
theorem own : ownKnob Tryd.prog.godebug = none := by kernel_rfl
theorem laidOut : laidOutB Tryd.prog = true := by kernel_rfl

/-! the types of the laws' parameters -/
theorem op_int : Opens Tryd.prog 3 (fun n : Int => cI n) InR := opens_int Tryd.underlying3
theorem op_ints : Opens Tryd.prog 43 (fun l : List Int => [dIs l]) (fun l => l.length ≤ maxLen ∧ ∀ x ∈ l, InR x) := opens_slice 1 Tryd.underlying43 (by kernel_rfl) (by decide) (fun _ => rfl) op_int
theorem op_ins : Opens Tryd.prog 63 (fun i : Ins => cIns i) (fun _ => True) := by
  have h := opens_struct (e := 6) Tryd.underlying63 rfl (by kernel_rfl) (opensS_cons (n := 1) rfl (by kernel_rfl) op_int (opensS_cons (n := 1) rfl (by kernel_rfl) op_int (opensS_cons (n := 1) rfl (by kernel_rfl) op_int (opensS_cons (n := 1) rfl (by kernel_rfl) op_int
    (opensS_cons (n := 1) rfl (by kernel_rfl) op_int (opensS_cons (n := 1) rfl (by kernel_rfl) op_int opensS_nil))))))
  exact h.iso (fun x => ⟨x.1, x.2.1, x.2.2.1, x.2.2.2.1, x.2.2.2.2.1, x.2.2.2.2.2.1⟩) (fun _ => rfl) (fun _ _ => trivial)
theorem op_exi : Opens Tryd.prog 45 (fun i : Exi => cExi i) (fun x => InR x.back) := by
  have h := opens_struct (e := 2) Tryd.underlying45 rfl (by kernel_rfl) (opensS_cons (n := 1) rfl (by kernel_rfl) op_int (opensS_cons (n := 1) rfl (by kernel_rfl) op_ints opensS_nil))
  exact h.iso (fun x => ⟨x.1, x.2.1⟩) (fun _ => rfl) (fun _ q => q.1)
theorem op_tr : Opens Tryd.prog 25 (fun t : Tr => [dI t.regs, .sl 6 (t.code.map cIns), .sl 2 (t.exits.map cExi)]) bkOk := by
  have h := opens_struct (e := 3) Tryd.underlying25 rfl (by kernel_rfl) (opensS_cons (n := 1) rfl (by kernel_rfl) op_int (opensS_cons (n := 1) rfl (by kernel_rfl) (opens_slice 6 Tryd.underlying22 (by kernel_rfl) (by decide) (fun _ => rfl) op_ins)
    (opensS_cons (n := 1) rfl (by kernel_rfl) (opens_slice 2 Tryd.underlying23 (by kernel_rfl) (by decide) (fun _ => rfl) op_exi) opensS_nil)))
  exact h.iso (fun x => ⟨x.1, x.2.1, x.2.2.1⟩) (fun _ => rfl) (fun _ q => q.2.2.1.2)
theorem op_str : Opens Tryd.prog 9 (fun s : List UInt8 => [dS s]) (fun _ => True) :=
  (opens_str Tryd.underlying9).iso (fun s => s.data.toList) (fun s => by cases s; simp) (fun _ _ => trivial)
theorem ov_tr : OpensV Tryd.prog 25 dTr bkOk := opensV_agg Tryd.underlying25 op_tr
theorem ov_str : OpensV Tryd.prog 9 dS (fun _ => True) := opensV_cell (by rw [Tryd.underlying9]; rfl) op_str

/-! what is listed of the package-level variables -/
theorem gn_rng : Tryd.prog.globalNamed "strconv.ErrRange" = some 1 := by kernel_rfl
theorem gn_syn : Tryd.prog.globalNamed "strconv.ErrSyntax" = some 0 := by kernel_rfl
theorem pow_data : (Rows.laid_internal_strconv_uint64pow10 : DataW Unit) = Lib.tabData .u64 Lib.pow10Tab := by kernel_rfl
/-- a listed error -/
theorem err_cell {n nm : String} {d : DataW Unit} {r : List (String × DataW Unit)} {W : World} {g : Nat} {ti : TypeId} {ms : Array (String × TypeId)} (h : laidMet Tryd.prog ((n, .iface nm d) :: r) W)
    (hg : Tryd.prog.globalNamed n = some g) (ht : (Tryd.prog.globals[g]?).map (·.type) = some ti) (hi : Tryd.prog.underlying ti = some (.interface ms)) :
    ∃ ev, W.cell? ⟨g, 0, none⟩ = some ev ∧ (ev = .nilIface ∨ ∃ te pe, ev = .iface te pe) := by
  obtain ⟨ps, ⟨g0, t0, cs0, f0, p0, q0, hg0, ht0, hv0, hd0, _, e0⟩, _, _⟩ := h
  obtain rfl := Option.some.inj (hg.symm.trans hg0)
  obtain rfl := Option.some.inj (ht.symm.trans ht0)
  obtain ⟨f1, u, v, hcs, _, _⟩ := iface_of_trod hi hd0
  refine ⟨.iface u v, ?_, .inr ⟨u, v, rfl⟩⟩
  have := World.var?_cell hg0 hv0 0
  obtain ⟨l0⟩ := cs0
  simp only at hcs
  subst hcs
  simpa using this
theorem globOk_of {W : World} (hL : laidMetH Tryd.prog Rows.traceWritesRow.laid W) (hsh : W.ShapedOpen Tryd.prog) : GlobOk Tryd.prog noCtx W := by
  have hlt : ∀ b v, W.cell? ⟨b, 0, none⟩ = some v → b < W.heap.size := fun b v h => cell_lt h
  rw [MakeChecks.laidMetH_plain _ _ _ (by kernel_rfl)] at hL
  have h2 := laidMet.tail (laidMet.tail hL)
  have hp : Lib.TabIs Tryd.prog W "internal/strconv.uint64pow10" .u64 Lib.pow10Tab := by
    have h2' : laidMet Tryd.prog (("internal/strconv.uint64pow10", (Rows.laid_internal_strconv_uint64pow10 : DataW Unit)) :: Rows.traceWritesRow.laid.tail.tail.tail) W := h2
    rw [pow_data] at h2'
    exact Lib.tabIs_of_head gn_pow (by kernel_rfl) (t := 132) (e := 115) (n := 20) (by kernel_rfl) (by kernel_rfl) (by kernel_rfl) (by kernel_rfl) h2'
  have h3 := laidMet.tail (laidMet.tail h2)
  obtain ⟨ev1, q1, q2⟩ := err_cell (d := _) (ti := 58) h3 gn_rng (by kernel_rfl) Tryd.underlying58
  obtain ⟨ev0, q3, q4⟩ := err_cell (d := _) (ti := 58) (laidMet.tail h3) gn_syn (by kernel_rfl) Tryd.underlying58
  obtain ⟨m, hm⟩ := cell_of_shapedOpen_int (g := 3) (t := 3) (zero := #[.int .i64 0]) hsh (by decide +kernel) (by kernel_rfl) rfl (by kernel_rfl) (by kernel_rfl) Tryd.underlying3
  refine ⟨⟨hp, ⟨m, hm⟩, ⟨ev0, q3, q4⟩, ⟨ev1, q1, q2⟩⟩, fun b hb => ⟨(fun ⟨s, g, u, h, _⟩ => by cases h), ?_⟩⟩
  have hb' : b = 0 ∨ b = 1 ∨ b = 2 ∨ b = 3 := by
    have : b ∈ [0, 1, 2, 3] := hb
    simpa using this
  rcases hb' with rfl | rfl | rfl | rfl
  · exact hlt _ _ q3
  · exact hlt _ _ q1
  · exact hlt _ _ (hp.cell gn_pow 0 (by decide))
  · exact hlt _ _ hm
/-- the wrap for a row that lists variables, the world's shape handed over -/
theorem wrap {H : Type} {enc : TypeId × Value → H} {a : Assume} {C : Checked} {os : Os} {f : FuncId} {fn : Func} {s : ChangeSpec} {conds : List PathCond} {apart fresh handsOn again : Bool} {X : World → Array Value → Prop}
    (hX : ∀ (w w' : World) (args : Array Value), w.heap = w'.heap → X w args → X w' args)
    (own : ownKnob C.prog.godebug = none) (started : os.Started) (noInit : C.prog.inits.idxOf? f = none) (hfn : C.prog.funcs[f]? = some fn)
    (witness : ∃ (w : World) (tape : Tape) (i : Input), w.os = os ∧ (w.forCall tape i).Shaped C.prog ∧ i.vars = [] ∧ Input.okWide C.prog (w.forCall tape i) .any w.heap.size f i ∧
      ((s.pre enc C.prog fn conds apart (w.forCall tape i).memory i.args ∧ X (w.forCall tape i).memory i.args) ∧ sizedMet enc C.prog fn (OpenSpec.ofChange s) apart (w.forCall tape i).memory i.args) ∧ a.holds C.prog (lone (Frame.enter C.prog f i.args .normal) [] (w.forCall tape i)))
    (contract : ∀ (W : World) (base : Nat) (args : Array Value) (ds gs : List (DataW H)) (before : List MemPlace),
      (∀ (j : Nat) t v, fn.params[j]? = some t → args[j]? = some v → Value.okWide C.prog W .any base t v) →
      DataW.Whole enc C.prog fn.params.toList s.vars apart W args.toList ds gs before → X W args → W.ShapedOpen C.prog →
      Calls C.prog f args W fun e W' => ∃ v, e = .returned v ∧ s.post enc C.prog fn apart fresh handsOn again W args v W') :
    ReturnsInHanded a C os f .any (fun w args => (s.pre enc C.prog fn conds apart w args ∧ X w args) ∧ sizedMet enc C.prog fn (OpenSpec.ofChange s) apart w args) (s.post enc C.prog fn apart fresh handsOn again) := by
  refine returnsInHanded_of_calls own started noInit witness ?_
  intro w tape i _ hsh _ hok hpre hholds
  obtain ⟨_, _, _, fn', hfn', _, _, _, _, hval⟩ := hok
  have e : fn' = fn := Option.some.inj (hfn'.symm.trans hfn)
  subst e
  obtain ⟨⟨⟨ds, gs, before, hw, hc⟩, hx⟩, hz⟩ := hpre
  have hw' := DataW.Whole.of_heap (w' := w.forCall tape i) (by rfl) hw
  refine (contract (w.forCall tape i) w.heap.size i.args ds gs before hval hw' (hX _ _ _ (by rfl) hx) hsh).mono fun e W' ⟨v, he, hp⟩ => ?_
  subst he
  exact ChangeSpec.post_blind hp
end Go.Proofs.YtmgbaegdkjcagaaDoor
