/- Part of a proof: see the last text. -/
import Derived.Test.YtmgbaegdkjcagaaWH
import Derived.Test.YtmgbaegdkjcagaaWF
import Derived.Test.YtmgbaegdkjcagaaWE
set_option linter.unusedVariables false
set_option linter.unusedSimpArgs false
namespace Go.Proofs.Ytmgbaegdkjcagaa
open Go.Eng
set_option linter.unusedSimpArgs false
set_option linter.unusedVariables false

/-! folding keeps the runs -/
def Knows (K : Int → Option Int) (ws : List Int) : Prop := ∀ r v, 0 ≤ r → K r = some v → wAt ws r = v
theorem stepV_fold {i : Ins} {K : Int → Option Int} {ws : List Int} {v : Int} (h0 : 0 ≤ i.op) (h8 : i.op ≤ 8) (ha : 0 ≤ i.a) (hb : 0 ≤ i.b) (hK : Knows K ws) (hv : foldRes i K = some v) : stepV i ws = (0, false, false, ws.set i.d.toNat v) := by
  unfold foldRes at hv
  by_cases z0 : i.op = 0
  · simp only [z0, if_true, Option.some.injEq] at hv
    simp [stepV, z0, hv]
  by_cases z1 : i.op = 1
  · simp only [z1, if_true, show ¬ (1 : Int) = 0 by decide, if_false] at hv
    simp [stepV, z1, hK i.a v ha hv]
  simp only [z0, z1, if_false] at hv
  have h9 : ¬ i.op = 9 := by omega
  have h10 : ¬ i.op = 10 := by omega
  cases hka : K i.a with
  | none => rw [hka] at hv; cases hv
  | some x =>
    cases hkb : K i.b with
    | none => rw [hka, hkb] at hv; cases hv
    | some y =>
      rw [hka, hkb] at hv
      simp only at hv
      split at hv
      · rename_i hc
        simp only [Option.some.injEq] at hv
        simp only [stepV, z0, z1, h9, h10, if_false, hK i.a x ha hka, hK i.b y hb hkb, hc, if_true, hv]
      · cases hv
theorem knows_up {K : Int → Option Int} {ws : List Int} {d w : Int} {o : Option Int} (hK : Knows K ws) (hd : 0 ≤ d) (hl : d < ws.length) (ho : ∀ v, o = some v → w = v) : Knows (upK K d o) (ws.set d.toNat w) := by
  intro r v hr hv
  rw [wAt_set hd hr hl]
  unfold upK at hv
  by_cases h : r = d
  · subst h
    rw [if_pos rfl] at hv ⊢
    exact ho v hv
  · rw [if_neg h] at hv
    rw [if_neg (fun e => h e.symm)]
    exact hK r v hr hv
theorem goCode_fold {regs nex : Int} (hr : 1 ≤ regs) : ∀ (l : List Ins) (K : Int → Option Int) (ws told : List Int), (∀ i ∈ l, insOk regs nex i = true) → (ws.length : Int) = regs → Knows K ws → goCode (foldFrom l K) ws told = goCode l ws told
  | [], K, ws, told, _, _, _ => rfl
  | i :: is, K, ws, told, hi, hl, hK => by
    obtain ⟨h0, h10, ha, hb, hd, hn⟩ := insOk_regs (hi i (by simp)) hr
    have hi' : ∀ j ∈ is, insOk regs nex j = true := fun j hj => hi j (by simp [hj])
    simp only [foldFrom]
    by_cases z9 : i.op = 9
    · simp only [z9, if_true]
      split
      · rename_i hk
        rw [goCode_fold hr is K ws told hi' hl hK]
        have : stepV i ws = (0, false, false, ws) := by simp [stepV, z9, hK _ _ ha.1 hk]
        simp [goCode, this]
      · simp only [goCode, (stepV_guard z9).2]
        rw [goCode_fold hr is K ws _ hi' hl hK]
    simp only [z9, if_false]
    by_cases z10 : i.op = 10
    · simp only [z10, if_true]
      simp only [goCode, stepV_tell z10]
      rw [goCode_fold hr is K ws _ hi' hl hK]
    simp only [z10, if_false]
    cases hv : foldRes i K with
    | some v =>
      have h1 := stepV_fold h0 (by omega) ha.1 hb.1 hK hv
      have h2 : stepV (foldI i (some v)) ws = (0, false, false, ws.set i.d.toNat v) := by simp [foldI, stepV]
      simp only [goCode, h1, h2]
      exact goCode_fold hr is _ _ _ hi' (by simpa using hl) (knows_up hK hd.1 (by omega) (fun w h => by simpa using h))
    | none =>
      rw [show foldI i none = i from rfl]
      simp only [goCode]
      by_cases hx : (stepV i ws).2.2.1 = true
      · rw [if_pos hx, if_pos hx]
      · rw [if_neg hx, if_neg hx]
        have h1 := (stepV_write h0 (by omega) (by simpa using hx)).2
        rw [h1]
        exact goCode_fold hr is _ _ _ hi' (by simpa using hl) (knows_up hK hd.1 (by omega) (fun w h => nomatch h))
theorem goCode_words {regs nex : Int} (hr : 1 ≤ regs) : ∀ (l : List Ins) (ws told : List Int), (∀ i ∈ l, insOk regs nex i = true) → (ws.length : Int) = regs → (∀ x ∈ ws, isW x = true) → ((goCode l ws told).1.length : Int) = regs ∧ ∀ x ∈ (goCode l ws told).1, isW x = true
  | [], ws, told, _, hl, hw => ⟨hl, hw⟩
  | i :: is, ws, told, hi, hl, hw => by
    obtain ⟨h1, h2⟩ := step_words (hi i (by simp)) hr hl hw
    simp only [goCode]
    split
    · exact ⟨by rw [h1]; exact hl, h2⟩
    · exact goCode_words hr is _ _ (fun j hj => hi j (by simp [hj])) (by rw [h1]; exact hl) h2
theorem leave_exits {t u : Tr} (h : t.exits = u.exits) (x r : Int) (ws told : List Int) : leave t x r ws told = leave u x r ws told := by simp [leave, h]
theorem insOk_mem {t : Tr} (h : trOk t = true) : ∀ i ∈ t.code, insOk t.regs t.exits.length i = true := fun i hi => by
  obtain ⟨k, hk⟩ := List.getElem?_of_mem hi
  exact insOk_at h hk
theorem goRounds_fold {t : Tr} (hok : trOk t = true) : ∀ (n r : Nat) (ws told : List Int), (ws.length : Int) = t.regs → (∀ x ∈ ws, isW x = true) → goRounds (foldV t) n r ws told = goRounds t n r ws told
  | 0, r, ws, told, _, _ => rfl
  | n + 1, r, ws, told, hl, hw => by
    have hc := goCode_fold (trOk_regs hok).1 t.code (fun _ => none) ws told (insOk_mem hok) hl (fun r v _ h => by cases h)
    have hq := goCode_words (trOk_regs hok).1 t.code ws told (insOk_mem hok) hl hw
    simp only [goRounds]
    rw [show (foldV t).code = foldFrom t.code (fun _ => none) from rfl, hc]
    split
    · rfl
    · rename_i ws' told' he
      rw [he] at hq
      exact goRounds_fold hok n (r + 1) ws' told' hq.1 hq.2
theorem foldRes_word {regs nex : Int} (hr : 1 ≤ regs) {i : Ins} {K : Int → Option Int} {v : Int} (hi : insOk regs nex i = true) (hK : ∀ r v, K r = some v → isW v = true) (hv : foldRes i K = some v) : isW v = true := by
  obtain ⟨h0, h10, ha, hb, hd, hn⟩ := insOk_regs hi hr
  unfold foldRes at hv
  split at hv
  · simp only [Option.some.injEq] at hv; rw [← hv]; exact hn
  · split at hv
    · exact hK _ _ hv
    · split at hv
      · rename_i x y hx hy
        split at hv
        · rename_i hc
          simp only [Option.some.injEq] at hv
          rw [← hv]
          exact val_word (hK _ _ hx) (hK _ _ hy) hc
        · cases hv
      · cases hv
theorem foldFrom_ok {regs nex : Int} (hr : 1 ≤ regs) : ∀ (l : List Ins) (K : Int → Option Int), (∀ i ∈ l, insOk regs nex i = true) → (∀ r v, K r = some v → isW v = true) → ∀ i ∈ foldFrom l K, insOk regs nex i = true
  | [], K, _, _, i, h => by cases h
  | j :: is, K, hi, hK, i, h => by
    have hi' : ∀ j ∈ is, insOk regs nex j = true := fun j hj => hi j (by simp [hj])
    have hj := hi j (by simp)
    obtain ⟨h0, h10, ha, hb, hd, hn⟩ := insOk_regs hj hr
    simp only [foldFrom] at h
    split at h
    · split at h
      · exact foldFrom_ok hr is K hi' hK i h
      · rcases List.mem_cons.1 h with h | h
        · rw [h]; exact hj
        · exact foldFrom_ok hr is K hi' hK i h
    · split at h
      · rcases List.mem_cons.1 h with h | h
        · rw [h]; exact hj
        · exact foldFrom_ok hr is K hi' hK i h
      · rcases List.mem_cons.1 h with h | h
        · cases hv : foldRes j K with
          | none => rw [hv] at h; rw [h]; exact hj
          | some v =>
            rw [hv] at h
            rw [h, ← insR_eq]
            have := isW_iff.1 (foldRes_word hr hj hK hv)
            simp [foldI, insR, fldOk, flds]
            exact ⟨⟨decide_eq_true hd.1, decide_eq_true (by omega)⟩, decide_eq_true this.1, decide_eq_true this.2⟩
        · refine foldFrom_ok hr is _ hi' (fun r v hrv => ?_) i h
          unfold upK at hrv
          split at hrv
          · exact foldRes_word hr hj hK hrv
          · exact hK r v hrv
theorem fold_ok {t : Tr} (h : trOk t = true) : trOk (foldV t) = true := by
  have h' := h
  have hl := foldFrom_len t.code (fun _ => none)
  have hf := foldFrom_ok (trOk_regs h).1 t.code (fun _ => none) (insOk_mem h) (fun r v h => by cases h)
  simp only [trOk, Bool.and_eq_true, decide_eq_true_eq, List.all_eq_true] at h ⊢
  obtain ⟨⟨⟨⟨⟨h1, h2⟩, h3⟩, h4⟩, h5⟩, h6⟩ := h
  exact ⟨⟨⟨⟨⟨h1, h2⟩, by simp only [foldV]; omega⟩, h4⟩, fun x hx => hf x hx⟩, h6⟩
theorem runV_fold {t : Tr} {ws : List Int} {n : Int} (hok : trOk t = true) : runV (foldV t) ws n = runV t ws n ∧ fitOk (foldV t) ws n = fitOk t ws n := by
  have h2 : fitOk (foldV t) ws n = fitOk t ws n := by simp only [fitOk, fold_ok hok, hok]; rfl
  refine ⟨?_, h2⟩
  unfold runV
  rw [h2]
  split
  · rename_i hf
    simp only [fitOk, Bool.and_eq_true, decide_eq_true_eq, List.all_eq_true] at hf
    exact goRounds_fold hok _ _ _ _ hf.1.1.2 hf.2
  · rfl
end Go.Proofs.Ytmgbaegdkjcagaa

namespace Go.Proofs.Ytmgbaegdkjcagaa
open Go.Eng
set_option maxRecDepth 20000
set_option linter.unusedSimpArgs false
set_option linter.unusedVariables false
attribute [local irreducible] AG CallA CallT AWp PCall ACall AgC

set_option maxHeartbeats 8000000 in
theorem traceFolded_spec (l : List Int) (fuel : Int) : PCall Try.prog 7 [dIs l, dI fuel] fun r => r = dB true := by 
  refine pcall_of Try.func7 rfl rfl Try.ntmps7 (rs := [.tmp 4]) (tys := [4]) rfl rfl (by simp) ?_
  have hn := umod_bounds fuel (show (0 : Int) < 200 by decide)
  have en : (IntKind.u64.wrap fuel).tmod 200 = umod fuel 200 := rfl
  generalize umod fuel 200 = n at hn en
  (refine awp_sr fun KK hKK => ?_; simp [go_sem]; ((repeat' (first|(refine ag_x ?_;simp [go_sem])|intro _|refine And.intro ?_ ?_|(apply hKK;clear hKK KK)));all_goals first|refine Hold.mk ?_|omega|with_reducible assumption|(simp only [InR] at *;omega)|skip))
  (refine awp_sr fun KK hKK => ?_; simp [go_sem]; ((repeat' (first|(refine ag_x ?_;simp [go_sem])|intro _|refine And.intro ?_ ?_|(apply hKK;clear hKK KK)));all_goals first|refine Hold.mk ?_|omega|with_reducible assumption|(simp only [InR] at *;omega)|skip))
  ((try refine CallT.toA ?_); refine callT_m (by first | exact .inl ⟨rfl, rfl⟩ | exact .inr rfl) (by simp [go_sem]) ?_; intro args ha; simp [go_sem] at ha; subst ha; refine ⟨_, (grown_spec l), ?_⟩; rintro _ ⟨t, ws, hF, rfl⟩; simp [go_sem]; ((repeat' (first|(refine ag_x ?_;simp [go_sem])|intro _|refine And.intro ?_ ?_|(apply hKK;clear hKK KK)));all_goals first|refine Hold.mk ?_|omega|with_reducible assumption|(simp only [InR] at *;omega)|skip))
  rename_i go
  refine awp_frzbox 5 rfl rfl ?_
  simp only [go_sem]
  obtain ⟨b1, b2, b3, b4⟩ := hF.bounds
  have hok := hF.ok
  have hfn := hF.fit (n := n) (by omega) (by omega)
  obtain ⟨hr1, hr2⟩ := runV_fold (ws := ws) (n := n) hok
  rw [hfn] at hr2
  have hlen := foldFrom_len t.code (fun _ => none)
  have hlen2 : (foldV t).code.length ≤ t.code.length := hlen
  obtain ⟨u, hu⟩ : ∃ u, u = foldV t := ⟨_, rfl⟩
  rw [← hu] at hr1 hr2 hlen2
  have hf := fold_spec t
  rw [if_pos hok, if_pos hok, ← hu] at hf
  obtain ⟨ra, hra⟩ : ∃ r, runV t ws n = r := ⟨_, rfl⟩
  rw [hra] at hr1
  (refine awp_sr fun KK hKK => ?_; simp [go_sem, en]; ((repeat' (first|(refine ag_x ?_;simp [go_sem, en])|intro _|refine And.intro ?_ ?_|(apply hKK;clear hKK KK)));all_goals first|refine Hold.mk ?_|omega|with_reducible assumption|(simp only [InR] at *;omega)|skip))
  (refine awp_sr fun KK hKK => ?_; simp [go_sem]; ((repeat' (first|(refine ag_x ?_;simp [go_sem])|intro _|refine And.intro ?_ ?_|(apply hKK;clear hKK KK)));all_goals first|refine Hold.mk ?_|omega|with_reducible assumption|(simp only [InR] at *;omega)|skip))
  ((try refine CallT.toA ?_); refine callT_m (by first | exact .inl ⟨rfl, rfl⟩ | exact .inr rfl) (by simp [go_sem]) ?_; intro args ha; simp [go_sem] at ha; subst ha; refine ⟨_, (back_spec t b1 b2 b3), ?_⟩; rintro _ rfl; simp [go_sem]; ((repeat' (first|(refine ag_x ?_;simp [go_sem])|intro _|refine And.intro ?_ ?_|(apply hKK;clear hKK KK)));all_goals first|refine Hold.mk ?_|omega|with_reducible assumption|(simp only [InR] at *;omega)|skip))
  ((try refine CallT.toA ?_); refine callT_m (by first | exact .inl ⟨rfl, rfl⟩ | exact .inr rfl) (by simp [go_sem]) ?_; intro args ha; simp [go_sem] at ha; subst ha; refine ⟨_, hf, ?_⟩; rintro _ rfl; simp [go_sem]; ((repeat' (first|(refine ag_x ?_;simp [go_sem])|intro _|refine And.intro ?_ ?_|(apply hKK;clear hKK KK)));all_goals first|refine Hold.mk ?_|omega|with_reducible assumption|(simp only [InR] at *;omega)|skip))
  rename_i ga
  refine awp_frzbox 8 rfl rfl ?_
  simp only [go_sem]
  (refine awp_sr fun KK hKK => ?_; simp [go_sem]; ((repeat' (first|(refine ag_x ?_;simp [go_sem])|intro _|refine And.intro ?_ ?_|(apply hKK;clear hKK KK)));all_goals first|refine Hold.mk ?_|omega|with_reducible assumption|(simp only [InR] at *;omega)|skip))
  ((try refine CallT.toA ?_); refine callT_m (by first | exact .inl ⟨rfl, rfl⟩ | exact .inr rfl) (by simp [go_sem]) ?_; intro args ha; simp [go_sem] at ha; subst ha; refine ⟨_, (run_spec u ws n), ?_⟩; rintro _ rfl; simp [go_sem, hr1, hr2]; ((repeat' (first|(refine ag_x ?_;simp [go_sem, hr1, hr2])|intro _|refine And.intro ?_ ?_|(apply hKK;clear hKK KK)));all_goals first|refine Hold.mk ?_|omega|with_reducible assumption|(simp only [InR] at *;omega)|skip))
  rename_i gr
  refine awp_frzbox 10 rfl rfl ?_
  simp only [go_sem]
  (refine awp_sr fun KK hKK => ?_; simp [go_sem]; ((repeat' (first|(refine ag_x ?_;simp [go_sem])|intro _|refine And.intro ?_ ?_|(apply hKK;clear hKK KK)));all_goals first|refine Hold.mk ?_|omega|with_reducible assumption|(simp only [InR] at *;omega)|skip))
  ((try refine CallT.toA ?_); refine callT_m (by first | exact .inl ⟨rfl, rfl⟩ | exact .inr rfl) (by simp [go_sem]) ?_; intro args ha; simp [go_sem] at ha; subst ha; refine ⟨_, (rrun_spec t ws n (by omega)), ?_⟩; rintro _ rfl; simp [go_sem, hra, hfn]; ((repeat' (first|(refine ag_x ?_;simp [go_sem, hra, hfn])|intro _|refine And.intro ?_ ?_|(apply hKK;clear hKK KK)));all_goals first|refine Hold.mk ?_|omega|with_reducible assumption|(simp only [InR] at *;omega)|skip))
  rename_i gs
  refine awp_frzbox 12 rfl rfl ?_
  simp only [go_sem]
  (refine awp_sr fun KK hKK => ?_; simp [go_sem]; ((repeat' (first|(refine ag_x ?_;simp [go_sem])|intro _|refine And.intro ?_ ?_|(apply hKK;clear hKK KK)));all_goals first|refine Hold.mk ?_|omega|with_reducible assumption|(simp only [InR] at *;omega)|skip))
  (refine agc_f (dB true) (by first | exact .inl ⟨rfl, rfl⟩ | exact .inr rfl) ?_ rfl ?_; (intro hc args ha; simp [go_sem] at ha; subst ha; exact (by have h := same_spec ra ra; simpa using h)); simp [go_sem]; ((repeat' (first|(refine ag_x ?_;simp [go_sem])|intro _|refine And.intro ?_ ?_|(apply hKK;clear hKK KK)));all_goals first|refine Hold.mk ?_|omega|with_reducible assumption|(simp only [InR] at *;omega)|skip))
  (refine agc_f (dB true) (by first | exact .inl ⟨rfl, rfl⟩ | exact .inr rfl) ?_ rfl ?_; (intro hc args ha; simp [go_sem] at ha; subst ha; exact sane_spec); simp [go_sem]; ((repeat' (first|(refine ag_x ?_;simp [go_sem])|intro _|refine And.intro ?_ ?_|(apply hKK;clear hKK KK)));all_goals first|refine Hold.mk ?_|omega|with_reducible assumption|(simp only [InR] at *;omega)|skip))
  (refine awp_ret ?_; simp [go_sem, hlen2])
end Go.Proofs.Ytmgbaegdkjcagaa
