/- Part of a proof: see the last text. -/
import Derived.Test.YtmgbaegdkjcagaaWN
import Derived.Test.YtmgbaegdkjcagaaWJ
set_option linter.unusedVariables false
set_option linter.unusedSimpArgs false
namespace Go.Proofs.Ytmgbaegdkjcagaa
open Go.Eng
set_option maxRecDepth 20000
set_option linter.unusedSimpArgs false
set_option linter.unusedVariables false
attribute [local irreducible] AG CallA CallT AWp PCall ACall AgC

/-- a code without some instructions -/
def cutFrom (p : Nat → Bool) : List Ins → Nat → List Ins
  | [], _ => []
  | i :: is, k => if p k then cutFrom p is (k + 1) else i :: cutFrom p is (k + 1)
def inL (l : List Nat) (j : Nat) : Bool := l.contains j
theorem cutFrom_app (p : Nat → Bool) (i : Ins) : ∀ (is : List Ins) (k : Nat), cutFrom p (is ++ [i]) k = cutFrom p is k ++ (if p (k + is.length) then [] else [i])
  | [], k => by simp [cutFrom]
  | j :: is, k => by
    have := cutFrom_app p i is (k + 1)
    simp only [List.cons_append, cutFrom, this, List.length_cons, show k + 1 + is.length = k + (is.length + 1) by omega]
    by_cases h : p k = true <;> simp [h]
theorem cutFrom_len (p : Nat → Bool) : ∀ (is : List Ins) (k : Nat), (cutFrom p is k).length ≤ is.length
  | [], k => by simp [cutFrom]
  | i :: is, k => by
    have := cutFrom_len p is (k + 1)
    simp only [cutFrom]
    split <;> simp <;> omega
theorem cutFrom_less (p : Nat → Bool) : ∀ (is : List Ins) (k j : Nat), k ≤ j → j < k + is.length → p j = true → (cutFrom p is k).length < is.length
  | [], k, j, h1, h2, _ => by simp at h2; omega
  | i :: is, k, j, h1, h2, h => by
    have hl := cutFrom_len p is (k + 1)
    simp only [cutFrom]
    split
    · simp; omega
    · rename_i hk
      have hjk : j ≠ k := fun e => hk (e ▸ h)
      have := cutFrom_less p is (k + 1) j (by omega) (by simp at h2; omega) h
      simp; omega
def cutT (u : Tr) (p : Nat → Bool) (k : Nat) : List Ins := cutFrom p (u.code.take k) 0
theorem cutT_step {u : Tr} {p : Nat → Bool} {k : Nat} {x : Ins} (h : u.code[k]? = some x) : cutT u p (k + 1) = cutT u p k ++ (if p k then [] else [x]) := by
  have hk := (List.getElem?_eq_some_iff.1 h).1
  have hn : (u.code.take k).length = k := by simp; omega
  unfold cutT
  rw [List.take_add_one, h, Option.toList_some, cutFrom_app, Nat.zero_add, hn]
theorem thin_cut (t : Tr) (l : List Bool) (p : Nat → Bool) : ∀ (is : List Ins) (k : Nat), (∀ j, p j = true → j ∈ deadFrom t l is k ∨ j < k) → Thin t l is (cutFrom p is k)
  | [], k, _ => .nil
  | i :: is, k, h => by
    have hrest : ∀ j, p j = true → j ∈ deadFrom t l is (k + 1) ∨ j < k + 1 := fun j hj => by
      rcases h j hj with h1 | h1
      · simp only [deadFrom] at h1
        split at h1
        · rcases List.mem_cons.1 h1 with e | e
          · exact .inr (by omega)
          · exact .inl e
        · exact .inl h1
      · exact .inr (by omega)
    have ih := thin_cut t l p is (k + 1) hrest
    simp only [cutFrom]
    split
    · rename_i hp
      rcases h k hp with h1 | h1
      · simp only [deadFrom] at h1
        split at h1
        · rename_i hd; exact Thin.drop i ih hd
        · have := deadFrom_ge t l is (k + 1) k h1; omega
      · omega
    · exact Thin.keep i ih
/-- what Better may give -/
structure Bet (t u : Tr) : Prop where
  ok : trOk u = true
  regs : u.regs = t.regs
  exits : u.exits = t.exits
  len : u.code.length ≤ t.code.length
  run : ∀ ws n, fitOk t ws n = true → AlikeR (lastV t []) (runV t ws n) (runV u ws n)
theorem Bet.fold {t : Tr} (hok : trOk t = true) : Bet t (foldV t) :=
  ⟨fold_ok hok, rfl, rfl, foldFrom_len _ _, fun ws n _ => by rw [(runV_fold hok).1]; exact AlikeR.refl _ _⟩
theorem Bet.cut {t u : Tr} {p : Nat → Bool} (h : Bet t u) (hok : trOk t = true) (hp : ∀ j, p j = true → j ∈ deadV u (lastV t [])) : Bet t ⟨u.regs, cutFrom p u.code 0, u.exits⟩ := by
  have hth := thin_cut u (lastV u (lastV t [])) p u.code 0 (fun j hj => .inl (hp j hj))
  have hpok := thin_ok (t := u) (p := ⟨u.regs, cutFrom p u.code 0, u.exits⟩) h.ok rfl rfl hth
  have hl := cutFrom_len p u.code 0
  refine ⟨hpok, h.regs, h.exits, by have := h.len; simp only; omega, fun ws n hf => ?_⟩
  have hfu := fit_same h.ok h.regs hf
  have hfp := fit_same (t := u) (p := ⟨u.regs, cutFrom p u.code 0, u.exits⟩) hpok rfl hfu
  have h2 := runV_thin (t := u) (p := ⟨u.regs, cutFrom p u.code 0, u.exits⟩) h.ok hpok rfl rfl hth hfu hfp (Agree.refl _ ws)
  refine (h.run ws n hf).trans (h2.mono fun m _ hm => ?_)
  have hkl := lastV_len t []
  by_cases hmr : m < (lastV t []).length
  · change (orL (rowA u u.code (noneV u)) (lastV t [])).getD m false = true
    rw [orL_get _ _ _ (by rw [rowA_len]; simp [noneV, h.regs]; omega), hm, Bool.or_true]
  · rw [List.getD_eq_getElem?_getD, List.getElem?_eq_none (by omega)] at hm
    cases hm

set_option maxHeartbeats 16000000 in
theorem better_spec (t : Tr) : PCall Try.prog 34 [dTr t] fun r => (trOk t = true ∧ ∃ b, Bet t b ∧ r = .tup [dTr b, dI 0]) ∨ (trOk t = false ∧ r = .tup [dTr ⟨0, [], []⟩, dI 1]) := by 
  refine pcall_of Try.func34 rfl rfl Try.ntmps34 (rs := [.cell 2 25, .tmp 3]) (tys := [25, 36]) rfl rfl (by simp) ?_
  (refine awp_sr fun KK hKK => ?_; simp [go_sem]; ((repeat' (first|(refine ag_x ?_;simp [go_sem])|intro _|refine And.intro ?_ ?_|(apply hKK;clear hKK KK)));all_goals first|refine Hold.mk ?_|omega|with_reducible assumption|(simp only [InR] at *;omega)|skip))
  rename_i g1 g2
  refine awp_frzbox 1 rfl rfl ?_
  simp only [go_sem]
  have hf := fold_spec t
  by_cases hok : trOk t = true
  · rw [if_pos hok, if_pos hok] at hf
    obtain ⟨hr1, hr2, hcl, hel⟩ := trOk_regs hok
    have hb0 := Bet.fold hok
    generalize foldV t = u0 at hf hb0
    (refine awp_sr fun KK hKK => ?_; simp [go_sem]; ((repeat' (first|(refine ag_x ?_;simp [go_sem])|intro _|refine And.intro ?_ ?_|(apply hKK;clear hKK KK)));all_goals first|refine Hold.mk ?_|omega|with_reducible assumption|(simp only [InR] at *;omega)|skip))
    ((try refine CallT.toA ?_); refine callT_m (by first | exact .inl ⟨rfl, rfl⟩ | exact .inr rfl) (by simp [go_sem]) ?_; intro args ha; simp [go_sem] at ha; subst ha; refine ⟨_, hf, ?_⟩; rintro _ rfl; simp [go_sem]; ((repeat' (first|(refine ag_x ?_;simp [go_sem])|intro _|refine And.intro ?_ ?_|(apply hKK;clear hKK KK)));all_goals first|refine Hold.mk ?_|omega|with_reducible assumption|(simp only [InR] at *;omega)|skip))
    rename_i g4
    refine awp_seq_k fun K1 hK1 => ?_
    (refine awp_sr fun KK hKK => ?_; simp [go_sem]; ((repeat' (first|(refine ag_x ?_;simp [go_sem])|intro _|refine And.intro ?_ ?_|(apply hKK;clear hKK KK)));all_goals first|refine Hold.mk ?_|omega|with_reducible assumption|(simp only [InR] at *;omega)|skip))
    (refine awp_if fun T F hT hF => ?_; simp [go_sem]; refine hF ?_; clear hT hF T F)
    refine awp_skip ?_
    refine hK1 _ ?_; clear hK1
    have hrow0 : (rowsV t [])[0]? = some (lastV t []) := by
      unfold rowsV
      rw [rowsL_at t _ 0 (by omega), List.drop_zero, rowA_last]
    have hkl := lastV_len t []
    (refine awp_sr fun KK hKK => ?_; simp [go_sem]; ((repeat' (first|(refine ag_x ?_;simp [go_sem])|intro _|refine And.intro ?_ ?_|(apply hKK;clear hKK KK)));all_goals first|refine Hold.mk ?_|omega|with_reducible assumption|(simp only [InR] at *;omega)|skip))
    ((try refine CallT.toA ?_); refine callT_m (by first | exact .inl ⟨rfl, rfl⟩ | exact .inr rfl) (by simp [go_sem]) ?_; intro args ha; simp [go_sem] at ha; subst ha; refine ⟨_, (live_spec' t [] hok (by simp)), ?_⟩; rintro _ rfl; simp [go_sem, hrow0]; ((repeat' (first|(refine ag_x ?_;simp [go_sem, hrow0])|intro _|refine And.intro ?_ ?_|(apply hKK;clear hKK KK)));all_goals first|refine Hold.mk ?_|omega|with_reducible assumption|(simp only [InR] at *;omega)|skip))
    refine awp_block ?_
    refine awp_loop (σ := Tr) (fun u => ⟨[(2, .ptr 2 g2 0), (4, .ptr 4 g4 0), (6, dBl (lastV t []))], [(2, (g2, .box [dI 0, .v (.slice none 0 0), .v (.slice none 0 0)])), (4, (g4, .box [dI u.regs, .sl 6 (u.code.map cIns), .sl 2 (u.exits.map cExi)]))]⟩) (fun u => Bet t u) (fun u => u.code.length) u0 ?_ ?_ ?_
    · (refine cov_of ?_ ?_ <;> simp [go_sem])
    · exact hb0
    intro u hB
    have huok := hB.ok
    have hucl := (trOk_regs huok).2.2.1
    refine awp_block ?_
    (refine awp_sr fun KK hKK => ?_; simp [go_sem]; ((repeat' (first|(refine ag_x ?_;simp [go_sem])|intro _|refine And.intro ?_ ?_|(apply hKK;clear hKK KK)));all_goals first|refine Hold.mk ?_|omega|with_reducible assumption|(simp only [InR] at *;omega)|skip))
    ((try refine CallT.toA ?_); refine callT_m (by first | exact .inl ⟨rfl, rfl⟩ | exact .inr rfl) (by simp [go_sem]) ?_; intro args ha; simp [go_sem] at ha; subst ha; refine ⟨_, (dead_spec u (lastV t []) huok (by rw [hkl, hB.regs]; omega)), ?_⟩; rintro _ rfl; simp [go_sem]; ((repeat' (first|(refine ag_x ?_;simp [go_sem])|intro _|refine And.intro ?_ ?_|(apply hKK;clear hKK KK)));all_goals first|refine Hold.mk ?_|omega|with_reducible assumption|(simp only [InR] at *;omega)|skip))
    have hnl : (nI (deadV u (lastV t []))).length = (deadV u (lastV t [])).length := by simp [nI]
    have hnc := nI_contains (deadV u (lastV t []))
    have hdl : (deadV u (lastV t [])).length ≤ 60 := by
      have := deadFrom_len u (lastV u (lastV t [])) u.code 0
      unfold deadV
      omega
    have hlt := fun j (h : j ∈ deadV u (lastV t [])) => deadV_lt h
    have hcut := hB.cut (p := inL (deadV u (lastV t []))) hok (fun j hj => by simpa [inL] using hj)
    generalize deadV u (lastV t []) = dv at hnl hnc hdl hlt hcut
    refine awp_seq_k fun K3 hK3 => ?_
    (refine awp_sr fun KK hKK => ?_; simp [go_sem]; ((repeat' (first|(refine ag_x ?_;simp [go_sem])|intro _|refine And.intro ?_ ?_|(apply hKK;clear hKK KK)));all_goals first|refine Hold.mk ?_|omega|with_reducible assumption|(simp only [InR] at *;omega)|skip))
    (refine awp_if fun T F hT hF => ?_; simp [go_sem]; refine BR.intro (fun h4 => hT ?_) (fun h4 => hF ?_); all_goals clear hT hF T F; try simp at h4) 
    · (refine awp_sr fun KK hKK => ?_; simp [go_sem]; ((repeat' (first|(refine ag_x ?_;simp [go_sem])|intro _|refine And.intro ?_ ?_|(apply hKK;clear hKK KK)));all_goals first|refine Hold.mk ?_|omega|with_reducible assumption|(simp only [InR] at *;omega)|skip))
      (refine awp_ret ?_; simp [go_sem, hok])
      exact ⟨u, hB, rfl, rfl, rfl⟩
    · refine awp_skip ?_
      refine hK3 _ ?_; clear hK3
      have hne : dv ≠ [] := fun h => h4 (by simp [h, nI])
      obtain ⟨j0, hj0⟩ := List.exists_mem_of_ne_nil dv hne
      have hless := cutFrom_less (inL dv) u.code 0 j0 (by omega) (by have := hlt j0 hj0; omega) (by simpa [inL] using hj0)
      (refine awp_sr fun KK hKK => ?_; simp [go_sem]; ((repeat' (first|(refine ag_x ?_;simp [go_sem])|intro _|refine And.intro ?_ ?_|(apply hKK;clear hKK KK)));all_goals first|refine Hold.mk ?_|omega|with_reducible assumption|(simp only [InR] at *;omega)|skip))
      refine awp_nilslot 8 46 71 6 rfl fun gl => ?_
      simp only [go_sem]
      refine awp_seq_k fun K5 hK5 => ?_
      (refine awp_sr fun KK hKK => ?_; simp [go_sem]; ((repeat' (first|(refine ag_x ?_;simp [go_sem])|intro _|refine And.intro ?_ ?_|(apply hKK;clear hKK KK)));all_goals first|refine Hold.mk ?_|omega|with_reducible assumption|(simp only [InR] at *;omega)|skip))
      refine awp_block ?_
      refine awp_loop (σ := Nat × Nat) (fun x => ⟨[(2, .ptr 2 g2 0), (4, .ptr 4 g4 0), (6, dBl (lastV t [])), (7, dIs (nI dv)), (8, .own 46 x.2), (32, .sl 6 (u.code.map cIns)), (33, dI u.code.length), (34, dI x.1)],
        [(2, (g2, .box [dI 0, .v (.slice none 0 0), .v (.slice none 0 0)])), (4, (g4, .box [dI u.regs, .sl 6 (u.code.map cIns), .sl 2 (u.exits.map cExi)])), (46, (x.2, .row 71 6 ((cutT u (inL dv) x.1).map cIns)))]⟩) (fun x => x.1 ≤ u.code.length) (fun x => u.code.length - x.1) (0, gl) ?_ ?_ ?_
      · (refine cov_of ?_ ?_ <;> simp [go_sem, cutT, cutFrom])
      · simp
      rintro ⟨k, gl⟩ hk
      simp only at hk
      (refine awp_sr fun KK hKK => ?_; simp [go_sem]; ((repeat' (first|(refine ag_x ?_;simp [go_sem])|intro _|refine And.intro ?_ ?_|(apply hKK;clear hKK KK)));all_goals first|refine Hold.mk ?_|omega|with_reducible assumption|(simp only [InR] at *;omega)|skip))
      refine awp_seq_k fun K6 hK6 => ?_
      (refine awp_if fun T F hT hF => ?_; simp [go_sem]; refine BR.intro (fun h7 => hT ?_) (fun h7 => hF ?_); all_goals clear hT hF T F; try simp at h7) 
      · refine awp_skip ?_
        refine hK6 _ ?_; clear hK6
        obtain ⟨x, hx⟩ : ∃ x, u.code[k]? = some x := ⟨_, List.getElem?_eq_getElem (by omega)⟩
        have hst := cutT_step (p := inL dv) hx
        have hal : (cutT u (inL dv) k).length ≤ 60 := by have := cutFrom_len (inL dv) (u.code.take k) 0; simp at this; unfold cutT; simp; omega
        generalize cutT u (inL dv) k = acc at hst hal ⊢
        have hci : PCall Try.prog 53 [dIs (nI dv), dI (k : Int)] fun r => r = dB (inL dv k) := by
          unfold inL
          rw [← hnc]
          exact containsI_spec (nI dv) k (by omega)
        refine awp_seq_k fun K8 hK8 => ?_
        have tl8 : ∀ S' gl', Cov S' ⟨[(2, .ptr 2 g2 0), (4, .ptr 4 g4 0), (6, dBl (lastV t [])), (7, dIs (nI dv)), (8, .own 46 gl'), (32, .sl 6 (u.code.map cIns)), (33, dI u.code.length), (34, dI k)],
            [(2, (g2, .box [dI 0, .v (.slice none 0 0), .v (.slice none 0 0)])), (4, (g4, .box [dI u.regs, .sl 6 (u.code.map cIns), .sl 2 (u.exits.map cExi)])), (46, (gl', .row 71 6 ((acc ++ (if inL dv k then [] else [x])).map cIns)))]⟩ → K8 S' := fun S' gl' hS => by
          refine hK8 _ ?_; clear hK8
          refine awp_cov hS ?_; clear hS
          (refine awp_r fun KK hKK => ?_; simp [go_sem]; ((repeat' (first|(refine ag_x ?_;simp [go_sem])|intro _|refine And.intro ?_ ?_|(apply hKK;clear hKK KK)));all_goals first|refine Hold.mk ?_|omega|with_reducible assumption|(simp only [InR] at *;omega)|skip))
          refine ⟨(k + 1, gl'), ?_, by simp; omega, by simp; omega⟩
          rw [hst]
          (refine cov_of ?_ ?_ <;> simp [go_sem])
        clear hK8
        refine awp_block ?_
        (refine awp_sr fun KK hKK => ?_; simp [go_sem, hx]; ((repeat' (first|(refine ag_x ?_;simp [go_sem, hx])|intro _|refine And.intro ?_ ?_|(apply hKK;clear hKK KK)));all_goals first|refine Hold.mk ?_|omega|with_reducible assumption|(simp only [InR] at *;omega)|skip))
        rename_i g10
        refine awp_frzbox 10 rfl rfl ?_
        simp only [go_sem]
        (refine awp_sr fun KK hKK => ?_; simp [go_sem]; ((repeat' (first|(refine ag_x ?_;simp [go_sem])|intro _|refine And.intro ?_ ?_|(apply hKK;clear hKK KK)));all_goals first|refine Hold.mk ?_|omega|with_reducible assumption|(simp only [InR] at *;omega)|skip))
        ((try refine CallT.toA ?_); refine callT_m (by first | exact .inl ⟨rfl, rfl⟩ | exact .inr rfl) (by simp [go_sem]) ?_; intro args ha; simp [go_sem] at ha; subst ha; refine ⟨_, hci, ?_⟩; rintro _ rfl; simp [go_sem]; ((repeat' (first|(refine ag_x ?_;simp [go_sem])|intro _|refine And.intro ?_ ?_|(apply hKK;clear hKK KK)));all_goals first|refine Hold.mk ?_|omega|with_reducible assumption|(simp only [InR] at *;omega)|skip))
        (refine awp_if fun T F hT hF => ?_; simp [go_sem]; refine BR.intro (fun h9 => hT ?_) (fun h9 => hF ?_); all_goals clear hT hF T F; try simp at h9) 
        · (refine awp_r fun KK hKK => ?_; simp [go_sem]; ((repeat' (first|(refine ag_x ?_;simp [go_sem])|intro _|refine And.intro ?_ ?_|(apply hKK;clear hKK KK)));all_goals first|refine Hold.mk ?_|omega|with_reducible assumption|(simp only [InR] at *;omega)|skip))
          rename_i g45 g46
          refine tl8 _ g46 ?_
          rw [if_neg (by simpa using h9)]
          (refine cov_of ?_ ?_ <;> simp [go_sem])
        · refine awp_skip ?_
          refine tl8 _ gl ?_
          rw [if_pos (by simpa using h9)]
          (refine cov_of ?_ ?_ <;> simp [go_sem])
      · refine awp_exit ?_
        simp only [go_sem]
        refine hK5 _ ?_; clear hK5
        have : k = u.code.length := by omega
        subst this
        have hfin : cutT u (inL dv) u.code.length = cutFrom (inL dv) u.code 0 := by unfold cutT; rw [List.take_length]
        rw [hfin]
        refine awp_frzrow 8 rfl rfl ?_
        simp only [go_sem]
        (refine awp_r fun KK hKK => ?_; simp [go_sem]; ((repeat' (first|(refine ag_x ?_;simp [go_sem])|intro _|refine And.intro ?_ ?_|(apply hKK;clear hKK KK)));all_goals first|refine Hold.mk ?_|omega|with_reducible assumption|(simp only [InR] at *;omega)|skip))
        refine ⟨_, ?_, hcut, hless⟩
        (refine cov_of ?_ ?_ <;> simp [go_sem])
  · have hok' : trOk t = false := by simpa using hok
    rw [if_neg hok, if_neg hok] at hf
    (refine awp_sr fun KK hKK => ?_; simp [go_sem]; ((repeat' (first|(refine ag_x ?_;simp [go_sem])|intro _|refine And.intro ?_ ?_|(apply hKK;clear hKK KK)));all_goals first|refine Hold.mk ?_|omega|with_reducible assumption|(simp only [InR] at *;omega)|skip))
    ((try refine CallT.toA ?_); refine callT_m (by first | exact .inl ⟨rfl, rfl⟩ | exact .inr rfl) (by simp [go_sem]) ?_; intro args ha; simp [go_sem] at ha; subst ha; refine ⟨_, hf, ?_⟩; rintro _ rfl; simp [go_sem]; ((repeat' (first|(refine ag_x ?_;simp [go_sem])|intro _|refine And.intro ?_ ?_|(apply hKK;clear hKK KK)));all_goals first|refine Hold.mk ?_|omega|with_reducible assumption|(simp only [InR] at *;omega)|skip))
    refine awp_seq_k fun K1 hK1 => ?_
    (refine awp_sr fun KK hKK => ?_; simp [go_sem]; ((repeat' (first|(refine ag_x ?_;simp [go_sem])|intro _|refine And.intro ?_ ?_|(apply hKK;clear hKK KK)));all_goals first|refine Hold.mk ?_|omega|with_reducible assumption|(simp only [InR] at *;omega)|skip))
    (refine awp_if fun T F hT hF => ?_; simp [go_sem]; refine hT ?_; clear hT hF T F)
    (refine awp_sr fun KK hKK => ?_; simp [go_sem]; ((repeat' (first|(refine ag_x ?_;simp [go_sem])|intro _|refine And.intro ?_ ?_|(apply hKK;clear hKK KK)));all_goals first|refine Hold.mk ?_|omega|with_reducible assumption|(simp only [InR] at *;omega)|skip))
    (refine awp_ret ?_; simp [go_sem, hok'])
end Go.Proofs.Ytmgbaegdkjcagaa
