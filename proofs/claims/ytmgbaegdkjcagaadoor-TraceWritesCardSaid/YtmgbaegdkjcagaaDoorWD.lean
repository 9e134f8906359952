/- Part of a proof: see the last text. -/
import Derived.Test.YtmgbaegdkjcagaaDoorWC
set_option linter.unusedVariables false
set_option linter.unusedSimpArgs false
set_option linter.unusedSimpArgs false
set_option linter.unusedVariables false
namespace Go.Proofs.YtmgbaegdkjcagaaDoor
open Go.Eng
set_option maxRecDepth 20000
attribute [local irreducible] AG CallA CallT AWp PCall ACall AgC

theorem numLoop_at {l : List UInt8} {j : Nat} {c : UInt8} {n : Int} (h : l[j]? = some c) : numLoop (l.drop j) n = if (c.toNat : Int) - 48 < 0 ∨ 9 < (c.toNat : Int) - 48 ∨ n < (-9223372036854775808 + ((c.toNat : Int) - 48)).tdiv 10 then none else numLoop (l.drop (j + 1)) (n * 10 - ((c.toNat : Int) - 48)) := by
  rw [drop_at h]; rfl
set_option maxHeartbeats 8000000 in
theorem number_spec (s : List UInt8) : PCall Tryd.prog 49 [dS s] fun r => ∃ v, r = .tup [dI v, dB (numR s).isSome] ∧ ∀ x, numR s = some x → v = x := by 
  refine pcall_of Tryd.func49 rfl rfl Tryd.ntmps49 (rs := [.tmp 2, .tmp 3]) (tys := [3, 4]) rfl rfl (by simp) ?_
  generalize hd : Lib.trimPrefix s [45] = d
  (refine awp_sr fun KK hKK => ?_; simp [go_sem]; ((repeat' (first|(refine ag_x ?_;simp [go_sem])|intro _|refine And.intro ?_ ?_|(apply hKK;clear hKK KK)));all_goals first|refine Hold.mk ?_|omega|with_reducible assumption|(simp only [InR] at *;omega)|skip))
  (refine awp_sr fun KK hKK => ?_; simp [go_sem]; ((repeat' (first|(refine ag_x ?_;simp [go_sem])|intro _|refine And.intro ?_ ?_|(apply hKK;clear hKK KK)));all_goals first|refine Hold.mk ?_|omega|with_reducible assumption|(simp only [InR] at *;omega)|skip))
  ((try refine CallT.toA ?_); refine callT_m (by first | exact .inl ⟨rfl, rfl⟩ | exact .inr rfl) (by simp [go_sem]) ?_; intro args ha; simp [go_sem] at ha; subst ha; refine ⟨_, (trim_spec _ _), ?_⟩; rintro _ rfl; simp [go_sem]; ((repeat' (first|(refine ag_x ?_;simp [go_sem])|intro _|refine And.intro ?_ ?_|(apply hKK;clear hKK KK)));all_goals first|refine Hold.mk ?_|omega|with_reducible assumption|(simp only [InR] at *;omega)|skip))
  refine awp_seq_k fun K1 hK1 => ?_
  (refine awp_sr fun KK hKK => ?_; simp [go_sem]; ((repeat' (first|(refine ag_x ?_;simp [go_sem])|intro _|refine And.intro ?_ ?_|(apply hKK;clear hKK KK)));all_goals first|refine Hold.mk ?_|omega|with_reducible assumption|(simp only [InR] at *;omega)|skip))
  rw [hd]
  (refine awp_if fun T F hT hF => ?_; simp [go_sem]; refine BR.intro (fun h2 => hT ?_) (fun h2 => hF ?_); all_goals clear hT hF T F; try simp at h2) 
  · (refine awp_sr fun KK hKK => ?_; simp [go_sem]; ((repeat' (first|(refine ag_x ?_;simp [go_sem])|intro _|refine And.intro ?_ ?_|(apply hKK;clear hKK KK)));all_goals first|refine Hold.mk ?_|omega|with_reducible assumption|(simp only [InR] at *;omega)|skip))
    (refine awp_ret ?_; simp [go_sem])
    have : numR s = none := by unfold numR; rw [hd, if_pos (by rcases h2 with h | h; exact .inl h; exact .inr (by omega))]
    simp [this]
  · refine awp_skip ?_
    refine hK1 _ ?_; clear hK1
    have e1 : numR s = match numLoop d 0 with
      | none => none
      | some n => if Lib.itoa (if d = s then negV n else n) = s then some (if d = s then negV n else n) else none := by
      unfold numR; rw [hd, if_neg (by rintro (h | h); exact h2.1 h; omega)]; cases numLoop d 0 <;> rfl
    have hdl : d.length ≤ 19 := by omega
    (refine awp_sr fun KK hKK => ?_; simp [go_sem]; ((repeat' (first|(refine ag_x ?_;simp [go_sem])|intro _|refine And.intro ?_ ?_|(apply hKK;clear hKK KK)));all_goals first|refine Hold.mk ?_|omega|with_reducible assumption|(simp only [InR] at *;omega)|skip))
    refine awp_seq_k fun K3 hK3 => ?_
    (refine awp_sr fun KK hKK => ?_; simp [go_sem]; ((repeat' (first|(refine ag_x ?_;simp [go_sem])|intro _|refine And.intro ?_ ?_|(apply hKK;clear hKK KK)));all_goals first|refine Hold.mk ?_|omega|with_reducible assumption|(simp only [InR] at *;omega)|skip))
    refine awp_block ?_
    refine awp_loop (σ := Nat × Int) (fun x => ⟨[(0, dS s), (4, dS d), (5, dI x.2), (6, dI x.1)], []⟩) (fun x => x.1 ≤ d.length ∧ numLoop (d.drop x.1) x.2 = numLoop d 0 ∧ -9223372036854775808 ≤ x.2 ∧ x.2 ≤ 0) (fun x => d.length - x.1) (0, 0) ?_ ?_ ?_
    · (refine cov_of ?_ ?_ <;> simp [go_sem])
    · simp
    rintro ⟨j, n⟩ ⟨hj, hl, hn1, hn2⟩
    simp only at hj hl hn1 hn2
    refine awp_seq_k fun K4 hK4 => ?_
    (refine awp_sr fun KK hKK => ?_; simp [go_sem]; ((repeat' (first|(refine ag_x ?_;simp [go_sem])|intro _|refine And.intro ?_ ?_|(apply hKK;clear hKK KK)));all_goals first|refine Hold.mk ?_|omega|with_reducible assumption|(simp only [InR] at *;omega)|skip))
    (refine awp_if fun T F hT hF => ?_; simp [go_sem]; refine BR.intro (fun h5 => hT ?_) (fun h5 => hF ?_); all_goals clear hT hF T F; try simp at h5) 
    · refine awp_skip ?_
      refine hK4 _ ?_; clear hK4
      obtain ⟨c, hc⟩ : ∃ x, d[j]? = some x := ⟨_, List.getElem?_eq_getElem h5⟩
      rw [numLoop_at hc] at hl
      have hc2 := UInt8.toNat_lt c
      have q1 := Int.tmod_add_mul_tdiv (-9223372036854775808 + ((c.toNat : Int) - 48)) 10
      have q2 := tmod_bound (-9223372036854775808 + ((c.toNat : Int) - 48)) 10 (by omega)
      rw [show ab 10 = 10 from rfl] at q2
      refine awp_seq_k fun K6 hK6 => ?_
      refine awp_block ?_
      (refine awp_sr fun KK hKK => ?_; simp [go_sem, hc]; ((repeat' (first|(refine ag_x ?_;simp [go_sem, hc])|intro _|refine And.intro ?_ ?_|(apply hKK;clear hKK KK)));all_goals first|refine Hold.mk ?_|omega|with_reducible assumption|(simp only [InR] at *;omega)|skip))
      refine awp_seq_k fun K7 hK7 => ?_
      generalize hq : (-9223372036854775808 + ((c.toNat : Int) - 48)).tdiv 10 = q at *
      (refine awp_sr fun KK hKK => ?_; simp [go_sem, hq]; ((repeat' (first|(refine ag_x ?_;simp [go_sem, hq])|intro _|refine And.intro ?_ ?_|(apply hKK;clear hKK KK)));all_goals first|refine Hold.mk ?_|omega|with_reducible assumption|(simp only [InR] at *;omega)|skip))
      (refine awp_if fun T F hT hF => ?_; simp [go_sem]; refine BR.intro (fun h8 => hT ?_) (fun h8 => hF ?_); all_goals clear hT hF T F; try simp at h8) 
      · (refine awp_sr fun KK hKK => ?_; simp [go_sem]; ((repeat' (first|(refine ag_x ?_;simp [go_sem])|intro _|refine And.intro ?_ ?_|(apply hKK;clear hKK KK)));all_goals first|refine Hold.mk ?_|omega|with_reducible assumption|(simp only [InR] at *;omega)|skip))
        (refine awp_ret ?_; simp [go_sem])
        rw [if_pos (by omega)] at hl
        simp [e1, ← hl]
      · refine awp_skip ?_
        refine hK7 _ ?_; clear hK7
        rw [if_neg (by omega)] at hl
        (refine awp_r fun KK hKK => ?_; simp [go_sem]; ((repeat' (first|(refine ag_x ?_;simp [go_sem])|intro _|refine And.intro ?_ ?_|(apply hKK;clear hKK KK)));all_goals first|refine Hold.mk ?_|omega|with_reducible assumption|(simp only [InR] at *;omega)|skip))
        refine hK6 _ ?_; clear hK6
        (refine awp_r fun KK hKK => ?_; simp [go_sem]; ((repeat' (first|(refine ag_x ?_;simp [go_sem])|intro _|refine And.intro ?_ ?_|(apply hKK;clear hKK KK)));all_goals first|refine Hold.mk ?_|omega|with_reducible assumption|(simp only [InR] at *;omega)|skip))
        refine ⟨(j + 1, n * 10 - ((c.toNat : Int) - 48)), ?_, ⟨h5, hl, by simp only; omega, by simp only; omega⟩, by simp; omega⟩
        (refine cov_of ?_ ?_ <;> simp [go_sem])
    · refine awp_exit ?_
      simp only [go_sem]
      refine hK3 _ ?_; clear hK3
      have hjl : j = d.length := by omega
      subst hjl
      rw [List.drop_length] at hl
      simp only [numLoop] at hl
      rw [← hl] at e1
      simp only at e1
      refine awp_seq_k fun K9 hK9 => ?_
      have tl9 : ∀ S', Cov S' ⟨[(0, dS s), (4, dS d), (5, dI (if d = s then negV n else n))], []⟩ → K9 S' := fun S' hS => by
        refine hK9 _ ?_; clear hK9
        refine awp_cov hS ?_; clear hS
        generalize hm : (if d = s then negV n else n) = m at e1
        have hmr : InR m := by rw [← hm]; simp only [InR, negV]; split <;> (try split) <;> omega
        (refine awp_sr fun KK hKK => ?_; simp [go_sem]; ((repeat' (first|(refine ag_x ?_;simp [go_sem])|intro _|refine And.intro ?_ ?_|(apply hKK;clear hKK KK)));all_goals first|refine Hold.mk ?_|omega|with_reducible assumption|(simp only [InR] at *;omega)|skip))
        ((try refine CallT.toA ?_); refine callT_m (by first | exact .inl ⟨rfl, rfl⟩ | exact .inr rfl) (by simp [go_sem]) ?_; intro args ha; simp [go_sem] at ha; subst ha; refine ⟨_, (itoa_spec _ hmr), ?_⟩; rintro _ rfl; simp [go_sem]; ((repeat' (first|(refine ag_x ?_;simp [go_sem])|intro _|refine And.intro ?_ ?_|(apply hKK;clear hKK KK)));all_goals first|refine Hold.mk ?_|omega|with_reducible assumption|(simp only [InR] at *;omega)|skip))
        (refine awp_ret ?_; simp [go_sem])
        refine ⟨m, ?_, fun x hx => ?_⟩
        · by_cases hs : Lib.itoa m = s <;> simp [e1, hs]
        · rw [e1] at hx
          split at hx
          · simpa using hx
          · cases hx
      clear hK9
      (refine awp_sr fun KK hKK => ?_; simp [go_sem]; ((repeat' (first|(refine ag_x ?_;simp [go_sem])|intro _|refine And.intro ?_ ?_|(apply hKK;clear hKK KK)));all_goals first|refine Hold.mk ?_|omega|with_reducible assumption|(simp only [InR] at *;omega)|skip))
      (refine awp_if fun T F hT hF => ?_; simp [go_sem]; refine BR.intro (fun h10 => hT ?_) (fun h10 => hF ?_); all_goals clear hT hF T F; try simp at h10) 
      · by_cases hm : n = -9223372036854775808
        · subst hm
          refine awp_ags ?_
          unfold AGs
          refine ag_true rfl ?_
          simp [go_sem]
          unfold AGs
          refine ag_negleast (show (49 : Nat) < 55 by decide) ?_ ?_
          · simp [go_sem]
          unfold AGs
          refine ag_true rfl ?_
          simp [go_sem]
          unfold AGs
          refine tl9 _ ?_
          (refine cov_of ?_ ?_ <;> simp [go_sem, h10, negV])
        · (refine awp_r fun KK hKK => ?_; simp [go_sem]; ((repeat' (first|(refine ag_x ?_;simp [go_sem])|intro _|refine And.intro ?_ ?_|(apply hKK;clear hKK KK)));all_goals first|refine Hold.mk ?_|omega|with_reducible assumption|(simp only [InR] at *;omega)|skip))
          refine tl9 _ ?_
          (refine cov_of ?_ ?_ <;> simp [go_sem, h10, negV, hm])
      · refine awp_skip ?_
        refine tl9 _ ?_
        (refine cov_of ?_ ?_ <;> simp [go_sem, h10])
end Go.Proofs.YtmgbaegdkjcagaaDoor

set_option linter.unusedSimpArgs false
set_option linter.unusedVariables false
namespace Go.Proofs.YtmgbaegdkjcagaaDoor
open Go.Eng
set_option maxRecDepth 20000
attribute [local irreducible] AG CallA CallT AWp PCall ACall AgC

theorem spl_cons (c : UInt8) (l : List UInt8) : ∃ w r, spl c l = w :: r := by
  cases h : spl c l with
  | nil => exact absurd h (spl_ne c l)
  | cons w r => exact ⟨w, r, rfl⟩
def rlineD (s : List UInt8) : D := match numsR (spl 32 s).tail with
  | some n => .tup [dS ((spl 32 s).headD []), dIs n, dB true]
  | none => .tup [dS [], dIs [], dB false]
set_option maxHeartbeats 8000000 in
theorem rline_spec (s : List UInt8) (hl : s.length ≤ 20000) : PCall Tryd.prog 30 [dS s] fun r => r = rlineD s := by 
  refine pcall_of Tryd.func30 rfl rfl Tryd.ntmps30 (rs := [.tmp 2, .tmp 3, .tmp 4]) (tys := [9, 43, 4]) rfl rfl (by simp) ?_
  obtain ⟨w, ws, hw⟩ := spl_cons 32 s
  have hlen := spl_len 32 s
  rw [hw] at hlen
  simp only [List.length_cons] at hlen
  unfold rlineD
  rw [hw]
  simp only [List.tail_cons, List.headD_cons]
  (refine awp_sr fun KK hKK => ?_; simp [go_sem]; ((repeat' (first|(refine ag_x ?_;simp [go_sem])|intro _|refine And.intro ?_ ?_|(apply hKK;clear hKK KK)));all_goals first|refine Hold.mk ?_|omega|with_reducible assumption|(simp only [InR] at *;omega)|skip))
  (refine awp_sr fun KK hKK => ?_; simp [go_sem]; ((repeat' (first|(refine ag_x ?_;simp [go_sem])|intro _|refine And.intro ?_ ?_|(apply hKK;clear hKK KK)));all_goals first|refine Hold.mk ?_|omega|with_reducible assumption|(simp only [InR] at *;omega)|skip))
  ((try refine CallT.toA ?_); refine callT_m (by first | exact .inl ⟨rfl, rfl⟩ | exact .inr rfl) (by simp [go_sem]) ?_; intro args ha; simp [go_sem] at ha; subst ha; refine ⟨_, (split_spec s 32 (by omega)), ?_⟩; rintro _ rfl; simp [go_sem]; ((repeat' (first|(refine ag_x ?_;simp [go_sem])|intro _|refine And.intro ?_ ?_|(apply hKK;clear hKK KK)));all_goals first|refine Hold.mk ?_|omega|with_reducible assumption|(simp only [InR] at *;omega)|skip))
  rw [hw]
  (refine awp_sr fun KK hKK => ?_; simp [go_sem]; ((repeat' (first|(refine ag_x ?_;simp [go_sem])|intro _|refine And.intro ?_ ?_|(apply hKK;clear hKK KK)));all_goals first|refine Hold.mk ?_|omega|with_reducible assumption|(simp only [InR] at *;omega)|skip))
  refine awp_nilslot 6 70 3 1 rfl fun g6 => ?_
  simp only [go_sem]
  refine awp_seq_k fun K1 hK1 => ?_
  (refine awp_sr fun KK hKK => ?_; simp [go_sem]; ((repeat' (first|(refine ag_x ?_;simp [go_sem])|intro _|refine And.intro ?_ ?_|(apply hKK;clear hKK KK)));all_goals first|refine Hold.mk ?_|omega|with_reducible assumption|(simp only [InR] at *;omega)|skip))
  refine awp_block ?_
  refine awp_loop (σ := Nat × List Int × Nat) (fun x => ⟨[(5, dSs (w :: ws)), (6, .own 70 x.2.2), (7, dI (x.1 + 1 : Int))], [(70, x.2.2, .row 3 1 (x.2.1.map cI))]⟩) (fun x => x.1 ≤ ws.length ∧ numsR (ws.take x.1) = some x.2.1 ∧ x.2.1.length = x.1) (fun x => ws.length - x.1) (0, [], g6) ?_ ?_ ?_
  · (refine cov_of ?_ ?_ <;> simp [go_sem])
  · simp [numsR]
  rintro ⟨j, n, g⟩ ⟨hj, hn, hnl⟩
  simp only at hj hn hnl
  refine awp_seq_k fun K2 hK2 => ?_
  (refine awp_sr fun KK hKK => ?_; simp [go_sem]; ((repeat' (first|(refine ag_x ?_;simp [go_sem])|intro _|refine And.intro ?_ ?_|(apply hKK;clear hKK KK)));all_goals first|refine Hold.mk ?_|omega|with_reducible assumption|(simp only [InR] at *;omega)|skip))
  (refine awp_if fun T F hT hF => ?_; simp [go_sem]; refine BR.intro (fun h3 => hT ?_) (fun h3 => hF ?_); all_goals clear hT hF T F; try simp at h3) 
  · refine awp_skip ?_
    refine hK2 _ ?_; clear hK2
    obtain ⟨x, hx⟩ : ∃ x, ws[j]? = some x := ⟨_, List.getElem?_eq_getElem (by omega)⟩
    refine awp_seq_k fun K4 hK4 => ?_
    refine awp_block ?_
    (refine awp_sr fun KK hKK => ?_; simp [go_sem, hx]; ((repeat' (first|(refine ag_x ?_;simp [go_sem, hx])|intro _|refine And.intro ?_ ?_|(apply hKK;clear hKK KK)));all_goals first|refine Hold.mk ?_|omega|with_reducible assumption|(simp only [InR] at *;omega)|skip))
    ((try refine CallT.toA ?_); refine callT_m (by first | exact .inl ⟨rfl, rfl⟩ | exact .inr rfl) (by simp [go_sem]) ?_; intro args ha; simp [go_sem] at ha; subst ha; refine ⟨_, (number_spec _), ?_⟩; rintro _ ⟨v, rfl, hv⟩; simp [go_sem]; ((repeat' (first|(refine ag_x ?_;simp [go_sem])|intro _|refine And.intro ?_ ?_|(apply hKK;clear hKK KK)));all_goals first|refine Hold.mk ?_|omega|with_reducible assumption|(simp only [InR] at *;omega)|skip))
    refine awp_seq_k fun K5 hK5 => ?_
    (refine awp_sr fun KK hKK => ?_; simp [go_sem]; ((repeat' (first|(refine ag_x ?_;simp [go_sem])|intro _|refine And.intro ?_ ?_|(apply hKK;clear hKK KK)));all_goals first|refine Hold.mk ?_|omega|with_reducible assumption|(simp only [InR] at *;omega)|skip))
    (refine awp_if fun T F hT hF => ?_; simp [go_sem]; refine BR.intro (fun h6 => hT ?_) (fun h6 => hF ?_); all_goals clear hT hF T F; try simp at h6) 
    · (refine awp_sr fun KK hKK => ?_; simp [go_sem]; ((repeat' (first|(refine ag_x ?_;simp [go_sem])|intro _|refine And.intro ?_ ?_|(apply hKK;clear hKK KK)));all_goals first|refine Hold.mk ?_|omega|with_reducible assumption|(simp only [InR] at *;omega)|skip))
      (refine awp_ret ?_; simp [go_sem])
      have : numsR ws = none := numsR_none hx (by simpa using h6)
      rw [this]
    · refine awp_skip ?_
      refine hK5 _ ?_; clear hK5
      obtain ⟨y, hy⟩ : ∃ y, numR x = some y := Option.isSome_iff_exists.1 (by simpa using h6)
      obtain rfl := hv y hy
      have hst := numsR_step hn hx hy
      (refine awp_r fun KK hKK => ?_; simp [go_sem]; ((repeat' (first|(refine ag_x ?_;simp [go_sem])|intro _|refine And.intro ?_ ?_|(apply hKK;clear hKK KK)));all_goals first|refine Hold.mk ?_|omega|with_reducible assumption|(simp only [InR] at *;omega)|skip))
      refine hK4 _ ?_; clear hK4
      (refine awp_r fun KK hKK => ?_; simp [go_sem]; ((repeat' (first|(refine ag_x ?_;simp [go_sem])|intro _|refine And.intro ?_ ?_|(apply hKK;clear hKK KK)));all_goals first|refine Hold.mk ?_|omega|with_reducible assumption|(simp only [InR] at *;omega)|skip))
      rename_i g7
      refine ⟨(j + 1, n ++ [v], g7), ?_, ⟨by simp only; omega, hst, by simp [hnl]⟩, by simp; omega⟩
      (refine cov_of ?_ ?_ <;> simp [go_sem])
  · refine awp_exit ?_
    simp only [go_sem]
    refine hK1 _ ?_; clear hK1
    have hjl : j = ws.length := by omega
    subst hjl
    rw [List.take_length] at hn
    rw [hn]
    (refine awp_sr fun KK hKK => ?_; simp [go_sem]; ((repeat' (first|(refine ag_x ?_;simp [go_sem])|intro _|refine And.intro ?_ ?_|(apply hKK;clear hKK KK)));all_goals first|refine Hold.mk ?_|omega|with_reducible assumption|(simp only [InR] at *;omega)|skip))
    (refine awp_ret ?_; simp [go_sem])
set_option maxHeartbeats 8000000 in
theorem instr_spec (w : List UInt8) (l : List Int) : PCall Tryd.prog 31 [dS w, dIs l] fun r => r = .tup [.agg (cIns ((instrV w l).getD ⟨0, 0, 0, 0, 0, 0⟩)), dB (instrV w l).isSome] := by 
  refine pcall_of Tryd.func31 rfl rfl Tryd.ntmps31 (rs := [.cell 4 70, .tmp 5]) (tys := [70, 4]) rfl rfl (by simp) ?_
  (refine awp_sr fun KK hKK => ?_; simp [go_sem]; ((repeat' (first|(refine ag_x ?_;simp [go_sem])|intro _|refine And.intro ?_ ?_|(apply hKK;clear hKK KK)));all_goals first|refine Hold.mk ?_|omega|with_reducible assumption|(simp only [InR] at *;omega)|skip))
  rename_i g4
  refine awp_seq_k fun K1 hK1 => ?_
  (refine awp_sr fun KK hKK => ?_; simp [go_sem]; ((repeat' (first|(refine ag_x ?_;simp [go_sem])|intro _|refine And.intro ?_ ?_|(apply hKK;clear hKK KK)));all_goals first|refine Hold.mk ?_|omega|with_reducible assumption|(simp only [InR] at *;omega)|skip))
  refine awp_block ?_
  refine awp_loop (σ := Nat) (fun op => ⟨[(0, dS w), (1, dIs l), (4, .ptr 4 g4 0), (6, dI op)], [(4, g4, .box (cIns ⟨0, 0, 0, 0, 0, 0⟩))]⟩) (fun op => op ≤ 11 ∧ instrFrom w l (11 - op) op = instrV w l) (fun op => 11 - op) 0 ?_ ?_ ?_
  · (refine cov_of ?_ ?_ <;> simp [go_sem])
  · simp [instrV]
  rintro op ⟨hop, hA⟩
  refine awp_seq_k fun K2 hK2 => ?_
  (refine awp_sr fun KK hKK => ?_; simp [go_sem]; ((repeat' (first|(refine ag_x ?_;simp [go_sem])|intro _|refine And.intro ?_ ?_|(apply hKK;clear hKK KK)));all_goals first|refine Hold.mk ?_|omega|with_reducible assumption|(simp only [InR] at *;omega)|skip))
  (refine awp_if fun T F hT hF => ?_; simp [go_sem]; refine BR.intro (fun h3 => hT ?_) (fun h3 => hF ?_); all_goals clear hT hF T F; try simp at h3) 
  · refine awp_skip ?_
    refine hK2 _ ?_; clear hK2
    have ho0 : (0 : Int) ≤ op := by omega
    have ho1 : (op : Int) ≤ 10 := by omega
    have hfl := flds_len op
    have hnm : namesL[op]? = some (nmAt op) := by
      have := nm_at ho0 ho1
      rw [Int.toNat_natCast, List.getElem?_map, Option.map_eq_some_iff] at this
      obtain ⟨x, h1, h2⟩ := this
      simp at h2
      rw [h1, h2]
    obtain ⟨m, hm⟩ : ∃ m, 11 - op = m + 1 := ⟨10 - op, by omega⟩
    rw [hm] at hA
    simp only [instrFrom] at hA
    refine awp_seq_k fun K4 hK4 => ?_
    refine awp_block ?_
    (refine awp_sr fun KK hKK => ?_; simp [go_sem]; ((repeat' (first|(refine ag_x ?_;simp [go_sem])|intro _|refine And.intro ?_ ?_|(apply hKK;clear hKK KK)));all_goals first|refine Hold.mk ?_|omega|with_reducible assumption|(simp only [InR] at *;omega)|skip))
    ((try refine CallT.toA ?_); refine callT_m (by first | exact .inl ⟨rfl, rfl⟩ | exact .inr rfl) (by simp [go_sem]) ?_; intro args ha; simp [go_sem] at ha; subst ha; refine ⟨_, (rfields_spec _ ho0 ho1), ?_⟩; rintro _ rfl; simp [go_sem]; ((repeat' (first|(refine ag_x ?_;simp [go_sem])|intro _|refine And.intro ?_ ?_|(apply hKK;clear hKK KK)));all_goals first|refine Hold.mk ?_|omega|with_reducible assumption|(simp only [InR] at *;omega)|skip))
    refine awp_seq_k fun K5 hK5 => ?_
    refine awp_sr (P := Tryd.prog) fun KK hKK => ?_
    simp (maxSteps := 2000000) [go_sem]
    ((repeat' (first|(refine ag_x ?_;simp [go_sem])|refine adr_nil ?_|refine adr_two ?_ ?_|refine adr_kp2 ?_ ?_|((first|refine adr_qs fun KK hKK=>?_|refine adr_y fun KK hKK=>?_);simp [go_sem])|intro _|refine And.intro ?_ ?_|(apply hKK;clear hKK KK)));all_goals first|refine Hold.mk ?_|omega|with_reducible assumption|(simp only [InR] at *;omega)|skip)
    ((try refine CallT.toA ?_); refine callT_m (by first | exact .inl ⟨rfl, rfl⟩ | exact .inr rfl) (by simp [go_sem]) ?_; intro args ha; simp [go_sem] at ha; subst ha; refine ⟨_, rnames_spec, ?_⟩; rintro _ rfl; simp [go_sem, hnm]; ((repeat' (first|(refine ag_x ?_;simp [go_sem, hnm])|refine adr_nil ?_|refine adr_two ?_ ?_|refine adr_kp2 ?_ ?_|((first|refine adr_qs fun KK hKK=>?_|refine adr_y fun KK hKK=>?_);simp [go_sem, hnm])|intro _|refine And.intro ?_ ?_|(apply hKK;clear hKK KK)));all_goals first|refine Hold.mk ?_|omega|with_reducible assumption|(simp only [InR] at *;omega)|skip))
    (refine awp_if fun T F hT hF => ?_; simp [go_sem]; refine BR.intro (fun h6 => hT ?_) (fun h6 => hF ?_); all_goals clear hT hF T F; try simp at h6) 
    · refine awp_exit ?_
      simp only [go_sem]
      refine hK4 _ ?_; clear hK4
      have hna : instrAt w l op = none := by
        unfold instrAt
        rw [if_neg]
        rintro ⟨q1, q2⟩
        rcases h6 with h | h
        · exact h q1
        · omega
      rw [hna] at hA
      (refine awp_r fun KK hKK => ?_; simp [go_sem]; ((repeat' (first|(refine ag_x ?_;simp [go_sem])|intro _|refine And.intro ?_ ?_|(apply hKK;clear hKK KK)));all_goals first|refine Hold.mk ?_|omega|with_reducible assumption|(simp only [InR] at *;omega)|skip))
      refine ⟨op + 1, ?_, ⟨by omega, ?_⟩, by omega⟩
      · (refine cov_of ?_ ?_ <;> simp [go_sem])
      · rw [show 11 - (op + 1) = m by omega]; simpa using hA
    · refine awp_skip ?_
      refine hK5 _ ?_; clear hK5
      have hll : l.length = (flds op).length := by omega
      have hna : instrAt w l op = some (mkIns op l) := by
        unfold instrAt
        rw [if_pos ⟨h6.1, hll⟩]
      rw [hna] at hA
      simp only at hA
      rw [← hA]
      (refine awp_sr fun KK hKK => ?_; simp [go_sem]; ((repeat' (first|(refine ag_x ?_;simp [go_sem])|intro _|refine And.intro ?_ ?_|(apply hKK;clear hKK KK)));all_goals first|refine Hold.mk ?_|omega|with_reducible assumption|(simp only [InR] at *;omega)|skip))
      rename_i g8
      refine awp_seq_k fun K7 hK7 => ?_
      (refine awp_sr fun KK hKK => ?_; simp [go_sem]; ((repeat' (first|(refine ag_x ?_;simp [go_sem])|intro _|refine And.intro ?_ ?_|(apply hKK;clear hKK KK)));all_goals first|refine Hold.mk ?_|omega|with_reducible assumption|(simp only [InR] at *;omega)|skip))
      refine awp_block ?_
      refine awp_loop (σ := Nat) (fun k => ⟨[(1, dIs l), (4, .ptr 4 g4 0), (7, dS (flds op)), (8, .ptr 8 g8 0), (9, dI k)], [(4, g4, .box (cIns ⟨0, 0, 0, 0, 0, 0⟩)), (8, g8, .box (cIns (setFs ⟨op, 0, 0, 0, 0, 0⟩ (((flds op).zip l).take k))))]⟩) (fun k => k ≤ l.length) (fun k => l.length - k) 0 ?_ ?_ ?_
      · (refine cov_of ?_ ?_ <;> simp [go_sem, setFs])
      · simp
      intro k hk
      refine awp_seq_k fun K8 hK8 => ?_
      (refine awp_sr fun KK hKK => ?_; simp [go_sem]; ((repeat' (first|(refine ag_x ?_;simp [go_sem])|intro _|refine And.intro ?_ ?_|(apply hKK;clear hKK KK)));all_goals first|refine Hold.mk ?_|omega|with_reducible assumption|(simp only [InR] at *;omega)|skip))
      (refine awp_if fun T F hT hF => ?_; simp [go_sem]; refine BR.intro (fun h9 => hT ?_) (fun h9 => hF ?_); all_goals clear hT hF T F; try simp at h9) 
      · refine awp_skip ?_
        refine hK8 _ ?_; clear hK8
        obtain ⟨c, hc⟩ : ∃ x, (flds op)[k]? = some x := ⟨_, List.getElem?_eq_getElem h9⟩
        obtain ⟨v, hv⟩ : ∃ x, l[k]? = some x := ⟨_, List.getElem?_eq_getElem (by omega)⟩
        have hcm := flds_mem (List.mem_of_getElem? hc)
        have hst : setFs ⟨op, 0, 0, 0, 0, 0⟩ (((flds op).zip l).take (k + 1)) = setF (setFs ⟨op, 0, 0, 0, 0, 0⟩ (((flds op).zip l).take k)) c.toNat v := by
          have hz : ((flds op).zip l)[k]? = some (c, v) := by rw [List.getElem?_zip_eq_some]; exact ⟨hc, hv⟩
          rw [List.take_add_one, hz]
          simp [setFs]
        generalize hI : setFs ⟨op, 0, 0, 0, 0, 0⟩ (((flds op).zip l).take k) = I at *
        refine awp_seq_k fun K10 hK10 => ?_
        have tl10 : ∀ S', Cov S' ⟨[(1, dIs l), (4, .ptr 4 g4 0), (7, dS (flds op)), (8, .ptr 8 g8 0), (9, dI k)], [(4, g4, .box (cIns ⟨0, 0, 0, 0, 0, 0⟩)), (8, g8, .box (cIns (setF I c.toNat v)))]⟩ → K10 S' := fun S' hS => by
          refine hK10 _ ?_; clear hK10
          refine awp_cov hS ?_; clear hS
          (refine awp_r fun KK hKK => ?_; simp [go_sem]; ((repeat' (first|(refine ag_x ?_;simp [go_sem])|intro _|refine And.intro ?_ ?_|(apply hKK;clear hKK KK)));all_goals first|refine Hold.mk ?_|omega|with_reducible assumption|(simp only [InR] at *;omega)|skip))
          refine ⟨k + 1, ?_, by omega, by omega⟩
          (refine cov_of ?_ ?_ <;> simp [go_sem, hst])
        clear hK10
        refine awp_block ?_
        (refine awp_sr fun KK hKK => ?_; simp [go_sem, hc]; ((repeat' (first|(refine ag_x ?_;simp [go_sem, hc])|intro _|refine And.intro ?_ ?_|(apply hKK;clear hKK KK)));all_goals first|refine Hold.mk ?_|omega|with_reducible assumption|(simp only [InR] at *;omega)|skip))
        refine awp_block ?_
        (refine awp_sr fun KK hKK => ?_; simp [go_sem]; ((repeat' (first|(refine ag_x ?_;simp [go_sem])|intro _|refine And.intro ?_ ?_|(apply hKK;clear hKK KK)));all_goals first|refine Hold.mk ?_|omega|with_reducible assumption|(simp only [InR] at *;omega)|skip))
        (refine awp_if fun T F hT hF => ?_; simp [go_sem]; refine BR.intro (fun h11 => hT ?_) (fun h11 => hF ?_); all_goals clear hT hF T F; try simp at h11) 
        · (refine awp_r fun KK hKK => ?_; simp [go_sem, hv]; ((repeat' (first|(refine ag_x ?_;simp [go_sem, hv])|intro _|refine And.intro ?_ ?_|(apply hKK;clear hKK KK)));all_goals first|refine Hold.mk ?_|omega|with_reducible assumption|(simp only [InR] at *;omega)|skip))
          refine tl10 _ ?_
          (refine cov_of ?_ ?_ <;> simp [go_sem, setF, h11])
        · (refine awp_sr fun KK hKK => ?_; simp [go_sem]; ((repeat' (first|(refine ag_x ?_;simp [go_sem])|intro _|refine And.intro ?_ ?_|(apply hKK;clear hKK KK)));all_goals first|refine Hold.mk ?_|omega|with_reducible assumption|(simp only [InR] at *;omega)|skip))
          (refine awp_if fun T F hT hF => ?_; simp [go_sem]; refine BR.intro (fun h12 => hT ?_) (fun h12 => hF ?_); all_goals clear hT hF T F; try simp at h12) 
          · (refine awp_r fun KK hKK => ?_; simp [go_sem, hv]; ((repeat' (first|(refine ag_x ?_;simp [go_sem, hv])|intro _|refine And.intro ?_ ?_|(apply hKK;clear hKK KK)));all_goals first|refine Hold.mk ?_|omega|with_reducible assumption|(simp only [InR] at *;omega)|skip))
            refine tl10 _ ?_
            (refine cov_of ?_ ?_ <;> simp [go_sem, setF, h12])
          · (refine awp_sr fun KK hKK => ?_; simp [go_sem]; ((repeat' (first|(refine ag_x ?_;simp [go_sem])|intro _|refine And.intro ?_ ?_|(apply hKK;clear hKK KK)));all_goals first|refine Hold.mk ?_|omega|with_reducible assumption|(simp only [InR] at *;omega)|skip))
            (refine awp_if fun T F hT hF => ?_; simp [go_sem]; refine BR.intro (fun h13 => hT ?_) (fun h13 => hF ?_); all_goals clear hT hF T F; try simp at h13) 
            · (refine awp_r fun KK hKK => ?_; simp [go_sem, hv]; ((repeat' (first|(refine ag_x ?_;simp [go_sem, hv])|intro _|refine And.intro ?_ ?_|(apply hKK;clear hKK KK)));all_goals first|refine Hold.mk ?_|omega|with_reducible assumption|(simp only [InR] at *;omega)|skip))
              refine tl10 _ ?_
              (refine cov_of ?_ ?_ <;> simp [go_sem, setF, h13])
            · (refine awp_sr fun KK hKK => ?_; simp [go_sem]; ((repeat' (first|(refine ag_x ?_;simp [go_sem])|intro _|refine And.intro ?_ ?_|(apply hKK;clear hKK KK)));all_goals first|refine Hold.mk ?_|omega|with_reducible assumption|(simp only [InR] at *;omega)|skip))
              (refine awp_if fun T F hT hF => ?_; simp [go_sem]; refine BR.intro (fun h14 => hT ?_) (fun h14 => hF ?_); all_goals clear hT hF T F; try simp at h14) 
              · (refine awp_r fun KK hKK => ?_; simp [go_sem, hv]; ((repeat' (first|(refine ag_x ?_;simp [go_sem, hv])|intro _|refine And.intro ?_ ?_|(apply hKK;clear hKK KK)));all_goals first|refine Hold.mk ?_|omega|with_reducible assumption|(simp only [InR] at *;omega)|skip))
                refine tl10 _ ?_
                (refine cov_of ?_ ?_ <;> simp [go_sem, setF, h14])
              · (refine awp_r fun KK hKK => ?_; simp [go_sem, hv]; ((repeat' (first|(refine ag_x ?_;simp [go_sem, hv])|intro _|refine And.intro ?_ ?_|(apply hKK;clear hKK KK)));all_goals first|refine Hold.mk ?_|omega|with_reducible assumption|(simp only [InR] at *;omega)|skip))
                refine tl10 _ ?_
                (refine cov_of ?_ ?_ <;> simp [go_sem, setF, h11, h12, h13, h14])
      · refine awp_exit ?_
        simp only [go_sem]
        refine hK7 _ ?_; clear hK7
        have hkl : k = l.length := by omega
        subst hkl
        have hz : ((flds op).zip l).take l.length = (flds op).zip l := List.take_of_length_le (by simp; omega)
        rw [hz]
        have e : setFs ⟨op, 0, 0, 0, 0, 0⟩ ((flds op).zip l) = mkIns op l := rfl
        rw [e]
        generalize mkIns op l = I
        (refine awp_sr fun KK hKK => ?_; simp [go_sem]; ((repeat' (first|(refine ag_x ?_;simp [go_sem])|intro _|refine And.intro ?_ ?_|(apply hKK;clear hKK KK)));all_goals first|refine Hold.mk ?_|omega|with_reducible assumption|(simp only [InR] at *;omega)|skip))
        (refine awp_ret ?_; simp [go_sem])
  · refine awp_exit ?_
    simp only [go_sem]
    refine hK1 _ ?_; clear hK1
    have hop : op = 11 := by omega
    subst hop
    simp [instrFrom] at hA
    rw [← hA]
    (refine awp_sr fun KK hKK => ?_; simp [go_sem]; ((repeat' (first|(refine ag_x ?_;simp [go_sem])|intro _|refine And.intro ?_ ?_|(apply hKK;clear hKK KK)));all_goals first|refine Hold.mk ?_|omega|with_reducible assumption|(simp only [InR] at *;omega)|skip))
    (refine awp_ret ?_; simp [go_sem])
end Go.Proofs.YtmgbaegdkjcagaaDoor

set_option linter.unusedSimpArgs false
set_option linter.unusedVariables false
namespace Go.Proofs.YtmgbaegdkjcagaaDoor
open Go.Eng
set_option maxRecDepth 20000
attribute [local irreducible] AG CallA CallT AWp PCall ACall AgC

@[go_sem] theorem if58 : isIface Tryd.prog 58 = true := by kernel_rfl
theorem numsV_cons {w : List UInt8} {ws : List (List UInt8)} {t : Tr} {n : List Int} (h : numsV ws = some n) : lineV t (w :: ws) = lineN t w n := by
  unfold lineV
  simp only [List.tail_cons, List.headD_cons, h]
set_option maxHeartbeats 8000000 in
theorem line_spec (t : Tr) (w : List UInt8) (ws : List (List UInt8)) (gb gc ge : Nat)
    (hws : ws.length ≤ 30000) (hwl : ∀ x ∈ ws, x.length ≤ 30000) (hcl : t.code.length ≤ 30000) (hel : t.exits.length ≤ 30000) :
    ACall Tryd.prog 29 [.ptr 900002 gb 0, dSs (w :: ws)] [(900002, (gb, .box [dI t.regs, .own 900003 gc, .own 900004 ge])), (900003, (gc, .row 63 6 (t.code.map cIns))), (900004, (ge, .row 45 2 (t.exits.map cExi)))] [900002, 900003, 900004]
      fun ps r => ∃ gc' ge', ps = [(gb, .box [dI ((lineV t (w :: ws)).getD t).regs, .own 900003 gc', .own 900004 ge']), (gc', .row 63 6 (((lineV t (w :: ws)).getD t).code.map cIns)), (ge', .row 45 2 (((lineV t (w :: ws)).getD t).exits.map cExi))] ∧ r = dB (lineV t (w :: ws)).isSome := by 
  refine acall_of Tryd.func29 rfl rfl Tryd.ntmps29 (rs := [.tmp 4]) (tys := [4]) rfl rfl (by simp) ?_ ?_
  · intro p hp
    simp only [List.mem_cons, List.mem_nil_iff, or_false] at hp
    rcases hp with rfl | rfl | rfl <;> simp [notFroz]
  (refine awp_sr fun KK hKK => ?_; simp [go_sem]; ((repeat' (first|(refine ag_x ?_;simp [go_sem])|intro _|refine And.intro ?_ ?_|(apply hKK;clear hKK KK)));all_goals first|refine Hold.mk ?_|omega|with_reducible assumption|(simp only [InR] at *;omega)|skip))
  (refine awp_sr fun KK hKK => ?_; simp [go_sem]; ((repeat' (first|(refine ag_x ?_;simp [go_sem])|intro _|refine And.intro ?_ ?_|(apply hKK;clear hKK KK)));all_goals first|refine Hold.mk ?_|omega|with_reducible assumption|(simp only [InR] at *;omega)|skip))
  refine awp_nilslot 5 70 3 1 rfl fun g5 => ?_
  simp only [go_sem]
  refine awp_seq_k fun K1 hK1 => ?_
  (refine awp_sr fun KK hKK => ?_; simp [go_sem]; ((repeat' (first|(refine ag_x ?_;simp [go_sem])|intro _|refine And.intro ?_ ?_|(apply hKK;clear hKK KK)));all_goals first|refine Hold.mk ?_|omega|with_reducible assumption|(simp only [InR] at *;omega)|skip))
  refine awp_block ?_
  refine awp_loop (σ := Nat × List Int × Nat) (fun x => ⟨[(0, .ptr 900002 gb 0), (1, dSs (w :: ws)), (5, .own 70 x.2.2), (15, dSs ws), (16, dI ws.length), (17, dI x.1)],
    [(900002, (gb, .box [dI t.regs, .own 900003 gc, .own 900004 ge])), (900003, (gc, .row 63 6 (t.code.map cIns))), (900004, (ge, .row 45 2 (t.exits.map cExi))), (70, x.2.2, .row 3 1 (x.2.1.map cI))]⟩) (fun x => x.1 ≤ ws.length ∧ numsV (ws.take x.1) = some x.2.1 ∧ x.2.1.length = x.1) (fun x => ws.length - x.1) (0, [], g5) ?_ ?_ ?_
  · (refine cov_of ?_ ?_ <;> simp [go_sem])
  · simp [numsV]
  rintro ⟨j, n, g⟩ ⟨hj, hn, hnl⟩
  simp only at hj hn hnl
  (refine awp_sr fun KK hKK => ?_; simp [go_sem]; ((repeat' (first|(refine ag_x ?_;simp [go_sem])|intro _|refine And.intro ?_ ?_|(apply hKK;clear hKK KK)));all_goals first|refine Hold.mk ?_|omega|with_reducible assumption|(simp only [InR] at *;omega)|skip))
  refine awp_seq_k fun K2 hK2 => ?_
  (refine awp_if fun T F hT hF => ?_; simp [go_sem]; refine BR.intro (fun h3 => hT ?_) (fun h3 => hF ?_); all_goals clear hT hF T F; try simp at h3) 
  · refine awp_skip ?_
    refine hK2 _ ?_; clear hK2
    obtain ⟨x, hx⟩ : ∃ x, ws[j]? = some x := ⟨_, List.getElem?_eq_getElem h3⟩
    have hxl := hwl x (List.mem_of_getElem? hx)
    refine awp_seq_k fun K4 hK4 => ?_
    refine awp_block ?_
    (refine awp_sr fun KK hKK => ?_; simp [go_sem, hx]; ((repeat' (first|(refine ag_x ?_;simp [go_sem, hx])|intro _|refine And.intro ?_ ?_|(apply hKK;clear hKK KK)));all_goals first|refine Hold.mk ?_|omega|with_reducible assumption|(simp only [InR] at *;omega)|skip))
    by_cases hv : ∃ v, Lib.atoiAll x = .ok v
    · obtain ⟨v, hv⟩ := hv
      (refine awp_sr fun KK hKK => ?_; simp [go_sem]; ((repeat' (first|(refine ag_x ?_;simp [go_sem])|intro _|refine And.intro ?_ ?_|(apply hKK;clear hKK KK)));all_goals first|refine Hold.mk ?_|omega|with_reducible assumption|(simp only [InR] at *;omega)|skip))
      ((try refine CallT.toA ?_); refine callT_m (by first | exact .inl ⟨rfl, rfl⟩ | exact .inr rfl) (by simp [go_sem]) ?_; intro args ha; simp [go_sem] at ha; subst ha; refine ⟨_, (atoi_ok x (by omega) v hv), ?_⟩; rintro _ rfl; simp [go_sem]; ((repeat' (first|(refine ag_x ?_;simp [go_sem])|intro _|refine And.intro ?_ ?_|(apply hKK;clear hKK KK)));all_goals first|refine Hold.mk ?_|omega|with_reducible assumption|(simp only [InR] at *;omega)|skip))
      refine awp_seq_k fun K5 hK5 => ?_
      (refine awp_sr fun KK hKK => ?_; simp [go_sem]; ((repeat' (first|(refine ag_x ?_;simp [go_sem])|intro _|refine And.intro ?_ ?_|(apply hKK;clear hKK KK)));all_goals first|refine Hold.mk ?_|omega|with_reducible assumption|(simp only [InR] at *;omega)|skip))
      (refine awp_if fun T F hT hF => ?_; simp [go_sem]; refine hF ?_; clear hT hF T F)
      refine awp_skip ?_
      refine hK5 _ ?_; clear hK5
      have hst := numsV_step hn hx hv
      (refine awp_r fun KK hKK => ?_; simp [go_sem]; ((repeat' (first|(refine ag_x ?_;simp [go_sem])|intro _|refine And.intro ?_ ?_|(apply hKK;clear hKK KK)));all_goals first|refine Hold.mk ?_|omega|with_reducible assumption|(simp only [InR] at *;omega)|skip))
      refine hK4 _ ?_; clear hK4
      (refine awp_r fun KK hKK => ?_; simp [go_sem]; ((repeat' (first|(refine ag_x ?_;simp [go_sem])|intro _|refine And.intro ?_ ?_|(apply hKK;clear hKK KK)));all_goals first|refine Hold.mk ?_|omega|with_reducible assumption|(simp only [InR] at *;omega)|skip))
      rename_i g7
      refine ⟨(j + 1, n ++ [v], g7), ?_, ⟨h3, hst, by simp [hnl]⟩, by simp; omega⟩
      (refine cov_of ?_ ?_ <;> simp [go_sem])
    · have hnone : lineV t (w :: ws) = none := by
        unfold lineV
        simp only [List.tail_cons]
        rw [numsV_none hx (fun v h => hv ⟨v, h⟩)]
      (refine awp_sr fun KK hKK => ?_; simp [go_sem]; ((repeat' (first|(refine ag_x ?_;simp [go_sem])|intro _|refine And.intro ?_ ?_|(apply hKK;clear hKK KK)));all_goals first|refine Hold.mk ?_|omega|with_reducible assumption|(simp only [InR] at *;omega)|skip))
      ((try refine CallT.toA ?_); refine callT_m (by first | exact .inl ⟨rfl, rfl⟩ | exact .inr rfl) (by simp [go_sem]) ?_; intro args ha; simp [go_sem] at ha; subst ha; refine ⟨_, (atoi_bad x (by omega) (fun v h => hv ⟨v, h⟩)), ?_⟩; rintro _ ⟨v, N, rfl⟩; simp [go_sem]; ((repeat' (first|(refine ag_x ?_;simp [go_sem])|intro _|refine And.intro ?_ ?_|(apply hKK;clear hKK KK)));all_goals first|refine Hold.mk ?_|omega|with_reducible assumption|(simp only [InR] at *;omega)|skip))
      refine awp_seq_k fun K5 hK5 => ?_
      (refine awp_sr fun KK hKK => ?_; simp [go_sem]; ((repeat' (first|(refine ag_x ?_;simp [go_sem])|intro _|refine And.intro ?_ ?_|(apply hKK;clear hKK KK)));all_goals first|refine Hold.mk ?_|omega|with_reducible assumption|(simp only [InR] at *;omega)|skip))
      (refine awp_if fun T F hT hF => ?_; simp [go_sem]; refine hT ?_; clear hT hF T F)
      (refine awp_sr fun KK hKK => ?_; simp [go_sem]; ((repeat' (first|(refine ag_x ?_;simp [go_sem])|intro _|refine And.intro ?_ ?_|(apply hKK;clear hKK KK)));all_goals first|refine Hold.mk ?_|omega|with_reducible assumption|(simp only [InR] at *;omega)|skip))
      (refine awp_ret ?_; simp [go_sem, hnone])
  · refine awp_exit ?_
    simp only [go_sem]
    refine hK1 _ ?_; clear hK1
    have hjl : j = ws.length := by omega
    subst hjl
    rw [List.take_length] at hn
    have hninr := numsV_inr hn
    rw [numsV_cons hn]
    clear hn
    refine awp_frzrow 5 rfl rfl ?_
    simp only [go_sem]
    refine awp_seq_k fun K7 hK7 => ?_
    (refine awp_sr fun KK hKK => ?_; simp [go_sem]; ((repeat' (first|(refine ag_x ?_;simp [go_sem])|intro _|refine And.intro ?_ ?_|(apply hKK;clear hKK KK)));all_goals first|refine Hold.mk ?_|omega|with_reducible assumption|(simp only [InR] at *;omega)|skip))
    (refine awp_if fun T F hT hF => ?_; simp [go_sem]; refine BR.intro (fun h8 => hT ?_) (fun h8 => hF ?_); all_goals clear hT hF T F; try simp at h8) 
    · refine awp_seq_k fun K9 hK9 => ?_
      (refine awp_sr fun KK hKK => ?_; simp [go_sem]; ((repeat' (first|(refine ag_x ?_;simp [go_sem])|intro _|refine And.intro ?_ ?_|(apply hKK;clear hKK KK)));all_goals first|refine Hold.mk ?_|omega|with_reducible assumption|(simp only [InR] at *;omega)|skip))
      (refine awp_if fun T F hT hF => ?_; simp [go_sem]; refine BR.intro (fun h10 => hT ?_) (fun h10 => hF ?_); all_goals clear hT hF T F; try simp at h10) 
      · obtain ⟨b, sl, rfl⟩ : ∃ b sl, n = b :: sl := by
          cases n with
          | nil => simp at h10
          | cons b sl => exact ⟨b, sl, rfl⟩
        ((refine awp_d (.qs [0, 1, 2, 3, 5, 6, 8, 9, 4, 7, 10] (.kp 11 (.one 12 (.qs [13, 14] (.one 15 (.nil)))))) (by kernel_rfl) ?_ ?_ ?_ ?_); (kernel_rfl); (exact (by decide +kernel)); (kernel_rfl); intro KK hKK; ((repeat' (first|(refine ag_x ?_;simp [go_sem])|refine adr_nil ?_|refine adr_two ?_ ?_|refine adr_kp2 ?_ ?_|((first|refine adr_qs fun KK hKK=>?_|refine adr_y fun KK hKK=>?_);simp [go_sem])|intro _|refine And.intro ?_ ?_|(apply hKK;clear hKK KK)));all_goals first|refine Hold.mk ?_|omega|with_reducible assumption|(simp only [InR] at *;omega)|skip))
        refine hK9 _ ?_; clear hK9
        (refine awp_sr fun KK hKK => ?_; simp [go_sem]; ((repeat' (first|(refine ag_x ?_;simp [go_sem])|intro _|refine And.intro ?_ ?_|(apply hKK;clear hKK KK)));all_goals first|refine Hold.mk ?_|omega|with_reducible assumption|(simp only [InR] at *;omega)|skip))
        (refine awp_ret ?_; simp [go_sem, lineN, h8])
      · obtain rfl : n = [] := by
          cases n with
          | nil => rfl
          | cons b sl => simp at h10
        refine awp_skip ?_
        refine hK9 _ ?_; clear hK9
        (refine awp_sr fun KK hKK => ?_; simp [go_sem]; ((repeat' (first|(refine ag_x ?_;simp [go_sem])|intro _|refine And.intro ?_ ?_|(apply hKK;clear hKK KK)));all_goals first|refine Hold.mk ?_|omega|with_reducible assumption|(simp only [InR] at *;omega)|skip))
        (refine awp_ret ?_; simp [go_sem, lineN, h8])
    · refine awp_skip ?_
      refine hK7 _ ?_; clear hK7
      ((refine awp_dr (.qs [1, 2, 3] (.kp 0 (.one 4 (.qs [5] (.nil))))) (by kernel_rfl) ?_ ?_ ?_ ?_); (kernel_rfl); (exact (by decide +kernel)); (kernel_rfl); intro KK hKK; ((repeat' (first|(refine ag_x ?_;simp [go_sem])|refine adr_nil ?_|refine adr_two ?_ ?_|refine adr_kp2 ?_ ?_|((first|refine adr_qs fun KK hKK=>?_|refine adr_y fun KK hKK=>?_);simp [go_sem])|intro _|refine And.intro ?_ ?_|(apply hKK;clear hKK KK)));all_goals first|refine Hold.mk ?_|omega|with_reducible assumption|(simp only [InR] at *;omega)|skip))
      ((try refine CallT.toA ?_); refine callT_m (by first | exact .inl ⟨rfl, rfl⟩ | exact .inr rfl) (by simp [go_sem]) ?_; intro args ha; simp [go_sem] at ha; subst ha; refine ⟨_, names_spec, ?_⟩; rintro _ rfl; simp [go_sem]; ((repeat' (first|(refine ag_x ?_;simp [go_sem])|refine adr_nil ?_|refine adr_two ?_ ?_|refine adr_kp2 ?_ ?_|((first|refine adr_qs fun KK hKK=>?_|refine adr_y fun KK hKK=>?_);simp [go_sem])|intro _|refine And.intro ?_ ?_|(apply hKK;clear hKK KK)));all_goals first|refine Hold.mk ?_|omega|with_reducible assumption|(simp only [InR] at *;omega)|skip))
      ((try refine CallT.toA ?_); refine callT_m (by first | exact .inl ⟨rfl, rfl⟩ | exact .inr rfl) (by simp [go_sem]) ?_; intro args ha; simp [go_sem] at ha; subst ha; refine ⟨_, (indexS_spec _ _), ?_⟩; rintro _ rfl; simp [go_sem]; ((repeat' (first|(refine ag_x ?_;simp [go_sem])|refine adr_nil ?_|refine adr_two ?_ ?_|refine adr_kp2 ?_ ?_|((first|refine adr_qs fun KK hKK=>?_|refine adr_y fun KK hKK=>?_);simp [go_sem])|intro _|refine And.intro ?_ ?_|(apply hKK;clear hKK KK)));all_goals first|refine Hold.mk ?_|omega|with_reducible assumption|(simp only [InR] at *;omega)|skip))
      have hop : fidx (fun y => decide (y = w)) namesL = opV w := rfl
      rw [hop]
      generalize hgo : opV w = op
      refine awp_seq_k fun K11 hK11 => ?_
      (refine awp_sr fun KK hKK => ?_; simp [go_sem]; ((repeat' (first|(refine ag_x ?_;simp [go_sem])|intro _|refine And.intro ?_ ?_|(apply hKK;clear hKK KK)));all_goals first|refine Hold.mk ?_|omega|with_reducible assumption|(simp only [InR] at *;omega)|skip))
      (refine agc_f (dS (flds op)) (by first | exact .inl ⟨rfl, rfl⟩ | exact .inr rfl) ?_ rfl ?_; (intro hc args ha; simp [go_sem] at ha; subst ha; exact (fields_spec _)); simp [go_sem]; ((repeat' (first|(refine ag_x ?_;simp [go_sem])|intro _|refine And.intro ?_ ?_|(apply hKK;clear hKK KK)));all_goals first|refine Hold.mk ?_|omega|with_reducible assumption|(simp only [InR] at *;omega)|skip))
      (refine awp_if fun T F hT hF => ?_; simp [go_sem]; refine BR.intro (fun h12 => hT ?_) (fun h12 => hF ?_); all_goals clear hT hF T F; try simp at h12) 
      · (refine awp_sr fun KK hKK => ?_; simp [go_sem]; ((repeat' (first|(refine ag_x ?_;simp [go_sem])|intro _|refine And.intro ?_ ?_|(apply hKK;clear hKK KK)));all_goals first|refine Hold.mk ?_|omega|with_reducible assumption|(simp only [InR] at *;omega)|skip))
        have hnone : lineN t w n = none := by
          unfold lineN
          rw [if_neg h8, hgo, if_pos]
          omega
        (refine awp_ret ?_; simp [go_sem, hnone])
      · refine awp_skip ?_
        refine hK11 _ ?_; clear hK11
        have hlen : n.length = (flds op).length := by omega
        have hsome : lineN t w n = some { t with code := t.code ++ [mkIns op n] } := by
          unfold lineN
          rw [if_neg h8, hgo, if_neg]
          omega
        have hfl := flds_len op
        (refine awp_sr fun KK hKK => ?_; simp [go_sem]; ((repeat' (first|(refine ag_x ?_;simp [go_sem])|intro _|refine And.intro ?_ ?_|(apply hKK;clear hKK KK)));all_goals first|refine Hold.mk ?_|omega|with_reducible assumption|(simp only [InR] at *;omega)|skip))
        rename_i g11
        refine awp_seq_k fun K13 hK13 => ?_
        (refine awp_sr fun KK hKK => ?_; simp [go_sem]; ((repeat' (first|(refine ag_x ?_;simp [go_sem])|intro _|refine And.intro ?_ ?_|(apply hKK;clear hKK KK)));all_goals first|refine Hold.mk ?_|omega|with_reducible assumption|(simp only [InR] at *;omega)|skip))
        ((try refine CallT.toA ?_); refine callT_m (by first | exact .inl ⟨rfl, rfl⟩ | exact .inr rfl) (by simp [go_sem]) ?_; intro args ha; simp [go_sem] at ha; subst ha; refine ⟨_, (fields_spec _), ?_⟩; rintro _ rfl; simp [go_sem]; ((repeat' (first|(refine ag_x ?_;simp [go_sem])|intro _|refine And.intro ?_ ?_|(apply hKK;clear hKK KK)));all_goals first|refine Hold.mk ?_|omega|with_reducible assumption|(simp only [InR] at *;omega)|skip))
        refine awp_block ?_
        refine awp_loop (σ := Nat) (fun k => ⟨[(0, .ptr 900002 gb 0), (5, dIs n), (11, .ptr 11 g11 0), (77, dBs (flds op)), (78, dI (flds op).length), (79, dI k)], [(900002, (gb, .box [dI t.regs, .own 900003 gc, .own 900004 ge])), (900003, (gc, .row 63 6 (t.code.map cIns))), (900004, (ge, .row 45 2 (t.exits.map cExi))),
          (11, g11, .box (cIns (setFs ⟨op, 0, 0, 0, 0, 0⟩ (((flds op).zip n).take k))))]⟩) (fun k => k ≤ (flds op).length) (fun k => (flds op).length - k) 0 ?_ ?_ ?_
        · (refine cov_of ?_ ?_ <;> simp [go_sem, setFs, dBytes])
        · simp
        intro k hk
        (refine awp_sr fun KK hKK => ?_; simp [go_sem]; ((repeat' (first|(refine ag_x ?_;simp [go_sem])|intro _|refine And.intro ?_ ?_|(apply hKK;clear hKK KK)));all_goals first|refine Hold.mk ?_|omega|with_reducible assumption|(simp only [InR] at *;omega)|skip))
        refine awp_seq_k fun K14 hK14 => ?_
        (refine awp_if fun T F hT hF => ?_; simp [go_sem]; refine BR.intro (fun h15 => hT ?_) (fun h15 => hF ?_); all_goals clear hT hF T F; try simp at h15) 
        · refine awp_skip ?_
          refine hK14 _ ?_; clear hK14
          obtain ⟨c, hc⟩ : ∃ x, (flds op)[k]? = some x := ⟨_, List.getElem?_eq_getElem h15⟩
          obtain ⟨v, hv⟩ : ∃ x, n[k]? = some x := ⟨_, List.getElem?_eq_getElem (by omega)⟩
          have hcm := flds_mem (List.mem_of_getElem? hc)
          have hst : setFs ⟨op, 0, 0, 0, 0, 0⟩ (((flds op).zip n).take (k + 1)) = setF (setFs ⟨op, 0, 0, 0, 0, 0⟩ (((flds op).zip n).take k)) c.toNat v := by
            have hz : ((flds op).zip n)[k]? = some (c, v) := by rw [List.getElem?_zip_eq_some]; exact ⟨hc, hv⟩
            rw [List.take_add_one, hz]
            simp [setFs]
          generalize hI : setFs ⟨op, 0, 0, 0, 0, 0⟩ (((flds op).zip n).take k) = I at *
          have hfa : fldAt c.toNat ≤ 5 := by unfold fldAt; (repeat' split) <;> omega
          refine awp_seq_k fun K16 hK16 => ?_
          refine awp_block ?_
          (refine awp_sr fun KK hKK => ?_; simp [go_sem, hc]; ((repeat' (first|(refine ag_x ?_;simp [go_sem, hc])|intro _|refine And.intro ?_ ?_|(apply hKK;clear hKK KK)));all_goals first|refine Hold.mk ?_|omega|with_reducible assumption|(simp only [InR] at *;omega)|skip))
          ((refine awp_d (.qs [0, 2, 3, 4, 5] (.kp 1 (.qs [6] (.one 7 (.nil))))) (by kernel_rfl) ?_ ?_ ?_ ?_); (kernel_rfl); (exact (by decide +kernel)); (kernel_rfl); intro KK hKK; ((repeat' (first|(refine ag_x ?_;simp [go_sem, hv])|refine adr_nil ?_|refine adr_two ?_ ?_|refine adr_kp2 ?_ ?_|((first|refine adr_qs fun KK hKK=>?_|refine adr_y fun KK hKK=>?_);simp [go_sem, hv])|intro _|refine And.intro ?_ ?_|(apply hKK;clear hKK KK)));all_goals first|refine Hold.mk ?_|omega|with_reducible assumption|(simp only [InR] at *;omega)|skip))
          refine callT_ptr (.inl ⟨rfl, rfl⟩) rfl (fun b => fieldP_spec _ b) ?_
          simp [go_sem, hv]
          ((repeat' (first|(refine ag_x ?_;simp [go_sem, hv])|refine adr_nil ?_|refine adr_two ?_ ?_|refine adr_kp2 ?_ ?_|((first|refine adr_qs fun KK hKK=>?_|refine adr_y fun KK hKK=>?_);simp [go_sem, hv])|intro _|refine And.intro ?_ ?_|(apply hKK;clear hKK KK)));all_goals first|refine Hold.mk ?_|omega|with_reducible assumption|(simp only [InR] at *;omega)|skip)
          refine hK16 _ ?_; clear hK16
          (refine awp_r fun KK hKK => ?_; simp [go_sem]; ((repeat' (first|(refine ag_x ?_;simp [go_sem])|intro _|refine And.intro ?_ ?_|(apply hKK;clear hKK KK)));all_goals first|refine Hold.mk ?_|omega|with_reducible assumption|(simp only [InR] at *;omega)|skip))
          refine ⟨k + 1, ?_, by omega, by omega⟩
          rcases hcm with rfl | rfl | rfl | rfl | rfl <;> (refine cov_of ?_ ?_ <;> simp [go_sem, hst, setF, fldAt])
        · refine awp_exit ?_
          refine hK13 _ ?_; clear hK13
          have hkl : k = (flds op).length := by omega
          subst hkl
          have hz : ((flds op).zip n).take (flds op).length = (flds op).zip n := List.take_of_length_le (by simp; omega)
          rw [hz]
          have e : setFs ⟨op, 0, 0, 0, 0, 0⟩ ((flds op).zip n) = mkIns op n := rfl
          rw [e]
          generalize mkIns op n = I at *
          ((refine awp_dr (.qs [0, 1, 2, 3, 4, 5] (.kp 6 (.one 7 (.qs [8, 9] (.one 10 (.nil)))))) (by kernel_rfl) ?_ ?_ ?_ ?_); (kernel_rfl); (exact (by decide +kernel)); (kernel_rfl); intro KK hKK; ((repeat' (first|(refine ag_x ?_;simp [go_sem])|refine adr_nil ?_|refine adr_two ?_ ?_|refine adr_kp2 ?_ ?_|((first|refine adr_qs fun KK hKK=>?_|refine adr_y fun KK hKK=>?_);simp [go_sem])|intro _|refine And.intro ?_ ?_|(apply hKK;clear hKK KK)));all_goals first|refine Hold.mk ?_|omega|with_reducible assumption|(simp only [InR] at *;omega)|skip))
          (refine awp_sr fun KK hKK => ?_; simp [go_sem]; ((repeat' (first|(refine ag_x ?_;simp [go_sem])|intro _|refine And.intro ?_ ?_|(apply hKK;clear hKK KK)));all_goals first|refine Hold.mk ?_|omega|with_reducible assumption|(simp only [InR] at *;omega)|skip))
          (refine awp_ret ?_; simp [go_sem, hsome])
end Go.Proofs.YtmgbaegdkjcagaaDoor
