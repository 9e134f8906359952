/- Part of a proof: see the last text. -/
import Derived.Test.YtelhdhofnohkcaaGreatDoorG07
import Derived.Test.YtelhdhofnohkcaaGreatDoorG04
set_option linter.unusedVariables false
set_option linter.unusedSimpArgs false
namespace Go.Proofs.YtelhdhofnohkcaaGreatDoor
open Go.Eng Go.Fm
set_option maxRecDepth 20000
attribute [local irreducible] AG CallA CallT AWp PCall ACall AgC
def dN1 (l : List Nat) : List (List D) := l.map fun n : Nat => [dI n]
theorem dN1_len (l : List Nat) : (dN1 l).length = l.length := by simp [dN1]
theorem dN1_get (l : List Nat) {k : Nat} (h : k < l.length) : (dN1 l)[k]? = some [dI (l.getD k 0 : Nat)] := by
 simp [dN1, List.getElem?_eq_getElem h, List.getD]
theorem dN1_set (l : List Nat) (k n : Nat) : (dN1 l).set k [dI n] = dN1 (l.set k n) := by
 simp only [dN1, List.map_set]
theorem dN1_app (l : List Nat) (n : Nat) : dN1 l ++ [[dI n]] = dN1 (l ++ [n]) := by
 simp [dN1]
theorem putW_app (l : List Nat) (n : Nat) : (l ++ [0]).set l.length (max ((l ++ [0]).getD l.length 0) n) = putW l l.length n := by
 unfold putW; rw [if_pos rfl]; simp
theorem putW_set {l : List Nat} {k : Nat} (h : k ≠ l.length) (n : Nat) : l.set k (max (l.getD k 0) n) = putW l k n := by
 unfold putW; rw [if_neg h]
set_option maxHeartbeats 16000000 in
theorem cols_spec (rows : List (List Bs)) (gap : Int) (hg : InR gap) (hl : rows.length ≤ 140737488355328) (hr : ∀ r ∈ rows, r.length ≤ 140737488355328 ∧ ∀ s ∈ r, s.length ≤ 140737488355328) : PCall Tryz.prog 17 [dRs rows, dI gap] fun r => r = colR rows gap := by 
 refine pcall_of Tryz.func17 rfl rfl Tryz.ntmps17 (rs := [.tmp 4, .tmp 5]) (tys := [23, 34]) rfl rfl (by simp) ?_
 (refine awp_sr fun Y Yh => ?_; simp [go_sem]; ((repeat' (first|(refine ag_x ?_;simp [go_sem])|intro _|apply And.intro|(apply Yh;clear Yh Y)));all_goals first|apply Hold.mk|omega|with_reducible assumption|skip))
 refine awp_seq_k fun K1 hK1 => ?_
 by_cases h0 : 200 < rows.length
 ·have hb : okB rows = false := by rw [Bool.eq_false_iff]; intro q; have := (okB_rows q).1; omega
  have h0' : (200 : Int) < rows.length := by omega
  (refine awp_sr fun Y Yh => ?_; simp [go_sem, h0']; ((repeat' (first|(refine ag_false ?_ ?_ ?_;(focus (simp [go_sem, undef, h0'];done));(focus (simp [go_sem];done));simp [go_sem, h0'])|(refine ag_x ?_;simp [go_sem, undef, h0'])|intro _|apply And.intro|(apply Yh;clear Yh Y)));all_goals first|apply Hold.mk|omega|with_reducible assumption|skip))
  (refine awp_if fun T F hT hF => ?_; simp [go_sem]; refine hT ?_; clear hT hF T F)
  (refine awp_sr fun Y Yh => ?_; simp [go_sem]; ((repeat' (first|(refine ag_x ?_;simp [go_sem])|intro _|apply And.intro|(apply Yh;clear Yh Y)));all_goals first|apply Hold.mk|omega|with_reducible assumption|skip))
  (refine awp_ret ?_; simp [go_sem, colR_bad hb])
 have h0' : ¬ (200 : Int) < rows.length := by omega
 by_cases h1 : gap < 0
 ·(refine awp_sr fun Y Yh => ?_; simp [go_sem, h0', h1]; ((repeat' (first|(refine ag_false ?_ ?_ ?_;(focus (simp [go_sem, undef, h0', h1];done));(focus (simp [go_sem];done));simp [go_sem, h0', h1])|(refine ag_x ?_;simp [go_sem, undef, h0', h1])|intro _|apply And.intro|(apply Yh;clear Yh Y)));all_goals first|apply Hold.mk|omega|with_reducible assumption|skip))
  (refine awp_if fun T F hT hF => ?_; simp [go_sem]; refine hT ?_; clear hT hF T F)
  (refine awp_sr fun Y Yh => ?_; simp [go_sem]; ((repeat' (first|(refine ag_x ?_;simp [go_sem])|intro _|apply And.intro|(apply Yh;clear Yh Y)));all_goals first|apply Hold.mk|omega|with_reducible assumption|skip))
  (refine awp_ret ?_; simp [go_sem, colR_gap (rows := rows) (gap := gap) (by omega)])
 by_cases h2 : 100 < gap
 ·(refine awp_sr fun Y Yh => ?_; simp [go_sem, h0', h1, h2]; ((repeat' (first|(refine ag_false ?_ ?_ ?_;(focus (simp [go_sem, undef, h0', h1, h2];done));(focus (simp [go_sem];done));simp [go_sem, h0', h1, h2])|(refine ag_x ?_;simp [go_sem, undef, h0', h1, h2])|intro _|apply And.intro|(apply Yh;clear Yh Y)));all_goals first|apply Hold.mk|omega|with_reducible assumption|skip))
  (refine awp_if fun T F hT hF => ?_; simp [go_sem]; refine hT ?_; clear hT hF T F)
  (refine awp_sr fun Y Yh => ?_; simp [go_sem]; ((repeat' (first|(refine ag_x ?_;simp [go_sem])|intro _|apply And.intro|(apply Yh;clear Yh Y)));all_goals first|apply Hold.mk|omega|with_reducible assumption|skip))
  (refine awp_ret ?_; simp [go_sem, colR_gap (rows := rows) (gap := gap) (by omega)])
 (refine awp_sr fun Y Yh => ?_; simp [go_sem, h0', h1, h2]; ((repeat' (first|(refine ag_false ?_ ?_ ?_;(focus (simp [go_sem, undef, h0', h1, h2];done));(focus (simp [go_sem];done));simp [go_sem, h0', h1, h2])|(refine ag_x ?_;simp [go_sem, undef, h0', h1, h2])|intro _|apply And.intro|(apply Yh;clear Yh Y)));all_goals first|apply Hold.mk|omega|with_reducible assumption|skip))
 (refine awp_if fun T F hT hF => ?_; simp [go_sem]; refine hF ?_; clear hT hF T F)
 refine awp_skip ?_
 refine hK1 _ ?_; clear hK1
 obtain ⟨m, rfl⟩ : ∃ m : Nat, gap = m := ⟨gap.toNat, by omega⟩
 (refine awp_sr fun Y Yh => ?_; simp [go_sem]; ((repeat' (first|(refine ag_x ?_;simp [go_sem])|intro _|apply And.intro|(apply Yh;clear Yh Y)));all_goals first|apply Hold.mk|omega|with_reducible assumption|skip))
 refine awp_nilslot 6 6 3 1 rfl fun gw => ?_
 simp only [go_sem]
 refine awp_seq_k fun K3 hK3 => ?_
 (refine awp_sr fun Y Yh => ?_; simp [go_sem]; ((repeat' (first|(refine ag_x ?_;simp [go_sem])|intro _|apply And.intro|(apply Yh;clear Yh Y)));all_goals first|apply Hold.mk|omega|with_reducible assumption|skip))
 refine awp_block ?_
 refine awp_loop (σ := Nat × Nat) (fun x => ⟨[(0, dRs rows), (1, dI m), (4, .v (.slice none 0 0)), (6, .own 6 x.2), (28, dRs rows), (29, dI rows.length), (30, dI x.1)], [(6, (x.2, .row 3 1 (dN1 (wsP (rows.take x.1)))))]⟩) (fun x => x.1 ≤ rows.length ∧ ∀ j (h : j < rows.length), j < x.1 → rowOk rows[j] = true) (fun x => rows.length - x.1) (0, gw) ?_ ?_ ?_
 ·(refine cov_of ?_ ?_ <;> simp [go_sem])
  rfl
 ·simp
 rintro ⟨i, gw⟩ ⟨hi, hok⟩
 simp only at hi hok ⊢
 (refine awp_sr fun Y Yh => ?_; simp [go_sem]; ((repeat' (first|(refine ag_x ?_;simp [go_sem])|intro _|apply And.intro|(apply Yh;clear Yh Y)));all_goals first|apply Hold.mk|omega|with_reducible assumption|skip))
 refine awp_seq_k fun K4 hK4 => ?_
 by_cases h5 : i < rows.length
 ·(refine awp_if fun T F hT hF => ?_; simp [go_sem, h5]; refine hT ?_; clear hT hF T F)
  refine awp_skip ?_
  refine hK4 _ ?_; clear hK4
  refine awp_seq_k fun K6 hK6 => ?_
  refine awp_block ?_
  have hst := wsP_step rows h5
  have hbad := fun (h : 200 < rows[i].length) => colR_bad (gap := m) (okB_bad_row h5 h)
  have hbad2 := fun (k : Nat) (hk : k < rows[i].length) (h : 200 < rows[i][k].length) => colR_bad (gap := m) (okB_bad_cell h5 hk h)
  have hok2 : ∀ (R : List Bs), rows[i] = R → rowOk R = true → ∀ j (h : j < rows.length), j < i + 1 → rowOk rows[j] = true := fun R hR hr j hj hji => by
   by_cases e : j = i
   ·subst e; rw [hR]; exact hr
   ·exact hok j hj (by omega)
  have hlr := (hr _ (List.getElem_mem h5)).1
  have hlc := (hr _ (List.getElem_mem h5)).2
  have hwl := wsP_len (rows.take i) fun r hx => by
   obtain ⟨j, hj, rfl⟩ := List.getElem_of_mem hx
   rw [List.length_take] at hj
   have := hok j (by omega) (by omega)
   rw [List.getElem_take]
   simp only [rowOk, Bool.and_eq_true, decide_eq_true_eq] at this
   exact this.1
  generalize hR : rows[i] = R at *
  generalize wsP (rows.take i) = A at *
  generalize hA1 : wsP (rows.take (i + 1)) = A1 at *
  (refine awp_sr fun Y Yh => ?_; simp [go_sem, h5, hR]; ((repeat' (first|(refine ag_x ?_;simp [go_sem, h5, hR])|intro _|apply And.intro|(apply Yh;clear Yh Y)));all_goals first|apply Hold.mk|omega|with_reducible assumption|skip))
  refine awp_seq_k fun K7 hK7 => ?_
  (refine awp_sr fun Y Yh => ?_; simp [go_sem]; ((repeat' (first|(refine ag_x ?_;simp [go_sem])|intro _|apply And.intro|(apply Yh;clear Yh Y)));all_goals first|apply Hold.mk|omega|with_reducible assumption|skip))
  by_cases h8 : 200 < R.length
  ·have h8' : (200 : Int) < R.length := by omega
   (refine awp_if fun T F hT hF => ?_; simp [go_sem, h8']; refine hT ?_; clear hT hF T F)
   (refine awp_sr fun Y Yh => ?_; simp [go_sem]; ((repeat' (first|(refine ag_x ?_;simp [go_sem])|intro _|apply And.intro|(apply Yh;clear Yh Y)));all_goals first|apply Hold.mk|omega|with_reducible assumption|skip))
   (refine awp_ret ?_; simp [go_sem, hbad h8])
  ·have h8' : ¬ (200 : Int) < R.length := by omega
   (refine awp_if fun T F hT hF => ?_; simp [go_sem, h8']; refine hF ?_; clear hT hF T F)
   refine awp_skip ?_
   refine hK7 _ ?_; clear hK7
   (refine awp_sr fun Y Yh => ?_; simp [go_sem]; ((repeat' (first|(refine ag_x ?_;simp [go_sem])|intro _|apply And.intro|(apply Yh;clear Yh Y)));all_goals first|apply Hold.mk|omega|with_reducible assumption|skip))
   refine awp_block ?_
   refine awp_loop (σ := Nat × Nat) (fun x => ⟨[(0, dRs rows), (1, dI m), (4, .v (.slice none 0 0)), (6, .own 6 x.2), (28, dRs rows), (29, dI rows.length), (30, dI i), (37, dR R), (38, dI R.length), (39, dI x.1)], [(6, (x.2, .row 3 1 (dN1 (rowW A 0 (R.take x.1)))))]⟩) (fun x => x.1 ≤ R.length ∧ ∀ j (h : j < R.length), j < x.1 → R[j].length ≤ 200) (fun x => R.length - x.1) (0, gw) ?_ ?_ ?_
   ·(refine cov_of ?_ ?_ <;> simp [go_sem])
    rfl
   ·simp
   rintro ⟨k, gw⟩ ⟨hk, hokc⟩
   simp only at hk hokc ⊢
   (refine awp_sr fun Y Yh => ?_; simp [go_sem]; ((repeat' (first|(refine ag_x ?_;simp [go_sem])|intro _|apply And.intro|(apply Yh;clear Yh Y)));all_goals first|apply Hold.mk|omega|with_reducible assumption|skip))
   refine awp_seq_k fun K9 hK9 => ?_
   by_cases h10 : k < R.length
   ·(refine awp_if fun T F hT hF => ?_; simp [go_sem, h10]; refine hT ?_; clear hT hF T F)
    refine awp_skip ?_
    refine hK9 _ ?_; clear hK9
    refine awp_seq_k fun K11 hK11 => ?_
    refine awp_block ?_
    have hst2 := rowW_step A R h10
    have hbd := hbad2 k h10
    have hlen := rowW_len (R.take k) A 0 (by omega)
    rw [List.length_take] at hlen
    generalize hc : R[k] = c at *
    generalize rowW A 0 (R.take k) = B at *
    (refine awp_sr fun Y Yh => ?_; simp [go_sem, h10, hc]; ((repeat' (first|(refine ag_x ?_;simp [go_sem, h10, hc])|intro _|apply And.intro|(apply Yh;clear Yh Y)));all_goals first|apply Hold.mk|omega|with_reducible assumption|skip))
    refine awp_seq_k fun K12 hK12 => ?_
    (refine awp_sr fun Y Yh => ?_; simp [go_sem, ba_size]; ((repeat' (first|(refine ag_x ?_;simp [go_sem, ba_size])|intro _|apply And.intro|(apply Yh;clear Yh Y)));all_goals first|apply Hold.mk|omega|with_reducible assumption|skip))
    by_cases h13 : 200 < c.length
    ·have h13' : (200 : Int) < c.length := by omega
     (refine awp_if fun T F hT hF => ?_; simp [go_sem, h13']; refine hT ?_; clear hT hF T F)
     (refine awp_sr fun Y Yh => ?_; simp [go_sem]; ((repeat' (first|(refine ag_x ?_;simp [go_sem])|intro _|apply And.intro|(apply Yh;clear Yh Y)));all_goals first|apply Hold.mk|omega|with_reducible assumption|skip))
     (refine awp_ret ?_; simp [go_sem, hbd h13])
    ·have h13' : ¬ (200 : Int) < c.length := by omega
     (refine awp_if fun T F hT hF => ?_; simp [go_sem, h13']; refine hF ?_; clear hT hF T F)
     refine awp_skip ?_
     refine hK12 _ ?_; clear hK12
     refine awp_seq_k fun K14 hK14 => ?_
     have tl14 : ∀ S' (W : List Nat) (g' : Nat), k < W.length → W.set k (max (W.getD k 0) c.length) = putW B k c.length → Cov S' ⟨[(0, dRs rows), (1, dI m), (4, .v (.slice none 0 0)), (6, .own 6 g'), (9, dI k), (10, dS c), (28, dRs rows), (29, dI rows.length), (30, dI i), (37, dR R), (38, dI R.length), (39, dI k)], [(6, (g', .row 3 1 (dN1 W)))]⟩ → K14 S' := fun S' W g' hW hpW hS => by
      refine hK14 _ ?_; clear hK14
      refine awp_cov hS ?_; clear hS
      have hg1 := dN1_get W hW
      have hp1 := dN1_set W k (max (W.getD k 0) c.length)
      have hmx : (if ((W.getD k 0 : Nat) : Int) < (c.length : Int) then (c.length : Int) else ((W.getD k 0 : Nat) : Int)) = ((max (W.getD k 0) c.length : Nat) : Int) := by split <;> omega
      have hmx2 : (if (W.getD k 0) < c.length then (c.length : Int) else ((W.getD k 0 : Nat) : Int)) = ((max (W.getD k 0) c.length : Nat) : Int) := by split <;> omega
      generalize max (W.getD k 0) c.length = b2 at *
      generalize W.getD k 0 = b at *
      have hdl := dN1_len W
      generalize dN1 W = C at *
      obtain ⟨hC, hg2⟩ := List.getElem?_eq_some_iff.1 hg1
      (refine awp_r fun Y Yh => ?_; simp [go_sem, ba_size, hdl, hW, hg2, hp1]; ((repeat' (first|(refine ag_x ?_;simp [go_sem, ba_size, hdl, hW, hg2, hp1])|intro _|apply And.intro|(apply Yh;clear Yh Y)));all_goals first|apply Hold.mk|omega|with_reducible assumption|skip))
      refine hK11 _ ?_; clear hK11
      (refine awp_r fun Y Yh => ?_; simp [go_sem]; ((repeat' (first|(refine ag_x ?_;simp [go_sem])|intro _|apply And.intro|(apply Yh;clear Yh Y)));all_goals first|apply Hold.mk|omega|with_reducible assumption|skip))
      refine ⟨(k + 1, g'), ?_, ⟨by simp only; omega, fun j hj hjk => ?_⟩, by simp only; omega⟩
      ·(refine cov_of ?_ ?_ <;> simp [go_sem])
       rw [hst2, ← hpW, ← hp1, ← hmx2]
      ·by_cases e : j = k
       ·subst e; rw [hc]; omega
       ·exact hokc j hj (by simp only at hjk; omega)
     clear hK14
     have hdl := dN1_len B
     by_cases h15 : k = B.length
     ·have hda := dN1_app B 0
      have hpp := putW_app B c.length
      rw [← h15] at hpp
      have hBl : (B ++ [0]).length = B.length + 1 := by simp
      generalize dN1 B = C at *
      (refine awp_sr fun Y Yh => ?_; simp [go_sem, hdl]; ((repeat' (first|(refine ag_x ?_;simp [go_sem, hdl])|intro _|apply And.intro|(apply Yh;clear Yh Y)));all_goals first|apply Hold.mk|omega|with_reducible assumption|skip))
      (refine awp_if fun T F hT hF => ?_; simp [go_sem, h15]; refine hT ?_; clear hT hF T F)
      (refine awp_r fun Y Yh => ?_; simp [go_sem, hdl]; ((repeat' (first|(refine ag_x ?_;simp [go_sem, hdl])|intro _|apply And.intro|(apply Yh;clear Yh Y)));all_goals first|apply Hold.mk|omega|with_reducible assumption|skip))
      rename_i g2
      refine tl14 _ (B ++ [0]) g2 (by omega) hpp ?_
      (refine cov_of ?_ ?_ <;> simp [go_sem])
      rw [← hda]
      rfl
     ·have hpp := putW_set h15 c.length
      have h15' : ¬ (k : Int) = (B.length : Int) := by omega
      generalize hCC : dN1 B = C at *
      (refine awp_sr fun Y Yh => ?_; simp [go_sem, hdl]; ((repeat' (first|(refine ag_x ?_;simp [go_sem, hdl])|intro _|apply And.intro|(apply Yh;clear Yh Y)));all_goals first|apply Hold.mk|omega|with_reducible assumption|skip))
      (refine awp_if fun T F hT hF => ?_; simp [go_sem, h15]; refine hF ?_; clear hT hF T F)
      refine awp_skip ?_
      refine tl14 _ B gw (by omega) hpp ?_
      (refine cov_of ?_ ?_ <;> simp [go_sem])
      exact hCC.symm
   ·(refine awp_if fun T F hT hF => ?_; simp [go_sem, h10]; refine hF ?_; clear hT hF T F)
    refine awp_exit ?_
    simp only [go_sem]
    refine hK6 _ ?_; clear hK6
    have hk2 : k = R.length := by omega
    subst hk2
    rw [List.take_length, ← hst]
    subst A1
    (refine awp_r fun Y Yh => ?_; simp [go_sem]; ((repeat' (first|(refine ag_x ?_;simp [go_sem])|intro _|apply And.intro|(apply Yh;clear Yh Y)));all_goals first|apply Hold.mk|omega|with_reducible assumption|skip))
    refine ⟨(i + 1, gw), ?_, ⟨by simp only; omega, hok2 R rfl (rowOk_of (by omega) fun k h => hokc k h h)⟩, by simp only; omega⟩
    (refine cov_of ?_ ?_ <;> simp [go_sem])
 ·(refine awp_if fun T F hT hF => ?_; simp [go_sem, h5]; refine hF ?_; clear hT hF T F)
  refine awp_exit ?_
  simp only [go_sem]
  refine hK3 _ ?_; clear hK3
  have hi2 : i = rows.length := by omega
  subst hi2
  rw [List.take_length]
  have hB : okB rows = true := okB_of (by omega) fun j h => hok j h h
  have hr1 : ∀ r ∈ rows, r.length ≤ 200 := (okB_rows hB).2.1
  have hr2 : ∀ r ∈ rows, ∀ s ∈ r, s.length ≤ 200 := (okB_rows hB).2.2
  have hfit := wsP_fits rows
  have hbnd := wsP_bnd rows hr2
  have hcol : colR rows m = .tup [dR (rows.map fun r => lineK (wsP rows) m r.length 0 r), dI 0] := by unfold colR; rw [if_pos ⟨hB, by omega, by omega⟩]; simp [colsV]
  have hwr := wsP_ge rows
  clear hok
  generalize wsP rows = w at *
  (refine awp_sr fun Y Yh => ?_; simp [go_sem]; ((repeat' (first|(refine ag_x ?_;simp [go_sem])|intro _|apply And.intro|(apply Yh;clear Yh Y)));all_goals first|apply Hold.mk|omega|with_reducible assumption|skip))
  refine awp_nilslot 11 11 9 1 rfl fun go => ?_
  simp only [go_sem]
  refine awp_seq_k fun K16 hK16 => ?_
  (refine awp_sr fun Y Yh => ?_; simp [go_sem]; ((repeat' (first|(refine ag_x ?_;simp [go_sem])|intro _|apply And.intro|(apply Yh;clear Yh Y)));all_goals first|apply Hold.mk|omega|with_reducible assumption|skip))
  refine awp_block ?_
  refine awp_loop (σ := Nat × Nat) (fun x => ⟨[(0, dRs rows), (1, dI m), (4, .v (.slice none 0 0)), (6, .own 6 gw), (11, .own 11 x.2), (66, dRs rows), (67, dI rows.length), (68, dI x.1)], [(6, (gw, .row 3 1 (dN1 w))), (11, (x.2, .row 9 1 (linesD w m rows x.1)))]⟩) (fun x => x.1 ≤ rows.length) (fun x => rows.length - x.1) (0, go) ?_ ?_ ?_
  ·(refine cov_of ?_ ?_ <;> simp [go_sem])
   rfl
  ·simp
  rintro ⟨i, go⟩ hi
  simp only at hi ⊢
  (refine awp_sr fun Y Yh => ?_; simp [go_sem]; ((repeat' (first|(refine ag_x ?_;simp [go_sem])|intro _|apply And.intro|(apply Yh;clear Yh Y)));all_goals first|apply Hold.mk|omega|with_reducible assumption|skip))
  refine awp_seq_k fun K17 hK17 => ?_
  by_cases h16 : i < rows.length
  ·(refine awp_if fun T F hT hF => ?_; simp [go_sem, h16]; refine hT ?_; clear hT hF T F)
   refine awp_skip ?_
   refine hK17 _ ?_; clear hK17
   refine awp_seq_k fun K19 hK19 => ?_
   refine awp_block ?_
   have htk := linesD_step w m h16
   have hOl := linesD_len w m rows i
   have hll := fun k => lineK_len (n := rows[i].length) hbnd (show m ≤ 100 by omega) (rows[i].take k) 0 fun s hs => hr2 _ (List.getElem_mem h16) s (List.mem_of_mem_take hs)
   generalize hO : linesD w m rows i = O at *
   have e1 := hr1 _ (List.getElem_mem h16)
   have e2 := hr2 _ (List.getElem_mem h16)
   have e3 := hfit _ (List.getElem_mem h16)
   have e4 := hwr _ (List.getElem_mem h16)
   generalize hR : rows[i] = R at *
   (refine awp_sr fun Y Yh => ?_; simp [go_sem, h16, hR]; ((repeat' (first|(refine ag_x ?_;simp [go_sem, h16, hR])|intro _|apply And.intro|(apply Yh;clear Yh Y)));all_goals first|apply Hold.mk|omega|with_reducible assumption|skip))
   refine awp_bld 70 5 900000 900001 (by decide) (by decide) (by kernel_rfl) fun gb gr => ?_
   refine awp_seq_k fun K20 hK20 => ?_
   (refine awp_sr fun Y Yh => ?_; simp [go_sem]; ((repeat' (first|(refine ag_x ?_;simp [go_sem])|intro _|apply And.intro|(apply Yh;clear Yh Y)));all_goals first|apply Hold.mk|omega|with_reducible assumption|skip))
   refine awp_block ?_
   refine awp_loop (σ := Nat × Nat) (fun x => ⟨[(0, dRs rows), (1, dI m), (4, .v (.slice none 0 0)), (6, .own 6 gw), (11, .own 11 go), (13, dR R), (14, .ptr 900000 gb 0), (66, dRs rows), (67, dI rows.length), (68, dI i), (72, dR R), (73, dI R.length), (74, dI x.1)], [(6, (gw, .row 3 1 (dN1 w))), (11, (go, .row 9 1 O)), (900000, (gb, .bld 70 900001 x.2)), (900001, (x.2, .brow 5 (lineK w m R.length 0 (R.take x.1))))]⟩) (fun x => x.1 ≤ R.length) (fun x => R.length - x.1) (0, gr) ?_ ?_ ?_
   ·(refine cov_of ?_ ?_ <;> simp [go_sem])
    rfl
   ·simp
   rintro ⟨k, gr⟩ hk
   simp only at hk ⊢
   (refine awp_sr fun Y Yh => ?_; simp [go_sem]; ((repeat' (first|(refine ag_x ?_;simp [go_sem])|intro _|apply And.intro|(apply Yh;clear Yh Y)));all_goals first|apply Hold.mk|omega|with_reducible assumption|skip))
   refine awp_seq_k fun K21 hK21 => ?_
   by_cases h20 : k < R.length
   ·(refine awp_if fun T F hT hF => ?_; simp [go_sem, h20]; refine hT ?_; clear hT hF T F)
    refine awp_skip ?_
    refine hK21 _ ?_; clear hK21
    refine awp_seq_k fun K23 hK23 => ?_
    have hls := lineK_step w m R.length R h20
    have hll1 := hll k
    rw [List.length_take] at hll1
    have f1 := e2 _ (List.getElem_mem h20)
    have f2 := e3 k _ (List.getElem?_eq_getElem h20)
    have f3 := getD_bnd hbnd k
    have tl23 : ∀ S' gr', Cov S' ⟨[(0, dRs rows), (1, dI m), (4, .v (.slice none 0 0)), (6, .own 6 gw), (11, .own 11 go), (13, dR R), (14, .ptr 900000 gb 0), (66, dRs rows), (67, dI rows.length), (68, dI i), (72, dR R), (73, dI R.length), (74, dI k)], [(6, (gw, .row 3 1 (dN1 w))), (11, (go, .row 9 1 O)), (900000, (gb, .bld 70 900001 gr')), (900001, (gr', .brow 5 (lineK w m R.length 0 (R.take (k + 1)))))]⟩ → K23 S' := fun S' gr' hS => by
     refine hK23 _ ?_; clear hK23
     refine awp_cov hS ?_; clear hS
     (refine awp_r fun Y Yh => ?_; simp [go_sem]; ((repeat' (first|(refine ag_x ?_;simp [go_sem])|intro _|apply And.intro|(apply Yh;clear Yh Y)));all_goals first|apply Hold.mk|omega|with_reducible assumption|skip))
     refine ⟨(k + 1, gr'), ?_, by simp only; omega, by simp only; omega⟩
     (refine cov_of ?_ ?_ <;> simp [go_sem])
    clear hK23
    refine awp_block ?_
    generalize hL : lineK w m R.length 0 (R.take k) = L at *
    generalize hc : R[k] = c at *
    have hW := ws_spec 900000 900001 gb gr L c (by decide) (by decide) (by decide) (by omega)
    (refine awp_sr fun Y Yh => ?_; simp [go_sem, h20, hc]; ((repeat' (first|(refine ag_x ?_;simp [go_sem, h20, hc])|intro _|apply And.intro|(apply Yh;clear Yh Y)));all_goals first|apply Hold.mk|omega|with_reducible assumption|skip))
    (refine awp_sr fun Y Yh => ?_; simp [go_sem]; ((repeat' (first|(refine ag_x ?_;simp [go_sem])|intro _|apply And.intro|(apply Yh;clear Yh Y)));all_goals first|apply Hold.mk|omega|with_reducible assumption|skip))
    (refine callA_l [900000, 900001] (.inl ⟨rfl,rfl⟩) (by simp [go_sem]) ?_; intro args ha; simp [go_sem] at ha; subst ha; refine ⟨_, _, hW, (by simp [go_sem]), ?_⟩; rintro ps r hps ⟨gr', rfl, rfl⟩; simp [go_sem]; ((repeat' (first|(refine ag_x ?_;simp [go_sem])|intro _|apply And.intro|(apply Yh;clear Yh Y)));all_goals first|apply Hold.mk|omega|with_reducible assumption|skip))
    (refine awp_sr fun Y Yh => ?_; simp [go_sem]; ((repeat' (first|(refine ag_x ?_;simp [go_sem])|intro _|apply And.intro|(apply Yh;clear Yh Y)));all_goals first|apply Hold.mk|omega|with_reducible assumption|skip))
    by_cases h23 : k + 1 < R.length
    ·have h23' : (k : Int) + 1 < (R.length : Int) := by omega
     have hkw : k < w.length := by omega
     have hg1 := dN1_get w hkw
     obtain ⟨hC, hg2⟩ := List.getElem?_eq_some_iff.1 hg1
     have hRp := rep_spec 32 ((w.getD k 0 : Nat) - (c.length : Nat) + m) (by omega) (by omega)
     rw [if_pos h23] at hls
     rw [show rep 32 (((w.getD k 0 : Nat) : Int) - (c.length : Nat) + m) = List.replicate (w.getD k 0 + m - c.length) 32 by unfold rep; congr 1; omega] at hRp
     have hWl : (List.replicate (w.getD k 0 + m - c.length) (32 : UInt8)).length ≤ 300 := by rw [List.length_replicate]; omega
     generalize List.replicate (w.getD k 0 + m - c.length) (32 : UInt8) = P at *
     generalize w.getD k 0 = b at *
     have hW2 := ws_spec 900000 900001 gb gr' (L ++ c) P (by decide) (by decide) (by decide) (by rw [List.length_append]; omega)
     generalize hCC : dN1 w = C at *
     (refine awp_if fun T F hT hF => ?_; simp [go_sem, h23']; refine hT ?_; clear hT hF T F)
     (refine awp_r fun Y Yh => ?_; simp [go_sem, ba_size, hC, hg2]; ((repeat' (first|(refine ag_x ?_;simp [go_sem, ba_size, hC, hg2])|intro _|apply And.intro|(apply Yh;clear Yh Y)));all_goals first|apply Hold.mk|omega|with_reducible assumption|skip))
     ((try refine CallT.toA ?_); refine callT_m (.inl ⟨rfl,rfl⟩) (by simp [go_sem]) ?_; intro args ha; simp [go_sem] at ha; subst ha; refine ⟨_, hRp, ?_⟩; rintro _ rfl; simp [go_sem]; ((repeat' (first|(refine ag_x ?_;simp [go_sem])|intro _|apply And.intro|(apply Yh;clear Yh Y)));all_goals first|apply Hold.mk|omega|with_reducible assumption|skip))
     (refine callA_l [900000, 900001] (.inl ⟨rfl,rfl⟩) (by simp [go_sem]) ?_; intro args ha; simp [go_sem] at ha; subst ha; refine ⟨_, _, hW2, (by simp [go_sem]), ?_⟩; rintro ps r hps ⟨gr'', rfl, rfl⟩; simp [go_sem]; ((repeat' (first|(refine ag_x ?_;simp [go_sem])|intro _|apply And.intro|(apply Yh;clear Yh Y)));all_goals first|apply Hold.mk|omega|with_reducible assumption|skip))
     refine tl23 _ gr'' ?_
     (refine cov_of ?_ ?_ <;> simp [go_sem])
     rw [hls]
     all_goals simp
    ·have h23' : ¬ (k : Int) + 1 < (R.length : Int) := by omega
     (refine awp_if fun T F hT hF => ?_; simp [go_sem, h23']; refine hF ?_; clear hT hF T F)
     refine awp_skip ?_
     refine tl23 _ gr' ?_
     (refine cov_of ?_ ?_ <;> simp [go_sem])
     rw [hls, if_neg h23]
     all_goals simp
   ·(refine awp_if fun T F hT hF => ?_; simp [go_sem, h20]; refine hF ?_; clear hT hF T F)
    refine awp_exit ?_
    simp only [go_sem]
    refine hK20 _ ?_; clear hK20
    have hk2 : k = R.length := by omega
    subst hk2
    rw [List.take_length]
    generalize lineK w m R.length 0 R = L at *
    have hS := strA_spec 900000 900001 gb gr L (by decide) (by decide) (by decide)
    (refine awp_r fun Y Yh => ?_; simp [go_sem]; ((repeat' (first|(refine ag_x ?_;simp [go_sem])|intro _|apply And.intro|(apply Yh;clear Yh Y)));all_goals first|apply Hold.mk|omega|with_reducible assumption|skip))
    (refine callA_l [900000, 900001] (.inl ⟨rfl,rfl⟩) (by simp [go_sem]) ?_; intro args ha; simp [go_sem] at ha; subst ha; refine ⟨_, _, hS, (by simp [go_sem]), ?_⟩; rintro ps r hps ⟨gr', rfl, rfl⟩; simp [go_sem]; ((repeat' (first|(refine ag_x ?_;simp [go_sem])|intro _|apply And.intro|(apply Yh;clear Yh Y)));all_goals first|apply Hold.mk|omega|with_reducible assumption|skip))
    rename_i go2
    refine hK19 _ ?_; clear hK19
    (refine awp_r fun Y Yh => ?_; simp [go_sem]; ((repeat' (first|(refine ag_x ?_;simp [go_sem])|intro _|apply And.intro|(apply Yh;clear Yh Y)));all_goals first|apply Hold.mk|omega|with_reducible assumption|skip))
    refine ⟨(i + 1, go2), ?_, by simp only; omega, by simp only; omega⟩
    (refine cov_of ?_ ?_ <;> simp [go_sem])
    rw [htk]
  ·(refine awp_if fun T F hT hF => ?_; simp [go_sem, h16]; refine hF ?_; clear hT hF T F)
   refine awp_exit ?_
   simp only [go_sem]
   refine hK16 _ ?_; clear hK16
   have hi2 : i = rows.length := by omega
   subst hi2
   rw [hcol, ← linesD_all]
   generalize linesD w m rows rows.length = O at *
   (refine awp_sr fun Y Yh => ?_; simp [go_sem]; ((repeat' (first|(refine ag_x ?_;simp [go_sem])|intro _|apply And.intro|(apply Yh;clear Yh Y)));all_goals first|apply Hold.mk|omega|with_reducible assumption|skip))
   (refine awp_ret ?_; simp [go_sem])
theorem colR_form (rows : List (List Bs)) (gap : Int) : ∃ l e, colR rows gap = .tup [dR l, dI e] ∧ l.length ≤ rows.length := by
 unfold colR
 split
 ·exact ⟨_, _, rfl, by simp [colsV]⟩
 ·exact ⟨_, _, rfl, by simp⟩
set_option maxHeartbeats 16000000 in
theorem columns_spec (rows : List (List Bs)) (gap : Int) (hg : InR gap) (hl : rows.length ≤ 140737488355328) (hr : ∀ r ∈ rows, r.length ≤ 140737488355328 ∧ ∀ s ∈ r, s.length ≤ 140737488355328) : PCall Tryz.prog 7 [dRs rows, dI gap] fun r => r = dB true := by 
 refine pcall_of Tryz.func7 rfl rfl Tryz.ntmps7 (rs := [.tmp 4]) (tys := [4]) rfl rfl (by simp) ?_
 (refine awp_sr fun Y Yh => ?_; simp [go_sem]; ((repeat' (first|(refine ag_x ?_;simp [go_sem])|intro _|apply And.intro|(apply Yh;clear Yh Y)));all_goals first|apply Hold.mk|omega|with_reducible assumption|skip))
 (refine awp_sr fun Y Yh => ?_; simp [go_sem]; ((repeat' (first|(refine ag_x ?_;simp [go_sem])|intro _|apply And.intro|(apply Yh;clear Yh Y)));all_goals first|apply Hold.mk|omega|with_reducible assumption|skip))
 refine awp_seq_k fun K1 hK1 => ?_
 (refine awp_sr fun Y Yh => ?_; simp [go_sem]; ((repeat' (first|(refine ag_x ?_;simp [go_sem])|intro _|apply And.intro|(apply Yh;clear Yh Y)));all_goals first|apply Hold.mk|omega|with_reducible assumption|skip))
 refine awp_block ?_
 refine awp_loop (σ := Nat × Nat) (fun x => ⟨[(0, dRs rows), (1, dI gap), (5, dI x.2), (6, dI x.1)], []⟩) (fun x => x.1 ≤ rows.length ∧ x.2 ≤ 140737488360000) (fun x => rows.length - x.1) (0, 0) ?_ ?_ ?_
 ·(refine cov_of ?_ ?_ <;> simp [go_sem])
 ·simp
 rintro ⟨i, N⟩ ⟨hi, hN⟩
 simp only at hi hN ⊢
 refine awp_seq_k fun K2 hK2 => ?_
 have tlx : ∀ S', Cov S' ⟨[(0, dRs rows), (1, dI gap), (5, dI N)], []⟩ → K1 S' := fun S' hS => by
  refine hK1 _ ?_; clear hK1
  refine awp_cov hS ?_; clear hS
  refine awp_seq_k fun K5 hK5 => ?_
  (refine awp_sr fun Y Yh => ?_; simp [go_sem]; ((repeat' (first|(refine ag_x ?_;simp [go_sem])|intro _|apply And.intro|(apply Yh;clear Yh Y)));all_goals first|apply Hold.mk|omega|with_reducible assumption|skip))
  by_cases h6 : 3000 ≤ N
  ·have h6' : (3000 : Int) ≤ N := by omega
   (refine awp_if fun T F hT hF => ?_; simp [go_sem, h6']; refine hT ?_; clear hT hF T F)
   (refine awp_sr fun Y Yh => ?_; simp [go_sem]; ((repeat' (first|(refine ag_x ?_;simp [go_sem])|intro _|apply And.intro|(apply Yh;clear Yh Y)));all_goals first|apply Hold.mk|omega|with_reducible assumption|skip))
   ((try refine CallT.toA ?_); refine callT_m (.inl ⟨rfl,rfl⟩) (by simp [go_sem]) ?_; intro args ha; simp [go_sem] at ha; subst ha; refine ⟨_, sane_spec, ?_⟩; rintro _ rfl; simp [go_sem]; ((repeat' (first|(refine ag_x ?_;simp [go_sem])|intro _|apply And.intro|(apply Yh;clear Yh Y)));all_goals first|apply Hold.mk|omega|with_reducible assumption|skip))
   (refine awp_ret ?_; simp [go_sem])
  ·have h6' : ¬ (3000 : Int) ≤ N := by omega
   (refine awp_if fun T F hT hF => ?_; simp [go_sem, h6']; refine hF ?_; clear hT hF T F)
   refine awp_skip ?_
   refine hK5 _ ?_; clear hK5
   have hu0 : 0 ≤ IntKind.u64.wrap gap ∧ IntKind.u64.wrap gap < 18446744073709551616 := by rw [IntKind.wrap_u64]; omega
   generalize hu : IntKind.u64.wrap gap = u at *
   have hq : 0 ≤ u.tmod 101 ∧ u.tmod 101 < 101 := ⟨Int.tmod_nonneg _ hu0.1, Int.tmod_lt_of_pos _ (by decide)⟩
   have hq1 : -9223372036854775808 ≤ u.tmod 101 := by omega
   have hq2 : u.tmod 101 ≤ 9223372036854775807 := by omega
   have hqr : InR (u.tmod 101) := by simp only [InR]; omega
   generalize hQ : u.tmod 101 = q at *
   (refine awp_sr fun Y Yh => ?_; simp [go_sem, hu, hu0.1, hu0.2, hQ, hq1, hq2]; ((repeat' (first|(refine ag_x ?_;simp [go_sem, hu, hu0.1, hu0.2, hQ, hq1, hq2])|intro _|apply And.intro|(apply Yh;clear Yh Y)));all_goals first|apply Hold.mk|omega|with_reducible assumption|skip))
   rename_i go
   refine awp_seq_k fun K7 hK7 => ?_
   (refine awp_sr fun Y Yh => ?_; simp [go_sem]; ((repeat' (first|(refine ag_x ?_;simp [go_sem])|intro _|apply And.intro|(apply Yh;clear Yh Y)));all_goals first|apply Hold.mk|omega|with_reducible assumption|skip))
   refine awp_block ?_
   refine awp_loop (σ := Nat) (fun x => ⟨[(0, dRs rows), (7, .own 39 go), (8, dI x)], [(39, (go, .row 3 1 [[dI gap], [dI q]]))]⟩) (fun x => x ≤ 2) (fun x => 2 - x) 0 ?_ ?_ ?_
   ·(refine cov_of ?_ ?_ <;> simp [go_sem])
   ·simp
   intro x hx
   refine awp_seq_k fun K8 hK8 => ?_
   (refine awp_sr fun Y Yh => ?_; simp [go_sem]; ((repeat' (first|(refine ag_x ?_;simp [go_sem])|intro _|apply And.intro|(apply Yh;clear Yh Y)));all_goals first|apply Hold.mk|omega|with_reducible assumption|skip))
   by_cases h9 : x < 2
   ·have h9' : (x : Int) < 2 := by omega
    (refine awp_if fun T F hT hF => ?_; simp [go_sem, h9']; refine hT ?_; clear hT hF T F)
    refine awp_skip ?_
    refine hK8 _ ?_; clear hK8
    refine awp_seq_k fun K10 hK10 => ?_
    refine awp_block ?_
    have hx' : x = 0 ∨ x = 1 := by omega
    rcases hx' with rfl | rfl
    ·obtain ⟨l, e, hf, hll⟩ := colR_form rows gap
     have hA := cols_spec rows gap hg hl hr
     have hB := rcols_spec rows gap hg hl hr
     have hT := texts_spec l (by omega)
     rw [hf] at hA hB
     (refine awp_sr fun Y Yh => ?_; simp [go_sem]; ((repeat' (first|(refine ag_x ?_;simp [go_sem])|intro _|apply And.intro|(apply Yh;clear Yh Y)));all_goals first|apply Hold.mk|omega|with_reducible assumption|skip))
     ((try refine CallT.toA ?_); refine callT_m (.inl ⟨rfl,rfl⟩) (by simp [go_sem]) ?_; intro args ha; simp [go_sem] at ha; subst ha; refine ⟨_, hA, ?_⟩; rintro _ rfl; simp [go_sem]; ((repeat' (first|(refine ag_x ?_;simp [go_sem])|intro _|apply And.intro|(apply Yh;clear Yh Y)));all_goals first|apply Hold.mk|omega|with_reducible assumption|skip))
     (refine awp_sr fun Y Yh => ?_; simp [go_sem]; ((repeat' (first|(refine ag_x ?_;simp [go_sem])|intro _|apply And.intro|(apply Yh;clear Yh Y)));all_goals first|apply Hold.mk|omega|with_reducible assumption|skip))
     ((try refine CallT.toA ?_); refine callT_m (.inl ⟨rfl,rfl⟩) (by simp [go_sem]) ?_; intro args ha; simp [go_sem] at ha; subst ha; refine ⟨_, hB, ?_⟩; rintro _ rfl; simp [go_sem]; ((repeat' (first|(refine ag_x ?_;simp [go_sem])|intro _|apply And.intro|(apply Yh;clear Yh Y)));all_goals first|apply Hold.mk|omega|with_reducible assumption|skip))
     (refine awp_sr fun Y Yh => ?_; simp [go_sem]; ((repeat' (first|(refine ag_x ?_;simp [go_sem])|intro _|apply And.intro|(apply Yh;clear Yh Y)));all_goals first|apply Hold.mk|omega|with_reducible assumption|skip))
     ((try refine CallT.toA ?_); refine callT_m (.inl ⟨rfl,rfl⟩) (by simp [go_sem]) ?_; intro args ha; simp [go_sem] at ha; subst ha; refine ⟨_, hT, ?_⟩; rintro _ rfl; simp [go_sem]; ((repeat' (first|(refine ag_x ?_;simp [go_sem])|intro _|apply And.intro|(apply Yh;clear Yh Y)));all_goals first|apply Hold.mk|omega|with_reducible assumption|skip))
     (refine awp_if fun T F hT hF => ?_; simp [go_sem]; refine hF ?_; clear hT hF T F)
     refine awp_skip ?_
     refine hK10 _ ?_; clear hK10
     (refine awp_r fun Y Yh => ?_; simp [go_sem]; ((repeat' (first|(refine ag_x ?_;simp [go_sem])|intro _|apply And.intro|(apply Yh;clear Yh Y)));all_goals first|apply Hold.mk|omega|with_reducible assumption|skip))
     refine ⟨(1 : Nat), ?_, by omega, by omega⟩
     (refine cov_of ?_ ?_ <;> simp [go_sem])
    ·obtain ⟨l, e, hf, hll⟩ := colR_form rows q
     have hA := cols_spec rows q hqr hl hr
     have hB := rcols_spec rows q hqr hl hr
     have hT := texts_spec l (by omega)
     rw [hf] at hA hB
     (refine awp_sr fun Y Yh => ?_; simp [go_sem]; ((repeat' (first|(refine ag_x ?_;simp [go_sem])|intro _|apply And.intro|(apply Yh;clear Yh Y)));all_goals first|apply Hold.mk|omega|with_reducible assumption|skip))
     ((try refine CallT.toA ?_); refine callT_m (.inl ⟨rfl,rfl⟩) (by simp [go_sem]) ?_; intro args ha; simp [go_sem] at ha; subst ha; refine ⟨_, hA, ?_⟩; rintro _ rfl; simp [go_sem]; ((repeat' (first|(refine ag_x ?_;simp [go_sem])|intro _|apply And.intro|(apply Yh;clear Yh Y)));all_goals first|apply Hold.mk|omega|with_reducible assumption|skip))
     (refine awp_sr fun Y Yh => ?_; simp [go_sem]; ((repeat' (first|(refine ag_x ?_;simp [go_sem])|intro _|apply And.intro|(apply Yh;clear Yh Y)));all_goals first|apply Hold.mk|omega|with_reducible assumption|skip))
     ((try refine CallT.toA ?_); refine callT_m (.inl ⟨rfl,rfl⟩) (by simp [go_sem]) ?_; intro args ha; simp [go_sem] at ha; subst ha; refine ⟨_, hB, ?_⟩; rintro _ rfl; simp [go_sem]; ((repeat' (first|(refine ag_x ?_;simp [go_sem])|intro _|apply And.intro|(apply Yh;clear Yh Y)));all_goals first|apply Hold.mk|omega|with_reducible assumption|skip))
     (refine awp_sr fun Y Yh => ?_; simp [go_sem]; ((repeat' (first|(refine ag_x ?_;simp [go_sem])|intro _|apply And.intro|(apply Yh;clear Yh Y)));all_goals first|apply Hold.mk|omega|with_reducible assumption|skip))
     ((try refine CallT.toA ?_); refine callT_m (.inl ⟨rfl,rfl⟩) (by simp [go_sem]) ?_; intro args ha; simp [go_sem] at ha; subst ha; refine ⟨_, hT, ?_⟩; rintro _ rfl; simp [go_sem]; ((repeat' (first|(refine ag_x ?_;simp [go_sem])|intro _|apply And.intro|(apply Yh;clear Yh Y)));all_goals first|apply Hold.mk|omega|with_reducible assumption|skip))
     (refine awp_if fun T F hT hF => ?_; simp [go_sem]; refine hF ?_; clear hT hF T F)
     refine awp_skip ?_
     refine hK10 _ ?_; clear hK10
     (refine awp_r fun Y Yh => ?_; simp [go_sem]; ((repeat' (first|(refine ag_x ?_;simp [go_sem])|intro _|apply And.intro|(apply Yh;clear Yh Y)));all_goals first|apply Hold.mk|omega|with_reducible assumption|skip))
     refine ⟨(2 : Nat), ?_, by omega, by omega⟩
     (refine cov_of ?_ ?_ <;> simp [go_sem])
   ·have h9' : ¬ (x : Int) < 2 := by omega
    (refine awp_if fun T F hT hF => ?_; simp [go_sem, h9']; refine hF ?_; clear hT hF T F)
    refine awp_exit ?_
    simp only [go_sem]
    refine hK7 _ ?_; clear hK7
    (refine awp_sr fun Y Yh => ?_; simp [go_sem]; ((repeat' (first|(refine ag_x ?_;simp [go_sem])|intro _|apply And.intro|(apply Yh;clear Yh Y)));all_goals first|apply Hold.mk|omega|with_reducible assumption|skip))
    ((try refine CallT.toA ?_); refine callT_m (.inl ⟨rfl,rfl⟩) (by simp [go_sem]) ?_; intro args ha; simp [go_sem] at ha; subst ha; refine ⟨_, sane_spec, ?_⟩; rintro _ rfl; simp [go_sem]; ((repeat' (first|(refine ag_x ?_;simp [go_sem])|intro _|apply And.intro|(apply Yh;clear Yh Y)));all_goals first|apply Hold.mk|omega|with_reducible assumption|skip))
    (refine awp_ret ?_; simp [go_sem])
 by_cases h3 : i < rows.length
 ·by_cases h4 : N < 3000
  ·have h4' : (N : Int) < 3000 := by omega
   have hlr := (hr _ (List.getElem_mem h3)).1
   clear hr tlx
   (refine awp_sr fun Y Yh => ?_; simp [go_sem, h3, h4']; ((repeat' (first|(refine ag_false ?_ ?_ ?_;(focus (simp [go_sem, undef, h3, h4'];done));(focus (simp [go_sem];done));simp [go_sem, h3, h4'])|(refine ag_x ?_;simp [go_sem, undef, h3, h4'])|intro _|apply And.intro|(apply Yh;clear Yh Y)));all_goals first|apply Hold.mk|omega|with_reducible assumption|skip))
   (refine awp_if fun T F hT hF => ?_; simp [go_sem]; refine hT ?_; clear hT hF T F)
   refine awp_skip ?_
   refine hK2 _ ?_; clear hK2
   refine awp_seq_k fun K4 hK4 => ?_
   refine awp_block ?_
   (refine awp_r fun Y Yh => ?_; simp [go_sem, h3]; ((repeat' (first|(refine ag_x ?_;simp [go_sem, h3])|intro _|apply And.intro|(apply Yh;clear Yh Y)));all_goals first|apply Hold.mk|omega|with_reducible assumption|skip))
   refine hK4 _ ?_; clear hK4
   (refine awp_r fun Y Yh => ?_; simp [go_sem]; ((repeat' (first|(refine ag_x ?_;simp [go_sem])|intro _|apply And.intro|(apply Yh;clear Yh Y)));all_goals first|apply Hold.mk|omega|with_reducible assumption|skip))
   refine ⟨(i + 1, N + 1 + rows[i].length), ?_, ⟨by simp only; omega, by simp only; omega⟩, by simp only; omega⟩
   (refine cov_of ?_ ?_ <;> simp [go_sem])
  ·have h4' : ¬ (N : Int) < 3000 := by omega
   (refine awp_sr fun Y Yh => ?_; simp [go_sem, h3, h4']; ((repeat' (first|(refine ag_false ?_ ?_ ?_;(focus (simp [go_sem, undef, h3, h4'];done));(focus (simp [go_sem];done));simp [go_sem, h3, h4'])|(refine ag_x ?_;simp [go_sem, undef, h3, h4'])|intro _|apply And.intro|(apply Yh;clear Yh Y)));all_goals first|apply Hold.mk|omega|with_reducible assumption|skip))
   (refine awp_if fun T F hT hF => ?_; simp [go_sem]; refine hF ?_; clear hT hF T F)
   refine awp_exit ?_
   simp only [go_sem]
   refine tlx _ ?_
   (refine cov_of ?_ ?_ <;> simp [go_sem])
 ·(refine awp_sr fun Y Yh => ?_; simp [go_sem, h3]; ((repeat' (first|(refine ag_false ?_ ?_ ?_;(focus (simp [go_sem, undef, h3];done));(focus (simp [go_sem];done));simp [go_sem, h3])|(refine ag_x ?_;simp [go_sem, undef, h3])|intro _|apply And.intro|(apply Yh;clear Yh Y)));all_goals first|apply Hold.mk|omega|with_reducible assumption|skip))
  (refine awp_if fun T F hT hF => ?_; simp [go_sem]; refine hF ?_; clear hT hF T F)
  refine awp_exit ?_
  simp only [go_sem]
  refine tlx _ ?_
  (refine cov_of ?_ ?_ <;> simp [go_sem])
end Go.Proofs.YtelhdhofnohkcaaGreatDoor
namespace Go.Proofs.YtelhdhofnohkcaaGreatDoor
open Go.Eng Go.WideShapes Go.Fm
set_option maxRecDepth 100000
/-! rows of texts -/
theorem by9 : Tryz.prog.bytesOf 9 = 16 := by kernel_rfl
theorem by23 : Tryz.prog.bytesOf 23 = 24 := by kernel_rfl
theorem reach_le {n k : Nat} (h : n * k ≤ reachBytes) (hk : 1 ≤ k) : n ≤ 140737488355328 := by
 have h1 : n * 1 ≤ n * k := Nat.mul_le_mul_left _ hk
 unfold reachBytes at h
 omega
theorem oz_strs : OpensZ Tryz.prog 23 (fun l : List (List UInt8) => [dR l]) (fun l => l.length ≤ 140737488355328 ∧ ∀ s ∈ l, s.length ≤ 140737488355328) :=
 (opensZ_slice 1 Tryz.underlying23 (by kernel_rfl) (by decide) (fun _ => rfl) oz_str).iso (fun l => l) (fun _ => rfl) (fun l h => ⟨reach_le h.1 (by rw [by9]; decide), h.2.2⟩)
theorem oz_rows : OpensZ Tryz.prog 48 (fun l : List (List (List UInt8)) => [dRs l]) (fun l => l.length ≤ 140737488355328 ∧ ∀ r ∈ l, r.length ≤ 140737488355328 ∧ ∀ s ∈ r, s.length ≤ 140737488355328) :=
 (opensZ_slice 1 Tryz.underlying48 (by kernel_rfl) (by decide) (fun _ => rfl) oz_strs).iso (fun l => l) (fun _ => rfl) (fun l h => ⟨reach_le h.1 (by rw [by23]; decide), h.2.2⟩)
theorem ovz_rows : OpensZV Tryz.prog 48 (fun l : List (List (List UInt8)) => dRs l) (fun l => l.length ≤ 140737488355328 ∧ ∀ r ∈ l, r.length ≤ 140737488355328 ∧ ∀ s ∈ r, s.length ≤ 140737488355328) := opensZV_cell (by rw [Tryz.underlying48]; rfl) oz_rows
end Go.Proofs.YtelhdhofnohkcaaGreatDoor
