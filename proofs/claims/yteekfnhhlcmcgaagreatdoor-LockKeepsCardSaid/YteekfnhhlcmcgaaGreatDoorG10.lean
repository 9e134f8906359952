/- Part of a proof: see the last text. -/
import Derived.Test.YteekfnhhlcmcgaaGreatDoorG09
import Derived.Test.YteekfnhhlcmcgaaGreatDoorG07
import Derived.Test.YteekfnhhlcmcgaaGreatDoorG08
import Derived.Test.YteekfnhhlcmcgaaGreatDoorG05
import Derived.Test.YteekfnhhlcmcgaaGreatDoorG06
import Derived.Test.YteekfnhhlcmcgaaGreatDoorG04
set_option linter.unusedVariables false
set_option linter.unusedSimpArgs false
namespace Go.Proofs.YteekfnhhlcmcgaaGreatDoor
open Go.Eng Go.Wh Go.Ver Go.Lk
set_option maxRecDepth 20000
attribute [local irreducible] AG CallA CallT AWp PCall ACall AgC
def ltF {α : Type} (c : α → α → Int) (x y : α) : Bool := decide (c x y < 0)
set_option maxHeartbeats 8000000 in
theorem vs_ins {A X B m : List Vrs} {pa pb : Int} (f g : Nat) (c : Vrs → Vrs → Int) (w : Weakly (ltF c)) (hc : ∀ x ∈ X, ∀ y ∈ X, PCall Tryz.prog f [dVr x, dVr y] fun r => r = dI (c x y))
  (hm : m = A ++ (X ++ B)) (ha : pa = A.length) (hb : pb = A.length + X.length) (hl : m.length ≤ 4611686018427387904) :
  ACall Tryz.prog 222 [.own 900010 g, dI pa, dI pb, dFn f] [(900010, (g, .row 116 2 (m.map cVr)))] [900010] fun ps r => ps = [(g, .row 116 2 ((A ++ (sortL (ltF c) X ++ B)).map cVr))] ∧ r = .tup [] := by  
 refine acall_of Tryz.func222 rfl rfl Tryz.ntmps222 (rs := []) (tys := []) rfl rfl (by simp) ?_ ?_
 ·intro p hp
  simp only [List.mem_cons, List.mem_nil_iff, or_false] at hp
  subst hp; simp [notFroz]
 subst ha hb
 have hml : m.length = A.length + (X.length + B.length) := by rw [hm]; simp
 (refine awp_sr fun Y Yh=>?_;simp[go_sem];((repeat' (first|(refine ag_x ?_;simp[go_sem])|intro _|apply And.intro|(apply Yh;clear Yh Y)));all_goals first|apply Hold.mk|omega|assumption|skip))
 refine awp_block ?_
 refine awp_loop (σ := Nat × List Vrs) (fun x => ⟨[(0, .own 900010 g), (1, dI A.length), (2, dI (A.length + X.length)), (3, dFn f), (8, dI (A.length + x.1))], [(900010, (g, .row 116 2 (x.2.map cVr)))]⟩)
  (fun x => 1 ≤ x.1 ∧ (x.1 ≤ X.length ∨ x.1 = 1) ∧ x.2 = A ++ (sortL (ltF c) (X.take x.1) ++ (X.drop x.1 ++ B))) (fun x => X.length + 1 - x.1) (1, m) ?_ ?_ ?_
 ·(refine cov_of ?_ ?_ <;> simp[go_sem])
 ·refine ⟨by omega, by omega, ?_⟩
  rw [hm]
  cases X with
  | nil => simp [sortL]
  | cons x r => simp [sortL, merge_nil_r]
 rintro ⟨p, k⟩ ⟨hp, hp2, hk⟩
 simp only at hp hp2 hk
 refine awp_seq_k fun K1 hK1 => ?_
 (refine awp_sr fun Y Yh=>?_;simp[go_sem];((repeat' (first|(refine ag_x ?_;simp[go_sem])|intro _|apply And.intro|(apply Yh;clear Yh Y)));all_goals first|apply Hold.mk|omega|assumption|skip))
 (refine awp_if fun T F hT hF=>?_;simp[go_sem];refine BR.intro (fun h2=>hT ?_) (fun h2=>hF ?_);all_goals clear hT hF T F;try simp at h2) 
 ·refine awp_skip ?_
  refine hK1 _ ?_; clear hK1
  have hpl : p < X.length := by omega
  obtain ⟨x, hx⟩ : ∃ x, X[p]? = some x := ⟨_, List.getElem?_eq_getElem hpl⟩
  have hxm := List.mem_of_getElem? hx
  have htk : X.take (p + 1) = X.take p ++ [x] := by rw [List.take_add_one, hx]; rfl
  have hdr : X.drop p = x :: X.drop (p + 1) := by
   rw [List.drop_eq_getElem_cons hpl]
   congr 1
   rw [List.getElem?_eq_getElem hpl] at hx
   exact Option.some.inj hx
  have hSl : (sortL (ltF c) (X.take p)).length = p := by rw [sort_len]; simp; omega
  have hSm : ∀ y ∈ sortL (ltF c) (X.take p), y ∈ X := fun y hy => List.mem_of_mem_take (sort_mem.1 hy)
  have hSs := sort_srt w (X.take p)
  have hsn := sort_snoc w (X.take p) x
  rw [← htk] at hsn
  rw [hdr] at hk
  generalize sortL (ltF c) (X.take p) = S at *
  have hnext : ∀ R : List Vrs, A ++ (sortL (ltF c) (X.take (p + 1)) ++ R) = A ++ (mergeL (ltF c) S [x] ++ R) := fun R => by rw [hsn]
  generalize hR : X.drop (p + 1) ++ B = R at *
  have hkl : A.length + (p + (R.length + 1)) = m.length := by
   have : R.length = X.length - (p + 1) + B.length := by rw [← hR]; simp
   omega
  refine awp_seq_k fun K3 hK3 => ?_
  have fin : ∀ (S' : St) (S1 S2 k' : List Vrs), S1 ++ S2 = S → (∀ y ∈ S1, ltF c x y = false) → (∀ y ∈ S2, ltF c x y = true) → k' = A ++ (S1 ++ x :: (S2 ++ R)) →
    Cov S' ⟨[(0, .own 900010 g), (1, dI A.length), (2, dI (A.length + X.length)), (3, dFn f), (8, dI (A.length + p))], [(900010, (g, .row 116 2 (k'.map cVr)))]⟩ → K3 S' := fun S' S1 S2 k' e1 e2 e3 e4 hS => by
   refine hK3 _ ?_
   refine awp_cov hS ?_; clear hS
   (refine awp_r fun Y Yh=>?_;simp[go_sem];((repeat' (first|(refine ag_x ?_;simp[go_sem])|intro _|apply And.intro|(apply Yh;clear Yh Y)));all_goals first|apply Hold.mk|omega|assumption|skip))
   refine ⟨(p + 1, k'), ?_, ⟨by simp only; omega, by simp only; omega, ?_⟩, by simp only; omega⟩
   ·(refine cov_of ?_ ?_ <;> simp[go_sem])
    omega
   ·simp only
    rw [hR, hnext, ← e1, merge_one_split w e2 e3, e4]; simp
  clear hK3
  refine awp_block ?_
  (refine awp_sr fun Y Yh=>?_;simp[go_sem];((repeat' (first|(refine ag_x ?_;simp[go_sem])|intro _|apply And.intro|(apply Yh;clear Yh Y)));all_goals first|apply Hold.mk|omega|assumption|skip))
  refine awp_block ?_
  refine awp_loop (σ := List Vrs × List Vrs × List Vrs) (fun y => ⟨[(0, .own 900010 g), (1, dI A.length), (2, dI (A.length + X.length)), (3, dFn f), (8, dI (A.length + p)), (9, dI (A.length + y.1.length))], [(900010, (g, .row 116 2 (y.2.2.map cVr)))]⟩)
   (fun y => y.1 ++ y.2.1 = S ∧ (∀ z ∈ y.2.1, ltF c x z = true) ∧ y.2.2 = A ++ (y.1 ++ x :: (y.2.1 ++ R))) (fun y => y.1.length) (S, [], k) ?_ ?_ ?_
  ·(refine cov_of ?_ ?_ <;> simp[go_sem])
   omega
  ·exact ⟨by simp, by simp, by rw [hk]; simp [← hR]⟩
  rintro ⟨S1, S2, k'⟩ ⟨e1, e3, e4⟩
  simp only at e1 e3 e4
  have hsl : S1.length + S2.length = p := by rw [← hSl, ← e1]; simp
  have hkl' : k'.length = m.length := by rw [e4]; simp; omega
  refine awp_seq_k fun K4 hK4 => ?_
  rcases List.eq_nil_or_concat S1 with h0 | ⟨S1', y, h0⟩
  ·subst h0
   have hz : ¬ ((A.length : Int) + (([] : List Vrs).length : Int) > A.length) := by simp
   ((refine awp_dr (.qs [0, 1, 2, 3] (.sk 4 (.sk 5 (.sk 6 (.sk 7 (.sk 9 (.sk 10 (.sk 11 (.sk 12 (.sk 8 (.sk 13 (.sk 14 (.sk 15 (.qs [16] (.nil))))))))))))))) (by kernel_rfl) ?_ ?_ ?_ ?_);kernel_rfl;exact (by decide +kernel);kernel_rfl;intro Y Yh;((repeat' (first|(refine ag_x ?_;simp[go_sem])|refine adr_nil ?_|((first|refine adr_qs fun Y Yh=>?_|refine adr_y fun Y Yh=>?_);simp[go_sem])|intro _|apply And.intro|(apply Yh;clear Yh Y)));all_goals first|apply Hold.mk|omega|assumption|skip))
   (refine awp_if fun T F hT hF=>?_;simp[go_sem];refine hF ?_;clear hT hF T F)
   refine awp_exit ?_
   simp only [go_sem]
   refine fin _ [] S2 k' e1 (by simp) e3 e4 ?_
   (refine cov_of ?_ ?_ <;> simp[go_sem])
  ·rw [List.concat_eq_append] at h0
   subst h0
   have hym : y ∈ X := hSm y (by rw [← e1]; simp)
   have C := hc x hxm y hym
   have el : (S1' ++ [y]).length = S1'.length + 1 := by simp
   have hsl' : S1'.length + 1 + S2.length = p := by rw [← hsl]; simp
   have ek : k' = (A ++ S1') ++ y :: ([] ++ x :: (S2 ++ R)) := by rw [e4]; simp
   have t1 := two_at (P := A ++ S1') (Q := []) (R := S2 ++ R) (x := y) (y := x) (p := A.length + S1'.length) (q := A.length + (S1'.length + 1)) (by simp) (by simp; omega)
   have t2 := two_setR (P := A ++ S1') (Q := []) (R := S2 ++ R) (x := y) (y := x) (p := A.length + S1'.length) (q := A.length + (S1'.length + 1)) (by simp) (by simp; omega)
   rw [← ek] at t1 t2
   obtain ⟨ty, tx⟩ := t1
   have i1 : ((A.length : Int) + ((S1'.length : Int) + 1)).toNat = A.length + (S1'.length + 1) := by omega
   have i2 : ((A.length : Int) + ((S1'.length : Int) + 1) - 1).toNat = A.length + S1'.length := by omega
   have tx2 : ((k'.map cVr).set (A.length + (S1'.length + 1)) (cVr y))[A.length + S1'.length]? = some (cVr y) := by rw [List.getElem?_set_ne (by omega)]; simp [ty]
   have hpos : (A.length : Int) < (A.length : Int) + ((S1'.length : Int) + 1) := by omega
   ((refine awp_dr (.qs [0, 1, 2, 3, 4, 5, 6, 7, 9, 10, 11, 12, 8, 13] (.one 14 (.qs [15, 16] (.nil)))) (by kernel_rfl) ?_ ?_ ?_ ?_);kernel_rfl;exact (by decide +kernel);kernel_rfl;intro Y Yh;((repeat' (first|(refine ag_x ?_;simp[go_sem, i1, i2, tx, ty, hpos])|refine adr_nil ?_|((first|refine adr_qs fun Y Yh=>?_|refine adr_y fun Y Yh=>?_);simp[go_sem, i1, i2, tx, ty, hpos])|intro _|apply And.intro|(apply Yh;clear Yh Y)));all_goals first|apply Hold.mk|omega|assumption|skip))
   (refine agc_f (dI (c x y)) (.inl ⟨rfl,rfl⟩) ?_ rfl ?_;(intro hc args ha;simp[go_sem] at ha;subst ha;exact C);simp[go_sem];((repeat' (first|(refine ag_x ?_;simp[go_sem])|refine adr_nil ?_|((first|refine adr_qs fun Y Yh=>?_|refine adr_y fun Y Yh=>?_);simp[go_sem])|intro _|apply And.intro|(apply Yh;clear Yh Y)));all_goals first|apply Hold.mk|omega|assumption|skip))
   (refine awp_if fun T F hT hF=>?_;simp[go_sem];refine BR.intro (fun h5=>hT ?_) (fun h5=>hF ?_);all_goals clear hT hF T F;try simp at h5)
   ·refine awp_skip ?_
    refine hK4 _ ?_; clear hK4
    have hlt : ltF c x y = true := by unfold ltF; simpa using h5
    refine awp_seq_k fun K6 hK6 => ?_
    refine awp_block ?_
    ((refine awp_d (.qs [0, 1, 2, 3, 4, 5, 6, 7, 8, 10, 11, 12, 9, 13, 14] (.one 15 (.qs [16] (.one 17 (.nil))))) (by kernel_rfl) ?_ ?_ ?_ ?_);kernel_rfl;exact (by decide +kernel);kernel_rfl;intro Y Yh;((repeat' (first|(refine ag_x ?_;simp[go_sem, i1, i2, tx, ty, tx2])|refine adr_nil ?_|((first|refine adr_qs fun Y Yh=>?_|refine adr_y fun Y Yh=>?_);simp[go_sem, i1, i2, tx, ty, tx2])|intro _|apply And.intro|(apply Yh;clear Yh Y)));all_goals first|apply Hold.mk|omega|assumption|skip))
    refine hK6 _ ?_; clear hK6
    (refine awp_r fun Y Yh=>?_;simp[go_sem];((repeat' (first|(refine ag_x ?_;simp[go_sem])|intro _|apply And.intro|(apply Yh;clear Yh Y)));all_goals first|apply Hold.mk|omega|assumption|skip))
    refine ⟨(S1', y :: S2, (k'.set (A.length + (S1'.length + 1)) y).set (A.length + S1'.length) x), ?_, ⟨by rw [← e1]; simp, ?_, ?_⟩, by simp only; simp⟩
    ·(refine cov_of ?_ ?_ <;> simp[go_sem, List.map_set])
     omega
    ·intro z hz
     rcases List.mem_cons.1 hz with rfl | hz
     ·exact hlt
     ·exact e3 z hz
    ·rw [t2]; simp
   ·have hge : ltF c x y = false := by unfold ltF; simpa using h5
    refine awp_exit ?_
    simp only [go_sem]
    have hs1 : Srt (ltF c) ((S1' ++ [y]) ++ S2) := by rw [e1]; exact hSs
    refine fin _ (S1' ++ [y]) S2 k' e1 (srt_before w (srt_app hs1).1 hge) e3 e4 ?_
    (refine cov_of ?_ ?_ <;> simp[go_sem])
 ·refine awp_exit ?_
  simp only [go_sem]
  have e1 : sortL (ltF c) (X.take p) = sortL (ltF c) X := by rw [List.take_of_length_le (by omega)]
  have e2 : X.drop p = [] := List.drop_of_length_le (by omega)
  rw [hk, e1, e2]
  simp [go_sem]
theorem vs_pdq {X : List Vrs} {k : Int} (f g : Nat) (c : Vrs → Vrs → Int) (w : Weakly (ltF c)) (hc : ∀ x ∈ X, ∀ y ∈ X, PCall Tryz.prog f [dVr x, dVr y] fun r => r = dI (c x y)) (hl : X.length ≤ 12) :
  ACall Tryz.prog 189 [.own 900010 g, dI 0, dI X.length, dI k, dFn f] [(900010, (g, .row 116 2 (X.map cVr)))] [900010] fun ps r => ps = [(g, .row 116 2 ((sortL (ltF c) X).map cVr))] ∧ r = .tup [] := by
 refine acall_of Tryz.func189 rfl rfl Tryz.ntmps189 (rs := []) (tys := []) rfl rfl (by simp) ?_ ?_
 ·intro p hp
  simp only [List.mem_cons, List.mem_nil_iff, or_false] at hp
  subst hp; simp [notFroz]
 have I := @vs_ins [] X [] X 0 X.length f g c w hc (by simp) (by simp) (by simp) (by omega)
 simp only [List.nil_append, List.append_nil] at I
 (refine awp_sr fun Y Yh=>?_;simp[go_sem];((repeat' (first|(refine ag_x ?_;simp[go_sem])|intro _|apply And.intro|(apply Yh;clear Yh Y)));all_goals first|apply Hold.mk|omega|assumption|skip))
 (refine awp_sr fun Y Yh=>?_;simp[go_sem];((repeat' (first|(refine ag_x ?_;simp[go_sem])|intro _|apply And.intro|(apply Yh;clear Yh Y)));all_goals first|apply Hold.mk|omega|assumption|skip))
 refine awp_block ?_
 refine awp_loop (σ := Unit) (fun _ => ⟨[(0, .own 900010 g), (1, dI 0), (2, dI X.length), (3, dI k), (4, dFn f), (10, dB true), (11, dB true)], [(900010, (g, .row 116 2 (X.map cVr)))]⟩) (fun _ => True) (fun _ => 0) () ?_ ?_ ?_
 ·(refine cov_of ?_ ?_ <;> simp[go_sem])
 ·trivial
 rintro _ -
 refine awp_block ?_
 (refine awp_sr fun Y Yh=>?_;simp[go_sem];((repeat' (first|(refine ag_x ?_;simp[go_sem])|intro _|apply And.intro|(apply Yh;clear Yh Y)));all_goals first|apply Hold.mk|omega|assumption|skip))
 refine awp_seq_k fun K2 hK2 => ?_
 (refine awp_sr fun Y Yh=>?_;simp[go_sem];((repeat' (first|(refine ag_x ?_;simp[go_sem])|intro _|apply And.intro|(apply Yh;clear Yh Y)));all_goals first|apply Hold.mk|omega|assumption|skip))
 (refine awp_if fun T F hT hF=>?_;simp[go_sem];refine BR.intro (fun h3=>hT ?_) (fun h3=>hF ?_);all_goals clear hT hF T F;try simp at h3)
 ·(refine awp_sr fun Y Yh=>?_;simp[go_sem];((repeat' (first|(refine ag_x ?_;simp[go_sem])|intro _|apply And.intro|(apply Yh;clear Yh Y)));all_goals first|apply Hold.mk|omega|assumption|skip))
  (refine callA_l [900010] (.inl ⟨rfl,rfl⟩) (by simp[go_sem]) ?_;intro args ha;simp[go_sem] at ha;subst ha;refine ⟨_, _, I, (by simp[go_sem]), ?_⟩;rintro ps r hps ⟨rfl, rfl⟩;simp[go_sem];((repeat' (first|(refine ag_x ?_;simp[go_sem])|intro _|apply And.intro|(apply Yh;clear Yh Y)));all_goals first|apply Hold.mk|omega|assumption|skip))
  (refine awp_ret ?_;simp[go_sem])
 ·exact absurd h3 (by omega)
theorem vs_sort {X : List Vrs} (f g : Nat) (c : Vrs → Vrs → Int) (w : Weakly (ltF c)) (hc : ∀ x ∈ X, ∀ y ∈ X, PCall Tryz.prog f [dVr x, dVr y] fun r => r = dI (c x y)) (hl : X.length ≤ 12) :
  ACall Tryz.prog 148 [.own 900010 g, dFn f] [(900010, (g, .row 116 2 (X.map cVr)))] [900010] fun ps r => ps = [(g, .row 116 2 ((sortL (ltF c) X).map cVr))] ∧ r = .tup [] := by
 refine acall_of Tryz.func148 rfl rfl Tryz.ntmps148 (rs := []) (tys := []) rfl rfl (by simp) ?_ ?_
 ·intro p hp
  simp only [List.mem_cons, List.mem_nil_iff, or_false] at hp
  subst hp; simp [notFroz]
 have L := bitsLen_spec X.length (by omega)
 have hw : IntKind.u64.wrap (X.length : Int) = X.length := by rw [IntKind.wrap_u64]; omega
 (refine awp_sr fun Y Yh=>?_;simp[go_sem];((repeat' (first|(refine ag_x ?_;simp[go_sem])|intro _|apply And.intro|(apply Yh;clear Yh Y)));all_goals first|apply Hold.mk|omega|assumption|skip))
 (refine awp_r fun Y Yh=>?_;simp[go_sem, hw];((repeat' (first|(refine ag_x ?_;simp[go_sem, hw])|intro _|apply And.intro|(apply Yh;clear Yh Y)));all_goals first|apply Hold.mk|omega|assumption|skip))
 ((try refine CallT.toA ?_);refine callT_m (.inl ⟨rfl,rfl⟩) (by simp[go_sem]) ?_;intro args ha;simp[go_sem] at ha;subst ha;refine ⟨_, L, ?_⟩;rintro _ ⟨k, rfl⟩;simp[go_sem];((repeat' (first|(refine ag_x ?_;simp[go_sem])|intro _|apply And.intro|(apply Yh;clear Yh Y)));all_goals first|apply Hold.mk|omega|assumption|skip))
 (refine callA_l [900010] (.inl ⟨rfl,rfl⟩) (by simp[go_sem]) ?_;intro args ha;simp[go_sem] at ha;subst ha;refine ⟨_, _, (vs_pdq (k := k) f g c w hc hl), (by simp[go_sem]), ?_⟩;rintro ps r hps ⟨rfl, rfl⟩;simp[go_sem];((repeat' (first|(refine ag_x ?_;simp[go_sem])|intro _|apply And.intro|(apply Yh;clear Yh Y)));all_goals first|apply Hold.mk|omega|assumption|skip))
 simp [go_sem]
set_option maxHeartbeats 8000000 in
theorem nd_ins {A X B m : List Prs} {pa pb : Int} (f g : Nat) (c : Prs → Prs → Int) (w : Weakly (ltF c)) (hc : ∀ x ∈ X, ∀ y ∈ X, PCall Tryz.prog f [dP x, dP y] fun r => r = dI (c x y))
  (hm : m = A ++ (X ++ B)) (ha : pa = A.length) (hb : pb = A.length + X.length) (hl : m.length ≤ 4611686018427387904) :
  ACall Tryz.prog 255 [.own 900010 g, dI pa, dI pb, dFn f] [(900010, (g, .row 114 2 (m.map cP)))] [900010] fun ps r => ps = [(g, .row 114 2 ((A ++ (sortL (ltF c) X ++ B)).map cP))] ∧ r = .tup [] := by  
 refine acall_of Tryz.func255 rfl rfl Tryz.ntmps255 (rs := []) (tys := []) rfl rfl (by simp) ?_ ?_
 ·intro p hp
  simp only [List.mem_cons, List.mem_nil_iff, or_false] at hp
  subst hp; simp [notFroz]
 subst ha hb
 have hml : m.length = A.length + (X.length + B.length) := by rw [hm]; simp
 (refine awp_sr fun Y Yh=>?_;simp[go_sem];((repeat' (first|(refine ag_x ?_;simp[go_sem])|intro _|apply And.intro|(apply Yh;clear Yh Y)));all_goals first|apply Hold.mk|omega|assumption|skip))
 refine awp_block ?_
 refine awp_loop (σ := Nat × List Prs) (fun x => ⟨[(0, .own 900010 g), (1, dI A.length), (2, dI (A.length + X.length)), (3, dFn f), (8, dI (A.length + x.1))], [(900010, (g, .row 114 2 (x.2.map cP)))]⟩)
  (fun x => 1 ≤ x.1 ∧ (x.1 ≤ X.length ∨ x.1 = 1) ∧ x.2 = A ++ (sortL (ltF c) (X.take x.1) ++ (X.drop x.1 ++ B))) (fun x => X.length + 1 - x.1) (1, m) ?_ ?_ ?_
 ·(refine cov_of ?_ ?_ <;> simp[go_sem])
 ·refine ⟨by omega, by omega, ?_⟩
  rw [hm]
  cases X with
  | nil => simp [sortL]
  | cons x r => simp [sortL, merge_nil_r]
 rintro ⟨p, k⟩ ⟨hp, hp2, hk⟩
 simp only at hp hp2 hk
 refine awp_seq_k fun K1 hK1 => ?_
 (refine awp_sr fun Y Yh=>?_;simp[go_sem];((repeat' (first|(refine ag_x ?_;simp[go_sem])|intro _|apply And.intro|(apply Yh;clear Yh Y)));all_goals first|apply Hold.mk|omega|assumption|skip))
 (refine awp_if fun T F hT hF=>?_;simp[go_sem];refine BR.intro (fun h2=>hT ?_) (fun h2=>hF ?_);all_goals clear hT hF T F;try simp at h2) 
 ·refine awp_skip ?_
  refine hK1 _ ?_; clear hK1
  have hpl : p < X.length := by omega
  obtain ⟨x, hx⟩ : ∃ x, X[p]? = some x := ⟨_, List.getElem?_eq_getElem hpl⟩
  have hxm := List.mem_of_getElem? hx
  have htk : X.take (p + 1) = X.take p ++ [x] := by rw [List.take_add_one, hx]; rfl
  have hdr : X.drop p = x :: X.drop (p + 1) := by
   rw [List.drop_eq_getElem_cons hpl]
   congr 1
   rw [List.getElem?_eq_getElem hpl] at hx
   exact Option.some.inj hx
  have hSl : (sortL (ltF c) (X.take p)).length = p := by rw [sort_len]; simp; omega
  have hSm : ∀ y ∈ sortL (ltF c) (X.take p), y ∈ X := fun y hy => List.mem_of_mem_take (sort_mem.1 hy)
  have hSs := sort_srt w (X.take p)
  have hsn := sort_snoc w (X.take p) x
  rw [← htk] at hsn
  rw [hdr] at hk
  generalize sortL (ltF c) (X.take p) = S at *
  have hnext : ∀ R : List Prs, A ++ (sortL (ltF c) (X.take (p + 1)) ++ R) = A ++ (mergeL (ltF c) S [x] ++ R) := fun R => by rw [hsn]
  generalize hR : X.drop (p + 1) ++ B = R at *
  have hkl : A.length + (p + (R.length + 1)) = m.length := by
   have : R.length = X.length - (p + 1) + B.length := by rw [← hR]; simp
   omega
  refine awp_seq_k fun K3 hK3 => ?_
  have fin : ∀ (S' : St) (S1 S2 k' : List Prs), S1 ++ S2 = S → (∀ y ∈ S1, ltF c x y = false) → (∀ y ∈ S2, ltF c x y = true) → k' = A ++ (S1 ++ x :: (S2 ++ R)) →
    Cov S' ⟨[(0, .own 900010 g), (1, dI A.length), (2, dI (A.length + X.length)), (3, dFn f), (8, dI (A.length + p))], [(900010, (g, .row 114 2 (k'.map cP)))]⟩ → K3 S' := fun S' S1 S2 k' e1 e2 e3 e4 hS => by
   refine hK3 _ ?_
   refine awp_cov hS ?_; clear hS
   (refine awp_r fun Y Yh=>?_;simp[go_sem];((repeat' (first|(refine ag_x ?_;simp[go_sem])|intro _|apply And.intro|(apply Yh;clear Yh Y)));all_goals first|apply Hold.mk|omega|assumption|skip))
   refine ⟨(p + 1, k'), ?_, ⟨by simp only; omega, by simp only; omega, ?_⟩, by simp only; omega⟩
   ·(refine cov_of ?_ ?_ <;> simp[go_sem])
    omega
   ·simp only
    rw [hR, hnext, ← e1, merge_one_split w e2 e3, e4]; simp
  clear hK3
  refine awp_block ?_
  (refine awp_sr fun Y Yh=>?_;simp[go_sem];((repeat' (first|(refine ag_x ?_;simp[go_sem])|intro _|apply And.intro|(apply Yh;clear Yh Y)));all_goals first|apply Hold.mk|omega|assumption|skip))
  refine awp_block ?_
  refine awp_loop (σ := List Prs × List Prs × List Prs) (fun y => ⟨[(0, .own 900010 g), (1, dI A.length), (2, dI (A.length + X.length)), (3, dFn f), (8, dI (A.length + p)), (9, dI (A.length + y.1.length))], [(900010, (g, .row 114 2 (y.2.2.map cP)))]⟩)
   (fun y => y.1 ++ y.2.1 = S ∧ (∀ z ∈ y.2.1, ltF c x z = true) ∧ y.2.2 = A ++ (y.1 ++ x :: (y.2.1 ++ R))) (fun y => y.1.length) (S, [], k) ?_ ?_ ?_
  ·(refine cov_of ?_ ?_ <;> simp[go_sem])
   omega
  ·exact ⟨by simp, by simp, by rw [hk]; simp [← hR]⟩
  rintro ⟨S1, S2, k'⟩ ⟨e1, e3, e4⟩
  simp only at e1 e3 e4
  have hsl : S1.length + S2.length = p := by rw [← hSl, ← e1]; simp
  have hkl' : k'.length = m.length := by rw [e4]; simp; omega
  refine awp_seq_k fun K4 hK4 => ?_
  rcases List.eq_nil_or_concat S1 with h0 | ⟨S1', y, h0⟩
  ·subst h0
   have hz : ¬ ((A.length : Int) + (([] : List Prs).length : Int) > A.length) := by simp
   ((refine awp_dr (.qs [0, 1, 2, 3] (.sk 4 (.sk 5 (.sk 6 (.sk 7 (.sk 9 (.sk 10 (.sk 11 (.sk 12 (.sk 8 (.sk 13 (.sk 14 (.sk 15 (.qs [16] (.nil))))))))))))))) (by kernel_rfl) ?_ ?_ ?_ ?_);kernel_rfl;exact (by decide +kernel);kernel_rfl;intro Y Yh;((repeat' (first|(refine ag_x ?_;simp[go_sem])|refine adr_nil ?_|((first|refine adr_qs fun Y Yh=>?_|refine adr_y fun Y Yh=>?_);simp[go_sem])|intro _|apply And.intro|(apply Yh;clear Yh Y)));all_goals first|apply Hold.mk|omega|assumption|skip))
   (refine awp_if fun T F hT hF=>?_;simp[go_sem];refine hF ?_;clear hT hF T F)
   refine awp_exit ?_
   simp only [go_sem]
   refine fin _ [] S2 k' e1 (by simp) e3 e4 ?_
   (refine cov_of ?_ ?_ <;> simp[go_sem])
  ·rw [List.concat_eq_append] at h0
   subst h0
   have hym : y ∈ X := hSm y (by rw [← e1]; simp)
   have C := hc x hxm y hym
   have el : (S1' ++ [y]).length = S1'.length + 1 := by simp
   have hsl' : S1'.length + 1 + S2.length = p := by rw [← hsl]; simp
   have ek : k' = (A ++ S1') ++ y :: ([] ++ x :: (S2 ++ R)) := by rw [e4]; simp
   have t1 := two_at (P := A ++ S1') (Q := []) (R := S2 ++ R) (x := y) (y := x) (p := A.length + S1'.length) (q := A.length + (S1'.length + 1)) (by simp) (by simp; omega)
   have t2 := two_setR (P := A ++ S1') (Q := []) (R := S2 ++ R) (x := y) (y := x) (p := A.length + S1'.length) (q := A.length + (S1'.length + 1)) (by simp) (by simp; omega)
   rw [← ek] at t1 t2
   obtain ⟨ty, tx⟩ := t1
   have i1 : ((A.length : Int) + ((S1'.length : Int) + 1)).toNat = A.length + (S1'.length + 1) := by omega
   have i2 : ((A.length : Int) + ((S1'.length : Int) + 1) - 1).toNat = A.length + S1'.length := by omega
   have tx2 : ((k'.map cP).set (A.length + (S1'.length + 1)) (cP y))[A.length + S1'.length]? = some (cP y) := by rw [List.getElem?_set_ne (by omega)]; simp [ty]
   have hpos : (A.length : Int) < (A.length : Int) + ((S1'.length : Int) + 1) := by omega
   ((refine awp_dr (.qs [0, 1, 2, 3, 4, 5, 6, 7, 9, 10, 11, 12, 8, 13] (.one 14 (.qs [15, 16] (.nil)))) (by kernel_rfl) ?_ ?_ ?_ ?_);kernel_rfl;exact (by decide +kernel);kernel_rfl;intro Y Yh;((repeat' (first|(refine ag_x ?_;simp[go_sem, i1, i2, tx, ty, hpos])|refine adr_nil ?_|((first|refine adr_qs fun Y Yh=>?_|refine adr_y fun Y Yh=>?_);simp[go_sem, i1, i2, tx, ty, hpos])|intro _|apply And.intro|(apply Yh;clear Yh Y)));all_goals first|apply Hold.mk|omega|assumption|skip))
   (refine agc_f (dI (c x y)) (.inl ⟨rfl,rfl⟩) ?_ rfl ?_;(intro hc args ha;simp[go_sem] at ha;subst ha;exact C);simp[go_sem];((repeat' (first|(refine ag_x ?_;simp[go_sem])|refine adr_nil ?_|((first|refine adr_qs fun Y Yh=>?_|refine adr_y fun Y Yh=>?_);simp[go_sem])|intro _|apply And.intro|(apply Yh;clear Yh Y)));all_goals first|apply Hold.mk|omega|assumption|skip))
   (refine awp_if fun T F hT hF=>?_;simp[go_sem];refine BR.intro (fun h5=>hT ?_) (fun h5=>hF ?_);all_goals clear hT hF T F;try simp at h5)
   ·refine awp_skip ?_
    refine hK4 _ ?_; clear hK4
    have hlt : ltF c x y = true := by unfold ltF; simpa using h5
    refine awp_seq_k fun K6 hK6 => ?_
    refine awp_block ?_
    ((refine awp_d (.qs [0, 1, 2, 3, 4, 5, 6, 7, 8, 10, 11, 12, 9, 13, 14] (.one 15 (.qs [16] (.one 17 (.nil))))) (by kernel_rfl) ?_ ?_ ?_ ?_);kernel_rfl;exact (by decide +kernel);kernel_rfl;intro Y Yh;((repeat' (first|(refine ag_x ?_;simp[go_sem, i1, i2, tx, ty, tx2])|refine adr_nil ?_|((first|refine adr_qs fun Y Yh=>?_|refine adr_y fun Y Yh=>?_);simp[go_sem, i1, i2, tx, ty, tx2])|intro _|apply And.intro|(apply Yh;clear Yh Y)));all_goals first|apply Hold.mk|omega|assumption|skip))
    refine hK6 _ ?_; clear hK6
    (refine awp_r fun Y Yh=>?_;simp[go_sem];((repeat' (first|(refine ag_x ?_;simp[go_sem])|intro _|apply And.intro|(apply Yh;clear Yh Y)));all_goals first|apply Hold.mk|omega|assumption|skip))
    refine ⟨(S1', y :: S2, (k'.set (A.length + (S1'.length + 1)) y).set (A.length + S1'.length) x), ?_, ⟨by rw [← e1]; simp, ?_, ?_⟩, by simp only; simp⟩
    ·(refine cov_of ?_ ?_ <;> simp[go_sem, List.map_set])
     omega
    ·intro z hz
     rcases List.mem_cons.1 hz with rfl | hz
     ·exact hlt
     ·exact e3 z hz
    ·rw [t2]; simp
   ·have hge : ltF c x y = false := by unfold ltF; simpa using h5
    refine awp_exit ?_
    simp only [go_sem]
    have hs1 : Srt (ltF c) ((S1' ++ [y]) ++ S2) := by rw [e1]; exact hSs
    refine fin _ (S1' ++ [y]) S2 k' e1 (srt_before w (srt_app hs1).1 hge) e3 e4 ?_
    (refine cov_of ?_ ?_ <;> simp[go_sem])
 ·refine awp_exit ?_
  simp only [go_sem]
  have e1 : sortL (ltF c) (X.take p) = sortL (ltF c) X := by rw [List.take_of_length_le (by omega)]
  have e2 : X.drop p = [] := List.drop_of_length_le (by omega)
  rw [hk, e1, e2]
  simp [go_sem]
theorem nd_pdq {X : List Prs} {k : Int} (f g : Nat) (c : Prs → Prs → Int) (w : Weakly (ltF c)) (hc : ∀ x ∈ X, ∀ y ∈ X, PCall Tryz.prog f [dP x, dP y] fun r => r = dI (c x y)) (hl : X.length ≤ 12) :
  ACall Tryz.prog 220 [.own 900010 g, dI 0, dI X.length, dI k, dFn f] [(900010, (g, .row 114 2 (X.map cP)))] [900010] fun ps r => ps = [(g, .row 114 2 ((sortL (ltF c) X).map cP))] ∧ r = .tup [] := by
 refine acall_of Tryz.func220 rfl rfl Tryz.ntmps220 (rs := []) (tys := []) rfl rfl (by simp) ?_ ?_
 ·intro p hp
  simp only [List.mem_cons, List.mem_nil_iff, or_false] at hp
  subst hp; simp [notFroz]
 have I := @nd_ins [] X [] X 0 X.length f g c w hc (by simp) (by simp) (by simp) (by omega)
 simp only [List.nil_append, List.append_nil] at I
 (refine awp_sr fun Y Yh=>?_;simp[go_sem];((repeat' (first|(refine ag_x ?_;simp[go_sem])|intro _|apply And.intro|(apply Yh;clear Yh Y)));all_goals first|apply Hold.mk|omega|assumption|skip))
 (refine awp_sr fun Y Yh=>?_;simp[go_sem];((repeat' (first|(refine ag_x ?_;simp[go_sem])|intro _|apply And.intro|(apply Yh;clear Yh Y)));all_goals first|apply Hold.mk|omega|assumption|skip))
 refine awp_block ?_
 refine awp_loop (σ := Unit) (fun _ => ⟨[(0, .own 900010 g), (1, dI 0), (2, dI X.length), (3, dI k), (4, dFn f), (10, dB true), (11, dB true)], [(900010, (g, .row 114 2 (X.map cP)))]⟩) (fun _ => True) (fun _ => 0) () ?_ ?_ ?_
 ·(refine cov_of ?_ ?_ <;> simp[go_sem])
 ·trivial
 rintro _ -
 refine awp_block ?_
 (refine awp_sr fun Y Yh=>?_;simp[go_sem];((repeat' (first|(refine ag_x ?_;simp[go_sem])|intro _|apply And.intro|(apply Yh;clear Yh Y)));all_goals first|apply Hold.mk|omega|assumption|skip))
 refine awp_seq_k fun K2 hK2 => ?_
 (refine awp_sr fun Y Yh=>?_;simp[go_sem];((repeat' (first|(refine ag_x ?_;simp[go_sem])|intro _|apply And.intro|(apply Yh;clear Yh Y)));all_goals first|apply Hold.mk|omega|assumption|skip))
 (refine awp_if fun T F hT hF=>?_;simp[go_sem];refine BR.intro (fun h3=>hT ?_) (fun h3=>hF ?_);all_goals clear hT hF T F;try simp at h3)
 ·(refine awp_sr fun Y Yh=>?_;simp[go_sem];((repeat' (first|(refine ag_x ?_;simp[go_sem])|intro _|apply And.intro|(apply Yh;clear Yh Y)));all_goals first|apply Hold.mk|omega|assumption|skip))
  (refine callA_l [900010] (.inl ⟨rfl,rfl⟩) (by simp[go_sem]) ?_;intro args ha;simp[go_sem] at ha;subst ha;refine ⟨_, _, I, (by simp[go_sem]), ?_⟩;rintro ps r hps ⟨rfl, rfl⟩;simp[go_sem];((repeat' (first|(refine ag_x ?_;simp[go_sem])|intro _|apply And.intro|(apply Yh;clear Yh Y)));all_goals first|apply Hold.mk|omega|assumption|skip))
  (refine awp_ret ?_;simp[go_sem])
 ·exact absurd h3 (by omega)
theorem nd_sort {X : List Prs} (f g : Nat) (c : Prs → Prs → Int) (w : Weakly (ltF c)) (hc : ∀ x ∈ X, ∀ y ∈ X, PCall Tryz.prog f [dP x, dP y] fun r => r = dI (c x y)) (hl : X.length ≤ 12) :
  ACall Tryz.prog 185 [.own 900010 g, dFn f] [(900010, (g, .row 114 2 (X.map cP)))] [900010] fun ps r => ps = [(g, .row 114 2 ((sortL (ltF c) X).map cP))] ∧ r = .tup [] := by
 refine acall_of Tryz.func185 rfl rfl Tryz.ntmps185 (rs := []) (tys := []) rfl rfl (by simp) ?_ ?_
 ·intro p hp
  simp only [List.mem_cons, List.mem_nil_iff, or_false] at hp
  subst hp; simp [notFroz]
 have L := bitsLen_spec X.length (by omega)
 have hw : IntKind.u64.wrap (X.length : Int) = X.length := by rw [IntKind.wrap_u64]; omega
 (refine awp_sr fun Y Yh=>?_;simp[go_sem];((repeat' (first|(refine ag_x ?_;simp[go_sem])|intro _|apply And.intro|(apply Yh;clear Yh Y)));all_goals first|apply Hold.mk|omega|assumption|skip))
 (refine awp_r fun Y Yh=>?_;simp[go_sem, hw];((repeat' (first|(refine ag_x ?_;simp[go_sem, hw])|intro _|apply And.intro|(apply Yh;clear Yh Y)));all_goals first|apply Hold.mk|omega|assumption|skip))
 ((try refine CallT.toA ?_);refine callT_m (.inl ⟨rfl,rfl⟩) (by simp[go_sem]) ?_;intro args ha;simp[go_sem] at ha;subst ha;refine ⟨_, L, ?_⟩;rintro _ ⟨k, rfl⟩;simp[go_sem];((repeat' (first|(refine ag_x ?_;simp[go_sem])|intro _|apply And.intro|(apply Yh;clear Yh Y)));all_goals first|apply Hold.mk|omega|assumption|skip))
 (refine callA_l [900010] (.inl ⟨rfl,rfl⟩) (by simp[go_sem]) ?_;intro args ha;simp[go_sem] at ha;subst ha;refine ⟨_, _, (nd_pdq (k := k) f g c w hc hl), (by simp[go_sem]), ?_⟩;rintro ps r hps ⟨rfl, rfl⟩;simp[go_sem];((repeat' (first|(refine ag_x ?_;simp[go_sem])|intro _|apply And.intro|(apply Yh;clear Yh Y)));all_goals first|apply Hold.mk|omega|assumption|skip))
 simp [go_sem]
theorem solve1_spec (x y : Vrs) (hx : (readV x.1).isSome = true) (hy : (readV y.1).isSome = true) : PCall Tryz.prog 149 [dVr x, dVr y] fun r => r = dI (cD x y) := by 
 refine pcall_of Tryz.func149 rfl rfl Tryz.ntmps149 (rs := [.tmp 4]) (tys := [3]) rfl rfl (by simp) ?_
 have C := Compare_spec y.1 x.1 (by have := readV_len hy; omega) (by have := readV_len hx; omega)
 rw [cmpP_cV hy hx] at C
 unfold cD
 generalize cV y.1 x.1 = c at *
 generalize codeP ((readV y.1).isSome && (readV x.1).isSome) = e at *
 (refine awp_sr fun Y Yh=>?_;simp[go_sem];((repeat' (first|intro _|apply And.intro|(apply Yh;clear Yh Y)));all_goals first|apply Hold.mk|omega|assumption|skip))
 (refine awp_sr fun Y Yh=>?_;simp[go_sem];((repeat' (first|intro _|apply And.intro|(apply Yh;clear Yh Y)));all_goals first|apply Hold.mk|omega|assumption|skip))
 ((try refine CallT.toA ?_);refine callT_m (.inl ⟨rfl,rfl⟩) (by simp[go_sem]) ?_;intro args ha;simp[go_sem] at ha;subst ha;refine ⟨_, C, ?_⟩;rintro _ rfl;simp[go_sem];((repeat' (first|intro _|apply And.intro|(apply Yh;clear Yh Y)));all_goals first|apply Hold.mk|omega|assumption|skip))
 (refine awp_sr fun Y Yh=>?_;simp[go_sem];((repeat' (first|intro _|apply And.intro|(apply Yh;clear Yh Y)));all_goals first|apply Hold.mk|omega|assumption|skip))
 (refine awp_ret ?_;simp[go_sem])
theorem vclone_spec (l : List Vrs) (hl : l.length ≤ 1000000) : ACall Tryz.prog 144 [dVrs l] [] [900010] fun ps r => ∃ g, ps = [(g, .row 116 2 (l.map cVr))] ∧ r = .own 900010 g := by 
 refine acall_of Tryz.func144 rfl rfl Tryz.ntmps144 (rs := [.tmp 2]) (tys := [117]) rfl rfl (by simp) (by simp) ?_
 cases l with
 | nil =>
  (refine awp_sr fun Y Yh=>?_;simp[go_sem];((repeat' (first|intro _|apply And.intro|(apply Yh;clear Yh Y)));all_goals first|apply Hold.mk|omega|assumption|skip))
  refine awp_seq_k fun K1 hK1 => ?_
  (refine awp_sr fun Y Yh=>?_;simp[go_sem];((repeat' (first|intro _|apply And.intro|(apply Yh;clear Yh Y)));all_goals first|apply Hold.mk|omega|assumption|skip))
  ·(refine awp_if fun T F hT hF=>?_;simp[go_sem];refine hF ?_;clear hT hF T F)
   refine awp_skip ?_
   refine hK1 _ ?_; clear hK1
   (refine awp_sr fun Y Yh=>?_;simp[go_sem];((repeat' (first|intro _|apply And.intro|(apply Yh;clear Yh Y)));all_goals first|apply Hold.mk|omega|assumption|skip))
   refine awp_renrow 2 900010 rfl rfl (by decide) fun g => ?_
   simp only [go_sem]
   refine awp_ret ?_
   simp [go_sem]
  ·(refine awp_if fun T F hT hF=>?_;simp[go_sem];refine hT ?_;clear hT hF T F)
   (refine awp_sr fun Y Yh=>?_;simp[go_sem];((repeat' (first|intro _|apply And.intro|(apply Yh;clear Yh Y)));all_goals first|apply Hold.mk|omega|assumption|skip))
   refine awp_nilslot 2 900010 116 2 rfl fun g => ?_
   simp only [go_sem]
   refine awp_ret ?_
   simp [go_sem]
 | cons x r =>
  simp only [List.length_cons] at hl
  (refine awp_sr fun Y Yh=>?_;simp[go_sem];((repeat' (first|intro _|apply And.intro|(apply Yh;clear Yh Y)));all_goals first|apply Hold.mk|omega|assumption|skip))
  refine awp_seq_k fun K1 hK1 => ?_
  (refine awp_sr fun Y Yh=>?_;simp[go_sem];((repeat' (first|intro _|apply And.intro|(apply Yh;clear Yh Y)));all_goals first|apply Hold.mk|omega|assumption|skip))
  refine awp_if fun T F hT hF => ?_
  simp [go_sem]
  refine hF ?_
  refine awp_skip ?_
  refine hK1 _ ?_; clear hK1
  (refine awp_sr fun Y Yh=>?_;simp[go_sem];((repeat' (first|intro _|apply And.intro|(apply Yh;clear Yh Y)));all_goals first|apply Hold.mk|omega|assumption|skip))
  refine awp_renrow 2 900010 rfl rfl (by decide) fun g => ?_
  simp only [go_sem]
  refine awp_ret ?_
  simp [go_sem]
set_option maxHeartbeats 32000000 in
theorem solve_spec (s : Src) (w : List Prs) (bud : Nat) (hsu : suV s = true) (hw : SzN w) (hwn : ∀ n ∈ w, n.1 ≠ []) (hb : bud ≤ 100000) : ∀ (f : Nat) (l : List Prs) (t gb gm : Nat), muV s l < f → l.length + f ≤ 1000 → PickOk s l → t ≤ bud →
  ACall Tryz.prog 109 [.ptr 900002 gb 0] (hX gb gm s bud t false (allN s w l) l) [900002, 900003]
   fun ps r => ∃ N' l', (ps = [(gb, bXn s bud (restV s w bud f l t).2 (decide ((restV s w bud f l t).1.2 = 12)) N' gm), (gm, .map (mSn l'))] ∧ r = dB (decide ((restV s w bud f l t).1.2 = 0))) ∧
    ((restV s w bud f l t).1.2 = 3 → N' = allN s w l ∧ l' = l) ∧ ((restV s w bud f l t).1.2 = 0 → l' = (restV s w bud f l t).1.1)
 | 0, l, t, gb, gm, h, _, _, _ => absurd h (by omega)
 | f + 1, l, t, gb, gm, hmu, hlf, hpo, ht => by
  have hs := suV_sz hsu
  obtain ⟨h15, hsg⟩ := suV_parts hsu
  have hno := pickOk_num hsu hpo
  have hlz : ∀ x ∈ l, Sz1 x := fun x hx => by
   obtain ⟨g, hg, e1, v, hv, e2⟩ := hpo.1 x hx
   have := hs.2 g hg
   exact ⟨by rw [← e1]; exact this.1, by rw [← e2]; exact (this.2.2 v hv).1⟩
  have IH := fun l t gb gm => solve_spec s w bud hsu hw hwn hb f l t gb gm
  have TL := fun l t => restV_tlk s w bud f l t
  have ham := allN_mem (l := l) hs hw.2
  have hal := allN_len (w := w) hs l
  have hw0 := hw.1
  have hal2 : (allN s w l).length ≤ 1001000000 := by
   have e : l.length * 1000000 ≤ 1000 * 1000000 := Nat.mul_le_mul_right _ (by omega)
   omega
  have hRE : restV s w bud (f + 1) l t = (match (allN s w l).find? (freeN l) with
   | none => ((l, 0), t)
   | some n => tryL (restV s w bud f) bud n.1 l (candV s w l n.1) t) := rfl
  have hnn : ∀ n ∈ allN s w l, n.1 ≠ [] := fun n hn => by
   rcases allN_mem'.1 hn with q | ⟨p, hp, q⟩
   ·exact hwn n q
   ·obtain ⟨g, hg, e1, v, hv, e2⟩ := hpo.1 p hp
    rw [show p = (g.1, v.1) by rw [e1, e2], fndP_of hsu hg hv] at q
    exact (name_nm ((nuV_parts ((vuV_parts (hsg g hg).2).2 v hv).2).2 n q).1).1
  have hce := fun gem => @cand_eq s w l gem hsu
  have hsnoc := fun gem v => allN_snoc s w l (gem, v)
  generalize restV s w bud (f + 1) l t = R0 at *
  generalize hrec : restV s w bud f = rec at *
  generalize candV s w l = cand at *
  have NX := next_spec gb gm s bud t false (allN s w l) l (by omega)
  have hnf : nextV (allN s w l) l = (((allN s w l).find? (freeN l)).map (·.1)).getD [] := by unfold nextV; rw [next_free hno]
  rw [hnf] at NX
  refine acall_of Tryz.func109 rfl rfl Tryz.ntmps109 (rs := [.tmp 2]) (tys := [4]) rfl rfl (by simp) ?_ ?_
  ·exact hX_ok gb gm s bud t false (allN s w l) l
  (refine awp_sr fun Y Yh=>?_;simp[go_sem];((repeat' (first|intro _|apply And.intro|(apply Yh;clear Yh Y)));all_goals first|apply Hold.mk|omega|assumption|skip))
  (refine awp_sr fun Y Yh=>?_;simp[go_sem];((repeat' (first|intro _|apply And.intro|(apply Yh;clear Yh Y)));all_goals first|apply Hold.mk|omega|assumption|skip))
  (refine callA_l [900002, 900003] (.inl ⟨rfl,rfl⟩) (by simp[go_sem]) ?_;intro args ha;simp[go_sem] at ha;subst ha;refine ⟨_, _, NX, (by simp[go_sem]), ?_⟩;rintro ps r hps ⟨rfl, rfl⟩;simp[go_sem];((repeat' (first|intro _|apply And.intro|(apply Yh;clear Yh Y)));all_goals first|apply Hold.mk|omega|assumption|skip))
  refine awp_seq_k fun K1 hK1 => ?_
  (refine awp_sr fun Y Yh=>?_;simp[go_sem];((repeat' (first|intro _|apply And.intro|(apply Yh;clear Yh Y)));all_goals first|apply Hold.mk|omega|assumption|skip))
  cases hfr : (allN s w l).find? (freeN l) with
  | none =>
   rw [hfr] at hRE
   simp only at hRE
   (refine awp_if fun T F hT hF=>?_;simp[go_sem, hfr];refine hT ?_;clear hT hF T F)
   (refine awp_sr fun Y Yh=>?_;simp[go_sem];((repeat' (first|intro _|apply And.intro|(apply Yh;clear Yh Y)));all_goals first|apply Hold.mk|omega|assumption|skip))
   (refine awp_ret ?_;simp[go_sem, hRE])
   exact ⟨_, rfl⟩
  | some n =>
   rw [hfr] at hRE
   simp only at hRE
   have hnm := List.mem_of_find?_eq_some hfr
   have hnz := hnn n hnm
   have hp := List.find?_some hfr
   unfold freeN at hp
   simp only [decide_eq_true_eq] at hp
   have hln : slook l n.1 = none := (slook_none hno).2 hp
   have hmp := fun hg => @mu_pos s l n.1 hg hp
   have hml := fun v hv hg => @mu_lt s l n.1 v hno hv hg hp
   have hne : n.1.isEmpty = false := by cases hq : n.1 with
    | nil => exact absurd hq hnz
    | cons => rfl
   (refine awp_if fun T F hT hF=>?_;simp[go_sem, hfr, hnz, hne];refine hF ?_;clear hT hF T F)
   refine awp_skip ?_
   refine hK1 _ ?_; clear hK1
   have GS := gem_spec s n.1 hsu
   have hGv : ∀ v ∈ ((gemV s n.1).getD ([], [])).2, ∃ g ∈ s, g.1 = n.1 ∧ v ∈ g.2 := fun v hv => by
    cases hg : gemV s n.1 with
    | none => rw [hg] at hv; cases hv
    | some g => rw [hg] at hv; obtain ⟨a, b⟩ := gemV_mem hg; exact ⟨g, a, b, hv⟩
   have hGl : ((gemV s n.1).getD ([], [])).2.length ≤ 12 := by
    cases hg : gemV s n.1 with
    | none => simp
    | some g => exact (vuV_parts (hsg g (gemV_mem hg).1).2).1
   have hcd : cand n.1 = (srtD ((gemV s n.1).getD ([], [])).2).filter (fitV (allN s w l) l n.1) := by
    rw [hce]
    cases hg : gemV s n.1 with
    | none => rfl
    | some g => rfl
   rw [hcd] at hRE
   clear hcd hce
   generalize (gemV s n.1).isSome = gis at *
   generalize (gemV s n.1).getD ([], []) = G at *
   have hGr : ∀ v ∈ G.2, (readV v.1).isSome = true ∧ SzV v := fun v hv => by
    obtain ⟨g, a, b, c⟩ := hGv v hv
    exact ⟨((vuV_parts (hsg g a).2).2 v c).1, (hs.2 g a).2.2 v c⟩
   (refine awp_sr fun Y Yh=>?_;simp[go_sem];((repeat' (first|intro _|apply And.intro|(apply Yh;clear Yh Y)));all_goals first|apply Hold.mk|omega|assumption|skip))
   ((try refine CallT.toA ?_);refine callT_m (.inl ⟨rfl,rfl⟩) (by simp[go_sem]) ?_;intro args ha;simp[go_sem] at ha;subst ha;refine ⟨_, GS, ?_⟩;rintro _ rfl;simp[go_sem];((repeat' (first|intro _|apply And.intro|(apply Yh;clear Yh Y)));all_goals first|apply Hold.mk|omega|assumption|skip))
   rename_i gg
   (refine awp_sr fun Y Yh=>?_;simp[go_sem];((repeat' (first|intro _|apply And.intro|(apply Yh;clear Yh Y)));all_goals first|apply Hold.mk|omega|assumption|skip))
   (refine callA_l [900010] (.inl ⟨rfl,rfl⟩) (by simp[go_sem]) ?_;intro args ha;simp[go_sem] at ha;subst ha;refine ⟨_, _, (vclone_spec G.2 (by omega)), (by simp[go_sem]), ?_⟩;rintro ps r hps ⟨gr, rfl, rfl⟩;simp[go_sem];((repeat' (first|intro _|apply And.intro|(apply Yh;clear Yh Y)));all_goals first|apply Hold.mk|omega|assumption|skip))
   (refine awp_sr fun Y Yh=>?_;simp[go_sem];((repeat' (first|intro _|apply And.intro|(apply Yh;clear Yh Y)));all_goals first|apply Hold.mk|omega|assumption|skip))
   (refine callA_l [900010] (.inl ⟨rfl,rfl⟩) (by simp[go_sem]) ?_;intro args ha;simp[go_sem] at ha;subst ha;refine ⟨_, _, (vs_sort 149 gr cD wk_ltD (fun x hx y hy => solve1_spec x y (hGr x hx).1 (hGr y hy).1) hGl), (by simp[go_sem]), ?_⟩;rintro ps r hps ⟨rfl, rfl⟩;simp[go_sem];((repeat' (first|intro _|apply And.intro|(apply Yh;clear Yh Y)));all_goals first|apply Hold.mk|omega|assumption|skip))
   rw [show sortL (ltF cD) G.2 = srtD G.2 from rfl]
   have hcm : ∀ v ∈ srtD G.2, v ∈ G.2 := fun v hv => srtD_mem.1 hv
   have hcl := srtD_len G.2
   generalize srtD G.2 = c at *
   refine awp_frzrow 6 rfl rfl ?_
   simp only [go_sem]
   refine awp_seq_k fun K3 hK3 => ?_
   (refine awp_sr fun Y Yh=>?_;simp[go_sem];((repeat' (first|intro _|apply And.intro|(apply Yh;clear Yh Y)));all_goals first|apply Hold.mk|omega|assumption|skip))
   refine awp_block ?_
   refine awp_loop (σ := Nat × Nat) (fun x => ⟨[(0, .ptr 900002 gb 0), (3, dS n.1), (28, dVrs c), (29, dI c.length), (30, dI x.1)], hX gb gm s bud x.2 false (allN s w l) l⟩)
    (fun x => x.1 ≤ c.length ∧ x.2 ≤ bud ∧ R0 = tryL rec bud n.1 l ((c.drop x.1).filter (fitV (allN s w l) l n.1)) x.2) (fun x => c.length - x.1) (0, t) ?_ ?_ ?_
   ·(refine cov_of ?_ ?_ <;> simp[go_sem])
   ·exact ⟨by simp, ht, hRE⟩
   rintro ⟨i, t⟩ ⟨hi, ht, hR⟩
   simp only at hi ht hR
   (refine awp_sr fun Y Yh=>?_;simp[go_sem];((repeat' (first|intro _|apply And.intro|(apply Yh;clear Yh Y)));all_goals first|apply Hold.mk|omega|assumption|skip))
   refine awp_seq_k fun K4 hK4 => ?_
   (refine awp_if fun T F hT hF=>?_;simp[go_sem];refine BR.intro (fun h5=>hT ?_) (fun h5=>hF ?_);all_goals clear hT hF T F;try simp at h5)
   ·refine awp_skip ?_
    refine hK4 _ ?_; clear hK4
    obtain ⟨v, hv⟩ : ∃ v, c[i]? = some v := ⟨_, List.getElem?_eq_getElem (by omega)⟩
    have hvG := hcm v (List.mem_of_getElem? hv)
    obtain ⟨g, hgs, hgn, hvg⟩ := hGv v hvG
    obtain ⟨hvr, hvz⟩ := hGr v hvG
    have hv0 : v.1 ≠ [] := readV_ne hvr
    have hmu1 := hml v.1 hv0 ⟨g, hgs, hgn⟩
    have FT := fits_spec gb gm s bud t false (allN s w l) l n.1 v (.inr ⟨hal2, ham⟩) hlz hno hp hvz hv0
    refine awp_seq_k fun K6 hK6 => ?_
    have tl6 : ∀ S' (t' : Nat), t' ≤ bud → R0 = tryL rec bud n.1 l ((c.drop (i + 1)).filter (fitV (allN s w l) l n.1)) t' → Cov S' ⟨[(0, .ptr 900002 gb 0), (3, dS n.1), (28, dVrs c), (29, dI c.length), (30, dI i)], hX gb gm s bud t' false (allN s w l) l⟩ → K6 S' := fun S' t' h1 h2 hS => by
     refine hK6 _ ?_
     refine awp_cov hS ?_; clear hS
     (refine awp_r fun Y Yh=>?_;simp[go_sem];((repeat' (first|intro _|apply And.intro|(apply Yh;clear Yh Y)));all_goals first|apply Hold.mk|omega|assumption|skip))
     refine ⟨(i + 1, t'), ?_, ⟨by simp only; omega, h1, h2⟩, by simp only; omega⟩
     (refine cov_of ?_ ?_ <;> simp[go_sem])
    clear hK6
    refine awp_block ?_
    (refine awp_sr fun Y Yh=>?_;simp[go_sem, hv];((repeat' (first|intro _|apply And.intro|(apply Yh;clear Yh Y)));all_goals first|apply Hold.mk|omega|assumption|skip))
    refine awp_seq_k fun K7 hK7 => ?_
    cases hft : fitV (allN s w l) l n.1 v with
    | false =>
     rw [hft] at FT
     (refine awp_sr fun Y Yh=>?_;simp[go_sem];((repeat' (first|intro _|apply And.intro|(apply Yh;clear Yh Y)));all_goals first|apply Hold.mk|omega|assumption|skip))
     (refine callA_l [900002, 900003] (.inl ⟨rfl,rfl⟩) (by simp[go_sem]) ?_;intro args ha;simp[go_sem] at ha;subst ha;refine ⟨_, _, FT, (by simp[go_sem]), ?_⟩;rintro ps r hps ⟨rfl, rfl⟩;simp[go_sem];((repeat' (first|intro _|apply And.intro|(apply Yh;clear Yh Y)));all_goals first|apply Hold.mk|omega|assumption|skip))
     (refine awp_if fun T F hT hF=>?_;simp[go_sem];refine hT ?_;clear hT hF T F)
     refine awp_exit ?_
     simp only [go_sem]
     refine tl6 _ t ht ?_ ?_
     ·rw [← tryL_skip hv hft]; exact hR
     ·(refine cov_of ?_ ?_ <;> simp[go_sem])
    | true =>
     rw [hft] at FT
     rw [tryL_take hv hft] at hR
     (refine awp_sr fun Y Yh=>?_;simp[go_sem];((repeat' (first|intro _|apply And.intro|(apply Yh;clear Yh Y)));all_goals first|apply Hold.mk|omega|assumption|skip))
     (refine callA_l [900002, 900003] (.inl ⟨rfl,rfl⟩) (by simp[go_sem]) ?_;intro args ha;simp[go_sem] at ha;subst ha;refine ⟨_, _, FT, (by simp[go_sem]), ?_⟩;rintro ps r hps ⟨rfl, rfl⟩;simp[go_sem];((repeat' (first|intro _|apply And.intro|(apply Yh;clear Yh Y)));all_goals first|apply Hold.mk|omega|assumption|skip))
     (refine awp_if fun T F hT hF=>?_;simp[go_sem];refine hF ?_;clear hT hF T F)
     refine awp_skip ?_
     refine hK7 _ ?_; clear hK7
     refine awp_seq_k fun K9 hK9 => ?_
     (refine awp_sr fun Y Yh=>?_;simp[go_sem];((repeat' (first|intro _|apply And.intro|(apply Yh;clear Yh Y)));all_goals first|apply Hold.mk|omega|assumption|skip))
     ((refine awp_dr (.qs [0, 1, 2, 4, 5, 6, 3, 7, 8] (.nil)) (by kernel_rfl) ?_ ?_ ?_ ?_);kernel_rfl;exact (by decide +kernel);kernel_rfl;intro Y Yh;((repeat' (first|refine adr_nil ?_|((first|refine adr_qs fun Y Yh=>?_|refine adr_y fun Y Yh=>?_);simp[go_sem])|intro _|apply And.intro|(apply Yh;clear Yh Y)));all_goals first|apply Hold.mk|omega|assumption|skip))
     (refine awp_if fun T F hT hF=>?_;simp[go_sem];refine BR.intro (fun h10=>hT ?_) (fun h10=>hF ?_);all_goals clear hT hF T F;try simp at h10)
     ·rw [if_pos (by omega)] at hR
      (refine awp_sr fun Y Yh=>?_;simp[go_sem];((repeat' (first|intro _|apply And.intro|(apply Yh;clear Yh Y)));all_goals first|apply Hold.mk|omega|assumption|skip))
      (refine awp_sr fun Y Yh=>?_;simp[go_sem];((repeat' (first|intro _|apply And.intro|(apply Yh;clear Yh Y)));all_goals first|apply Hold.mk|omega|assumption|skip))
      (refine awp_ret ?_;simp[go_sem, hR])
      exact ⟨⟨_, rfl⟩, ⟨_, rfl⟩⟩
     ·rw [if_neg (by omega)] at hR
      refine awp_skip ?_
      refine hK9 _ ?_; clear hK9
      have e1 : allN s w (l ++ [(n.1, v.1)]) = allN s w l ++ v.2 := by rw [hsnoc, ← hgn, fndP_of hsu hgs hvg]
      have IH1 := IH (l ++ [(n.1, v.1)]) (t + 1) gb gm (by omega) (by simp; omega) (pickOk_snoc hsu hpo hp ⟨g, hgs, hgn, hvg⟩) (by omega)
      have T1 := TL (l ++ [(n.1, v.1)]) (t + 1) (by omega)
      have hput : sput n.1 v.1 l = l ++ [(n.1, v.1)] := sput_new hln
      have hdel : sdel n.1 (l ++ [(n.1, v.1)]) = l := sdel_new hln
      have hvl := hvz.2.1
      rw [show ((t + 1 : Nat) : Int) = (t : Int) + 1 by omega, e1] at IH1
      generalize rec (l ++ [(n.1, v.1)]) (t + 1) = q at *
      obtain ⟨⟨out, e⟩, t'⟩ := q
      simp only [Tlk] at T1 hR IH1
      simp only [hX, bXn, dPs, List.map_append] at IH1
      (refine awp_sr fun Y Yh=>?_;simp[go_sem];((repeat' (first|intro _|apply And.intro|(apply Yh;clear Yh Y)));all_goals first|apply Hold.mk|omega|assumption|skip))
      ((refine awp_dr (.qs [0, 1, 2, 4, 5, 3, 6] (.one 7 (.nil))) (by kernel_rfl) ?_ ?_ ?_ ?_);kernel_rfl;exact (by decide +kernel);kernel_rfl;intro Y Yh;((repeat' (first|refine adr_nil ?_|((first|refine adr_qs fun Y Yh=>?_|refine adr_y fun Y Yh=>?_);simp[go_sem, hput])|intro _|apply And.intro|(apply Yh;clear Yh Y)));all_goals first|apply Hold.mk|omega|assumption|skip))
      ((refine awp_dr (.qs [0, 1, 3, 4] (.kp 2 (.one 5 (.qs [6, 7] (.one 8 (.nil)))))) (by kernel_rfl) ?_ ?_ ?_ ?_);kernel_rfl;exact (by decide +kernel);kernel_rfl;intro Y Yh;((repeat' (first|refine adr_nil ?_|((first|refine adr_qs fun Y Yh=>?_|refine adr_y fun Y Yh=>?_);simp[go_sem, hput])|intro _|apply And.intro|(apply Yh;clear Yh Y)));all_goals first|apply Hold.mk|omega|assumption|skip))
      ((try refine CallT.toA ?_);refine callT_m (.inl ⟨rfl,rfl⟩) (by simp[go_sem]) ?_;intro args ha;simp[go_sem] at ha;subst ha;refine ⟨_, (clip_spec (allN s w l)), ?_⟩;rintro _ rfl;simp[go_sem];((repeat' (first|refine adr_nil ?_|((first|refine adr_qs fun Y Yh=>?_|refine adr_y fun Y Yh=>?_);simp[go_sem])|intro _|apply And.intro|(apply Yh;clear Yh Y)));all_goals first|apply Hold.mk|omega|assumption|skip))
      refine awp_seq_k fun K11 hK11 => ?_
      (refine awp_sr fun Y Yh=>?_;simp[go_sem];((repeat' (first|intro _|apply And.intro|(apply Yh;clear Yh Y)));all_goals first|apply Hold.mk|omega|assumption|skip))
      (refine callA_l [900002, 900003] (.inl ⟨rfl,rfl⟩) (by simp[go_sem]) ?_;intro args ha;simp[go_sem] at ha;subst ha;refine ⟨_, _, IH1, (by simp[go_sem]), ?_⟩;rintro ps r hps ⟨N', l', ⟨rfl, rfl⟩, h3, h0⟩;simp[go_sem];((repeat' (first|intro _|apply And.intro|(apply Yh;clear Yh Y)));all_goals first|apply Hold.mk|omega|assumption|skip))
      by_cases he0 : e = 0
      ·rw [if_pos (by simp [he0])] at hR
       have hl' := h0 he0
       subst hl'
       (refine awp_if fun T F hT hF=>?_;simp[go_sem, he0];refine hT ?_;clear hT hF T F)
       (refine awp_sr fun Y Yh=>?_;simp[go_sem];((repeat' (first|intro _|apply And.intro|(apply Yh;clear Yh Y)));all_goals first|apply Hold.mk|omega|assumption|skip))
       (refine awp_ret ?_;simp[go_sem, hR, he0])
       exact ⟨_, rfl⟩
      ·(refine awp_if fun T F hT hF=>?_;simp[go_sem, he0];refine hF ?_;clear hT hF T F)
       refine awp_skip ?_
       refine hK11 _ ?_; clear hK11
       refine awp_seq_k fun K13 hK13 => ?_
       (refine awp_sr fun Y Yh=>?_;simp[go_sem];((repeat' (first|intro _|apply And.intro|(apply Yh;clear Yh Y)));all_goals first|apply Hold.mk|omega|assumption|skip))
       by_cases he12 : e = 12
       ·rw [if_pos (by simp [he12])] at hR
        (refine awp_if fun T F hT hF=>?_;simp[go_sem, he12];refine hT ?_;clear hT hF T F)
        (refine awp_sr fun Y Yh=>?_;simp[go_sem];((repeat' (first|intro _|apply And.intro|(apply Yh;clear Yh Y)));all_goals first|apply Hold.mk|omega|assumption|skip))
        (refine awp_ret ?_;simp[go_sem, hR, he12])
        exact ⟨⟨_, rfl⟩, ⟨_, rfl⟩⟩
       ·have he3 : e = 3 := by omega
        rw [if_neg (by simp [he3])] at hR
        obtain ⟨hN', hl'⟩ := h3 he3
        subst hN' hl'
        (refine awp_if fun T F hT hF=>?_;simp[go_sem, he12];refine hF ?_;clear hT hF T F)
        refine awp_skip ?_
        refine hK13 _ ?_; clear hK13
        (refine awp_sr fun Y Yh=>?_;simp[go_sem];((repeat' (first|intro _|apply And.intro|(apply Yh;clear Yh Y)));all_goals first|apply Hold.mk|omega|assumption|skip))
        (refine awp_r fun Y Yh=>?_;simp[go_sem, hdel];((repeat' (first|intro _|apply And.intro|(apply Yh;clear Yh Y)));all_goals first|apply Hold.mk|omega|assumption|skip))
        refine tl6 _ t' (by omega) hR ?_
        (refine cov_of ?_ ?_ <;> simp[go_sem, he12])
   ·refine awp_exit ?_
    simp only [go_sem]
    refine hK3 _ ?_; clear hK3
    have : i = c.length := by omega
    subst this
    rw [List.drop_length] at hR
    have hR' : R0 = (([], 3), t) := hR
    (refine awp_sr fun Y Yh=>?_;simp[go_sem];((repeat' (first|intro _|apply And.intro|(apply Yh;clear Yh Y)));all_goals first|apply Hold.mk|omega|assumption|skip))
    (refine awp_ret ?_;simp[go_sem, hR'])
end Go.Proofs.YteekfnhhlcmcgaaGreatDoor
set_option linter.unusedSectionVars false
namespace Go.Eng
variable {P : Program} [HasGlob P] {n : Nat} {S : St} {Q : Exit → St → Prop}
theorem awp_renbm {c : Code} (s s' sb j : Nat) {g gb : Nat} {es : List (Value × D)} {cs : List D} (hx : look S.heap s = some (g, .map es)) (hb : look S.heap sb = some (gb, .box cs)) (hne : sb ≠ s) (hne' : s' ≠ sb) (hj : cs[j]? = some (.own s g)) (h9 : 900000 ≤ s → 900000 ≤ s')
  (h : ∀ g', AWp P n c (((S.drop s).hput s' g' (.map es)).hput sb gb (.box (cs.set j (.own s' g')))) Q) : AWp P n c S Q := by
 intro w0 B C0 C a w E I
 obtain ⟨g', C', u, I', hu, hv, ext⟩ := I.rename hx rfl s' h9
 refine h g' E (I'.boxSet (cs := cs) ?_ (by simp) fun i cc cc' v q1 q2 hr hone => ?_)
 ·rw [look_hput, if_neg hne']
  exact (look_erase_ne hne).trans hb
 ·rw [List.getElem?_set] at q2
  split at q2
  ·rename_i e1
   subst e1
   split at q2
   ·simp only [Option.some.injEq] at q2
    subst q2
    rw [hj] at q1
    simp only [Option.some.injEq] at q1
    subst q1
    cases hr with
    | own _ _ _ p1 p2 =>
     have := ext.val _ _ _ hu
     rw [p1] at this
     simp only [Option.some.injEq] at this
     subst this
     exact .own _ _ _ hv p2
   ·cases q2
  ·rw [q1] at q2
   simp only [Option.some.injEq] at q2
   subst q2
   exact hr
end Go.Eng
namespace Go.Proofs.YteekfnhhlcmcgaaGreatDoor
open Go.Eng Go.Wh Go.Ver Go.Lk
set_option maxRecDepth 20000
attribute [local irreducible] AG CallA CallT AWp PCall ACall AgC
set_option maxHeartbeats 8000000 in
theorem picks_spec (gb gm : Nat) (s : Src) (bud t : Int) (full : Bool) (N l : List Prs) (hs : s.length ≤ 1000000) :
  ACall Tryz.prog 54 [.ptr 900002 gb 0] (hX gb gm s bud t full N l) [900002, 900003] fun ps r => ps = [(gb, bXn s bud t full N gm), (gm, .map (mSn l))] ∧ r = dPs (pksV s l) := by 
 refine acall_of Tryz.func54 rfl rfl Tryz.ntmps54 (rs := [.tmp 2]) (tys := [34]) rfl rfl (by simp) ?_ ?_
 ·exact hX_ok gb gm s bud t full N l
 (refine awp_sr fun Y Yh=>?_;simp[go_sem];((repeat' (first|(refine ag_x ?_;simp[go_sem])|intro _|apply And.intro|(apply Yh;clear Yh Y)));all_goals first|apply Hold.mk|omega|assumption|skip))
 (refine awp_sr fun Y Yh=>?_;simp[go_sem];((repeat' (first|(refine ag_x ?_;simp[go_sem])|intro _|apply And.intro|(apply Yh;clear Yh Y)));all_goals first|apply Hold.mk|omega|assumption|skip))
 refine awp_nilslot 3 900011 41 2 rfl fun g3 => ?_
 simp only [go_sem]
 refine awp_seq_k fun K1 hK1 => ?_
 (refine awp_sr fun Y Yh=>?_;simp[go_sem];((repeat' (first|(refine ag_x ?_;simp[go_sem])|intro _|apply And.intro|(apply Yh;clear Yh Y)));all_goals first|apply Hold.mk|omega|assumption|skip))
 refine awp_block ?_
 refine awp_loop (σ := Nat × Nat) (fun x => ⟨[(0, .ptr 900002 gb 0), (3, .own 900011 x.2), (12, dGms s), (13, dI s.length), (14, dI x.1)], (900011, (x.2, .row 41 2 ((pksV (s.take x.1) l).map cP))) :: hX gb gm s bud t full N l⟩) (fun x => x.1 ≤ s.length) (fun x => s.length - x.1) (0, g3) ?_ ?_ ?_
 ·(refine cov_of ?_ ?_ <;> simp[go_sem, pksV])
 ·simp
 rintro ⟨i, g⟩ hi
 simp only at hi
 (refine awp_sr fun Y Yh=>?_;simp[go_sem];((repeat' (first|(refine ag_x ?_;simp[go_sem])|intro _|apply And.intro|(apply Yh;clear Yh Y)));all_goals first|apply Hold.mk|omega|assumption|skip))
 refine awp_seq_k fun K2 hK2 => ?_
 (refine awp_if fun T F hT hF=>?_;simp[go_sem];refine BR.intro (fun h3=>hT ?_) (fun h3=>hF ?_);all_goals clear hT hF T F;try simp at h3)
 ·refine awp_skip ?_
  refine hK2 _ ?_; clear hK2
  obtain ⟨x, hx⟩ : ∃ x, s[i]? = some x := ⟨_, List.getElem?_eq_getElem (by omega)⟩
  have hst := pks_step (l := l) hx
  have hpl := pks_len (s.take i) l
  have hpl2 : (s.take i).length ≤ s.length := by simp; omega
  refine awp_seq_k fun K4 hK4 => ?_
  refine awp_block ?_
  (refine awp_sr fun Y Yh=>?_;simp[go_sem, hx];((repeat' (first|(refine ag_x ?_;simp[go_sem, hx])|intro _|apply And.intro|(apply Yh;clear Yh Y)));all_goals first|apply Hold.mk|omega|assumption|skip))
  cases hq : slook l x.1 with
  | none =>
   rw [hq] at hst
   ((refine awp_dr (.qs [0, 1, 2, 4, 3, 5, 6, 7, 8, 9, 10, 11] (.nil)) (by kernel_rfl) ?_ ?_ ?_ ?_);kernel_rfl;exact (by decide +kernel);kernel_rfl;intro Y Yh;((repeat' (first|(refine ag_x ?_;simp[go_sem, hq])|refine adr_nil ?_|((first|refine adr_qs fun Y Yh=>?_|refine adr_y fun Y Yh=>?_);simp[go_sem, hq])|intro _|apply And.intro|(apply Yh;clear Yh Y)));all_goals first|apply Hold.mk|omega|assumption|skip))
   (refine awp_sr fun Y Yh=>?_;simp[go_sem];((repeat' (first|(refine ag_x ?_;simp[go_sem])|intro _|apply And.intro|(apply Yh;clear Yh Y)));all_goals first|apply Hold.mk|omega|assumption|skip))
   (refine awp_if fun T F hT hF=>?_;simp[go_sem];refine hF ?_;clear hT hF T F)
   refine awp_skip ?_
   refine hK4 _ ?_; clear hK4
   (refine awp_r fun Y Yh=>?_;simp[go_sem];((repeat' (first|(refine ag_x ?_;simp[go_sem])|intro _|apply And.intro|(apply Yh;clear Yh Y)));all_goals first|apply Hold.mk|omega|assumption|skip))
   refine ⟨(i + 1, g), ?_, by simp only; omega, by simp only; omega⟩
   simp only [hst]
   (refine cov_of ?_ ?_ <;> simp[go_sem])
  | some v =>
   rw [hq] at hst
   ((refine awp_dr (.qs [0, 1, 2, 4, 3, 5, 6, 7, 8, 9, 10, 11] (.nil)) (by kernel_rfl) ?_ ?_ ?_ ?_);kernel_rfl;exact (by decide +kernel);kernel_rfl;intro Y Yh;((repeat' (first|(refine ag_x ?_;simp[go_sem, hq])|refine adr_nil ?_|((first|refine adr_qs fun Y Yh=>?_|refine adr_y fun Y Yh=>?_);simp[go_sem, hq])|intro _|apply And.intro|(apply Yh;clear Yh Y)));all_goals first|apply Hold.mk|omega|assumption|skip))
   (refine awp_sr fun Y Yh=>?_;simp[go_sem];((repeat' (first|(refine ag_x ?_;simp[go_sem])|intro _|apply And.intro|(apply Yh;clear Yh Y)));all_goals first|apply Hold.mk|omega|assumption|skip))
   (refine awp_if fun T F hT hF=>?_;simp[go_sem];refine hT ?_;clear hT hF T F)
   (refine awp_r fun Y Yh=>?_;simp[go_sem];((repeat' (first|(refine ag_x ?_;simp[go_sem])|intro _|apply And.intro|(apply Yh;clear Yh Y)));all_goals first|apply Hold.mk|omega|assumption|skip))
   rename_i g' g''
   refine hK4 _ ?_; clear hK4
   (refine awp_r fun Y Yh=>?_;simp[go_sem];((repeat' (first|(refine ag_x ?_;simp[go_sem])|intro _|apply And.intro|(apply Yh;clear Yh Y)));all_goals first|apply Hold.mk|omega|assumption|skip))
   refine ⟨(i + 1, g''), ?_, by simp only; omega, by simp only; omega⟩
   simp only [hst]
   (refine cov_of ?_ ?_ <;> simp[go_sem])
 ·refine awp_exit ?_
  simp only [go_sem]
  refine hK1 _ ?_; clear hK1
  have : i = s.length := by omega
  subst this
  (refine awp_sr fun Y Yh=>?_;simp[go_sem];((repeat' (first|(refine ag_x ?_;simp[go_sem])|intro _|apply And.intro|(apply Yh;clear Yh Y)));all_goals first|apply Hold.mk|omega|assumption|skip))
  refine awp_frzrow 2 rfl rfl ?_
  simp only [go_sem]
  (refine awp_ret ?_;simp[go_sem])
theorem asked_spec (s : Src) (w : List Prs) (b : Int) (hs : SzS s) (hw : SzN w) (hbr : InR b) : PCall Tryz.prog 52 [dSrc s, dPs w, dI b] fun r => r = dI (if chkV s w = true ∧ 1 ≤ b ∧ b ≤ 100000 then 0 else 1) := by 
 refine pcall_of Tryz.func52 rfl rfl Tryz.ntmps52 (rs := [.tmp 6]) (tys := [35]) rfl rfl (by simp) ?_
 have C := sCheck_spec s w hs hw
 generalize chkV s w = c at *
 (refine awp_sr fun Y Yh=>?_;simp[go_sem];((repeat' (first|(refine ag_x ?_;simp[go_sem])|intro _|apply And.intro|(apply Yh;clear Yh Y)));all_goals first|apply Hold.mk|omega|assumption|skip))
 refine awp_frzbox 3 rfl rfl ?_
 simp only [go_sem]
 refine awp_seq_k fun K1 hK1 => ?_
 (refine awp_sr fun Y Yh=>?_;simp[go_sem];((repeat' (first|(refine ag_x ?_;simp[go_sem])|intro _|apply And.intro|(apply Yh;clear Yh Y)));all_goals first|apply Hold.mk|omega|assumption|skip))
 (refine awp_if fun T F hT hF=>?_;simp[go_sem];refine BR.intro (fun h2=>hT ?_) (fun h2=>hF ?_);all_goals clear hT hF T F;try simp at h2)
 ·have : ¬ (c = true ∧ 1 ≤ b ∧ b ≤ 100000) := by omega
  (refine awp_sr fun Y Yh=>?_;simp[go_sem];((repeat' (first|(refine ag_x ?_;simp[go_sem])|intro _|apply And.intro|(apply Yh;clear Yh Y)));all_goals first|apply Hold.mk|omega|assumption|skip))
  (refine awp_ret ?_;simp[go_sem, this])
 ·have hb : 1 ≤ b ∧ b ≤ 100000 := by omega
  refine awp_skip ?_
  refine hK1 _ ?_; clear hK1
  (refine awp_sr fun Y Yh=>?_;simp[go_sem];((repeat' (first|(refine ag_x ?_;simp[go_sem])|intro _|apply And.intro|(apply Yh;clear Yh Y)));all_goals first|apply Hold.mk|omega|assumption|skip))
  ((try refine CallT.toA ?_);refine callT_m (.inl ⟨rfl,rfl⟩) (by simp[go_sem]) ?_;intro args ha;simp[go_sem] at ha;subst ha;refine ⟨_, C, ?_⟩;rintro _ rfl;simp[go_sem];((repeat' (first|(refine ag_x ?_;simp[go_sem])|intro _|apply And.intro|(apply Yh;clear Yh Y)));all_goals first|apply Hold.mk|omega|assumption|skip))
  (refine awp_ret ?_;simp[go_sem, hb])
theorem nclone_spec (l : List Prs) (hl : l.length ≤ 1000000) : PCall Tryz.prog 69 [dPs l] fun r => r = dPs l := by 
 refine pcall_of Tryz.func69 rfl rfl Tryz.ntmps69 (rs := [.tmp 2]) (tys := [38]) rfl rfl (by simp) ?_
 cases l with
 | nil =>
  (refine awp_sr fun Y Yh=>?_;simp[go_sem];((repeat' (first|(refine ag_x ?_;simp[go_sem])|intro _|apply And.intro|(apply Yh;clear Yh Y)));all_goals first|apply Hold.mk|omega|assumption|skip))
  refine awp_seq_k fun K1 hK1 => ?_
  (refine awp_sr fun Y Yh=>?_;simp[go_sem];((repeat' (first|(refine ag_x ?_;simp[go_sem])|intro _|apply And.intro|(apply Yh;clear Yh Y)));all_goals first|apply Hold.mk|omega|assumption|skip))
  ·(refine awp_if fun T F hT hF=>?_;simp[go_sem];refine hF ?_;clear hT hF T F)
   refine awp_skip ?_
   refine hK1 _ ?_; clear hK1
   (refine awp_sr fun Y Yh=>?_;simp[go_sem];((repeat' (first|(refine ag_x ?_;simp[go_sem])|intro _|apply And.intro|(apply Yh;clear Yh Y)));all_goals first|apply Hold.mk|omega|assumption|skip))
   (refine awp_ret ?_;simp[go_sem])
  ·(refine awp_if fun T F hT hF=>?_;simp[go_sem];refine hT ?_;clear hT hF T F)
   (refine awp_sr fun Y Yh=>?_;simp[go_sem];((repeat' (first|(refine ag_x ?_;simp[go_sem])|intro _|apply And.intro|(apply Yh;clear Yh Y)));all_goals first|apply Hold.mk|omega|assumption|skip))
   (refine awp_ret ?_;simp[go_sem])
 | cons x r =>
  simp only [List.length_cons] at hl
  (refine awp_sr fun Y Yh=>?_;simp[go_sem];((repeat' (first|(refine ag_x ?_;simp[go_sem])|intro _|apply And.intro|(apply Yh;clear Yh Y)));all_goals first|apply Hold.mk|omega|assumption|skip))
  refine awp_seq_k fun K1 hK1 => ?_
  (refine awp_sr fun Y Yh=>?_;simp[go_sem];((repeat' (first|(refine ag_x ?_;simp[go_sem])|intro _|apply And.intro|(apply Yh;clear Yh Y)));all_goals first|apply Hold.mk|omega|assumption|skip))
  refine awp_if fun T F hT hF => ?_
  simp [go_sem]
  refine hF ?_
  refine awp_skip ?_
  refine hK1 _ ?_; clear hK1
  (refine awp_sr fun Y Yh=>?_;simp[go_sem];((repeat' (first|(refine ag_x ?_;simp[go_sem])|intro _|apply And.intro|(apply Yh;clear Yh Y)));all_goals first|apply Hold.mk|omega|assumption|skip))
  (refine awp_ret ?_;simp[go_sem])
theorem chk_parts {s : Src} {w : List Prs} (h : chkV s w = true) : suV s = true ∧ SzN w ∧ ∀ n ∈ w, n.1 ≠ [] := by
 unfold chkV at h
 rw [Bool.and_eq_true] at h
 exact ⟨h.1, nuV_sz h.2 (by decide), fun n hn => (name_nm ((nuV_parts h.2).2 n hn).1).1⟩
theorem mSn_nil : mSn [] = [] := rfl
abbrev qV (s : Src) (w : List Prs) (bud : Nat) : (List Prs × Nat) × Nat := restV s w bud (s.length + 1) [] 0
set_option maxHeartbeats 16000000 in
theorem begin_spec (s : Src) (w : List Prs) (bud : Nat) (hc : chkV s w = true) (hb : bud ≤ 100000) :
  ACall Tryz.prog 53 [dSrc s, dPs w, dI bud] [] [900002, 900003] fun ps r => ∃ gb gm N' l', (ps = [(gb, bXn s bud (qV s w bud).2 (decide ((qV s w bud).1.2 = 12)) N' gm), (gm, .map (mSn l'))] ∧ r = .tup [.ptr 900002 gb 0, dI (qV s w bud).1.2]) ∧
   ((qV s w bud).1.2 = 0 → l' = (qV s w bud).1.1) := by 
 refine acall_of Tryz.func53 rfl rfl Tryz.ntmps53 (rs := [.tmp 6, .tmp 7]) (tys := [121, 35]) rfl rfl (by simp) (by simp) ?_
 obtain ⟨hsu, hw, hwn⟩ := chk_parts hc
 have h15 := (suV_parts hsu).1
 have hmu := mu_le s []
 have T := restV_tlk s w bud (s.length + 1) [] 0 (by omega)
 have SV := fun gb gm => solve_spec s w bud hsu hw hwn hb (s.length + 1) [] 0 gb gm (by omega) (by simp; omega) ⟨by simp, by simp⟩ (by omega)
 simp only [allN_nil, hX, bXn, mSn_nil] at SV
 have NC := nclone_spec w hw.1
 unfold qV
 generalize restV s w bud (s.length + 1) [] 0 = q at *
 obtain ⟨⟨out, e⟩, t'⟩ := q
 simp only [Tlk] at T SV ⊢
 (refine awp_sr fun Y Yh=>?_;simp[go_sem];((repeat' (first|intro _|apply And.intro|(apply Yh;clear Yh Y)));all_goals first|apply Hold.mk|omega|assumption|skip))
 refine awp_frzbox 3 rfl rfl ?_
 simp only [go_sem]
 refine awp_seq_j (α := Nat × Nat) (fun g => ⟨[(8, .ptr 16 g.1 0)], [(16, (g.1, .box [dGms s, dI bud, dI 0, dB false, dPs w, .own 14 g.2])), (14, (g.2, .map []))]⟩) (fun K1 hK1 hM1 => ?_) (fun g => ?_)
 ·((refine awp_d (.qs [1, 2] (.three 0 (.two 3 (.one 4 (.qs [5] (.one 6 (.qs [7] (.nil))))) 4 (.kp 3 (.qs [5] (.kp 6 (.qs [7] (.nil)))))) 3 (.kq 0 (.one 4 (.qs [5] (.one 6 (.qs [7] (.nil))))) 4 (.qs [0, 5] (.one 6 (.qs [7] (.nil))))) 4 (.qs [0] (.kp 3 (.qs [5] (.kp 6 (.qs [7] (.nil)))))))) (by kernel_rfl) ?_ ?_ ?_ ?_);kernel_rfl;exact (by decide +kernel);kernel_rfl;intro Y Yh;((repeat' (first|refine adr_nil ?_|refine adr_two ?_ ?_|refine adr_kq ?_ ?_|refine adr_three ?_ ?_ ?_|((first|refine adr_qs fun Y Yh=>?_|refine adr_y fun Y Yh=>?_);simp[go_sem])|intro _|apply And.intro|(apply Yh;clear Yh Y)));all_goals first|apply Hold.mk|omega|assumption|skip))
  all_goals ((try refine CallT.toA ?_);refine callT_m (.inl ⟨rfl,rfl⟩) (by simp[go_sem]) ?_;intro args ha;simp[go_sem] at ha;subst ha;refine ⟨_, NC, ?_⟩;rintro _ rfl;simp[go_sem];((repeat' (first|refine adr_nil ?_|refine adr_two ?_ ?_|refine adr_kq ?_ ?_|refine adr_three ?_ ?_ ?_|((first|refine adr_qs fun Y Yh=>?_|refine adr_y fun Y Yh=>?_);simp[go_sem])|intro _|apply And.intro|(apply Yh;clear Yh Y)));all_goals first|apply Hold.mk|omega|assumption|skip))
  all_goals
   rename_i gm gb
   refine hK1 _ ?_
   refine hM1 (gb, gm) _ ?_
   (refine cov_of ?_ ?_ <;> simp[go_sem])
 ·obtain ⟨gb0, gm0⟩ := g
  refine awp_renbox 8 900002 rfl rfl (by decide) fun gb => ?_
  simp only [go_sem]
  refine awp_renbm 14 900003 900002 5 rfl rfl (by decide) (by decide) rfl (by decide) fun gm => ?_
  simp only [go_sem, List.set]
  refine awp_seq_k fun K2 hK2 => ?_
  (refine awp_sr fun Y Yh=>?_;simp[go_sem];((repeat' (first|intro _|apply And.intro|(apply Yh;clear Yh Y)));all_goals first|apply Hold.mk|omega|assumption|skip))
  (refine callA_l [900002, 900003] (.inl ⟨rfl,rfl⟩) (by simp[go_sem]) ?_;intro args ha;simp[go_sem] at ha;subst ha;refine ⟨_, _, (SV gb gm), (by simp[go_sem]), ?_⟩;rintro ps r hps ⟨N', l', ⟨rfl, rfl⟩, h3, h0⟩;simp[go_sem];((repeat' (first|intro _|apply And.intro|(apply Yh;clear Yh Y)));all_goals first|apply Hold.mk|omega|assumption|skip))
  refine awp_block ?_
  (refine awp_sr fun Y Yh=>?_;simp[go_sem];((repeat' (first|intro _|apply And.intro|(apply Yh;clear Yh Y)));all_goals first|apply Hold.mk|omega|assumption|skip))
  by_cases he12 : e = 12
  ·(refine awp_if fun T F hT hF=>?_;simp[go_sem, he12];refine hT ?_;clear hT hF T F)
   (refine awp_sr fun Y Yh=>?_;simp[go_sem];((repeat' (first|intro _|apply And.intro|(apply Yh;clear Yh Y)));all_goals first|apply Hold.mk|omega|assumption|skip))
   (refine awp_ret ?_;simp[go_sem, he12])
   exact ⟨gm, ⟨⟨_, rfl⟩, rfl⟩, rfl, ⟨_, rfl⟩⟩
  ·(refine awp_if fun T F hT hF=>?_;simp[go_sem, he12];refine hF ?_;clear hT hF T F)
   (refine awp_sr fun Y Yh=>?_;simp[go_sem];((repeat' (first|intro _|apply And.intro|(apply Yh;clear Yh Y)));all_goals first|apply Hold.mk|omega|assumption|skip))
   by_cases he0 : e = 0
   ·(refine awp_if fun T F hT hF=>?_;simp[go_sem, he0];refine hF ?_;clear hT hF T F)
    refine awp_skip ?_
    refine hK2 _ ?_; clear hK2
    (refine awp_sr fun Y Yh=>?_;simp[go_sem];((repeat' (first|intro _|apply And.intro|(apply Yh;clear Yh Y)));all_goals first|apply Hold.mk|omega|assumption|skip))
    (refine awp_ret ?_;simp[go_sem, he0])
    exact ⟨gm, ⟨⟨_, rfl⟩, rfl⟩, rfl, by rw [h0 he0]⟩
   ·have he3 : e = 3 := by omega
    (refine awp_if fun T F hT hF=>?_;simp[go_sem, he0];refine hT ?_;clear hT hF T F)
    (refine awp_sr fun Y Yh=>?_;simp[go_sem];((repeat' (first|intro _|apply And.intro|(apply Yh;clear Yh Y)));all_goals first|apply Hold.mk|omega|assumption|skip))
    (refine awp_ret ?_;simp[go_sem, he3])
    exact ⟨gm, ⟨⟨_, rfl⟩, rfl⟩, rfl, ⟨_, rfl⟩⟩
set_option maxHeartbeats 8000000 in
theorem Solve_spec (s : Src) (w : List Prs) (b : Int) (hs : SzS s) (hw : SzN w) (hbr : InR b) : PCall Tryz.prog 16 [dSrc s, dPs w, dI b] fun r => r = .tup [dPs (solV s w b).1, dI (solV s w b).2.2] := by 
 refine pcall_of Tryz.func16 rfl rfl Tryz.ntmps16 (rs := [.tmp 6, .tmp 7]) (tys := [34, 35]) rfl rfl (by simp) ?_
 have A := asked_spec s w b hs hw hbr
 by_cases hok : chkV s w = true ∧ 1 ≤ b ∧ b ≤ 100000
 ·have hsu := (chk_parts hok.1).1
  have h15 := (suV_parts hsu).1
  obtain ⟨bud, rfl⟩ : ∃ n : Nat, b = n := ⟨b.toNat, by omega⟩
  have BG := begin_spec s w bud hok.1 (by omega)
  have hpo : (qV s w bud).1.2 = 0 → pksV s (qV s w bud).1.1 = srtP (qV s w bud).1.1 := fun _ => pks_srt hsu (restV_pick hsu _ [] 0 ⟨by simp, by simp⟩)
  have hsv : solV s w bud = (srtP (qV s w bud).1.1, (qV s w bud).2, (qV s w bud).1.2) := by unfold solV; rw [if_pos hok, Int.toNat_natCast]
  have her : (qV s w bud).1.2 ≠ 0 → (qV s w bud).1.1 = [] := rest_err _ _ _
  have T := restV_tlk s w bud (s.length + 1) [] 0 (by omega)
  rw [if_pos hok] at A
  rw [hsv]
  simp only
  unfold qV at *
  generalize restV s w bud (s.length + 1) [] 0 = q at *
  obtain ⟨⟨out, e⟩, t'⟩ := q
  simp only [Tlk] at T BG hpo her ⊢
  (refine awp_sr fun Y Yh=>?_;simp[go_sem];((repeat' (first|intro _|apply And.intro|(apply Yh;clear Yh Y)));all_goals first|apply Hold.mk|omega|assumption|skip))
  refine awp_frzbox 3 rfl rfl ?_
  simp only [go_sem]
  refine awp_seq_k fun K1 hK1 => ?_
  (refine awp_sr fun Y Yh=>?_;simp[go_sem];((repeat' (first|intro _|apply And.intro|(apply Yh;clear Yh Y)));all_goals first|apply Hold.mk|omega|assumption|skip))
  ((try refine CallT.toA ?_);refine callT_m (.inl ⟨rfl,rfl⟩) (by simp[go_sem]) ?_;intro args ha;simp[go_sem] at ha;subst ha;refine ⟨_, A, ?_⟩;rintro _ rfl;simp[go_sem];((repeat' (first|intro _|apply And.intro|(apply Yh;clear Yh Y)));all_goals first|apply Hold.mk|omega|assumption|skip))
  (refine awp_sr fun Y Yh=>?_;simp[go_sem];((repeat' (first|intro _|apply And.intro|(apply Yh;clear Yh Y)));all_goals first|apply Hold.mk|omega|assumption|skip))
  (refine awp_if fun T F hT hF=>?_;simp[go_sem];refine hF ?_;clear hT hF T F)
  refine awp_skip ?_
  refine hK1 _ ?_; clear hK1
  (refine awp_sr fun Y Yh=>?_;simp[go_sem];((repeat' (first|intro _|apply And.intro|(apply Yh;clear Yh Y)));all_goals first|apply Hold.mk|omega|assumption|skip))
  (refine callA_l [900002, 900003] (.inl ⟨rfl,rfl⟩) (by simp[go_sem]) ?_;intro args ha;simp[go_sem] at ha;subst ha;refine ⟨_, _, BG, (by simp[go_sem]), ?_⟩;rintro ps r hps ⟨gb, gm, N', l', ⟨rfl, rfl⟩, h0⟩;simp[go_sem];((repeat' (first|intro _|apply And.intro|(apply Yh;clear Yh Y)));all_goals first|apply Hold.mk|omega|assumption|skip))
  refine awp_seq_k fun K3 hK3 => ?_
  (refine awp_sr fun Y Yh=>?_;simp[go_sem];((repeat' (first|intro _|apply And.intro|(apply Yh;clear Yh Y)));all_goals first|apply Hold.mk|omega|assumption|skip))
  by_cases he0 : e = 0
  ·(refine awp_if fun T F hT hF=>?_;simp[go_sem, he0];refine hF ?_;clear hT hF T F)
   refine awp_skip ?_
   refine hK3 _ ?_; clear hK3
   have hl := h0 he0
   subst hl
   (refine awp_sr fun Y Yh=>?_;simp[go_sem];((repeat' (first|intro _|apply And.intro|(apply Yh;clear Yh Y)));all_goals first|apply Hold.mk|omega|assumption|skip))
   (refine callA_l [900002, 900003] (.inl ⟨rfl,rfl⟩) (by simp[go_sem]) ?_;intro args ha;simp[go_sem] at ha;subst ha;refine ⟨_, _, (picks_spec gb gm s bud t' (decide (e = 12)) N' l' (by omega)), (by simp[go_sem]), ?_⟩;rintro ps r hps ⟨rfl, rfl⟩;simp[go_sem];((repeat' (first|intro _|apply And.intro|(apply Yh;clear Yh Y)));all_goals first|apply Hold.mk|omega|assumption|skip))
   (refine awp_ret ?_;simp[go_sem, he0, hpo he0])
  ·have hoe := her he0
   subst hoe
   (refine awp_if fun T F hT hF=>?_;simp[go_sem, he0];refine hT ?_;clear hT hF T F)
   (refine awp_sr fun Y Yh=>?_;simp[go_sem];((repeat' (first|intro _|apply And.intro|(apply Yh;clear Yh Y)));all_goals first|apply Hold.mk|omega|assumption|skip))
   (refine awp_ret ?_;simp[go_sem, srtP])
 ·rw [if_neg hok] at A
  have hsv : solV s w b = ([], 0, 1) := by unfold solV; rw [if_neg hok]
  rw [hsv]
  (refine awp_sr fun Y Yh=>?_;simp[go_sem];((repeat' (first|intro _|apply And.intro|(apply Yh;clear Yh Y)));all_goals first|apply Hold.mk|omega|assumption|skip))
  refine awp_frzbox 3 rfl rfl ?_
  simp only [go_sem]
  refine awp_seq_k fun K1 hK1 => ?_
  (refine awp_sr fun Y Yh=>?_;simp[go_sem];((repeat' (first|intro _|apply And.intro|(apply Yh;clear Yh Y)));all_goals first|apply Hold.mk|omega|assumption|skip))
  ((try refine CallT.toA ?_);refine callT_m (.inl ⟨rfl,rfl⟩) (by simp[go_sem]) ?_;intro args ha;simp[go_sem] at ha;subst ha;refine ⟨_, A, ?_⟩;rintro _ rfl;simp[go_sem];((repeat' (first|intro _|apply And.intro|(apply Yh;clear Yh Y)));all_goals first|apply Hold.mk|omega|assumption|skip))
  (refine awp_sr fun Y Yh=>?_;simp[go_sem];((repeat' (first|intro _|apply And.intro|(apply Yh;clear Yh Y)));all_goals first|apply Hold.mk|omega|assumption|skip))
  (refine awp_if fun T F hT hF=>?_;simp[go_sem];refine hT ?_;clear hT hF T F)
  (refine awp_sr fun Y Yh=>?_;simp[go_sem];((repeat' (first|intro _|apply And.intro|(apply Yh;clear Yh Y)));all_goals first|apply Hold.mk|omega|assumption|skip))
  (refine awp_ret ?_;simp[go_sem])
theorem indexP_spec (l : List Prs) (f : Nat) (caps : List D) (p : Prs → Bool) (hp : ∀ x ∈ l, PCall Tryz.prog f (dP x :: caps) fun r => r = dB (p x)) (hl : l.length ≤ 1000000) : PCall Tryz.prog 80 [dPs l, .fn f caps] fun r => r = dI (fIx p l) := by
 refine pcall_of Tryz.func80 rfl rfl Tryz.ntmps80 (rs := [.tmp 4]) (tys := [3]) rfl rfl (by simp) ?_
 (refine awp_sr fun Y Yh=>?_;simp[go_sem];((repeat' (first|intro _|apply And.intro|(apply Yh;clear Yh Y)));all_goals first|apply Hold.mk|omega|assumption|skip))
 refine awp_seq_k fun K1 hK1 => ?_
 (refine awp_sr fun Y Yh=>?_;simp[go_sem];((repeat' (first|intro _|apply And.intro|(apply Yh;clear Yh Y)));all_goals first|apply Hold.mk|omega|assumption|skip))
 refine awp_block ?_
 refine awp_loop (σ := Nat) (fun i => ⟨[(0, dPs l), (1, .fn f caps), (7, dI l.length), (8, dI i)], []⟩) (fun i => i ≤ l.length ∧ (l.take i).any p = false) (fun i => l.length - i) 0 (by (refine cov_of ?_ ?_ <;> simp[go_sem])) (by simp) ?_
 rintro i ⟨hi, hany⟩
 (refine awp_sr fun Y Yh=>?_;simp[go_sem];((repeat' (first|intro _|apply And.intro|(apply Yh;clear Yh Y)));all_goals first|apply Hold.mk|omega|assumption|skip))
 refine awp_seq_k fun K2 hK2 => ?_
 (refine awp_if fun T F hT hF=>?_;simp[go_sem];refine BR.intro (fun h3=>hT ?_) (fun h3=>hF ?_);all_goals clear hT hF T F;try simp at h3)
 ·refine awp_skip ?_
  refine hK2 _ ?_; clear hK2
  obtain ⟨x, hx⟩ : ∃ x, l[i]? = some x := ⟨_, List.getElem?_eq_getElem (by omega)⟩
  refine awp_seq_k fun K4 hK4 => ?_
  refine awp_block ?_
  (refine awp_sr fun Y Yh=>?_;simp[go_sem];((repeat' (first|intro _|apply And.intro|(apply Yh;clear Yh Y)));all_goals first|apply Hold.mk|omega|assumption|skip))
  (refine awp_sr fun Y Yh=>?_;simp[go_sem, hx];((repeat' (first|intro _|apply And.intro|(apply Yh;clear Yh Y)));all_goals first|apply Hold.mk|omega|assumption|skip))
  ((try refine CallT.toA ?_);refine callT_m (by first|exact .inl ⟨rfl,rfl⟩|exact .inr rfl) (by simp[go_sem]) ?_;intro args ha;simp[go_sem] at ha;subst ha;refine ⟨_, (hp x (List.mem_of_getElem? hx)), ?_⟩;rintro _ rfl;simp[go_sem];((repeat' (first|intro _|apply And.intro|(apply Yh;clear Yh Y)));all_goals first|apply Hold.mk|omega|assumption|skip))
  (refine awp_if fun T F hT hF=>?_;simp[go_sem];refine BR.intro (fun h5=>hT ?_) (fun h5=>hF ?_);all_goals clear hT hF T F;try simp at h5)
  ·(refine awp_sr fun Y Yh=>?_;simp[go_sem];((repeat' (first|intro _|apply And.intro|(apply Yh;clear Yh Y)));all_goals first|apply Hold.mk|omega|assumption|skip))
   (refine awp_ret ?_;simp[go_sem])
   rw [fIx_at hany hx h5]
  ·refine awp_skip ?_
   refine hK4 _ ?_; clear hK4
   (refine awp_r fun Y Yh=>?_;simp[go_sem];((repeat' (first|intro _|apply And.intro|(apply Yh;clear Yh Y)));all_goals first|apply Hold.mk|omega|assumption|skip))
   refine ⟨i + 1, ?_, ⟨by omega, take_anyG hany hx (by simp [h5])⟩, by omega⟩
   (refine cov_of ?_ ?_ <;> simp[go_sem])
 ·refine awp_exit ?_
  simp only [go_sem]
  refine hK1 _ ?_; clear hK1
  (refine awp_sr fun Y Yh=>?_;simp[go_sem];((repeat' (first|intro _|apply And.intro|(apply Yh;clear Yh Y)));all_goals first|apply Hold.mk|omega|assumption|skip))
  (refine awp_ret ?_;simp[go_sem])
  have : i = l.length := by omega
  subst this
  rw [List.take_length] at hany
  rw [fIx_none hany]
set_option maxHeartbeats 8000000 in
theorem sof_spec (s : Src) (p : Prs) (hsu : suV s = true) : PCall Tryz.prog 82 [dSrc s, dP p] fun r => r = .tup [dVr (fndP s p), dB (fndV s p).isSome] := by 
 refine pcall_of Tryz.func82 rfl rfl Tryz.ntmps82 (rs := [.cell 4 116, .tmp 5]) (tys := [116, 4]) rfl rfl (by simp) ?_
 have hs := suV_sz hsu
 obtain ⟨h15, hsg⟩ := suV_parts hsu
 have GS := gem_spec s p.1 hsu
 have hfd : fndV s p = ((gemV s p.1).getD ([], [])).2.find? (fun v => decide (v.1 = p.2)) := by
  rw [fnd_gem hsu]
  cases hg : gemV s p.1 with
  | none => rfl
  | some g => rfl
 have hGl : ((gemV s p.1).getD ([], [])).2.length ≤ 12 := by
  cases hg : gemV s p.1 with
  | none => simp
  | some g => exact (vuV_parts (hsg g (gemV_mem hg).1).2).1
 unfold fndP
 rw [hfd]
 generalize (gemV s p.1).isSome = gis at *
 generalize (gemV s p.1).getD ([], []) = G at *
 obtain ⟨gn, l⟩ := G
 simp only at hGl ⊢
 have hst := fun k v => @find_step l p.2 k v
 have he : (l.drop l.length).find? (fun v => decide (v.1 = p.2)) = none := by rw [List.drop_length]; rfl
 have hz : l.find? (fun v => decide (v.1 = p.2)) = (l.drop 0).find? (fun v => decide (v.1 = p.2)) := rfl
 rw [hz]
 obtain ⟨F, hF⟩ : ∃ F : Nat → Option Vrs, ∀ i, (l.drop i).find? (fun v => decide (v.1 = p.2)) = F i := ⟨_, fun _ => rfl⟩
 simp only [hF] at hst he ⊢
 clear hF hz hfd
 (refine awp_sr fun Y Yh=>?_;simp[go_sem];((repeat' (first|intro _|apply And.intro|(apply Yh;clear Yh Y)));all_goals first|apply Hold.mk|omega|assumption|skip))
 refine awp_frzbox 2 rfl rfl ?_
 refine awp_frzbox 3 rfl rfl ?_
 simp only [go_sem]
 rename_i gr
 (refine awp_sr fun Y Yh=>?_;simp[go_sem];((repeat' (first|intro _|apply And.intro|(apply Yh;clear Yh Y)));all_goals first|apply Hold.mk|omega|assumption|skip))
 ((try refine CallT.toA ?_);refine callT_m (.inl ⟨rfl,rfl⟩) (by simp[go_sem]) ?_;intro args ha;simp[go_sem] at ha;subst ha;refine ⟨_, GS, ?_⟩;rintro _ rfl;simp[go_sem];((repeat' (first|intro _|apply And.intro|(apply Yh;clear Yh Y)));all_goals first|apply Hold.mk|omega|assumption|skip))
 refine awp_frzbox 6 rfl rfl ?_
 simp only [go_sem]
 refine awp_seq_k fun K1 hK1 => ?_
 (refine awp_sr fun Y Yh=>?_;simp[go_sem];((repeat' (first|intro _|apply And.intro|(apply Yh;clear Yh Y)));all_goals first|apply Hold.mk|omega|assumption|skip))
 refine awp_block ?_
 refine awp_loop (σ := Nat) (fun i => ⟨[(3, .rd [dS p.1, dS p.2]), (4, .ptr 4 gr 0), (18, dVrs l), (19, dI l.length), (20, dI i)], [(4, (gr, .box [dS [], .v (.slice none 0 0)]))]⟩) (fun i => i ≤ l.length ∧ F 0 = F i) (fun i => l.length - i) 0 ?_ ?_ ?_
 ·(refine cov_of ?_ ?_ <;> simp[go_sem])
 ·exact ⟨by omega, rfl⟩
 rintro i ⟨hi, hf⟩
 (refine awp_sr fun Y Yh=>?_;simp[go_sem];((repeat' (first|intro _|apply And.intro|(apply Yh;clear Yh Y)));all_goals first|apply Hold.mk|omega|assumption|skip))
 refine awp_seq_k fun K2 hK2 => ?_
 (refine awp_if fun T F hT hF=>?_;simp[go_sem];refine BR.intro (fun h3=>hT ?_) (fun h3=>hF ?_);all_goals clear hT hF T F;try simp at h3)
 ·refine awp_skip ?_
  refine hK2 _ ?_; clear hK2
  obtain ⟨v, hv⟩ : ∃ v, l[i]? = some v := ⟨_, List.getElem?_eq_getElem (by omega)⟩
  have hst1 := hst i v hv
  refine awp_seq_k fun K4 hK4 => ?_
  refine awp_block ?_
  (refine awp_sr fun Y Yh=>?_;simp[go_sem, hv];((repeat' (first|intro _|apply And.intro|(apply Yh;clear Yh Y)));all_goals first|apply Hold.mk|omega|assumption|skip))
  (refine awp_sr fun Y Yh=>?_;simp[go_sem];((repeat' (first|intro _|apply And.intro|(apply Yh;clear Yh Y)));all_goals first|apply Hold.mk|omega|assumption|skip))
  (refine awp_if fun T F hT hF=>?_;simp[go_sem];refine BR.intro (fun h5=>hT ?_) (fun h5=>hF ?_);all_goals clear hT hF T F;try simp at h5)
  ·rw [if_pos h5] at hst1
   (refine awp_sr fun Y Yh=>?_;simp[go_sem];((repeat' (first|intro _|apply And.intro|(apply Yh;clear Yh Y)));all_goals first|apply Hold.mk|omega|assumption|skip))
   (refine awp_ret ?_;simp[go_sem, hf, hst1])
  ·rw [if_neg h5] at hst1
   refine awp_skip ?_
   refine hK4 _ ?_; clear hK4
   (refine awp_r fun Y Yh=>?_;simp[go_sem];((repeat' (first|intro _|apply And.intro|(apply Yh;clear Yh Y)));all_goals first|apply Hold.mk|omega|assumption|skip))
   refine ⟨i + 1, ?_, ⟨by omega, hf.trans hst1⟩, by omega⟩
   (refine cov_of ?_ ?_ <;> simp[go_sem])
 ·refine awp_exit ?_
  simp only [go_sem]
  refine hK1 _ ?_; clear hK1
  have : i = l.length := by omega
  subst this
  (refine awp_sr fun Y Yh=>?_;simp[go_sem];((repeat' (first|intro _|apply And.intro|(apply Yh;clear Yh Y)));all_goals first|apply Hold.mk|omega|assumption|skip))
  (refine awp_ret ?_;simp[go_sem, hf, he])
set_option maxHeartbeats 8000000 in
theorem spicked_spec (s : Src) (l : List Prs) (hsu : suV s = true) (hl : l.length ≤ 1000000) : PCall Tryz.prog 78 [dSrc s, dPs l] fun r => r = dB (picksQ s l) := by 
 refine pcall_of Tryz.func78 rfl rfl Tryz.ntmps78 (rs := [.tmp 4]) (tys := [4]) rfl rfl (by simp) ?_
 have hbad := fun n (h : upTo (pickS s l) n = false) (hn : n ≤ l.length) => upTo_bad h l.length hn
 have hst := fun i p => @picks_step s l i p
 have hz : upTo (pickS s l) 0 = true := rfl
 unfold picksQ
 generalize upTo (pickS s l) = nt at *
 (refine awp_sr fun Y Yh=>?_;simp[go_sem];((repeat' (first|intro _|apply And.intro|(apply Yh;clear Yh Y)));all_goals first|apply Hold.mk|omega|assumption|skip))
 refine awp_frzbox 2 rfl rfl ?_
 simp only [go_sem]
 refine awp_seq_k fun K1 hK1 => ?_
 (refine awp_sr fun Y Yh=>?_;simp[go_sem];((repeat' (first|intro _|apply And.intro|(apply Yh;clear Yh Y)));all_goals first|apply Hold.mk|omega|assumption|skip))
 refine awp_block ?_
 refine awp_loop (σ := Nat) (fun i => ⟨[(1, dPs l), (2, .rd [dGms s]), (9, dPs l), (10, dI l.length), (11, dI i)], []⟩) (fun i => i ≤ l.length ∧ nt i = true) (fun i => l.length - i) 0 ?_ ?_ ?_
 ·(refine cov_of ?_ ?_ <;> simp[go_sem])
 ·exact ⟨by omega, hz⟩
 rintro i ⟨hi, hn⟩
 (refine awp_sr fun Y Yh=>?_;simp[go_sem];((repeat' (first|intro _|apply And.intro|(apply Yh;clear Yh Y)));all_goals first|apply Hold.mk|omega|assumption|skip))
 refine awp_seq_k fun K4 hK4 => ?_
 (refine awp_if fun T F hT hF=>?_;simp[go_sem];refine BR.intro (fun h5=>hT ?_) (fun h5=>hF ?_);all_goals clear hT hF T F;try simp at h5)
 ·refine awp_skip ?_
  refine hK4 _ ?_; clear hK4
  obtain ⟨x, hx⟩ : ∃ x, l[i]? = some x := ⟨_, List.getElem?_eq_getElem (by omega)⟩
  have V := sof_spec s x hsu
  have hst1 := hst i x hx hn
  have hbad1 := fun h => hbad (i + 1) h (by omega)
  generalize fndP s x = fp at *
  generalize (fndV s x).isSome = vb at *
  refine awp_seq_k fun K6 hK6 => ?_
  refine awp_block ?_
  (refine awp_sr fun Y Yh=>?_;simp[go_sem, hx];((repeat' (first|intro _|apply And.intro|(apply Yh;clear Yh Y)));all_goals first|apply Hold.mk|omega|assumption|skip))
  (refine awp_sr fun Y Yh=>?_;simp[go_sem];((repeat' (first|intro _|apply And.intro|(apply Yh;clear Yh Y)));all_goals first|apply Hold.mk|omega|assumption|skip))
  ((try refine CallT.toA ?_);refine callT_m (.inl ⟨rfl,rfl⟩) (by simp[go_sem]) ?_;intro args ha;simp[go_sem] at ha;subst ha;refine ⟨_, V, ?_⟩;rintro _ rfl;simp[go_sem];((repeat' (first|intro _|apply And.intro|(apply Yh;clear Yh Y)));all_goals first|apply Hold.mk|omega|assumption|skip))
  cases vb with
  | false =>
   have hF := hbad1 (by rw [hst1]; simp)
   ((refine awp_dr (.qs [0, 1, 2] (.sk 3 (.sk 4 (.sk 5 (.sk 6 (.sk 7 (.sk 8 (.sk 9 (.sk 10 (.sk 12 (.sk 11 (.sk 13 (.sk 14 (.sk 15 (.qs [16] (.nil)))))))))))))))) (by kernel_rfl) ?_ ?_ ?_ ?_);kernel_rfl;exact (by decide +kernel);kernel_rfl;intro Y Yh;((repeat' (first|refine adr_nil ?_|((first|refine adr_qs fun Y Yh=>?_|refine adr_y fun Y Yh=>?_);simp[go_sem, undef])|intro _|apply And.intro|(apply Yh;clear Yh Y)));all_goals first|apply Hold.mk|omega|assumption|skip))
   (refine awp_if fun T F hT hF=>?_;simp[go_sem];refine hT ?_;clear hT hF T F)
   (refine awp_sr fun Y Yh=>?_;simp[go_sem];((repeat' (first|intro _|apply And.intro|(apply Yh;clear Yh Y)));all_goals first|apply Hold.mk|omega|assumption|skip))
   (refine awp_ret ?_;simp[go_sem, hF])
  | true =>
   by_cases h0 : i = 0
   ·subst h0
    have hT : nt 1 = true := by rw [hst1]; simp
    ((refine awp_dr (.qs [0, 1, 2, 3, 4, 5] (.sk 6 (.sk 7 (.sk 8 (.sk 9 (.sk 10 (.sk 12 (.sk 11 (.sk 13 (.sk 14 (.qs [15, 16] (.nil)))))))))))) (by kernel_rfl) ?_ ?_ ?_ ?_);kernel_rfl;exact (by decide +kernel);kernel_rfl;intro Y Yh;((repeat' (first|refine adr_nil ?_|((first|refine adr_qs fun Y Yh=>?_|refine adr_y fun Y Yh=>?_);simp[go_sem, undef])|intro _|apply And.intro|(apply Yh;clear Yh Y)));all_goals first|apply Hold.mk|omega|assumption|skip))
    (refine awp_if fun T F hT hF=>?_;simp[go_sem];refine hF ?_;clear hT hF T F)
    refine awp_skip ?_
    refine hK6 _ ?_; clear hK6
    (refine awp_r fun Y Yh=>?_;simp[go_sem];((repeat' (first|intro _|apply And.intro|(apply Yh;clear Yh Y)));all_goals first|apply Hold.mk|omega|assumption|skip))
    refine ⟨1, ?_, ⟨by omega, hT⟩, by omega⟩
    (refine cov_of ?_ ?_ <;> simp[go_sem])
   ·obtain ⟨j, rfl⟩ : ∃ j, i = j + 1 := ⟨i - 1, by omega⟩
    obtain ⟨y, hy⟩ : ∃ y, l[j]? = some y := ⟨_, List.getElem?_eq_getElem (by omega)⟩
    have hi1 : ((j : Int) + 1 - 1).toNat = j := by omega
    have hi2 : (j : Int) + 1 - 1 = j := by omega
    have hi3 : ((j : Int) + 1).toNat = j + 1 := by omega
    have hpos : (0 : Int) < (j : Int) + 1 := by omega
    simp only [Nat.add_sub_cancel, hy] at hst1
    generalize hlb : Op.bytesLess y.1 x.1 = lb at *
    cases lb with
    | false =>
     have hF := hbad1 (by rw [hst1]; simp)
     ((refine awp_dr (.qs [0, 1, 2, 3, 4, 5, 6, 7, 8, 9, 10, 12, 11, 13, 14, 15, 16] (.nil)) (by kernel_rfl) ?_ ?_ ?_ ?_);kernel_rfl;exact (by decide +kernel);kernel_rfl;intro Y Yh;((repeat' (first|refine adr_nil ?_|((first|refine adr_qs fun Y Yh=>?_|refine adr_y fun Y Yh=>?_);simp[go_sem, hy, hi1, hi2, hi3, hpos, hlb])|intro _|apply And.intro|(apply Yh;clear Yh Y)));all_goals first|apply Hold.mk|omega|assumption|skip))
     (refine awp_if fun T F hT hF=>?_;simp[go_sem];refine hT ?_;clear hT hF T F)
     (refine awp_sr fun Y Yh=>?_;simp[go_sem];((repeat' (first|intro _|apply And.intro|(apply Yh;clear Yh Y)));all_goals first|apply Hold.mk|omega|assumption|skip))
     (refine awp_ret ?_;simp[go_sem, hF])
    | true =>
     have hT : nt (j + 1 + 1) = true := by rw [hst1]; simp
     ((refine awp_dr (.qs [0, 1, 2, 3, 4, 5, 6, 7, 8, 9, 10, 12, 11, 13, 14, 15, 16] (.nil)) (by kernel_rfl) ?_ ?_ ?_ ?_);kernel_rfl;exact (by decide +kernel);kernel_rfl;intro Y Yh;((repeat' (first|refine adr_nil ?_|((first|refine adr_qs fun Y Yh=>?_|refine adr_y fun Y Yh=>?_);simp[go_sem, hy, hi1, hi2, hi3, hpos, hlb])|intro _|apply And.intro|(apply Yh;clear Yh Y)));all_goals first|apply Hold.mk|omega|assumption|skip))
     (refine awp_if fun T F hT hF=>?_;simp[go_sem];refine hF ?_;clear hT hF T F)
     refine awp_skip ?_
     refine hK6 _ ?_; clear hK6
     (refine awp_r fun Y Yh=>?_;simp[go_sem];((repeat' (first|intro _|apply And.intro|(apply Yh;clear Yh Y)));all_goals first|apply Hold.mk|omega|assumption|skip))
     refine ⟨j + 1 + 1, ?_, ⟨by omega, hT⟩, by omega⟩
     (refine cov_of ?_ ?_ <;> simp[go_sem])
 ·refine awp_exit ?_
  simp only [go_sem]
  refine hK1 _ ?_; clear hK1
  have : i = l.length := by omega
  subst this
  (refine awp_sr fun Y Yh=>?_;simp[go_sem];((repeat' (first|intro _|apply And.intro|(apply Yh;clear Yh Y)));all_goals first|apply Hold.mk|omega|assumption|skip))
  (refine awp_ret ?_;simp[go_sem, hn])
theorem indexV_spec (l : List Vrs) (f : Nat) (caps : List D) (p : Vrs → Bool) (hp : ∀ x ∈ l, PCall Tryz.prog f (dVr x :: caps) fun r => r = dB (p x)) (hl : l.length ≤ 1000000) : PCall Tryz.prog 187 [dVrs l, .fn f caps] fun r => r = dI (fIx p l) := by
 refine pcall_of Tryz.func187 rfl rfl Tryz.ntmps187 (rs := [.tmp 4]) (tys := [3]) rfl rfl (by simp) ?_
 (refine awp_sr fun Y Yh=>?_;simp[go_sem];((repeat' (first|intro _|apply And.intro|(apply Yh;clear Yh Y)));all_goals first|apply Hold.mk|omega|assumption|skip))
 refine awp_seq_k fun K1 hK1 => ?_
 (refine awp_sr fun Y Yh=>?_;simp[go_sem];((repeat' (first|intro _|apply And.intro|(apply Yh;clear Yh Y)));all_goals first|apply Hold.mk|omega|assumption|skip))
 refine awp_block ?_
 refine awp_loop (σ := Nat) (fun i => ⟨[(0, dVrs l), (1, .fn f caps), (7, dI l.length), (8, dI i)], []⟩) (fun i => i ≤ l.length ∧ (l.take i).any p = false) (fun i => l.length - i) 0 (by (refine cov_of ?_ ?_ <;> simp[go_sem])) (by simp) ?_
 rintro i ⟨hi, hany⟩
 (refine awp_sr fun Y Yh=>?_;simp[go_sem];((repeat' (first|intro _|apply And.intro|(apply Yh;clear Yh Y)));all_goals first|apply Hold.mk|omega|assumption|skip))
 refine awp_seq_k fun K2 hK2 => ?_
 (refine awp_if fun T F hT hF=>?_;simp[go_sem];refine BR.intro (fun h3=>hT ?_) (fun h3=>hF ?_);all_goals clear hT hF T F;try simp at h3)
 ·refine awp_skip ?_
  refine hK2 _ ?_; clear hK2
  obtain ⟨x, hx⟩ : ∃ x, l[i]? = some x := ⟨_, List.getElem?_eq_getElem (by omega)⟩
  refine awp_seq_k fun K4 hK4 => ?_
  refine awp_block ?_
  (refine awp_sr fun Y Yh=>?_;simp[go_sem];((repeat' (first|intro _|apply And.intro|(apply Yh;clear Yh Y)));all_goals first|apply Hold.mk|omega|assumption|skip))
  (refine awp_sr fun Y Yh=>?_;simp[go_sem, hx];((repeat' (first|intro _|apply And.intro|(apply Yh;clear Yh Y)));all_goals first|apply Hold.mk|omega|assumption|skip))
  ((try refine CallT.toA ?_);refine callT_m (by first|exact .inl ⟨rfl,rfl⟩|exact .inr rfl) (by simp[go_sem]) ?_;intro args ha;simp[go_sem] at ha;subst ha;refine ⟨_, (hp x (List.mem_of_getElem? hx)), ?_⟩;rintro _ rfl;simp[go_sem];((repeat' (first|intro _|apply And.intro|(apply Yh;clear Yh Y)));all_goals first|apply Hold.mk|omega|assumption|skip))
  (refine awp_if fun T F hT hF=>?_;simp[go_sem];refine BR.intro (fun h5=>hT ?_) (fun h5=>hF ?_);all_goals clear hT hF T F;try simp at h5)
  ·(refine awp_sr fun Y Yh=>?_;simp[go_sem];((repeat' (first|intro _|apply And.intro|(apply Yh;clear Yh Y)));all_goals first|apply Hold.mk|omega|assumption|skip))
   (refine awp_ret ?_;simp[go_sem])
   rw [fIx_at hany hx h5]
  ·refine awp_skip ?_
   refine hK4 _ ?_; clear hK4
   (refine awp_r fun Y Yh=>?_;simp[go_sem];((repeat' (first|intro _|apply And.intro|(apply Yh;clear Yh Y)));all_goals first|apply Hold.mk|omega|assumption|skip))
   refine ⟨i + 1, ?_, ⟨by omega, take_anyG hany hx (by simp [h5])⟩, by omega⟩
   (refine cov_of ?_ ?_ <;> simp[go_sem])
 ·refine awp_exit ?_
  simp only [go_sem]
  refine hK1 _ ?_; clear hK1
  (refine awp_sr fun Y Yh=>?_;simp[go_sem];((repeat' (first|intro _|apply And.intro|(apply Yh;clear Yh Y)));all_goals first|apply Hold.mk|omega|assumption|skip))
  (refine awp_ret ?_;simp[go_sem])
  have : i = l.length := by omega
  subst this
  rw [List.take_length] at hany
  rw [fIx_none hany]
end Go.Proofs.YteekfnhhlcmcgaaGreatDoor
namespace Go.Lk
open Go.Ver
theorem pkd_idx {l : List Prs} (h : NumOk l) (n : Bs) : (l.any (fun p => decide (p.1 = n)) = false ∧ pkdV l n = []) ∨ ∃ p, l.any (fun p => decide (p.1 = n)) = true ∧ l[l.findIdx fun p => decide (p.1 = n)]? = some p ∧ pkdV l n = p.2 ∧ p.2 ≠ [] ∧ p.1 = n := by
 cases hf : l.find? (fun x => decide (x.1 = n)) with
 | none =>
  refine .inl ⟨?_, (pkd_none h).2 hf⟩
  rw [List.any_eq_false]
  intro x hx
  simpa using List.find?_eq_none.1 hf x hx
 | some p =>
  have hm := List.mem_of_find?_eq_some hf
  have hp := List.find?_some hf
  refine .inr ⟨p, by rw [List.any_eq_true]; exact ⟨p, hm, hp⟩, ?_, ?_, h p hm, by simpa using hp⟩
  ·clear hm h
   induction l with
   | nil => cases hf
   | cons x l ih =>
    rw [List.find?_cons] at hf
    rw [List.findIdx_cons]
    cases hx : decide (x.1 = n) with
    | true =>
     rw [hx] at hf
     simp only [cond_true]
     simpa using hf
    | false =>
     rw [hx] at hf
     simp only [cond_false, List.getElem?_cons_succ]
     exact ih hf
  ·unfold pkdV
   rw [hf]; rfl
end Go.Lk
namespace Go.Proofs.YteekfnhhlcmcgaaGreatDoor
open Go.Eng Go.Wh Go.Ver Go.Lk
set_option maxRecDepth 20000
attribute [local irreducible] AG CallA CallT AWp PCall ACall AgC
theorem nclone_own (nm : Nat) (l : List Prs) (hl : l.length ≤ 1000000) (h9 : 900000 ≤ nm) : ACall Tryz.prog 69 [dPs l] [] [nm] fun ps r => ∃ g, ps = [(g, .row 114 2 (l.map cP))] ∧ r = .own nm g := by 
 refine acall_of Tryz.func69 rfl rfl Tryz.ntmps69 (rs := [.tmp 2]) (tys := [38]) rfl rfl (by simp) (by simp) ?_
 cases l with
 | nil =>
  (refine awp_sr fun Y Yh=>?_;simp[go_sem];((repeat' (first|(refine ag_x ?_;simp[go_sem])|intro _|apply And.intro|(apply Yh;clear Yh Y)));all_goals first|apply Hold.mk|omega|assumption|skip))
  refine awp_seq_k fun K1 hK1 => ?_
  (refine awp_sr fun Y Yh=>?_;simp[go_sem];((repeat' (first|(refine ag_x ?_;simp[go_sem])|intro _|apply And.intro|(apply Yh;clear Yh Y)));all_goals first|apply Hold.mk|omega|assumption|skip))
  ·(refine awp_if fun T F hT hF=>?_;simp[go_sem];refine hF ?_;clear hT hF T F)
   refine awp_skip ?_
   refine hK1 _ ?_; clear hK1
   (refine awp_sr fun Y Yh=>?_;simp[go_sem];((repeat' (first|(refine ag_x ?_;simp[go_sem])|intro _|apply And.intro|(apply Yh;clear Yh Y)));all_goals first|apply Hold.mk|omega|assumption|skip))
   refine awp_renrow 2 nm rfl rfl (fun _ => h9) fun g => ?_
   simp only [go_sem]
   refine awp_ret ?_
   simp [go_sem]
  ·(refine awp_if fun T F hT hF=>?_;simp[go_sem];refine hT ?_;clear hT hF T F)
   (refine awp_sr fun Y Yh=>?_;simp[go_sem];((repeat' (first|(refine ag_x ?_;simp[go_sem])|intro _|apply And.intro|(apply Yh;clear Yh Y)));all_goals first|apply Hold.mk|omega|assumption|skip))
   refine awp_nilslot 2 nm 114 2 rfl fun g => ?_
   simp only [go_sem]
   refine awp_ret ?_
   simp [go_sem]
 | cons x r =>
  simp only [List.length_cons] at hl
  (refine awp_sr fun Y Yh=>?_;simp[go_sem];((repeat' (first|(refine ag_x ?_;simp[go_sem])|intro _|apply And.intro|(apply Yh;clear Yh Y)));all_goals first|apply Hold.mk|omega|assumption|skip))
  refine awp_seq_k fun K1 hK1 => ?_
  (refine awp_sr fun Y Yh=>?_;simp[go_sem];((repeat' (first|(refine ag_x ?_;simp[go_sem])|intro _|apply And.intro|(apply Yh;clear Yh Y)));all_goals first|apply Hold.mk|omega|assumption|skip))
  refine awp_if fun T F hT hF => ?_
  simp [go_sem]
  refine hF ?_
  refine awp_skip ?_
  refine hK1 _ ?_; clear hK1
  (refine awp_sr fun Y Yh=>?_;simp[go_sem];((repeat' (first|(refine ag_x ?_;simp[go_sem])|intro _|apply And.intro|(apply Yh;clear Yh Y)));all_goals first|apply Hold.mk|omega|assumption|skip))
  refine awp_renrow 2 nm rfl rfl (fun _ => h9) fun g => ?_
  simp only [go_sem]
  refine awp_ret ?_
  simp [go_sem]
theorem fndP_len {s : Src} (hsu : suV s = true) (p : Prs) : (fndP s p).2.length ≤ 6 := by
 unfold fndP
 cases h : fndV s p with
 | none => simp
 | some v =>
  obtain ⟨g, a, b, c, d⟩ := fndV_mem h
  exact (nuV_parts ((vuV_parts ((suV_parts hsu).2 g a).2).2 v c).2).1
theorem allN_len6 {s : Src} (hsu : suV s = true) (w : List Prs) : ∀ l : List Prs, (allN s w l).length ≤ w.length + l.length * 6
 | [] => by simp [allN]
 | p :: l => by
  have ih := allN_len6 hsu w l
  have hp := fndP_len hsu p
  unfold allN at ih ⊢
  simp only [List.length_append, List.flatMap_cons, List.length_cons] at ih ⊢
  omega
set_option maxHeartbeats 8000000 in
theorem sall_spec (s : Src) (w l : List Prs) (hsu : suV s = true) (hw : w.length ≤ 1000000) (hl : l.length ≤ 1000000) : PCall Tryz.prog 90 [dSrc s, dPs w, dPs l] fun r => r = dPs (allN s w l) := by 
 refine pcall_of Tryz.func90 rfl rfl Tryz.ntmps90 (rs := [.tmp 6]) (tys := [38]) rfl rfl (by simp) ?_
 have hst := fun i p => @allN_step s w l i p
 have h0 : allN s w (l.take 0) = w := allN_nil s w
 have hall : allN s w (l.take l.length) = allN s w l := by rw [List.take_length]
 have hlen := fun i => allN_len6 hsu w (l.take i)
 obtain ⟨F, hF⟩ : ∃ F : Nat → List Prs, ∀ i, allN s w (l.take i) = F i := ⟨_, fun _ => rfl⟩
 simp only [hF] at hst h0 hall hlen
 rw [← hall]
 clear hF hall
 (refine awp_sr fun Y Yh=>?_;simp[go_sem];((repeat' (first|(refine ag_x ?_;simp[go_sem])|intro _|apply And.intro|(apply Yh;clear Yh Y)));all_goals first|apply Hold.mk|omega|assumption|skip))
 refine awp_frzbox 3 rfl rfl ?_
 simp only [go_sem]
 (refine awp_sr fun Y Yh=>?_;simp[go_sem];((repeat' (first|(refine ag_x ?_;simp[go_sem])|intro _|apply And.intro|(apply Yh;clear Yh Y)));all_goals first|apply Hold.mk|omega|assumption|skip))
 (refine callA_l [900012] (.inl ⟨rfl,rfl⟩) (by simp[go_sem]) ?_;intro args ha;simp[go_sem] at ha;subst ha;refine ⟨_, _, (nclone_own 900012 w hw (by decide)), (by simp[go_sem]), ?_⟩;rintro ps r hps ⟨g0, rfl, rfl⟩;simp[go_sem];((repeat' (first|(refine ag_x ?_;simp[go_sem])|intro _|apply And.intro|(apply Yh;clear Yh Y)));all_goals first|apply Hold.mk|omega|assumption|skip))
 refine awp_seq_k fun K1 hK1 => ?_
 (refine awp_sr fun Y Yh=>?_;simp[go_sem];((repeat' (first|(refine ag_x ?_;simp[go_sem])|intro _|apply And.intro|(apply Yh;clear Yh Y)));all_goals first|apply Hold.mk|omega|assumption|skip))
 refine awp_block ?_
 refine awp_loop (σ := Nat × Nat) (fun x => ⟨[(3, .rd [dGms s]), (7, .own 900012 x.2), (14, dPs l), (15, dI l.length), (16, dI x.1)], [(900012, (x.2, .row 114 2 ((F x.1).map cP)))]⟩) (fun x => x.1 ≤ l.length) (fun x => l.length - x.1) (0, g0) ?_ ?_ ?_
 ·(refine cov_of ?_ ?_ <;> simp[go_sem, h0])
 ·simp
 rintro ⟨i, g⟩ hi
 simp only at hi
 (refine awp_sr fun Y Yh=>?_;simp[go_sem];((repeat' (first|(refine ag_x ?_;simp[go_sem])|intro _|apply And.intro|(apply Yh;clear Yh Y)));all_goals first|apply Hold.mk|omega|assumption|skip))
 refine awp_seq_k fun K2 hK2 => ?_
 (refine awp_if fun T F hT hF=>?_;simp[go_sem];refine BR.intro (fun h3=>hT ?_) (fun h3=>hF ?_);all_goals clear hT hF T F;try simp at h3)
 ·refine awp_skip ?_
  refine hK2 _ ?_; clear hK2
  obtain ⟨p, hp⟩ : ∃ p, l[i]? = some p := ⟨_, List.getElem?_eq_getElem (by omega)⟩
  have hst1 := hst i p hp
  have hl1 := hlen i
  have hl2 : (l.take i).length ≤ l.length := by simp; omega
  have V := sof_spec s p hsu
  have hpl := fndP_len hsu p
  generalize fndP s p = fp at *
  generalize (fndV s p).isSome = vb at *
  refine awp_seq_k fun K4 hK4 => ?_
  refine awp_block ?_
  (refine awp_sr fun Y Yh=>?_;simp[go_sem, hp];((repeat' (first|(refine ag_x ?_;simp[go_sem, hp])|intro _|apply And.intro|(apply Yh;clear Yh Y)));all_goals first|apply Hold.mk|omega|assumption|skip))
  (refine awp_sr fun Y Yh=>?_;simp[go_sem];((repeat' (first|(refine ag_x ?_;simp[go_sem])|intro _|apply And.intro|(apply Yh;clear Yh Y)));all_goals first|apply Hold.mk|omega|assumption|skip))
  ((try refine CallT.toA ?_);refine callT_m (.inl ⟨rfl,rfl⟩) (by simp[go_sem]) ?_;intro args ha;simp[go_sem] at ha;subst ha;refine ⟨_, V, ?_⟩;rintro _ rfl;simp[go_sem];((repeat' (first|(refine ag_x ?_;simp[go_sem])|intro _|apply And.intro|(apply Yh;clear Yh Y)));all_goals first|apply Hold.mk|omega|assumption|skip))
  (refine awp_r fun Y Yh=>?_;simp[go_sem];((repeat' (first|(refine ag_x ?_;simp[go_sem])|intro _|apply And.intro|(apply Yh;clear Yh Y)));all_goals first|apply Hold.mk|omega|assumption|skip))
  rename_i g1 g2
  refine hK4 _ ?_; clear hK4
  (refine awp_r fun Y Yh=>?_;simp[go_sem];((repeat' (first|(refine ag_x ?_;simp[go_sem])|intro _|apply And.intro|(apply Yh;clear Yh Y)));all_goals first|apply Hold.mk|omega|assumption|skip))
  refine ⟨(i + 1, g2), ?_, by simp only; omega, by simp only; omega⟩
  simp only [hst1]
  (refine cov_of ?_ ?_ <;> simp[go_sem])
 ·refine awp_exit ?_
  simp only [go_sem]
  refine hK1 _ ?_; clear hK1
  have : i = l.length := by omega
  subst this
  (refine awp_sr fun Y Yh=>?_;simp[go_sem];((repeat' (first|(refine ag_x ?_;simp[go_sem])|intro _|apply And.intro|(apply Yh;clear Yh Y)));all_goals first|apply Hold.mk|omega|assumption|skip))
  refine awp_frzrow 6 rfl rfl ?_
  simp only [go_sem]
  (refine awp_ret ?_;simp[go_sem])
theorem missing1_spec (p n : Prs) : PCall Tryz.prog 131 [dP p, .rd [dS n.1, dS n.2]] fun r => r = dB (decide (p.1 = n.1)) := by 
 refine pcall_of Tryz.func131 rfl rfl Tryz.ntmps131 (rs := [.tmp 3]) (tys := [4]) rfl rfl (by simp) ?_
 (refine awp_sr fun Y Yh=>?_;simp[go_sem];((repeat' (first|(refine ag_x ?_;simp[go_sem])|intro _|apply And.intro|(apply Yh;clear Yh Y)));all_goals first|apply Hold.mk|omega|assumption|skip))
 (refine awp_sr fun Y Yh=>?_;simp[go_sem];((repeat' (first|(refine ag_x ?_;simp[go_sem])|intro _|apply And.intro|(apply Yh;clear Yh Y)));all_goals first|apply Hold.mk|omega|assumption|skip))
 (refine awp_ret ?_;simp[go_sem])
 by_cases h : p.1 = n.1 <;> simp [h]
set_option maxHeartbeats 8000000 in
theorem missing_spec (all l : List Prs) (hal : all.length ≤ 100000000) (ha : ∀ x ∈ all, Sz1 x) (hl : l.length ≤ 1000000) (hlz : ∀ x ∈ l, Sz1 x) (hno : NumOk l) : PCall Tryz.prog 89 [dPs all, dPs l] fun r => r = dPs (lackV all l) := by 
 refine pcall_of Tryz.func89 rfl rfl Tryz.ntmps89 (rs := [.tmp 4]) (tys := [38]) rfl rfl (by simp) ?_
 have hst := fun i n => @lack_step all l i n
 have h0 : lackV (all.take 0) l = [] := rfl
 have hall : lackV (all.take all.length) l = lackV all l := by rw [List.take_length]
 have hlen := fun i => lack_len (all.take i) l
 obtain ⟨F, hF⟩ : ∃ F : Nat → List Prs, ∀ i, lackV (all.take i) l = F i := ⟨_, fun _ => rfl⟩
 simp only [hF] at hst h0 hall hlen
 rw [← hall]
 clear hF hall
 (refine awp_sr fun Y Yh=>?_;simp[go_sem];((repeat' (first|(refine ag_x ?_;simp[go_sem])|intro _|apply And.intro|(apply Yh;clear Yh Y)));all_goals first|apply Hold.mk|omega|assumption|skip))
 (refine awp_sr fun Y Yh=>?_;simp[go_sem];((repeat' (first|(refine ag_x ?_;simp[go_sem])|intro _|apply And.intro|(apply Yh;clear Yh Y)));all_goals first|apply Hold.mk|omega|assumption|skip))
 refine awp_nilslot 5 900013 114 2 rfl fun g5 => ?_
 simp only [go_sem]
 refine awp_seq_k fun K1 hK1 => ?_
 (refine awp_sr fun Y Yh=>?_;simp[go_sem];((repeat' (first|(refine ag_x ?_;simp[go_sem])|intro _|apply And.intro|(apply Yh;clear Yh Y)));all_goals first|apply Hold.mk|omega|assumption|skip))
 refine awp_block ?_
 refine awp_loop (σ := Nat × Nat) (fun x => ⟨[(1, dPs l), (5, .own 900013 x.2), (9, dPs all), (10, dI all.length), (11, dI x.1)], [(900013, (x.2, .row 114 2 ((F x.1).map cP)))]⟩) (fun x => x.1 ≤ all.length) (fun x => all.length - x.1) (0, g5) ?_ ?_ ?_
 ·(refine cov_of ?_ ?_ <;> simp[go_sem, h0])
 ·simp
 rintro ⟨i, g⟩ hi
 simp only at hi
 (refine awp_sr fun Y Yh=>?_;simp[go_sem];((repeat' (first|(refine ag_x ?_;simp[go_sem])|intro _|apply And.intro|(apply Yh;clear Yh Y)));all_goals first|apply Hold.mk|omega|assumption|skip))
 refine awp_seq_k fun K2 hK2 => ?_
 (refine awp_if fun T F hT hF=>?_;simp[go_sem];refine BR.intro (fun h3=>hT ?_) (fun h3=>hF ?_);all_goals clear hT hF T F;try simp at h3)
 ·refine awp_skip ?_
  refine hK2 _ ?_; clear hK2
  obtain ⟨n, hn⟩ : ∃ n, all[i]? = some n := ⟨_, List.getElem?_eq_getElem (by omega)⟩
  have hst1 := hst i n hn
  have hl1 := hlen i
  have hl2 : (all.take i).length ≤ all.length := by simp; omega
  have hnz := (ha n (List.mem_of_getElem? hn)).2
  have IX := indexP_spec l 131 [.rd [dS n.1, dS n.2]] (fun p => decide (p.1 = n.1)) (fun p _ => missing1_spec p n) hl
  refine awp_seq_k fun K4 hK4 => ?_
  have tl4 : ∀ S' g', Cov S' ⟨[(1, dPs l), (5, .own 900013 g'), (9, dPs all), (10, dI all.length), (11, dI i)], [(900013, (g', .row 114 2 ((F (i + 1)).map cP)))]⟩ → K4 S' := fun S' g' hS => by
   refine hK4 _ ?_; clear hK4
   refine awp_cov hS ?_; clear hS
   (refine awp_r fun Y Yh=>?_;simp[go_sem];((repeat' (first|(refine ag_x ?_;simp[go_sem])|intro _|apply And.intro|(apply Yh;clear Yh Y)));all_goals first|apply Hold.mk|omega|assumption|skip))
   refine ⟨(i + 1, g'), ?_, by simp only; omega, by simp only; omega⟩
   (refine cov_of ?_ ?_ <;> simp[go_sem])
  clear hK4
  refine awp_block ?_
  rcases pkd_idx hno n.1 with ⟨q1, q2⟩ | ⟨p, q1, q2, q3, q4, q5⟩
  ·have hlk : lackN l n = true := by unfold lackN; simp [q2]
   rw [if_pos hlk] at hst1
   have hfx : fIx (fun p : Prs => decide (p.1 = n.1)) l = -1 := fIx_none q1
   rw [hfx] at IX
   (refine awp_sr fun Y Yh=>?_;simp[go_sem, hn];((repeat' (first|(refine ag_x ?_;simp[go_sem, hn])|intro _|apply And.intro|(apply Yh;clear Yh Y)));all_goals first|apply Hold.mk|omega|assumption|skip))
   (refine awp_sr fun Y Yh=>?_;simp[go_sem];((repeat' (first|(refine ag_x ?_;simp[go_sem])|intro _|apply And.intro|(apply Yh;clear Yh Y)));all_goals first|apply Hold.mk|omega|assumption|skip))
   ((try refine CallT.toA ?_);refine callT_f (.inl ⟨rfl,rfl⟩) ?_;intro args ha;simp[go_sem] at ha;subst ha;refine ⟨_, IX, ?_⟩;rintro _ rfl;refine ⟨rfl, ?_⟩;simp[go_sem];((repeat' (first|(refine ag_x ?_;simp[go_sem])|intro _|apply And.intro|(apply Yh;clear Yh Y)));all_goals first|apply Hold.mk|omega|assumption|skip))
   ((refine awp_dr (.qs [0, 1, 2] (.sk 3 (.sk 4 (.sk 5 (.sk 6 (.sk 8 (.sk 7 (.sk 9 (.sk 10 (.sk 11 (.qs [12] (.nil)))))))))))) (by kernel_rfl) ?_ ?_ ?_ ?_);kernel_rfl;exact (by decide +kernel);kernel_rfl;intro Y Yh;((repeat' (first|(refine ag_x ?_;simp[go_sem, undef])|refine adr_nil ?_|((first|refine adr_qs fun Y Yh=>?_|refine adr_y fun Y Yh=>?_);simp[go_sem, undef])|intro _|apply And.intro|(apply Yh;clear Yh Y)));all_goals first|apply Hold.mk|omega|assumption|skip))
   (refine awp_if fun T F hT hF=>?_;simp[go_sem];refine hT ?_;clear hT hF T F)
   (refine awp_r fun Y Yh=>?_;simp[go_sem];((repeat' (first|(refine ag_x ?_;simp[go_sem])|intro _|apply And.intro|(apply Yh;clear Yh Y)));all_goals first|apply Hold.mk|omega|assumption|skip))
   rename_i g1 g2
   refine tl4 _ g2 ?_
   rw [hst1]
   (refine cov_of ?_ ?_ <;> simp[go_sem])
  ·have hfx : fIx (fun p : Prs => decide (p.1 = n.1)) l = ((l.findIdx fun p => decide (p.1 = n.1) : Nat) : Int) := by unfold fIx; rw [if_pos q1]
   rw [hfx] at IX
   generalize l.findIdx (fun p => decide (p.1 = n.1)) = k at *
   have hkl := (List.getElem?_eq_some_iff.1 q2).1
   have M := smeets_spec p.2 n.2 (hlz p (List.mem_of_getElem? q2)).2 hnz
   have hlk : lackN l n = !meetsP p.2 n.2 := by unfold lackN; rw [q3]; simp [q4]
   rw [hlk] at hst1
   generalize meetsP p.2 n.2 = mb at *
   have hk0 : ¬ ((k : Int) < 0) := by omega
   (refine awp_sr fun Y Yh=>?_;simp[go_sem, hn];((repeat' (first|(refine ag_x ?_;simp[go_sem, hn])|intro _|apply And.intro|(apply Yh;clear Yh Y)));all_goals first|apply Hold.mk|omega|assumption|skip))
   (refine awp_sr fun Y Yh=>?_;simp[go_sem];((repeat' (first|(refine ag_x ?_;simp[go_sem])|intro _|apply And.intro|(apply Yh;clear Yh Y)));all_goals first|apply Hold.mk|omega|assumption|skip))
   ((try refine CallT.toA ?_);refine callT_f (.inl ⟨rfl,rfl⟩) ?_;intro args ha;simp[go_sem] at ha;subst ha;refine ⟨_, IX, ?_⟩;rintro _ rfl;refine ⟨rfl, ?_⟩;simp[go_sem];((repeat' (first|(refine ag_x ?_;simp[go_sem])|intro _|apply And.intro|(apply Yh;clear Yh Y)));all_goals first|apply Hold.mk|omega|assumption|skip))
   ((refine awp_dr (.qs [0, 1, 2, 3, 4, 5, 6, 8, 7, 9] (.one 10 (.qs [11, 12] (.nil)))) (by kernel_rfl) ?_ ?_ ?_ ?_);kernel_rfl;exact (by decide +kernel);kernel_rfl;intro Y Yh;((repeat' (first|(refine ag_x ?_;simp[go_sem, hk0, q2])|refine adr_nil ?_|((first|refine adr_qs fun Y Yh=>?_|refine adr_y fun Y Yh=>?_);simp[go_sem, hk0, q2])|intro _|apply And.intro|(apply Yh;clear Yh Y)));all_goals first|apply Hold.mk|omega|assumption|skip))
   (refine agc_f (dB mb) (.inl ⟨rfl,rfl⟩) ?_ rfl ?_;(intro hc args ha;simp[go_sem] at ha;subst ha;exact M);simp[go_sem, hk0, q2];((repeat' (first|(refine ag_x ?_;simp[go_sem, hk0, q2])|refine adr_nil ?_|((first|refine adr_qs fun Y Yh=>?_|refine adr_y fun Y Yh=>?_);simp[go_sem, hk0, q2])|intro _|apply And.intro|(apply Yh;clear Yh Y)));all_goals first|apply Hold.mk|omega|assumption|skip))
   cases mb with
   | false =>
    (refine awp_if fun T F hT hF=>?_;simp[go_sem];refine hT ?_;clear hT hF T F)
    (refine awp_r fun Y Yh=>?_;simp[go_sem];((repeat' (first|(refine ag_x ?_;simp[go_sem])|intro _|apply And.intro|(apply Yh;clear Yh Y)));all_goals first|apply Hold.mk|omega|assumption|skip))
    rename_i g1 g2
    refine tl4 _ g2 ?_
    rw [hst1]
    (refine cov_of ?_ ?_ <;> simp[go_sem])
   | true =>
    (refine awp_if fun T F hT hF=>?_;simp[go_sem];refine hF ?_;clear hT hF T F)
    refine awp_skip ?_
    refine tl4 _ g ?_
    rw [hst1]
    (refine cov_of ?_ ?_ <;> simp[go_sem])
 ·refine awp_exit ?_
  simp only [go_sem]
  refine hK1 _ ?_; clear hK1
  have : i = all.length := by omega
  subst this
  (refine awp_sr fun Y Yh=>?_;simp[go_sem];((repeat' (first|(refine ag_x ?_;simp[go_sem])|intro _|apply And.intro|(apply Yh;clear Yh Y)));all_goals first|apply Hold.mk|omega|assumption|skip))
  refine awp_frzrow 4 rfl rfl ?_
  simp only [go_sem]
  (refine awp_ret ?_;simp[go_sem])
end Go.Proofs.YteekfnhhlcmcgaaGreatDoor
set_option linter.unusedSectionVars false
namespace Go.Eng
variable {P : Program} [HasGlob P]
end Go.Eng
