/- Part of a proof: see the last text. -/
import Derived.Test.YtjdccagkafnbfaaGreatDoorVC
import Derived.Test.YtjdccagkafnbfaaGreatDoorMC
set_option linter.unusedVariables false
set_option linter.unusedSimpArgs false
namespace Go.Proofs.YtjdccagkafnbfaaGreatDoor
open Go.Eng Go.Wh Go.Ver
set_option maxRecDepth 20000
set_option linter.unusedSimpArgs false
set_option linter.unusedVariables false
attribute [local irreducible] AG CallA CallT AWp PCall ACall AgC
@[go_sem] abbrev dF (f : Nat) : D := .v (.func (.func f) #[] #[])
/-- a row of texts that is lent -/
abbrev lent (g : Nat) (m : List (List UInt8)) : List (Nat × (Nat × Blk)) := [(900000, (g, .row 9 1 (m.map cS)))]
theorem swapRange_spec {A U M V B m : List (List UInt8)} {pa pb pn : Int} (f g : Nat) (hm : m = A ++ (U ++ (M ++ (V ++ B)))) (ha : pa = A.length) (hb : pb = A.length + U.length + M.length) (hn : pn = U.length) (huv : U.length = V.length) (hl : m.length ≤ 4611686018427387904) :
    ACall Tryz.prog 142 [.own 900000 g, dI pa, dI pb, dI pn, dF f] (lent g m) [900000] fun ps r => ps = [(g, .row 9 1 ((A ++ (V ++ (M ++ (U ++ B)))).map cS))] ∧ r = .tup [] := by 
  refine acall_of Tryz.func142 rfl rfl Tryz.ntmps142 (rs := []) (tys := []) rfl rfl (by simp) ?_ ?_
  · intro p hp
    simp only [List.mem_cons, List.mem_nil_iff, or_false] at hp
    subst hp; simp [notFroz]
  subst ha hb hn
  have hlen : ∀ i, (swI A U M V B i).length = m.length := fun i => by rw [swI_len, hm]
  have hml : m.length = A.length + (U.length + (M.length + (V.length + B.length))) := by rw [hm]; simp
  have h0 := swI_zero A U M V B
  have hend := swI_all (A := A) (M := M) (B := B) huv
  have hst := fun i (hi : i < U.length) => swI_step (A := A) (M := M) (B := B) huv hi
  rw [← hm] at h0
  rw [← hend]
  (refine awp_sr fun KK hKK => ?_; simp [go_sem]; ((repeat' (first|(refine ag_x ?_;simp [go_sem])|intro _|refine And.intro ?_ ?_|(apply hKK;clear hKK KK)));all_goals first|refine Hold.mk ?_|omega|with_reducible assumption|(simp only [InR] at *;omega)|skip))
  refine awp_block ?_
  refine awp_loop (σ := Nat) (fun i => ⟨[(0, .own 900000 g), (1, dI A.length), (2, dI (A.length + U.length + M.length)), (3, dI U.length), (10, dI i)], [(900000, (g, .row 9 1 ((swI A U M V B i).map cS)))]⟩) (fun i => i ≤ U.length) (fun i => U.length - i) 0 ?_ ?_ ?_
  · rw [h0]
    (refine cov_of ?_ ?_ <;> simp [go_sem])
  · omega
  intro i hi
  refine awp_seq_k fun K1 hK1 => ?_
  (refine awp_sr fun KK hKK => ?_; simp [go_sem]; ((repeat' (first|(refine ag_x ?_;simp [go_sem])|intro _|refine And.intro ?_ ?_|(apply hKK;clear hKK KK)));all_goals first|refine Hold.mk ?_|omega|with_reducible assumption|(simp only [InR] at *;omega)|skip))
  (refine awp_if fun T F hT hF => ?_; simp [go_sem]; refine BR.intro (fun h2 => hT ?_) (fun h2 => hF ?_); all_goals clear hT hF T F; try simp at h2) 
  · refine awp_skip ?_
    refine hK1 _ ?_; clear hK1
    obtain ⟨x, y, hx, hy, hs⟩ := hst i (by omega)
    have hl1 := hlen i
    generalize swI A U M V B i = k at *
    refine awp_seq_k fun K3 hK3 => ?_
    refine awp_block ?_
    have e1 : ((A.length : Int) + i).toNat = A.length + i := by omega
    have e2 : ((A.length : Int) + U.length + M.length + i).toNat = A.length + U.length + M.length + i := by omega
    have hx2 : ((k.map cS).set (A.length + i) (cS y))[A.length + U.length + M.length + i]? = some (cS y) := by rw [List.getElem?_set_ne (by omega)]; simp [hy]
    ((refine awp_d (.qs [0, 1, 2, 3, 4, 5, 6, 7, 8, 9, 10, 11, 12, 14, 15, 16, 17, 18, 13, 19, 20] (.one 21 (.qs [22] (.one 23 (.nil))))) (by kernel_rfl) ?_ ?_ ?_ ?_); (kernel_rfl); (exact (by decide +kernel)); (kernel_rfl); intro KK hKK; ((repeat' (first|(refine ag_x ?_;simp [go_sem, e1, e2, hx, hy, hx2])|refine adr_nil ?_|refine adr_two ?_ ?_|refine adr_kq ?_ ?_|refine adr_three ?_ ?_ ?_|refine adr_four ?_ ?_ ?_ ?_|refine adr_kp2 ?_ ?_|refine adr_kp3 ?_ ?_ ?_|((first|refine adr_qs fun KK hKK=>?_|refine adr_y fun KK hKK=>?_);simp [go_sem, e1, e2, hx, hy, hx2])|intro _|refine And.intro ?_ ?_|(apply hKK;clear hKK KK)));all_goals first|refine Hold.mk ?_|omega|with_reducible assumption|(simp only [InR] at *;omega)|skip))
    refine hK3 _ ?_; clear hK3
    (refine awp_r fun KK hKK => ?_; simp [go_sem]; ((repeat' (first|(refine ag_x ?_;simp [go_sem])|intro _|refine And.intro ?_ ?_|(apply hKK;clear hKK KK)));all_goals first|refine Hold.mk ?_|omega|with_reducible assumption|(simp only [InR] at *;omega)|skip))
    refine ⟨i + 1, ?_, by omega, by omega⟩
    rw [← hs]
    (refine cov_of ?_ ?_ <;> simp [go_sem, List.map_set])
  · refine awp_exit ?_
    simp only [go_sem]
    have : i = U.length := by omega
    subst this
    simp [go_sem]
theorem rotate_spec {A U V B m : List (List UInt8)} {pa pm pb : Int} (f g : Nat) (hm : m = A ++ (U ++ (V ++ B))) (ha : pa = A.length) (hpm : pm = A.length + U.length) (hb : pb = A.length + U.length + V.length) (hu : 0 < U.length) (hv : 0 < V.length) (hl : m.length ≤ 4611686018427387904) :
    ACall Tryz.prog 119 [.own 900000 g, dI pa, dI pm, dI pb, dF f] (lent g m) [900000] fun ps r => ps = [(g, .row 9 1 ((A ++ (V ++ (U ++ B))).map cS))] ∧ r = .tup [] := by 
  refine acall_of Tryz.func119 rfl rfl Tryz.ntmps119 (rs := []) (tys := []) rfl rfl (by simp) ?_ ?_
  · intro p hp
    simp only [List.mem_cons, List.mem_nil_iff, or_false] at hp
    subst hp; simp [notFroz]
  subst ha hb
  generalize hT : A ++ (V ++ (U ++ B)) = T
  have hml : m.length = A.length + (U.length + (V.length + B.length)) := by rw [hm]; simp
  (refine awp_sr fun KK hKK => ?_; simp [go_sem]; ((repeat' (first|(refine ag_x ?_;simp [go_sem])|intro _|refine And.intro ?_ ?_|(apply hKK;clear hKK KK)));all_goals first|refine Hold.mk ?_|omega|with_reducible assumption|(simp only [InR] at *;omega)|skip))
  (refine awp_sr fun KK hKK => ?_; simp [go_sem]; ((repeat' (first|(refine ag_x ?_;simp [go_sem])|intro _|refine And.intro ?_ ?_|(apply hKK;clear hKK KK)));all_goals first|refine Hold.mk ?_|omega|with_reducible assumption|(simp only [InR] at *;omega)|skip))
  refine awp_seq_k fun K1 hK1 => ?_
  refine awp_block ?_
  refine awp_loop (σ := List (List UInt8) × List (List UInt8) × List (List UInt8) × List (List UInt8) × List (List UInt8)) (fun x => ⟨[(0, .own 900000 g), (2, dI pm), (4, dF f), (10, dI x.2.2.1.length), (11, dI x.2.2.2.1.length)], [(900000, (g, .row 9 1 (x.1.map cS)))]⟩)
    (fun x => x.1 = x.2.1 ++ (x.2.2.1 ++ (x.2.2.2.1 ++ x.2.2.2.2)) ∧ T = x.2.1 ++ (x.2.2.2.1 ++ (x.2.2.1 ++ x.2.2.2.2)) ∧ pm = x.2.1.length + x.2.2.1.length ∧ 0 < x.2.2.1.length ∧ 0 < x.2.2.2.1.length ∧ x.1.length = m.length) (fun x => x.2.2.1.length + x.2.2.2.1.length) (m, A, U, V, B) ?_ ?_ ?_
  · (refine cov_of ?_ ?_ <;> simp [go_sem])
    constructor <;> omega
  · exact ⟨hm, hT.symm, hpm, hu, hv, rfl⟩
  clear hT hm hml hpm hu hv
  rintro ⟨m', A', U', V', B'⟩ ⟨h1, h2, h3, h4, h5, h6⟩
  simp only at h1 h2 h3 h4 h5 h6
  have hml : m'.length = A'.length + (U'.length + (V'.length + B'.length)) := by rw [h1]; simp
  refine awp_seq_k fun K2 hK2 => ?_
  (refine awp_sr fun KK hKK => ?_; simp [go_sem]; ((repeat' (first|(refine ag_x ?_;simp [go_sem])|intro _|refine And.intro ?_ ?_|(apply hKK;clear hKK KK)));all_goals first|refine Hold.mk ?_|omega|with_reducible assumption|(simp only [InR] at *;omega)|skip))
  (refine awp_if fun T F hT hF => ?_; simp [go_sem]; refine BR.intro (fun h7 => hT ?_) (fun h7 => hF ?_); all_goals clear hT hF T F; try simp at h7) 
  · refine awp_skip ?_
    refine hK2 _ ?_; clear hK2
    refine awp_block ?_
    (refine awp_sr fun KK hKK => ?_; simp [go_sem]; ((repeat' (first|(refine ag_x ?_;simp [go_sem])|intro _|refine And.intro ?_ ?_|(apply hKK;clear hKK KK)));all_goals first|refine Hold.mk ?_|omega|with_reducible assumption|(simp only [InR] at *;omega)|skip))
    (refine awp_if fun T F hT hF => ?_; simp [go_sem]; refine BR.intro (fun h8 => hT ?_) (fun h8 => hF ?_); all_goals clear hT hF T F; try simp at h8) 
    · have e : U' = U'.take V'.length ++ U'.drop V'.length := (List.take_append_drop _ _).symm
      have l1 : (U'.take V'.length).length = V'.length := by simp; omega
      have l2 : (U'.drop V'.length).length = U'.length - V'.length := by simp
      have lu : U'.length = (U'.take V'.length).length + (U'.drop V'.length).length := by omega
      generalize U'.take V'.length = U1 at *
      generalize U'.drop V'.length = U2 at *
      have S := swapRange_spec (A := A') (U := U1) (M := U2) (V := V') (B := B') (m := m') (pa := pm - U'.length) (pb := pm) (pn := V'.length) f g (by rw [h1, e]; simp) (by omega) (by omega) (by omega) l1 (by omega)
      (refine awp_sr fun KK hKK => ?_; simp [go_sem]; ((repeat' (first|(refine ag_x ?_;simp [go_sem])|intro _|refine And.intro ?_ ?_|(apply hKK;clear hKK KK)));all_goals first|refine Hold.mk ?_|omega|with_reducible assumption|(simp only [InR] at *;omega)|skip))
      (refine callA_l [900000] (by first | exact .inl ⟨rfl, rfl⟩ | exact .inr rfl) (by simp [go_sem]) ?_; intro args ha; simp [go_sem] at ha; subst ha; refine ⟨_, _, S, (by simp [go_sem]), ?_⟩; rintro ps r hps ⟨rfl, rfl⟩; simp [go_sem]; ((repeat' (first|(refine ag_x ?_;simp [go_sem])|intro _|refine And.intro ?_ ?_|(apply hKK;clear hKK KK)));all_goals first|refine Hold.mk ?_|omega|with_reducible assumption|(simp only [InR] at *;omega)|skip))
      (refine awp_r fun KK hKK => ?_; simp [go_sem]; ((repeat' (first|(refine ag_x ?_;simp [go_sem])|intro _|refine And.intro ?_ ?_|(apply hKK;clear hKK KK)));all_goals first|refine Hold.mk ?_|omega|with_reducible assumption|(simp only [InR] at *;omega)|skip))
      refine ⟨(A' ++ (V' ++ (U2 ++ (U1 ++ B'))), A' ++ V', U2, U1, B'), ?_, ⟨by simp, by rw [h2, e]; simp, by simp; omega, by simp only; omega, by simp only; omega, by simp; omega⟩, by simp only; omega⟩
      (refine cov_of ?_ ?_ <;> simp [go_sem])
      constructor <;> omega
    · have e : V' = V'.take (V'.length - U'.length) ++ V'.drop (V'.length - U'.length) := (List.take_append_drop _ _).symm
      have l1 : (V'.take (V'.length - U'.length)).length = V'.length - U'.length := by simp
      have l2 : (V'.drop (V'.length - U'.length)).length = U'.length := by simp; omega
      have lu : V'.length = (V'.take (V'.length - U'.length)).length + (V'.drop (V'.length - U'.length)).length := by omega
      generalize V'.take (V'.length - U'.length) = V1 at *
      generalize V'.drop (V'.length - U'.length) = V2 at *
      have S := swapRange_spec (A := A') (U := U') (M := V1) (V := V2) (B := B') (m := m') (pa := pm - U'.length) (pb := pm + V'.length - U'.length) (pn := U'.length) f g (by rw [h1, e]; simp) (by omega) (by omega) (by omega) l2.symm (by omega)
      (refine awp_sr fun KK hKK => ?_; simp [go_sem]; ((repeat' (first|(refine ag_x ?_;simp [go_sem])|intro _|refine And.intro ?_ ?_|(apply hKK;clear hKK KK)));all_goals first|refine Hold.mk ?_|omega|with_reducible assumption|(simp only [InR] at *;omega)|skip))
      (refine callA_l [900000] (by first | exact .inl ⟨rfl, rfl⟩ | exact .inr rfl) (by simp [go_sem]) ?_; intro args ha; simp [go_sem] at ha; subst ha; refine ⟨_, _, S, (by simp [go_sem]), ?_⟩; rintro ps r hps ⟨rfl, rfl⟩; simp [go_sem]; ((repeat' (first|(refine ag_x ?_;simp [go_sem])|intro _|refine And.intro ?_ ?_|(apply hKK;clear hKK KK)));all_goals first|refine Hold.mk ?_|omega|with_reducible assumption|(simp only [InR] at *;omega)|skip))
      (refine awp_r fun KK hKK => ?_; simp [go_sem]; ((repeat' (first|(refine ag_x ?_;simp [go_sem])|intro _|refine And.intro ?_ ?_|(apply hKK;clear hKK KK)));all_goals first|refine Hold.mk ?_|omega|with_reducible assumption|(simp only [InR] at *;omega)|skip))
      refine ⟨(A' ++ (V2 ++ (V1 ++ (U' ++ B'))), A', V2, V1, U' ++ B'), ?_, ⟨by simp, by rw [h2, e]; simp, by simp only; omega, by simp only; omega, by simp only; omega, by simp; omega⟩, by simp only; omega⟩
      (refine cov_of ?_ ?_ <;> simp [go_sem])
      constructor <;> omega
  · refine awp_exit ?_
    simp only [go_sem]
    refine hK1 _ ?_; clear hK1
    have S := swapRange_spec (A := A') (U := U') (M := []) (V := V') (B := B') (m := m') (pa := pm - U'.length) (pb := pm) (pn := U'.length) f g (by rw [h1]; simp) (by omega) (by simp; omega) (by omega) (by omega) (by omega)
    (refine awp_r fun KK hKK => ?_; simp [go_sem]; ((repeat' (first|(refine ag_x ?_;simp [go_sem])|intro _|refine And.intro ?_ ?_|(apply hKK;clear hKK KK)));all_goals first|refine Hold.mk ?_|omega|with_reducible assumption|(simp only [InR] at *;omega)|skip))
    (refine callA_l [900000] (by first | exact .inl ⟨rfl, rfl⟩ | exact .inr rfl) (by simp [go_sem]) ?_; intro args ha; simp [go_sem] at ha; subst ha; refine ⟨_, _, S, (by simp [go_sem]), ?_⟩; rintro ps r hps ⟨rfl, rfl⟩; simp [go_sem]; ((repeat' (first|(refine ag_x ?_;simp [go_sem])|intro _|refine And.intro ?_ ?_|(apply hKK;clear hKK KK)));all_goals first|refine Hold.mk ?_|omega|with_reducible assumption|(simp only [InR] at *;omega)|skip))
    rw [h2]
    simp [go_sem]
end Go.Proofs.YtjdccagkafnbfaaGreatDoor

namespace Go.Proofs.YtjdccagkafnbfaaGreatDoor
open Go.Eng Go.Wh Go.Ver
set_option maxRecDepth 20000
set_option linter.unusedSimpArgs false
set_option linter.unusedVariables false
attribute [local irreducible] AG CallA CallT AWp PCall ACall AgC
def ltC (c : List UInt8 → List UInt8 → Int) (x y : List UInt8) : Bool := decide (c x y < 0)
set_option maxHeartbeats 8000000 in
theorem insertion_spec {A X B m : List (List UInt8)} {pa pb : Int} (f g : Nat) (c : List UInt8 → List UInt8 → Int) (w : Weakly (ltC c)) (hc : ∀ x ∈ X, ∀ y ∈ X, PCall Tryz.prog f [dS x, dS y] fun r => r = dI (c x y))
    (hm : m = A ++ (X ++ B)) (ha : pa = A.length) (hb : pb = A.length + X.length) (hl : m.length ≤ 4611686018427387904) :
    ACall Tryz.prog 97 [.own 900000 g, dI pa, dI pb, dF f] (lent g m) [900000] fun ps r => ps = [(g, .row 9 1 ((A ++ (sortL (ltC c) X ++ B)).map cS))] ∧ r = .tup [] := by 
  refine acall_of Tryz.func97 rfl rfl Tryz.ntmps97 (rs := []) (tys := []) rfl rfl (by simp) ?_ ?_
  · intro p hp
    simp only [List.mem_cons, List.mem_nil_iff, or_false] at hp
    subst hp; simp [notFroz]
  subst ha hb
  have hml : m.length = A.length + (X.length + B.length) := by rw [hm]; simp
  (refine awp_sr fun KK hKK => ?_; simp [go_sem]; ((repeat' (first|(refine ag_x ?_;simp [go_sem])|intro _|refine And.intro ?_ ?_|(apply hKK;clear hKK KK)));all_goals first|refine Hold.mk ?_|omega|with_reducible assumption|(simp only [InR] at *;omega)|skip))
  refine awp_block ?_
  refine awp_loop (σ := Nat × List (List UInt8)) (fun x => ⟨[(0, .own 900000 g), (1, dI A.length), (2, dI (A.length + X.length)), (3, dF f), (8, dI (A.length + x.1))], [(900000, (g, .row 9 1 (x.2.map cS)))]⟩)
    (fun x => 1 ≤ x.1 ∧ (x.1 ≤ X.length ∨ x.1 = 1) ∧ x.2 = A ++ (sortL (ltC c) (X.take x.1) ++ (X.drop x.1 ++ B))) (fun x => X.length + 1 - x.1) (1, m) ?_ ?_ ?_
  · (refine cov_of ?_ ?_ <;> simp [go_sem])
  · refine ⟨by omega, by omega, ?_⟩
    rw [hm]
    cases X with
    | nil => simp [sortL]
    | cons x r => simp [sortL, merge_nil_r]
  rintro ⟨p, k⟩ ⟨hp, hp2, hk⟩
  simp only at hp hp2 hk
  refine awp_seq_k fun K1 hK1 => ?_
  (refine awp_sr fun KK hKK => ?_; simp [go_sem]; ((repeat' (first|(refine ag_x ?_;simp [go_sem])|intro _|refine And.intro ?_ ?_|(apply hKK;clear hKK KK)));all_goals first|refine Hold.mk ?_|omega|with_reducible assumption|(simp only [InR] at *;omega)|skip))
  (refine awp_if fun T F hT hF => ?_; simp [go_sem]; refine BR.intro (fun h2 => hT ?_) (fun h2 => hF ?_); all_goals clear hT hF T F; try simp at h2) 
  · refine awp_skip ?_
    refine hK1 _ ?_; clear hK1
    have hpl : p < X.length := by omega
    obtain ⟨x, hx⟩ : ∃ x, X[p]? = some x := ⟨_, List.getElem?_eq_getElem hpl⟩
    have hxm := List.mem_of_getElem? hx
    have htk : X.take (p + 1) = X.take p ++ [x] := by rw [List.take_add_one, hx]; rfl
    have hdr : X.drop p = x :: X.drop (p + 1) := by
      rw [List.drop_eq_getElem_cons hpl]
      congr 1
      rw [List.getElem?_eq_getElem hpl] at hx
      exact Option.some.inj hx
    have hSl : (sortL (ltC c) (X.take p)).length = p := by rw [sort_len]; simp; omega
    have hSm : ∀ y ∈ sortL (ltC c) (X.take p), y ∈ X := fun y hy => List.mem_of_mem_take (sort_mem.1 hy)
    have hSs := sort_srt w (X.take p)
    have hsn := sort_snoc w (X.take p) x
    rw [← htk] at hsn
    rw [hdr] at hk
    generalize sortL (ltC c) (X.take p) = S at *
    have hnext : ∀ R : List (List UInt8), A ++ (sortL (ltC c) (X.take (p + 1)) ++ R) = A ++ (mergeL (ltC c) S [x] ++ R) := fun R => by rw [hsn]
    generalize hR : X.drop (p + 1) ++ B = R at *
    have hkl : A.length + (p + (R.length + 1)) = m.length := by
      have : R.length = X.length - (p + 1) + B.length := by rw [← hR]; simp
      omega
    refine awp_seq_k fun K3 hK3 => ?_
    have fin : ∀ (S' : St) (S1 S2 k' : List (List UInt8)), S1 ++ S2 = S → (∀ y ∈ S1, ltC c x y = false) → (∀ y ∈ S2, ltC c x y = true) → k' = A ++ (S1 ++ x :: (S2 ++ R)) →
        Cov S' ⟨[(0, .own 900000 g), (1, dI A.length), (2, dI (A.length + X.length)), (3, dF f), (8, dI (A.length + p))], [(900000, (g, .row 9 1 (k'.map cS)))]⟩ → K3 S' := fun S' S1 S2 k' e1 e2 e3 e4 hS => by
      refine hK3 _ ?_
      refine awp_cov hS ?_; clear hS
      (refine awp_r fun KK hKK => ?_; simp [go_sem]; ((repeat' (first|(refine ag_x ?_;simp [go_sem])|intro _|refine And.intro ?_ ?_|(apply hKK;clear hKK KK)));all_goals first|refine Hold.mk ?_|omega|with_reducible assumption|(simp only [InR] at *;omega)|skip))
      refine ⟨(p + 1, k'), ?_, ⟨by simp only; omega, by simp only; omega, ?_⟩, by simp only; omega⟩
      · (refine cov_of ?_ ?_ <;> simp [go_sem])
        omega
      · simp only
        rw [hR, hnext, ← e1, merge_one_split w e2 e3, e4]; simp
    clear hK3
    refine awp_block ?_
    (refine awp_sr fun KK hKK => ?_; simp [go_sem]; ((repeat' (first|(refine ag_x ?_;simp [go_sem])|intro _|refine And.intro ?_ ?_|(apply hKK;clear hKK KK)));all_goals first|refine Hold.mk ?_|omega|with_reducible assumption|(simp only [InR] at *;omega)|skip))
    refine awp_block ?_
    refine awp_loop (σ := List (List UInt8) × List (List UInt8) × List (List UInt8)) (fun y => ⟨[(0, .own 900000 g), (1, dI A.length), (2, dI (A.length + X.length)), (3, dF f), (8, dI (A.length + p)), (9, dI (A.length + y.1.length))], [(900000, (g, .row 9 1 (y.2.2.map cS)))]⟩)
      (fun y => y.1 ++ y.2.1 = S ∧ (∀ z ∈ y.2.1, ltC c x z = true) ∧ y.2.2 = A ++ (y.1 ++ x :: (y.2.1 ++ R))) (fun y => y.1.length) (S, [], k) ?_ ?_ ?_
    · (refine cov_of ?_ ?_ <;> simp [go_sem])
      omega
    · exact ⟨by simp, by simp, by rw [hk]; simp [← hR]⟩
    rintro ⟨S1, S2, k'⟩ ⟨e1, e3, e4⟩
    simp only at e1 e3 e4
    have hsl : S1.length + S2.length = p := by rw [← hSl, ← e1]; simp
    have hkl' : k'.length = m.length := by rw [e4]; simp; omega
    refine awp_seq_k fun K4 hK4 => ?_
    rcases List.eq_nil_or_concat S1 with h0 | ⟨S1', y, h0⟩
    · subst h0
      have hz : ¬ ((A.length : Int) + (([] : List (List UInt8)).length : Int) > A.length) := by simp
      ((refine awp_dr (.qs [0, 1, 2, 3] (.sk 4 (.sk 5 (.sk 6 (.sk 7 (.sk 9 (.sk 10 (.sk 11 (.sk 12 (.sk 8 (.sk 13 (.sk 14 (.sk 15 (.qs [16] (.nil))))))))))))))) (by kernel_rfl) ?_ ?_ ?_ ?_); (kernel_rfl); (exact (by decide +kernel)); (kernel_rfl); intro KK hKK; ((repeat' (first|(refine ag_x ?_;simp [go_sem])|refine adr_nil ?_|refine adr_two ?_ ?_|refine adr_kq ?_ ?_|refine adr_three ?_ ?_ ?_|refine adr_four ?_ ?_ ?_ ?_|refine adr_kp2 ?_ ?_|refine adr_kp3 ?_ ?_ ?_|((first|refine adr_qs fun KK hKK=>?_|refine adr_y fun KK hKK=>?_);simp [go_sem])|intro _|refine And.intro ?_ ?_|(apply hKK;clear hKK KK)));all_goals first|refine Hold.mk ?_|omega|with_reducible assumption|(simp only [InR] at *;omega)|skip))
      (refine awp_if fun T F hT hF => ?_; simp [go_sem]; refine hF ?_; clear hT hF T F)
      refine awp_exit ?_
      simp only [go_sem]
      refine fin _ [] S2 k' e1 (by simp) e3 e4 ?_
      (refine cov_of ?_ ?_ <;> simp [go_sem])
    · rw [List.concat_eq_append] at h0
      subst h0
      have hym : y ∈ X := hSm y (by rw [← e1]; simp)
      have C := hc x hxm y hym
      have el : (S1' ++ [y]).length = S1'.length + 1 := by simp
      have hsl' : S1'.length + 1 + S2.length = p := by rw [← hsl]; simp
      have ek : k' = (A ++ S1') ++ y :: ([] ++ x :: (S2 ++ R)) := by rw [e4]; simp
      have t1 := two_at (P := A ++ S1') (Q := []) (R := S2 ++ R) (x := y) (y := x) (p := A.length + S1'.length) (q := A.length + (S1'.length + 1)) (by simp) (by simp; omega)
      have t2 := two_setR (P := A ++ S1') (Q := []) (R := S2 ++ R) (x := y) (y := x) (p := A.length + S1'.length) (q := A.length + (S1'.length + 1)) (by simp) (by simp; omega)
      rw [← ek] at t1 t2
      obtain ⟨ty, tx⟩ := t1
      have i1 : ((A.length : Int) + ((S1'.length : Int) + 1)).toNat = A.length + (S1'.length + 1) := by omega
      have i2 : ((A.length : Int) + ((S1'.length : Int) + 1) - 1).toNat = A.length + S1'.length := by omega
      have tx2 : ((k'.map cS).set (A.length + (S1'.length + 1)) (cS y))[A.length + S1'.length]? = some (cS y) := by rw [List.getElem?_set_ne (by omega)]; simp [ty]
      have hpos : (A.length : Int) < (A.length : Int) + ((S1'.length : Int) + 1) := by omega
      ((refine awp_dr (.qs [0, 1, 2, 3, 4, 5, 6, 7, 9, 10, 11, 12, 8, 13] (.one 14 (.qs [15, 16] (.nil)))) (by kernel_rfl) ?_ ?_ ?_ ?_); (kernel_rfl); (exact (by decide +kernel)); (kernel_rfl); intro KK hKK; ((repeat' (first|(refine ag_x ?_;simp [go_sem, i1, i2, tx, ty, hpos])|refine adr_nil ?_|refine adr_two ?_ ?_|refine adr_kq ?_ ?_|refine adr_three ?_ ?_ ?_|refine adr_four ?_ ?_ ?_ ?_|refine adr_kp2 ?_ ?_|refine adr_kp3 ?_ ?_ ?_|((first|refine adr_qs fun KK hKK=>?_|refine adr_y fun KK hKK=>?_);simp [go_sem, i1, i2, tx, ty, hpos])|intro _|refine And.intro ?_ ?_|(apply hKK;clear hKK KK)));all_goals first|refine Hold.mk ?_|omega|with_reducible assumption|(simp only [InR] at *;omega)|skip))
      (refine agc_f (dI (c x y)) (by first | exact .inl ⟨rfl, rfl⟩ | exact .inr rfl) ?_ rfl ?_; (intro hc args ha; simp [go_sem] at ha; subst ha; exact C); simp [go_sem]; ((repeat' (first|(refine ag_x ?_;simp [go_sem])|refine adr_nil ?_|refine adr_two ?_ ?_|refine adr_kq ?_ ?_|refine adr_three ?_ ?_ ?_|refine adr_four ?_ ?_ ?_ ?_|refine adr_kp2 ?_ ?_|refine adr_kp3 ?_ ?_ ?_|((first|refine adr_qs fun KK hKK=>?_|refine adr_y fun KK hKK=>?_);simp [go_sem])|intro _|refine And.intro ?_ ?_|(apply hKK;clear hKK KK)));all_goals first|refine Hold.mk ?_|omega|with_reducible assumption|(simp only [InR] at *;omega)|skip))
      (refine awp_if fun T F hT hF => ?_; simp [go_sem]; refine BR.intro (fun h5 => hT ?_) (fun h5 => hF ?_); all_goals clear hT hF T F; try simp at h5)
      · refine awp_skip ?_
        refine hK4 _ ?_; clear hK4
        have hlt : ltC c x y = true := by unfold ltC; simpa using h5
        refine awp_seq_k fun K6 hK6 => ?_
        refine awp_block ?_
        ((refine awp_d (.qs [0, 1, 2, 3, 4, 5, 6, 7, 8, 10, 11, 12, 9, 13, 14] (.one 15 (.qs [16] (.one 17 (.nil))))) (by kernel_rfl) ?_ ?_ ?_ ?_); (kernel_rfl); (exact (by decide +kernel)); (kernel_rfl); intro KK hKK; ((repeat' (first|(refine ag_x ?_;simp [go_sem, i1, i2, tx, ty, tx2])|refine adr_nil ?_|refine adr_two ?_ ?_|refine adr_kq ?_ ?_|refine adr_three ?_ ?_ ?_|refine adr_four ?_ ?_ ?_ ?_|refine adr_kp2 ?_ ?_|refine adr_kp3 ?_ ?_ ?_|((first|refine adr_qs fun KK hKK=>?_|refine adr_y fun KK hKK=>?_);simp [go_sem, i1, i2, tx, ty, tx2])|intro _|refine And.intro ?_ ?_|(apply hKK;clear hKK KK)));all_goals first|refine Hold.mk ?_|omega|with_reducible assumption|(simp only [InR] at *;omega)|skip))
        refine hK6 _ ?_; clear hK6
        (refine awp_r fun KK hKK => ?_; simp [go_sem]; ((repeat' (first|(refine ag_x ?_;simp [go_sem])|intro _|refine And.intro ?_ ?_|(apply hKK;clear hKK KK)));all_goals first|refine Hold.mk ?_|omega|with_reducible assumption|(simp only [InR] at *;omega)|skip))
        refine ⟨(S1', y :: S2, (k'.set (A.length + (S1'.length + 1)) y).set (A.length + S1'.length) x), ?_, ⟨by rw [← e1]; simp, ?_, ?_⟩, by simp only; simp⟩
        · (refine cov_of ?_ ?_ <;> simp [go_sem, List.map_set])
          omega
        · intro z hz
          rcases List.mem_cons.1 hz with rfl | hz
          · exact hlt
          · exact e3 z hz
        · rw [t2]; simp
      · have hge : ltC c x y = false := by unfold ltC; simpa using h5
        refine awp_exit ?_
        simp only [go_sem]
        have hs1 : Srt (ltC c) ((S1' ++ [y]) ++ S2) := by rw [e1]; exact hSs
        refine fin _ (S1' ++ [y]) S2 k' e1 (srt_before w (srt_app hs1).1 hge) e3 e4 ?_
        (refine cov_of ?_ ?_ <;> simp [go_sem])
  · refine awp_exit ?_
    simp only [go_sem]
    have e1 : sortL (ltC c) (X.take p) = sortL (ltC c) X := by rw [List.take_of_length_le (by omega)]
    have e2 : X.drop p = [] := List.drop_of_length_le (by omega)
    rw [hk, e1, e2]
    simp [go_sem]
end Go.Proofs.YtjdccagkafnbfaaGreatDoor

namespace Go.Proofs.YtjdccagkafnbfaaGreatDoor
open Go.Eng Go.Wh Go.Ver
set_option maxRecDepth 20000
set_option linter.unusedSimpArgs false
set_option linter.unusedVariables false
attribute [local irreducible] AG CallA CallT AWp PCall ACall AgC
theorem half (i j : Nat) (h : i + j < 9223372036854775808) : shrI .u64 (IntKind.u64.wrap ((i : Int) + (j : Int))) 1 = (((i + j) / 2 : Nat) : Int) := by
  have e : IntKind.u64.wrap ((i : Int) + (j : Int)) = ((i + j : Nat) : Int) := by
    simp [IntKind.wrap, IntKind.bits, IntKind.signed]; omega
  rw [e]
  have e2 : shrI .u64 ((i + j : Nat) : Int) 1 = (((i + j) / 2 : Nat) : Int) := by
    unfold shrI
    have : (2 : Int) ^ min (1 : Int).toNat IntKind.u64.bits = 2 := rfl
    rw [this, Int.fdiv_eq_ediv_of_nonneg _ (by omega)]
    omega
  exact e2
set_option maxHeartbeats 16000000 in
theorem symMerge_one {A R B m : List (List UInt8)} {x : List UInt8} {pa pm pb : Int} (f g : Nat) (c : List UInt8 → List UInt8 → Int) (w : Weakly (ltC c)) (hR : Srt (ltC c) R) (hr : 0 < R.length)
    (hc : ∀ y ∈ R, PCall Tryz.prog f [dS y, dS x] fun r => r = dI (c y x))
    (hm : m = A ++ ([x] ++ (R ++ B))) (ha : pa = A.length) (hpm : pm = A.length + 1) (hb : pb = A.length + 1 + R.length) (hl : m.length ≤ 2305843009213693952) :
    ACall Tryz.prog 98 [.own 900000 g, dI pa, dI pm, dI pb, dF f] (lent g m) [900000] fun ps r => ps = [(g, .row 9 1 ((A ++ (mergeL (ltC c) [x] R ++ B)).map cS))] ∧ r = .tup [] := by 
  refine acall_of Tryz.func98 rfl rfl Tryz.ntmps98 (rs := []) (tys := []) rfl rfl (by simp) ?_ ?_
  · intro p hp
    simp only [List.mem_cons, List.mem_nil_iff, or_false] at hp
    subst hp; simp [notFroz]
  have hml : m.length = A.length + (1 + (R.length + B.length)) := by rw [hm]; simp; omega
  have hax : m[A.length]? = some x := by rw [hm]; simp
  have hat : ∀ t i, i = A.length + 1 + t → t < R.length → m[i]? = R[t]? := fun t i hi ht => by
    rw [hm]; exact at_R (by simpa using hi) ht
  subst ha hpm hb
  refine awp_seq_k fun K1 hK1 => ?_
  have e0 : ((A.length : Int) + 1 - A.length) = 1 := by omega
  (refine awp_sr fun KK hKK => ?_; simp [go_sem]; ((repeat' (first|(refine ag_x ?_;simp [go_sem])|intro _|refine And.intro ?_ ?_|(apply hKK;clear hKK KK)));all_goals first|refine Hold.mk ?_|omega|with_reducible assumption|(simp only [InR] at *;omega)|skip))
  (refine awp_if fun T F hT hF => ?_; simp [go_sem, e0]; refine hT ?_; clear hT hF T F)
  (refine awp_sr fun KK hKK => ?_; simp [go_sem]; ((repeat' (first|(refine ag_x ?_;simp [go_sem])|intro _|refine And.intro ?_ ?_|(apply hKK;clear hKK KK)));all_goals first|refine Hold.mk ?_|omega|with_reducible assumption|(simp only [InR] at *;omega)|skip))
  (refine awp_sr fun KK hKK => ?_; simp [go_sem]; ((repeat' (first|(refine ag_x ?_;simp [go_sem])|intro _|refine And.intro ?_ ?_|(apply hKK;clear hKK KK)));all_goals first|refine Hold.mk ?_|omega|with_reducible assumption|(simp only [InR] at *;omega)|skip))
  refine awp_seq_k fun K3 hK3 => ?_
  refine awp_block ?_
  refine awp_loop (σ := Nat × Nat) (fun y => ⟨[(0, .own 900000 g), (1, dI A.length), (4, dF f), (10, dI y.1), (11, dI y.2)], [(900000, (g, .row 9 1 (m.map cS)))]⟩)
    (fun y => A.length + 1 ≤ y.1 ∧ y.1 ≤ y.2 ∧ y.2 ≤ A.length + 1 + R.length ∧ (∀ z ∈ R.take (y.1 - (A.length + 1)), ltC c z x = true) ∧ (∀ z ∈ R.drop (y.2 - (A.length + 1)), ltC c z x = false)) (fun y => y.2 - y.1) (A.length + 1, A.length + 1 + R.length) ?_ ?_ ?_
  · (refine cov_of ?_ ?_ <;> simp [go_sem])
  · refine ⟨by simp, by simp, by simp, ?_, ?_⟩
    · simp
    · intro z hz
      rw [show A.length + 1 + R.length - (A.length + 1) = R.length by omega, List.drop_length] at hz
      simp at hz
  rintro ⟨i, j⟩ ⟨h1, h2, h3, h4, h5⟩
  simp only at h1 h2 h3 h4 h5
  have hh := half i j (by omega)
  refine awp_seq_k fun K4 hK4 => ?_
  (refine awp_sr fun KK hKK => ?_; simp [go_sem]; ((repeat' (first|(refine ag_x ?_;simp [go_sem])|intro _|refine And.intro ?_ ?_|(apply hKK;clear hKK KK)));all_goals first|refine Hold.mk ?_|omega|with_reducible assumption|(simp only [InR] at *;omega)|skip))
  (refine awp_if fun T F hT hF => ?_; simp [go_sem]; refine BR.intro (fun h6 => hT ?_) (fun h6 => hF ?_); all_goals clear hT hF T F; try simp at h6) 
  · refine awp_skip ?_
    refine hK4 _ ?_; clear hK4
    refine awp_block ?_
    have hh1 : i ≤ (i + j) / 2 ∧ (i + j) / 2 < j := by omega
    generalize (i + j) / 2 = h at *
    obtain ⟨t, ht⟩ : ∃ t, h = A.length + 1 + t := ⟨h - (A.length + 1), by omega⟩
    obtain ⟨y, hy⟩ : ∃ y, R[t]? = some y := ⟨_, List.getElem?_eq_getElem (by omega)⟩
    have hmy : m[h]? = some y := by rw [hat t h ht (by omega)]; exact hy
    have C := hc y (List.mem_of_getElem? hy)
    have hs1 := srt_take hy hR
    have hs2 := srt_drop (t := t) hR
    have hd := drop_at hy
    (refine awp_sr fun KK hKK => ?_; simp [go_sem, hh]; ((repeat' (first|(refine ag_x ?_;simp [go_sem, hh])|intro _|refine And.intro ?_ ?_|(apply hKK;clear hKK KK)));all_goals first|refine Hold.mk ?_|omega|with_reducible assumption|(simp only [InR] at *;omega)|skip))
    ((refine awp_dr (.qs [0, 1, 2, 3, 5, 6, 7, 4, 8] (.one 9 (.qs [10] (.nil)))) (by kernel_rfl) ?_ ?_ ?_ ?_); (kernel_rfl); (exact (by decide +kernel)); (kernel_rfl); intro KK hKK; ((repeat' (first|(refine ag_x ?_;simp [go_sem, hmy, hax])|refine adr_nil ?_|refine adr_two ?_ ?_|refine adr_kq ?_ ?_|refine adr_three ?_ ?_ ?_|refine adr_four ?_ ?_ ?_ ?_|refine adr_kp2 ?_ ?_|refine adr_kp3 ?_ ?_ ?_|((first|refine adr_qs fun KK hKK=>?_|refine adr_y fun KK hKK=>?_);simp [go_sem, hmy, hax])|intro _|refine And.intro ?_ ?_|(apply hKK;clear hKK KK)));all_goals first|refine Hold.mk ?_|omega|with_reducible assumption|(simp only [InR] at *;omega)|skip))
    ((try refine CallT.toA ?_); refine callT_m (by first | exact .inl ⟨rfl, rfl⟩ | exact .inr rfl) (by simp [go_sem]) ?_; intro args ha; simp [go_sem] at ha; subst ha; refine ⟨_, C, ?_⟩; rintro _ rfl; simp [go_sem]; ((repeat' (first|(refine ag_x ?_;simp [go_sem])|refine adr_nil ?_|refine adr_two ?_ ?_|refine adr_kq ?_ ?_|refine adr_three ?_ ?_ ?_|refine adr_four ?_ ?_ ?_ ?_|refine adr_kp2 ?_ ?_|refine adr_kp3 ?_ ?_ ?_|((first|refine adr_qs fun KK hKK=>?_|refine adr_y fun KK hKK=>?_);simp [go_sem])|intro _|refine And.intro ?_ ?_|(apply hKK;clear hKK KK)));all_goals first|refine Hold.mk ?_|omega|with_reducible assumption|(simp only [InR] at *;omega)|skip))
    (refine awp_if fun T F hT hF => ?_; simp [go_sem]; refine BR.intro (fun h7 => hT ?_) (fun h7 => hF ?_); all_goals clear hT hF T F; try simp at h7) 
    · have hlt : ltC c y x = true := by unfold ltC; simpa using h7
      (refine awp_r fun KK hKK => ?_; simp [go_sem]; ((repeat' (first|(refine ag_x ?_;simp [go_sem])|intro _|refine And.intro ?_ ?_|(apply hKK;clear hKK KK)));all_goals first|refine Hold.mk ?_|omega|with_reducible assumption|(simp only [InR] at *;omega)|skip))
      refine ⟨(h + 1, j), ?_, ⟨by simp only; omega, by simp only; omega, by simp only; omega, ?_, h5⟩, by simp only; omega⟩
      · (refine cov_of ?_ ?_ <;> simp [go_sem])
      · simp only
        rw [show h + 1 - (A.length + 1) = t + 1 by omega]
        exact bin_l (P := fun z => ltC c z x) hy (srt_before2 w hs1 hlt)
    · have hge : ltC c y x = false := by unfold ltC; simpa using h7
      (refine awp_r fun KK hKK => ?_; simp [go_sem]; ((repeat' (first|(refine ag_x ?_;simp [go_sem])|intro _|refine And.intro ?_ ?_|(apply hKK;clear hKK KK)));all_goals first|refine Hold.mk ?_|omega|with_reducible assumption|(simp only [InR] at *;omega)|skip))
      refine ⟨(i, h), ?_, ⟨by simp only; omega, by simp only; omega, by simp only; omega, h4, ?_⟩, by simp only; omega⟩
      · (refine cov_of ?_ ?_ <;> simp [go_sem])
      · simp only
        rw [show h - (A.length + 1) = t by omega, hd]
        rw [hd] at hs2
        exact srt_after2 w hs2 hge
  · refine awp_exit ?_
    simp only [go_sem]
    refine hK3 _ ?_; clear hK3
    have hij : j = i := by omega
    subst hij
    obtain ⟨u, hu⟩ : ∃ u, j = A.length + 1 + u := ⟨j - (A.length + 1), by omega⟩
    subst hu
    rw [show A.length + 1 + u - (A.length + 1) = u by omega] at h4 h5
    have hmg := merge_one_l h4 h5
    rw [List.take_append_drop] at hmg
    rw [hmg]
    have h0 := insI_zero A R B x
    have hst := fun s y => @insI_step _ A R B x y s
    have hkl := fun s => @insI_len _ A R B x s
    have hfin : A ++ (R.take u ++ x :: R.drop u ++ B) = insI A R B x u := by unfold insI; simp
    rw [hfin]
    rw [← hm] at h0
    refine awp_seq_k fun K7 hK7 => ?_
    (refine awp_sr fun KK hKK => ?_; simp [go_sem]; ((repeat' (first|(refine ag_x ?_;simp [go_sem])|intro _|refine And.intro ?_ ?_|(apply hKK;clear hKK KK)));all_goals first|refine Hold.mk ?_|omega|with_reducible assumption|(simp only [InR] at *;omega)|skip))
    refine awp_block ?_
    refine awp_loop (σ := Nat) (fun s => ⟨[(0, .own 900000 g), (10, dI (A.length + 1 + u)), (13, dI (A.length + s))], [(900000, (g, .row 9 1 ((insI A R B x s).map cS)))]⟩) (fun s => s ≤ u) (fun s => u - s) 0 ?_ ?_ ?_
    · rw [h0]
      (refine cov_of ?_ ?_ <;> simp [go_sem])
    · omega
    intro s hs
    have hkl1 := hkl s
    refine awp_seq_k fun K8 hK8 => ?_
    (refine awp_sr fun KK hKK => ?_; simp [go_sem]; ((repeat' (first|(refine ag_x ?_;simp [go_sem])|intro _|refine And.intro ?_ ?_|(apply hKK;clear hKK KK)));all_goals first|refine Hold.mk ?_|omega|with_reducible assumption|(simp only [InR] at *;omega)|skip))
    (refine awp_if fun T F hT hF => ?_; simp [go_sem]; refine BR.intro (fun h9 => hT ?_) (fun h9 => hF ?_); all_goals clear hT hF T F; try simp at h9) 
    · refine awp_skip ?_
      refine hK8 _ ?_; clear hK8
      have hsu : s < u := by omega
      obtain ⟨y, hy⟩ : ∃ y, R[s]? = some y := ⟨_, List.getElem?_eq_getElem (by omega)⟩
      obtain ⟨tx, ty, t2⟩ := hst s y hy
      generalize insI A R B x s = k at *
      have i1 : ((A.length : Int) + s).toNat = A.length + s := by omega
      have i2 : ((A.length : Int) + s + 1).toNat = A.length + s + 1 := by omega
      have ty2 : ((k.map cS).set (A.length + s) (cS y))[A.length + s + 1]? = some (cS y) := by rw [List.getElem?_set_ne (by omega)]; simp [ty]
      refine awp_seq_k fun K10 hK10 => ?_
      refine awp_block ?_
      ((refine awp_d (.qs [0, 1, 2, 3, 4, 5, 6, 7, 8, 10, 11, 12, 9, 13, 14] (.one 15 (.qs [16] (.one 17 (.nil))))) (by kernel_rfl) ?_ ?_ ?_ ?_); (kernel_rfl); (exact (by decide +kernel)); (kernel_rfl); intro KK hKK; ((repeat' (first|(refine ag_x ?_;simp [go_sem, i1, i2, tx, ty, ty2])|refine adr_nil ?_|refine adr_two ?_ ?_|refine adr_kq ?_ ?_|refine adr_three ?_ ?_ ?_|refine adr_four ?_ ?_ ?_ ?_|refine adr_kp2 ?_ ?_|refine adr_kp3 ?_ ?_ ?_|((first|refine adr_qs fun KK hKK=>?_|refine adr_y fun KK hKK=>?_);simp [go_sem, i1, i2, tx, ty, ty2])|intro _|refine And.intro ?_ ?_|(apply hKK;clear hKK KK)));all_goals first|refine Hold.mk ?_|omega|with_reducible assumption|(simp only [InR] at *;omega)|skip))
      refine hK10 _ ?_; clear hK10
      (refine awp_r fun KK hKK => ?_; simp [go_sem]; ((repeat' (first|(refine ag_x ?_;simp [go_sem])|intro _|refine And.intro ?_ ?_|(apply hKK;clear hKK KK)));all_goals first|refine Hold.mk ?_|omega|with_reducible assumption|(simp only [InR] at *;omega)|skip))
      refine ⟨s + 1, ?_, by omega, by omega⟩
      rw [← t2]
      (refine cov_of ?_ ?_ <;> simp [go_sem, List.map_set])
      omega
    · refine awp_exit ?_
      simp only [go_sem]
      refine hK7 _ ?_; clear hK7
      have : s = u := by omega
      subst this
      (refine awp_ret ?_; simp [go_sem])
end Go.Proofs.YtjdccagkafnbfaaGreatDoor

namespace Go.Proofs.YtjdccagkafnbfaaGreatDoor
open Go.Eng Go.Wh Go.Ver
set_option maxRecDepth 20000
set_option linter.unusedSimpArgs false
set_option linter.unusedVariables false
attribute [local irreducible] AG CallA CallT AWp PCall ACall AgC
set_option maxHeartbeats 16000000 in
theorem symMerge_last {A L B m : List (List UInt8)} {x : List UInt8} {pa pm pb : Int} (f g : Nat) (c : List UInt8 → List UInt8 → Int) (w : Weakly (ltC c)) (hL : Srt (ltC c) L) (hr : 2 ≤ L.length)
    (hc : ∀ y ∈ L, PCall Tryz.prog f [dS x, dS y] fun r => r = dI (c x y))
    (hm : m = A ++ (L ++ ([x] ++ B))) (ha : pa = A.length) (hpm : pm = A.length + L.length) (hb : pb = A.length + L.length + 1) (hl : m.length ≤ 2305843009213693952) :
    ACall Tryz.prog 98 [.own 900000 g, dI pa, dI pm, dI pb, dF f] (lent g m) [900000] fun ps r => ps = [(g, .row 9 1 ((A ++ (mergeL (ltC c) L [x] ++ B)).map cS))] ∧ r = .tup [] := by 
  refine acall_of Tryz.func98 rfl rfl Tryz.ntmps98 (rs := []) (tys := []) rfl rfl (by simp) ?_ ?_
  · intro p hp
    simp only [List.mem_cons, List.mem_nil_iff, or_false] at hp
    subst hp; simp [notFroz]
  have hml : m.length = A.length + (L.length + (1 + B.length)) := by rw [hm]; simp; omega
  have hax : m[A.length + L.length]? = some x := by
    rw [hm]
    simp
  have hat : ∀ t i, i = A.length + t → t < L.length → m[i]? = L[t]? := fun t i hi ht => by
    rw [hm]; exact at_L hi ht
  subst ha hpm hb
  have e0 : ¬ ((A.length : Int) + L.length - A.length) = 1 := by omega
  have e1 : ((A.length : Int) + L.length + 1 - (A.length + L.length)) = 1 := by omega
  refine awp_seq_k fun K1 hK1 => ?_
  (refine awp_sr fun KK hKK => ?_; simp [go_sem]; ((repeat' (first|(refine ag_x ?_;simp [go_sem])|intro _|refine And.intro ?_ ?_|(apply hKK;clear hKK KK)));all_goals first|refine Hold.mk ?_|omega|with_reducible assumption|(simp only [InR] at *;omega)|skip))
  (refine awp_if fun T F hT hF => ?_; simp [go_sem, e0]; refine hF ?_; clear hT hF T F)
  refine awp_skip ?_
  refine hK1 _ ?_; clear hK1
  refine awp_seq_k fun K11 hK11 => ?_
  (refine awp_sr fun KK hKK => ?_; simp [go_sem]; ((repeat' (first|(refine ag_x ?_;simp [go_sem])|intro _|refine And.intro ?_ ?_|(apply hKK;clear hKK KK)));all_goals first|refine Hold.mk ?_|omega|with_reducible assumption|(simp only [InR] at *;omega)|skip))
  (refine awp_if fun T F hT hF => ?_; simp [go_sem, e1]; refine hT ?_; clear hT hF T F)
  (refine awp_sr fun KK hKK => ?_; simp [go_sem]; ((repeat' (first|(refine ag_x ?_;simp [go_sem])|intro _|refine And.intro ?_ ?_|(apply hKK;clear hKK KK)));all_goals first|refine Hold.mk ?_|omega|with_reducible assumption|(simp only [InR] at *;omega)|skip))
  (refine awp_sr fun KK hKK => ?_; simp [go_sem]; ((repeat' (first|(refine ag_x ?_;simp [go_sem])|intro _|refine And.intro ?_ ?_|(apply hKK;clear hKK KK)));all_goals first|refine Hold.mk ?_|omega|with_reducible assumption|(simp only [InR] at *;omega)|skip))
  refine awp_seq_k fun K3 hK3 => ?_
  refine awp_block ?_
  refine awp_loop (σ := Nat × Nat) (fun y => ⟨[(0, .own 900000 g), (2, dI (A.length + L.length)), (4, dF f), (14, dI y.1), (15, dI y.2)], [(900000, (g, .row 9 1 (m.map cS)))]⟩)
    (fun y => A.length ≤ y.1 ∧ y.1 ≤ y.2 ∧ y.2 ≤ A.length + L.length ∧ (∀ z ∈ L.take (y.1 - A.length), ltC c x z = false) ∧ (∀ z ∈ L.drop (y.2 - A.length), ltC c x z = true)) (fun y => y.2 - y.1) (A.length, A.length + L.length) ?_ ?_ ?_
  · (refine cov_of ?_ ?_ <;> simp [go_sem])
  · refine ⟨by simp, by simp, by simp, ?_, ?_⟩
    · simp
    · intro z hz
      rw [show A.length + L.length - A.length = L.length by omega, List.drop_length] at hz
      simp at hz
  rintro ⟨i, j⟩ ⟨h1, h2, h3, h4, h5⟩
  simp only at h1 h2 h3 h4 h5
  have hh := half i j (by omega)
  have i0 : ((A.length : Int) + L.length).toNat = A.length + L.length := by omega
  refine awp_seq_k fun K4 hK4 => ?_
  (refine awp_sr fun KK hKK => ?_; simp [go_sem]; ((repeat' (first|(refine ag_x ?_;simp [go_sem])|intro _|refine And.intro ?_ ?_|(apply hKK;clear hKK KK)));all_goals first|refine Hold.mk ?_|omega|with_reducible assumption|(simp only [InR] at *;omega)|skip))
  (refine awp_if fun T F hT hF => ?_; simp [go_sem]; refine BR.intro (fun h6 => hT ?_) (fun h6 => hF ?_); all_goals clear hT hF T F; try simp at h6) 
  · refine awp_skip ?_
    refine hK4 _ ?_; clear hK4
    refine awp_block ?_
    have hh1 : i ≤ (i + j) / 2 ∧ (i + j) / 2 < j := by omega
    generalize (i + j) / 2 = h at *
    obtain ⟨t, ht⟩ : ∃ t, h = A.length + t := ⟨h - A.length, by omega⟩
    obtain ⟨y, hy⟩ : ∃ y, L[t]? = some y := ⟨_, List.getElem?_eq_getElem (by omega)⟩
    have hmy : m[h]? = some y := by rw [hat t h ht (by omega)]; exact hy
    have C := hc y (List.mem_of_getElem? hy)
    have hs1 := srt_take hy hL
    have hs2 := srt_drop (t := t) hL
    have hd := drop_at hy
    (refine awp_sr fun KK hKK => ?_; simp [go_sem, hh]; ((repeat' (first|(refine ag_x ?_;simp [go_sem, hh])|intro _|refine And.intro ?_ ?_|(apply hKK;clear hKK KK)));all_goals first|refine Hold.mk ?_|omega|with_reducible assumption|(simp only [InR] at *;omega)|skip))
    ((refine awp_dr (.qs [0, 1, 2, 3, 5, 6, 7, 4, 8] (.one 9 (.qs [10, 11] (.nil)))) (by kernel_rfl) ?_ ?_ ?_ ?_); (kernel_rfl); (exact (by decide +kernel)); (kernel_rfl); intro KK hKK; ((repeat' (first|(refine ag_x ?_;simp [go_sem, hmy, hax, i0])|refine adr_nil ?_|refine adr_two ?_ ?_|refine adr_kq ?_ ?_|refine adr_three ?_ ?_ ?_|refine adr_four ?_ ?_ ?_ ?_|refine adr_kp2 ?_ ?_|refine adr_kp3 ?_ ?_ ?_|((first|refine adr_qs fun KK hKK=>?_|refine adr_y fun KK hKK=>?_);simp [go_sem, hmy, hax, i0])|intro _|refine And.intro ?_ ?_|(apply hKK;clear hKK KK)));all_goals first|refine Hold.mk ?_|omega|with_reducible assumption|(simp only [InR] at *;omega)|skip))
    ((try refine CallT.toA ?_); refine callT_m (by first | exact .inl ⟨rfl, rfl⟩ | exact .inr rfl) (by simp [go_sem]) ?_; intro args ha; simp [go_sem] at ha; subst ha; refine ⟨_, C, ?_⟩; rintro _ rfl; simp [go_sem]; ((repeat' (first|(refine ag_x ?_;simp [go_sem])|refine adr_nil ?_|refine adr_two ?_ ?_|refine adr_kq ?_ ?_|refine adr_three ?_ ?_ ?_|refine adr_four ?_ ?_ ?_ ?_|refine adr_kp2 ?_ ?_|refine adr_kp3 ?_ ?_ ?_|((first|refine adr_qs fun KK hKK=>?_|refine adr_y fun KK hKK=>?_);simp [go_sem])|intro _|refine And.intro ?_ ?_|(apply hKK;clear hKK KK)));all_goals first|refine Hold.mk ?_|omega|with_reducible assumption|(simp only [InR] at *;omega)|skip))
    (refine awp_if fun T F hT hF => ?_; simp [go_sem]; refine BR.intro (fun h7 => hT ?_) (fun h7 => hF ?_); all_goals clear hT hF T F; try simp at h7) 
    · have hge : ltC c x y = false := by unfold ltC; simpa using h7
      (refine awp_r fun KK hKK => ?_; simp [go_sem]; ((repeat' (first|(refine ag_x ?_;simp [go_sem])|intro _|refine And.intro ?_ ?_|(apply hKK;clear hKK KK)));all_goals first|refine Hold.mk ?_|omega|with_reducible assumption|(simp only [InR] at *;omega)|skip))
      refine ⟨(h + 1, j), ?_, ⟨by simp only; omega, by simp only; omega, by simp only; omega, ?_, h5⟩, by simp only; omega⟩
      · (refine cov_of ?_ ?_ <;> simp [go_sem])
      · simp only
        rw [show h + 1 - A.length = t + 1 by omega]
        intro z hz
        have := bin_l (P := fun z => !ltC c x z) hy (fun z hz => by simpa using srt_before w hs1 hge z hz) z hz
        simpa using this
    · have hlt : ltC c x y = true := by unfold ltC; simpa using h7
      (refine awp_r fun KK hKK => ?_; simp [go_sem]; ((repeat' (first|(refine ag_x ?_;simp [go_sem])|intro _|refine And.intro ?_ ?_|(apply hKK;clear hKK KK)));all_goals first|refine Hold.mk ?_|omega|with_reducible assumption|(simp only [InR] at *;omega)|skip))
      refine ⟨(i, h), ?_, ⟨by simp only; omega, by simp only; omega, by simp only; omega, h4, ?_⟩, by simp only; omega⟩
      · (refine cov_of ?_ ?_ <;> simp [go_sem])
      · simp only
        rw [show h - A.length = t by omega, hd]
        rw [hd] at hs2
        exact srt_after w hs2 hlt
  · refine awp_exit ?_
    simp only [go_sem]
    refine hK3 _ ?_; clear hK3
    have hij : j = i := by omega
    subst hij
    obtain ⟨u, hu⟩ : ∃ u, j = A.length + u := ⟨j - A.length, by omega⟩
    subst hu
    rw [show A.length + u - A.length = u by omega] at h4 h5
    have hmg := merge_one_split w h4 h5
    rw [List.take_append_drop] at hmg
    rw [hmg]
    have h0 := insI_all A L B x
    have hst := fun s y => @insI_back _ A L B x y s
    have hkl := fun s => @insI_len _ A L B x s
    have hfin : A ++ (L.take u ++ x :: L.drop u ++ B) = insI A L B x u := by unfold insI; simp
    rw [hfin]
    rw [← hm] at h0
    refine awp_seq_k fun K7 hK7 => ?_
    (refine awp_sr fun KK hKK => ?_; simp [go_sem]; ((repeat' (first|(refine ag_x ?_;simp [go_sem])|intro _|refine And.intro ?_ ?_|(apply hKK;clear hKK KK)));all_goals first|refine Hold.mk ?_|omega|with_reducible assumption|(simp only [InR] at *;omega)|skip))
    refine awp_block ?_
    refine awp_loop (σ := Nat) (fun s => ⟨[(0, .own 900000 g), (14, dI (A.length + u)), (17, dI (A.length + s))], [(900000, (g, .row 9 1 ((insI A L B x s).map cS)))]⟩) (fun s => u ≤ s ∧ s ≤ L.length) (fun s => s) L.length ?_ ?_ ?_
    · rw [h0]
      (refine cov_of ?_ ?_ <;> simp [go_sem])
    · omega
    intro s hs
    have hkl1 := hkl s
    refine awp_seq_k fun K8 hK8 => ?_
    (refine awp_sr fun KK hKK => ?_; simp [go_sem]; ((repeat' (first|(refine ag_x ?_;simp [go_sem])|intro _|refine And.intro ?_ ?_|(apply hKK;clear hKK KK)));all_goals first|refine Hold.mk ?_|omega|with_reducible assumption|(simp only [InR] at *;omega)|skip))
    (refine awp_if fun T F hT hF => ?_; simp [go_sem]; refine BR.intro (fun h9 => hT ?_) (fun h9 => hF ?_); all_goals clear hT hF T F; try simp at h9) 
    · refine awp_skip ?_
      refine hK8 _ ?_; clear hK8
      obtain ⟨s, rfl⟩ : ∃ s', s = s' + 1 := ⟨s - 1, by omega⟩
      obtain ⟨y, hy⟩ : ∃ y, L[s]? = some y := ⟨_, List.getElem?_eq_getElem (by omega)⟩
      obtain ⟨tx, ty, t2⟩ := hst s y hy
      generalize insI A L B x (s + 1) = k at *
      have i1 : ((A.length : Int) + ((s : Int) + 1)).toNat = A.length + s + 1 := by omega
      have i2 : ((A.length : Int) + ((s : Int) + 1) - 1).toNat = A.length + s := by omega
      have ty2 : ((k.map cS).set (A.length + s + 1) (cS y))[A.length + s]? = some (cS y) := by rw [List.getElem?_set_ne (by omega)]; simp [tx]
      refine awp_seq_k fun K10 hK10 => ?_
      refine awp_block ?_
      ((refine awp_d (.qs [0, 1, 2, 3, 4, 5, 6, 7, 8, 10, 11, 12, 9, 13, 14] (.one 15 (.qs [16] (.one 17 (.nil))))) (by kernel_rfl) ?_ ?_ ?_ ?_); (kernel_rfl); (exact (by decide +kernel)); (kernel_rfl); intro KK hKK; ((repeat' (first|(refine ag_x ?_;simp [go_sem, i1, i2, tx, ty, ty2])|refine adr_nil ?_|refine adr_two ?_ ?_|refine adr_kq ?_ ?_|refine adr_three ?_ ?_ ?_|refine adr_four ?_ ?_ ?_ ?_|refine adr_kp2 ?_ ?_|refine adr_kp3 ?_ ?_ ?_|((first|refine adr_qs fun KK hKK=>?_|refine adr_y fun KK hKK=>?_);simp [go_sem, i1, i2, tx, ty, ty2])|intro _|refine And.intro ?_ ?_|(apply hKK;clear hKK KK)));all_goals first|refine Hold.mk ?_|omega|with_reducible assumption|(simp only [InR] at *;omega)|skip))
      refine hK10 _ ?_; clear hK10
      (refine awp_r fun KK hKK => ?_; simp [go_sem]; ((repeat' (first|(refine ag_x ?_;simp [go_sem])|intro _|refine And.intro ?_ ?_|(apply hKK;clear hKK KK)));all_goals first|refine Hold.mk ?_|omega|with_reducible assumption|(simp only [InR] at *;omega)|skip))
      refine ⟨s, ?_, by omega, by omega⟩
      rw [← t2]
      (refine cov_of ?_ ?_ <;> simp [go_sem, List.map_set])
      omega
    · refine awp_exit ?_
      simp only [go_sem]
      refine hK7 _ ?_; clear hK7
      have : s = u := by omega
      subst this
      (refine awp_ret ?_; simp [go_sem])
set_option maxHeartbeats 32000000 in
theorem symMerge_spec (f : Nat) (c : List UInt8 → List UInt8 → Int) (w : Weakly (ltC c)) : ∀ (N : Nat) (A L R B m : List (List UInt8)) (pa pm pb : Int) (g : Nat), L.length + R.length ≤ N → 0 < L.length → 0 < R.length → Srt (ltC c) L → Srt (ltC c) R →
    (∀ x ∈ L ++ R, ∀ y ∈ L ++ R, PCall Tryz.prog f [dS x, dS y] fun r => r = dI (c x y)) →
    m = A ++ (L ++ (R ++ B)) → pa = A.length → pm = A.length + L.length → pb = A.length + L.length + R.length → m.length ≤ 2305843009213693952 →
    ACall Tryz.prog 98 [.own 900000 g, dI pa, dI pm, dI pb, dF f] (lent g m) [900000] fun ps r => ps = [(g, .row 9 1 ((A ++ (mergeL (ltC c) L R ++ B)).map cS))] ∧ r = .tup [] := by
  intro N
  induction N with
  | zero => intro A L R B m pa pm pb g h1 h2; omega
  | succ N ih =>
  intro A L R B m pa pm pb g hN hL0 hR0 hLs hRs hc hm ha hpm hb hl
  by_cases hL1 : L.length = 1
  · obtain ⟨x, rfl⟩ := List.length_eq_one_iff.1 hL1
    exact symMerge_one f g c w hRs hR0 (fun y hy => hc y (by simp [hy]) x (by simp)) hm ha (by simpa using hpm) (by simpa using hb) hl
  by_cases hR1 : R.length = 1
  · obtain ⟨x, rfl⟩ := List.length_eq_one_iff.1 hR1
    exact symMerge_last f g c w hLs (by omega) (fun y hy => hc x (by simp) y (by simp [hy])) hm ha hpm (by simpa using hb) hl
  refine acall_of Tryz.func98 rfl rfl Tryz.ntmps98 (rs := []) (tys := []) rfl rfl (by simp) ?_ ?_
  · intro p hp
    simp only [List.mem_cons, List.mem_nil_iff, or_false] at hp
    subst hp; simp [notFroz]
  have hml : m.length = A.length + (L.length + (R.length + B.length)) := by rw [hm]; simp
  have hatL : ∀ t i, i = A.length + t → t < L.length → m[i]? = L[t]? := fun t i hi ht => by rw [hm]; exact at_L hi ht
  have hatR : ∀ t i, i = A.length + L.length + t → t < R.length → m[i]? = R[t]? := fun t i hi ht => by rw [hm]; exact at_R hi ht
  obtain ⟨a, hae⟩ : ∃ a, a = A.length := ⟨_, rfl⟩
  obtain ⟨mm, hme⟩ : ∃ mm, mm = A.length + L.length := ⟨_, rfl⟩
  obtain ⟨b, hbe⟩ : ∃ b, b = A.length + L.length + R.length := ⟨_, rfl⟩
  obtain rfl : pa = (a : Int) := by omega
  obtain rfl : pm = (mm : Int) := by omega
  obtain rfl : pb = (b : Int) := by omega
  have e0 : ¬ ((mm : Int) - a) = 1 := by omega
  have e1 : ¬ ((b : Int) - mm) = 1 := by omega
  have hh := half a b (by omega)
  have hmid : a < (a + b) / 2 ∧ (a + b) / 2 < b ∧ (a + b) / 2 * 2 ≤ a + b ∧ a + b ≤ (a + b) / 2 * 2 + 1 := by omega
  refine awp_seq_k fun K1 hK1 => ?_
  (refine awp_sr fun KK hKK => ?_; simp [go_sem]; ((repeat' (first|(refine ag_x ?_;simp [go_sem])|intro _|refine And.intro ?_ ?_|(apply hKK;clear hKK KK)));all_goals first|refine Hold.mk ?_|omega|with_reducible assumption|(simp only [InR] at *;omega)|skip))
  (refine awp_if fun T F hT hF => ?_; simp [go_sem, e0]; refine hF ?_; clear hT hF T F)
  refine awp_skip ?_
  refine hK1 _ ?_; clear hK1
  refine awp_seq_k fun K11 hK11 => ?_
  (refine awp_sr fun KK hKK => ?_; simp [go_sem]; ((repeat' (first|(refine ag_x ?_;simp [go_sem])|intro _|refine And.intro ?_ ?_|(apply hKK;clear hKK KK)));all_goals first|refine Hold.mk ?_|omega|with_reducible assumption|(simp only [InR] at *;omega)|skip))
  (refine awp_if fun T F hT hF => ?_; simp [go_sem, e1]; refine hF ?_; clear hT hF T F)
  refine awp_skip ?_
  refine hK11 _ ?_; clear hK11
  generalize (a + b) / 2 = mid at *
  obtain ⟨n, hn⟩ : ∃ n, n = mid + mm := ⟨_, rfl⟩
  have hni : (mid : Int) + mm = n := by omega
  (refine awp_sr fun KK hKK => ?_; simp [go_sem, hh]; ((repeat' (first|(refine ag_x ?_;simp [go_sem, hh])|intro _|refine And.intro ?_ ?_|(apply hKK;clear hKK KK)));all_goals first|refine Hold.mk ?_|omega|with_reducible assumption|(simp only [InR] at *;omega)|skip))
  (refine awp_sr fun KK hKK => ?_; simp [go_sem, hni]; ((repeat' (first|(refine ag_x ?_;simp [go_sem, hni])|intro _|refine And.intro ?_ ?_|(apply hKK;clear hKK KK)));all_goals first|refine Hold.mk ?_|omega|with_reducible assumption|(simp only [InR] at *;omega)|skip))
  (refine awp_sr fun KK hKK => ?_; simp [go_sem]; ((repeat' (first|(refine ag_x ?_;simp [go_sem])|intro _|refine And.intro ?_ ?_|(apply hKK;clear hKK KK)));all_goals first|refine Hold.mk ?_|omega|with_reducible assumption|(simp only [InR] at *;omega)|skip))
  refine awp_seq_k fun K21 hK21 => ?_
  have tl21 : ∀ (lo hi : Nat) S', a ≤ lo → lo ≤ hi → hi ≤ mm → hi ≤ mid → n ≤ lo + b → (lo = a ∨ lo + b = n) → (hi = mm ∨ hi = mid) →
      Cov S' ⟨[(0, .own 900000 g), (1, dI a), (2, dI mm), (3, dI b), (4, dF f), (18, dI mid), (19, dI n), (20, dI lo), (21, dI hi)], [(900000, (g, .row 9 1 (m.map cS)))]⟩ → K21 S' := fun lo hi S' q1 q2 q3 q4 q5 q6 q7 hS => by
    refine hK21 _ ?_
    refine awp_cov hS ?_; clear hS
    have hp1 : (n : Int) - 1 = ((n - 1 : Nat) : Int) := by omega
    (refine awp_sr fun KK hKK => ?_; simp [go_sem, hp1]; ((repeat' (first|(refine ag_x ?_;simp [go_sem, hp1])|intro _|refine And.intro ?_ ?_|(apply hKK;clear hKK KK)));all_goals first|refine Hold.mk ?_|omega|with_reducible assumption|(simp only [InR] at *;omega)|skip))
    refine awp_seq_k fun K22 hK22 => ?_
    refine awp_block ?_
    refine awp_loop (σ := Nat × Nat) (fun y => ⟨[(0, .own 900000 g), (1, dI a), (2, dI mm), (3, dI b), (4, dF f), (18, dI mid), (19, dI n), (20, dI y.1), (21, dI y.2), (22, dI ((n - 1 : Nat) : Int))], [(900000, (g, .row 9 1 (m.map cS)))]⟩)
      (fun y => lo ≤ y.1 ∧ y.1 ≤ y.2 ∧ y.2 ≤ hi ∧ (lo < y.1 → ∃ x z, L[y.1 - 1 - a]? = some x ∧ R[n - y.1 - mm]? = some z ∧ ltC c z x = false) ∧ (y.2 < hi → ∃ x z, L[y.2 - a]? = some x ∧ R[n - 1 - y.2 - mm]? = some z ∧ ltC c z x = true)) (fun y => y.2 - y.1) (lo, hi) ?_ ?_ ?_
    · (refine cov_of ?_ ?_ <;> simp [go_sem])
    · exact ⟨Nat.le_refl _, q2, Nat.le_refl _, fun h => absurd h (Nat.lt_irrefl _), fun h => absurd h (Nat.lt_irrefl _)⟩
    rintro ⟨i, j⟩ ⟨h1, h2, h3, h4, h5⟩
    simp only at h1 h2 h3 h4 h5
    have hh2 := half i j (by omega)
    refine awp_seq_k fun K23 hK23 => ?_
    (refine awp_sr fun KK hKK => ?_; simp [go_sem]; ((repeat' (first|(refine ag_x ?_;simp [go_sem])|intro _|refine And.intro ?_ ?_|(apply hKK;clear hKK KK)));all_goals first|refine Hold.mk ?_|omega|with_reducible assumption|(simp only [InR] at *;omega)|skip))
    (refine awp_if fun T F hT hF => ?_; simp [go_sem]; refine BR.intro (fun h24 => hT ?_) (fun h24 => hF ?_); all_goals clear hT hF T F; try simp at h24) 
    · refine awp_skip ?_
      refine hK23 _ ?_; clear hK23
      refine awp_block ?_
      have hh1 : i ≤ (i + j) / 2 ∧ (i + j) / 2 < j := by omega
      generalize (i + j) / 2 = h at *
      obtain ⟨x, hx⟩ : ∃ x, L[h - a]? = some x := ⟨_, List.getElem?_eq_getElem (by omega)⟩
      obtain ⟨z, hz⟩ : ∃ z, R[n - 1 - h - mm]? = some z := ⟨_, List.getElem?_eq_getElem (by omega)⟩
      have hmx : m[h]? = some x := by rw [hatL (h - a) h (by omega) (by omega)]; exact hx
      have hmz : m[n - 1 - h]? = some z := by rw [hatR (n - 1 - h - mm) (n - 1 - h) (by omega) (by omega)]; exact hz
      have C := hc z (by simp [List.mem_of_getElem? hz]) x (by simp [List.mem_of_getElem? hx])
      have i1 : (((n - 1 : Nat) : Int) - h) = ((n - 1 - h : Nat) : Int) := by omega
      (refine awp_sr fun KK hKK => ?_; simp [go_sem, hh2]; ((repeat' (first|(refine ag_x ?_;simp [go_sem, hh2])|intro _|refine And.intro ?_ ?_|(apply hKK;clear hKK KK)));all_goals first|refine Hold.mk ?_|omega|with_reducible assumption|(simp only [InR] at *;omega)|skip))
      ((refine awp_dr (.qs [0, 1, 2, 3, 4, 5, 7, 8, 9, 6, 10] (.one 11 (.qs [12, 13] (.nil)))) (by kernel_rfl) ?_ ?_ ?_ ?_); (kernel_rfl); (exact (by decide +kernel)); (kernel_rfl); intro KK hKK; ((repeat' (first|(refine ag_x ?_;simp [go_sem, i1, hmx, hmz])|refine adr_nil ?_|refine adr_two ?_ ?_|refine adr_kq ?_ ?_|refine adr_three ?_ ?_ ?_|refine adr_four ?_ ?_ ?_ ?_|refine adr_kp2 ?_ ?_|refine adr_kp3 ?_ ?_ ?_|((first|refine adr_qs fun KK hKK=>?_|refine adr_y fun KK hKK=>?_);simp [go_sem, i1, hmx, hmz])|intro _|refine And.intro ?_ ?_|(apply hKK;clear hKK KK)));all_goals first|refine Hold.mk ?_|omega|with_reducible assumption|(simp only [InR] at *;omega)|skip))
      ((try refine CallT.toA ?_); refine callT_m (by first | exact .inl ⟨rfl, rfl⟩ | exact .inr rfl) (by simp [go_sem]) ?_; intro args ha; simp [go_sem] at ha; subst ha; refine ⟨_, C, ?_⟩; rintro _ rfl; simp [go_sem]; ((repeat' (first|(refine ag_x ?_;simp [go_sem])|refine adr_nil ?_|refine adr_two ?_ ?_|refine adr_kq ?_ ?_|refine adr_three ?_ ?_ ?_|refine adr_four ?_ ?_ ?_ ?_|refine adr_kp2 ?_ ?_|refine adr_kp3 ?_ ?_ ?_|((first|refine adr_qs fun KK hKK=>?_|refine adr_y fun KK hKK=>?_);simp [go_sem])|intro _|refine And.intro ?_ ?_|(apply hKK;clear hKK KK)));all_goals first|refine Hold.mk ?_|omega|with_reducible assumption|(simp only [InR] at *;omega)|skip))
      (refine awp_if fun T F hT hF => ?_; simp [go_sem]; refine BR.intro (fun h25 => hT ?_) (fun h25 => hF ?_); all_goals clear hT hF T F; try simp at h25) 
      · have hge : ltC c z x = false := by unfold ltC; simpa using h25
        (refine awp_r fun KK hKK => ?_; simp [go_sem]; ((repeat' (first|(refine ag_x ?_;simp [go_sem])|intro _|refine And.intro ?_ ?_|(apply hKK;clear hKK KK)));all_goals first|refine Hold.mk ?_|omega|with_reducible assumption|(simp only [InR] at *;omega)|skip))
        refine ⟨(h + 1, j), ?_, ⟨by simp only; omega, by simp only; omega, by simp only; omega, fun _ => ⟨x, z, ?_, ?_, hge⟩, h5⟩, by simp only; omega⟩
        · (refine cov_of ?_ ?_ <;> simp [go_sem])
        · simp only; rw [show h + 1 - 1 - a = h - a by omega]; exact hx
        · simp only; rw [show n - (h + 1) - mm = n - 1 - h - mm by omega]; exact hz
      · have hlt : ltC c z x = true := by unfold ltC; simpa using h25
        (refine awp_r fun KK hKK => ?_; simp [go_sem]; ((repeat' (first|(refine ag_x ?_;simp [go_sem])|intro _|refine And.intro ?_ ?_|(apply hKK;clear hKK KK)));all_goals first|refine Hold.mk ?_|omega|with_reducible assumption|(simp only [InR] at *;omega)|skip))
        refine ⟨(i, h), ?_, ⟨by simp only; omega, by simp only; omega, by simp only; omega, h4, fun _ => ⟨x, z, hx, hz, hlt⟩⟩, by simp only; omega⟩
        (refine cov_of ?_ ?_ <;> simp [go_sem])
    · refine awp_exit ?_
      simp only [go_sem]
      refine hK22 _ ?_; clear hK22
      have hij : j = i := by omega
      subst hij
      have hcut := merge_cut (u := j - a) (v := n - j - mm) w hLs hRs (by omega) (by omega)
        (fun u0 v0 => by
          have : lo < j := by omega
          obtain ⟨x, z, r1, r2, r3⟩ := h4 this
          exact ⟨x, z, by rw [show j - a - 1 = j - 1 - a by omega]; exact r1, r2, r3⟩)
        (fun u0 v0 => by
          have : j < hi := by omega
          obtain ⟨x, z, r1, r2, r3⟩ := h5 this
          exact ⟨x, z, r1, by rw [show n - j - mm - 1 = n - 1 - j - mm by omega]; exact r2, r3⟩)
      have eL : L = L.take (j - a) ++ L.drop (j - a) := (List.take_append_drop _ _).symm
      have eR : R = R.take (n - j - mm) ++ R.drop (n - j - mm) := (List.take_append_drop _ _).symm
      have l1 : (L.take (j - a)).length = j - a := by simp; omega
      have l2 : (L.drop (j - a)).length = mm - j := by simp; omega
      have l3 : (R.take (n - j - mm)).length = mid - j := by simp; omega
      have l4 : (R.drop (n - j - mm)).length = b - (n - j) := by simp; omega
      have s1 := srt_tk (t := j - a) hLs
      have s2 := srt_drop (t := j - a) hLs
      have s3 := srt_tk (t := n - j - mm) hRs
      have s4 := srt_drop (t := n - j - mm) hRs
      generalize L.take (j - a) = L1 at *
      generalize L.drop (j - a) = L2 at *
      generalize R.take (n - j - mm) = R1 at *
      generalize R.drop (n - j - mm) = R2 at *
      have m1 := @merge_len _ (ltC c) L1 R1
      rw [hcut]
      have hml2 : m.length = A.length + (L1.length + (R1.length + (L2.length + (R2.length + B.length)))) := by rw [hml, eL, eR]; simp; omega
      clear h4 h5 hatL hatR hcut
      have hend : (n : Int) - j = ((n - j : Nat) : Int) := by omega
      (refine awp_sr fun KK hKK => ?_; simp [go_sem, hend]; ((repeat' (first|(refine ag_x ?_;simp [go_sem, hend])|intro _|refine And.intro ?_ ?_|(apply hKK;clear hKK KK)));all_goals first|refine Hold.mk ?_|omega|with_reducible assumption|(simp only [InR] at *;omega)|skip))
      refine awp_seq_k fun K26 hK26 => ?_
      have tl26 : ∀ S' k, k = A ++ (L1 ++ (R1 ++ (L2 ++ (R2 ++ B)))) → Cov S' ⟨[(0, .own 900000 g), (1, dI a), (3, dI b), (4, dF f), (18, dI mid), (20, dI j), (24, dI ((n - j : Nat) : Int))], [(900000, (g, .row 9 1 (k.map cS)))]⟩ → K26 S' := fun S' k hk hS => by
        refine hK26 _ ?_
        refine awp_cov hS ?_; clear hS
        have hkl : k.length = m.length := by rw [hk, hml2]; simp
        refine awp_seq_k fun K27 hK27 => ?_
        have tl27 : ∀ S' k', k' = A ++ (mergeL (ltC c) L1 R1 ++ (L2 ++ (R2 ++ B))) → Cov S' ⟨[(0, .own 900000 g), (3, dI b), (4, dF f), (18, dI mid), (24, dI ((n - j : Nat) : Int))], [(900000, (g, .row 9 1 (k'.map cS)))]⟩ → K27 S' := fun S' k' hk' hS => by
          refine hK27 _ ?_
          refine awp_cov hS ?_; clear hS
          have hkl' : k'.length = m.length := by rw [hk', hml2]; simp; omega
          by_cases g1 : mid < n - j
          · have g1' : (mid : Int) < ((n - j : Nat) : Int) := by omega
            by_cases g2 : n - j < b
            · have g2' : ((n - j : Nat) : Int) < b := by omega
              (refine awp_sr fun KK hKK => ?_; simp [go_sem, g1', g2']; ((repeat' (first|(refine ag_x ?_;simp [go_sem, g1', g2'])|intro _|refine And.intro ?_ ?_|(apply hKK;clear hKK KK)));all_goals first|refine Hold.mk ?_|omega|with_reducible assumption|(simp only [InR] at *;omega)|skip))
              (refine awp_if fun T F hT hF => ?_; simp [go_sem]; refine hT ?_; clear hT hF T F)
              have S := ih (A ++ mergeL (ltC c) L1 R1) L2 R2 B k' mid ((n - j : Nat) : Int) b g (by omega) (by omega) (by omega) s2 s4
                (fun x hx y hy => hc x (by rw [eL, eR]; simp at hx ⊢; rcases hx with h | h <;> simp [h]) y (by rw [eL, eR]; simp at hy ⊢; rcases hy with h | h <;> simp [h]))
                (by rw [hk']; simp) (by simp; omega) (by simp; omega) (by simp; omega) (by omega)
              (refine awp_r fun KK hKK => ?_; simp [go_sem]; ((repeat' (first|(refine ag_x ?_;simp [go_sem])|intro _|refine And.intro ?_ ?_|(apply hKK;clear hKK KK)));all_goals first|refine Hold.mk ?_|omega|with_reducible assumption|(simp only [InR] at *;omega)|skip))
              (refine callA_l [900000] (by first | exact .inl ⟨rfl, rfl⟩ | exact .inr rfl) (by simp [go_sem]) ?_; intro args ha; simp [go_sem] at ha; subst ha; refine ⟨_, _, S, (by simp [go_sem]), ?_⟩; rintro ps r hps ⟨rfl, rfl⟩; simp [go_sem]; ((repeat' (first|(refine ag_x ?_;simp [go_sem])|intro _|refine And.intro ?_ ?_|(apply hKK;clear hKK KK)));all_goals first|refine Hold.mk ?_|omega|with_reducible assumption|(simp only [InR] at *;omega)|skip))
              simp [go_sem]
            · have : R2 = [] := List.length_eq_zero_iff.1 (by omega)
              subst this
              have g2' : ¬ ((n - j : Nat) : Int) < b := by omega
              (refine awp_sr fun KK hKK => ?_; simp [go_sem, g1', g2']; ((repeat' (first|(refine ag_x ?_;simp [go_sem, g1', g2'])|intro _|refine And.intro ?_ ?_|(apply hKK;clear hKK KK)));all_goals first|refine Hold.mk ?_|omega|with_reducible assumption|(simp only [InR] at *;omega)|skip))
              (refine awp_if fun T F hT hF => ?_; simp [go_sem]; refine hF ?_; clear hT hF T F)
              refine awp_skip ?_
              rw [hk', merge_nil_r]
              simp [go_sem]
          · have : L2 = [] := List.length_eq_zero_iff.1 (by omega)
            subst this
            have g1' : ¬ (mid : Int) < ((n - j : Nat) : Int) := by omega
            (refine awp_sr fun KK hKK => ?_; simp [go_sem, g1']; ((repeat' (first|(refine ag_false (by simp [go_sem, undef, g1']) (by simp [go_sem]) ?_;simp [go_sem, g1'])|intro _|refine And.intro ?_ ?_|(apply hKK;clear hKK KK)));all_goals first|refine Hold.mk ?_|omega|with_reducible assumption|(simp only [InR] at *;omega)|skip))
            (refine awp_if fun T F hT hF => ?_; simp [go_sem]; refine hF ?_; clear hT hF T F)
            refine awp_skip ?_
            rw [hk', merge_nil_l]
            simp [go_sem]
        clear hK27
        by_cases g1 : a < j
        · have g1' : (a : Int) < j := by omega
          by_cases g2 : j < mid
          · have g2' : (j : Int) < mid := by omega
            (refine awp_sr fun KK hKK => ?_; simp [go_sem, g1', g2']; ((repeat' (first|(refine ag_x ?_;simp [go_sem, g1', g2'])|intro _|refine And.intro ?_ ?_|(apply hKK;clear hKK KK)));all_goals first|refine Hold.mk ?_|omega|with_reducible assumption|(simp only [InR] at *;omega)|skip))
            (refine awp_if fun T F hT hF => ?_; simp [go_sem]; refine hT ?_; clear hT hF T F)
            have S := ih A L1 R1 (L2 ++ (R2 ++ B)) k a j mid g (by omega) (by omega) (by omega) s1 s3
              (fun x hx y hy => hc x (by rw [eL, eR]; simp at hx ⊢; rcases hx with h | h <;> simp [h]) y (by rw [eL, eR]; simp at hy ⊢; rcases hy with h | h <;> simp [h]))
              (by rw [hk]) (by omega) (by omega) (by omega) (by omega)
            (refine awp_r fun KK hKK => ?_; simp [go_sem]; ((repeat' (first|(refine ag_x ?_;simp [go_sem])|intro _|refine And.intro ?_ ?_|(apply hKK;clear hKK KK)));all_goals first|refine Hold.mk ?_|omega|with_reducible assumption|(simp only [InR] at *;omega)|skip))
            (refine callA_l [900000] (by first | exact .inl ⟨rfl, rfl⟩ | exact .inr rfl) (by simp [go_sem]) ?_; intro args ha; simp [go_sem] at ha; subst ha; refine ⟨_, _, S, (by simp [go_sem]), ?_⟩; rintro ps r hps ⟨rfl, rfl⟩; simp [go_sem]; ((repeat' (first|(refine ag_x ?_;simp [go_sem])|intro _|refine And.intro ?_ ?_|(apply hKK;clear hKK KK)));all_goals first|refine Hold.mk ?_|omega|with_reducible assumption|(simp only [InR] at *;omega)|skip))
            refine tl27 _ _ rfl ?_
            (refine cov_of ?_ ?_ <;> simp [go_sem])
          · have : R1 = [] := List.length_eq_zero_iff.1 (by omega)
            subst this
            have g2' : ¬ (j : Int) < mid := by omega
            (refine awp_sr fun KK hKK => ?_; simp [go_sem, g1', g2']; ((repeat' (first|(refine ag_x ?_;simp [go_sem, g1', g2'])|intro _|refine And.intro ?_ ?_|(apply hKK;clear hKK KK)));all_goals first|refine Hold.mk ?_|omega|with_reducible assumption|(simp only [InR] at *;omega)|skip))
            (refine awp_if fun T F hT hF => ?_; simp [go_sem]; refine hF ?_; clear hT hF T F)
            refine awp_skip ?_
            refine tl27 _ k (by rw [hk, merge_nil_r]; simp) ?_
            (refine cov_of ?_ ?_ <;> simp [go_sem])
        · have : L1 = [] := List.length_eq_zero_iff.1 (by omega)
          subst this
          have g1' : ¬ (a : Int) < j := by omega
          (refine awp_sr fun KK hKK => ?_; simp [go_sem, g1']; ((repeat' (first|(refine ag_false (by simp [go_sem, undef, g1']) (by simp [go_sem]) ?_;simp [go_sem, g1'])|intro _|refine And.intro ?_ ?_|(apply hKK;clear hKK KK)));all_goals first|refine Hold.mk ?_|omega|with_reducible assumption|(simp only [InR] at *;omega)|skip))
          (refine awp_if fun T F hT hF => ?_; simp [go_sem]; refine hF ?_; clear hT hF T F)
          refine awp_skip ?_
          refine tl27 _ k (by rw [hk, merge_nil_l]; simp) ?_
          (refine cov_of ?_ ?_ <;> simp [go_sem])
      clear hK26
      by_cases g1 : j < mm
      · have g1' : (j : Int) < mm := by omega
        by_cases g2 : mm < n - j
        · have g2' : (mm : Int) < ((n - j : Nat) : Int) := by omega
          (refine awp_sr fun KK hKK => ?_; simp [go_sem, g1', g2']; ((repeat' (first|(refine ag_x ?_;simp [go_sem, g1', g2'])|intro _|refine And.intro ?_ ?_|(apply hKK;clear hKK KK)));all_goals first|refine Hold.mk ?_|omega|with_reducible assumption|(simp only [InR] at *;omega)|skip))
          (refine awp_if fun T F hT hF => ?_; simp [go_sem]; refine hT ?_; clear hT hF T F)
          have S := rotate_spec (A := A ++ L1) (U := L2) (V := R1) (B := R2 ++ B) (m := m) (pa := (j : Int)) (pm := (mm : Int)) (pb := ((n - j : Nat) : Int)) f g (by rw [hm, eL, eR]; simp) (by simp; omega) (by simp; omega) (by simp; omega) (by omega) (by omega) (by omega)
          (refine awp_r fun KK hKK => ?_; simp [go_sem]; ((repeat' (first|(refine ag_x ?_;simp [go_sem])|intro _|refine And.intro ?_ ?_|(apply hKK;clear hKK KK)));all_goals first|refine Hold.mk ?_|omega|with_reducible assumption|(simp only [InR] at *;omega)|skip))
          (refine callA_l [900000] (by first | exact .inl ⟨rfl, rfl⟩ | exact .inr rfl) (by simp [go_sem]) ?_; intro args ha; simp [go_sem] at ha; subst ha; refine ⟨_, _, S, (by simp [go_sem]), ?_⟩; rintro ps r hps ⟨rfl, rfl⟩; simp [go_sem]; ((repeat' (first|(refine ag_x ?_;simp [go_sem])|intro _|refine And.intro ?_ ?_|(apply hKK;clear hKK KK)));all_goals first|refine Hold.mk ?_|omega|with_reducible assumption|(simp only [InR] at *;omega)|skip))
          refine tl26 _ (A ++ L1 ++ (R1 ++ (L2 ++ (R2 ++ B)))) (by simp) ?_
          (refine cov_of ?_ ?_ <;> simp [go_sem])
        · have : R1 = [] := List.length_eq_zero_iff.1 (by omega)
          subst this
          have g2' : ¬ (mm : Int) < ((n - j : Nat) : Int) := by omega
          (refine awp_sr fun KK hKK => ?_; simp [go_sem, g1', g2']; ((repeat' (first|(refine ag_x ?_;simp [go_sem, g1', g2'])|intro _|refine And.intro ?_ ?_|(apply hKK;clear hKK KK)));all_goals first|refine Hold.mk ?_|omega|with_reducible assumption|(simp only [InR] at *;omega)|skip))
          (refine awp_if fun T F hT hF => ?_; simp [go_sem]; refine hF ?_; clear hT hF T F)
          refine awp_skip ?_
          refine tl26 _ m (by rw [hm, eL, eR]; simp) ?_
          (refine cov_of ?_ ?_ <;> simp [go_sem])
      · have : L2 = [] := List.length_eq_zero_iff.1 (by omega)
        subst this
        have g1' : ¬ (j : Int) < mm := by omega
        (refine awp_sr fun KK hKK => ?_; simp [go_sem, g1']; ((repeat' (first|(refine ag_false (by simp [go_sem, undef, g1']) (by simp [go_sem]) ?_;simp [go_sem, g1'])|intro _|refine And.intro ?_ ?_|(apply hKK;clear hKK KK)));all_goals first|refine Hold.mk ?_|omega|with_reducible assumption|(simp only [InR] at *;omega)|skip))
        (refine awp_if fun T F hT hF => ?_; simp [go_sem]; refine hF ?_; clear hT hF T F)
        refine awp_skip ?_
        refine tl26 _ m (by rw [hm, eL, eR]; simp) ?_
        (refine cov_of ?_ ?_ <;> simp [go_sem])
  clear hK21
  (refine awp_sr fun KK hKK => ?_; simp [go_sem]; ((repeat' (first|(refine ag_x ?_;simp [go_sem])|intro _|refine And.intro ?_ ?_|(apply hKK;clear hKK KK)));all_goals first|refine Hold.mk ?_|omega|with_reducible assumption|(simp only [InR] at *;omega)|skip))
  (refine awp_if fun T F hT hF => ?_; simp [go_sem]; refine BR.intro (fun h31 => hT ?_) (fun h31 => hF ?_); all_goals clear hT hF T F; try simp at h31) 
  · have hlo : (n : Int) - b = ((n - b : Nat) : Int) := by omega
    (refine awp_sr fun KK hKK => ?_; simp [go_sem, hlo]; ((repeat' (first|(refine ag_x ?_;simp [go_sem, hlo])|intro _|refine And.intro ?_ ?_|(apply hKK;clear hKK KK)));all_goals first|refine Hold.mk ?_|omega|with_reducible assumption|(simp only [InR] at *;omega)|skip))
    (refine awp_r fun KK hKK => ?_; simp [go_sem]; ((repeat' (first|(refine ag_x ?_;simp [go_sem])|intro _|refine And.intro ?_ ?_|(apply hKK;clear hKK KK)));all_goals first|refine Hold.mk ?_|omega|with_reducible assumption|(simp only [InR] at *;omega)|skip))
    refine tl21 (n - b) mid _ (by omega) (by omega) (by omega) (by omega) (by omega) (by omega) (by omega) ?_
    (refine cov_of ?_ ?_ <;> simp [go_sem])
  · (refine awp_sr fun KK hKK => ?_; simp [go_sem]; ((repeat' (first|(refine ag_x ?_;simp [go_sem])|intro _|refine And.intro ?_ ?_|(apply hKK;clear hKK KK)));all_goals first|refine Hold.mk ?_|omega|with_reducible assumption|(simp only [InR] at *;omega)|skip))
    (refine awp_r fun KK hKK => ?_; simp [go_sem]; ((repeat' (first|(refine ag_x ?_;simp [go_sem])|intro _|refine And.intro ?_ ?_|(apply hKK;clear hKK KK)));all_goals first|refine Hold.mk ?_|omega|with_reducible assumption|(simp only [InR] at *;omega)|skip))
    refine tl21 a mm _ (by omega) (by omega) (by omega) (by omega) (by omega) (by omega) (by omega) ?_
    (refine cov_of ?_ ?_ <;> simp [go_sem])
end Go.Proofs.YtjdccagkafnbfaaGreatDoor

namespace Go.Proofs.YtjdccagkafnbfaaGreatDoor
open Go.Eng Go.Wh Go.Ver
set_option maxRecDepth 20000
set_option linter.unusedSimpArgs false
set_option linter.unusedVariables false
attribute [local irreducible] AG CallA CallT AWp PCall ACall AgC
set_option maxHeartbeats 32000000 in
theorem stable_spec {l : List (List UInt8)} {pn : Int} (f g : Nat) (c : List UInt8 → List UInt8 → Int) (w : Weakly (ltC c)) (hc : ∀ x ∈ l, ∀ y ∈ l, PCall Tryz.prog f [dS x, dS y] fun r => r = dI (c x y))
    (hn : pn = l.length) (hl : l.length ≤ 1000000000000) :
    ACall Tryz.prog 81 [.own 900000 g, dI pn, dF f] (lent g l) [900000] fun ps r => ps = [(g, .row 9 1 ((sortL (ltC c) l).map cS))] ∧ r = .tup [] := by 
  refine acall_of Tryz.func81 rfl rfl Tryz.ntmps81 (rs := []) (tys := []) rfl rfl (by simp) ?_ ?_
  · intro p hp
    simp only [List.mem_cons, List.mem_nil_iff, or_false] at hp
    subst hp; simp [notFroz]
  subst hn
  (refine awp_sr fun KK hKK => ?_; simp [go_sem]; ((repeat' (first|(refine ag_x ?_;simp [go_sem])|intro _|refine And.intro ?_ ?_|(apply hKK;clear hKK KK)));all_goals first|refine Hold.mk ?_|omega|with_reducible assumption|(simp only [InR] at *;omega)|skip))
  (refine awp_sr fun KK hKK => ?_; simp [go_sem]; ((repeat' (first|(refine ag_x ?_;simp [go_sem])|intro _|refine And.intro ?_ ?_|(apply hKK;clear hKK KK)));all_goals first|refine Hold.mk ?_|omega|with_reducible assumption|(simp only [InR] at *;omega)|skip))
  refine awp_seq_k fun K1 hK1 => ?_
  refine awp_block ?_
  refine awp_loop (σ := List (List UInt8) × List (List UInt8) × List (List UInt8)) (fun x => ⟨[(0, .own 900000 g), (1, dI l.length), (2, dF f), (6, dI 20), (7, dI x.1.length), (8, dI (x.1.length + 20))], [(900000, (g, .row 9 1 (x.2.2.map cS)))]⟩)
    (fun x => x.2.2 = x.1 ++ x.2.1 ∧ x.1.length + x.2.1.length = l.length ∧ blkS (ltC c) 20 l = x.1 ++ blkS (ltC c) 20 x.2.1 ∧ ∀ y ∈ x.2.1, y ∈ l) (fun x => x.2.1.length) ([], l, l) ?_ ?_ ?_
  · (refine cov_of ?_ ?_ <;> simp [go_sem])
  · exact ⟨by simp, by simp, by simp, fun y hy => hy⟩
  rintro ⟨P, Q, k⟩ ⟨h1, h2, h3, h4⟩
  simp only at h1 h2 h3 h4
  have hkl : k.length = l.length := by rw [h1, ← h2]; simp
  refine awp_seq_k fun K2 hK2 => ?_
  (refine awp_sr fun KK hKK => ?_; simp [go_sem]; ((repeat' (first|(refine ag_x ?_;simp [go_sem])|intro _|refine And.intro ?_ ?_|(apply hKK;clear hKK KK)));all_goals first|refine Hold.mk ?_|omega|with_reducible assumption|(simp only [InR] at *;omega)|skip))
  (refine awp_if fun T F hT hF => ?_; simp [go_sem]; refine BR.intro (fun h5 => hT ?_) (fun h5 => hF ?_); all_goals clear hT hF T F; try simp at h5) 
  · refine awp_skip ?_
    refine hK2 _ ?_; clear hK2
    refine awp_block ?_
    have hst := blkS_step (lt := ltC c) (s := 20) (l := Q) (by omega) (by omega)
    have eQ : Q = Q.take 20 ++ Q.drop 20 := (List.take_append_drop _ _).symm
    have hm1 : ∀ y ∈ Q.take 20, y ∈ l := fun y hy => h4 y (List.mem_of_mem_take hy)
    have hm2 : ∀ y ∈ Q.drop 20, y ∈ l := fun y hy => h4 y (List.mem_of_mem_drop hy)
    have l1 : (Q.take 20).length = 20 := by simp; omega
    have l2 : (Q.drop 20).length = Q.length - 20 := by simp
    have hsl := sort_len (lt := ltC c) (Q.take 20)
    generalize Q.take 20 = X at *
    generalize Q.drop 20 = Y at *
    have S := insertion_spec (A := P) (X := X) (B := Y) (m := k) (pa := (P.length : Int)) (pb := (P.length : Int) + 20) f g c w (fun x hx y hy => hc x (hm1 x hx) y (hm1 y hy)) (by rw [h1, eQ]) rfl (by omega) (by omega)
    (refine awp_sr fun KK hKK => ?_; simp [go_sem]; ((repeat' (first|(refine ag_x ?_;simp [go_sem])|intro _|refine And.intro ?_ ?_|(apply hKK;clear hKK KK)));all_goals first|refine Hold.mk ?_|omega|with_reducible assumption|(simp only [InR] at *;omega)|skip))
    (refine callA_l [900000] (by first | exact .inl ⟨rfl, rfl⟩ | exact .inr rfl) (by simp [go_sem]) ?_; intro args ha; simp [go_sem] at ha; subst ha; refine ⟨_, _, S, (by simp [go_sem]), ?_⟩; rintro ps r hps ⟨rfl, rfl⟩; simp [go_sem]; ((repeat' (first|(refine ag_x ?_;simp [go_sem])|intro _|refine And.intro ?_ ?_|(apply hKK;clear hKK KK)));all_goals first|refine Hold.mk ?_|omega|with_reducible assumption|(simp only [InR] at *;omega)|skip))
    (refine awp_sr fun KK hKK => ?_; simp [go_sem]; ((repeat' (first|(refine ag_x ?_;simp [go_sem])|intro _|refine And.intro ?_ ?_|(apply hKK;clear hKK KK)));all_goals first|refine Hold.mk ?_|omega|with_reducible assumption|(simp only [InR] at *;omega)|skip))
    (refine awp_r fun KK hKK => ?_; simp [go_sem]; ((repeat' (first|(refine ag_x ?_;simp [go_sem])|intro _|refine And.intro ?_ ?_|(apply hKK;clear hKK KK)));all_goals first|refine Hold.mk ?_|omega|with_reducible assumption|(simp only [InR] at *;omega)|skip))
    refine ⟨(P ++ sortL (ltC c) X, Y, P ++ (sortL (ltC c) X ++ Y)), ?_, ⟨by simp, by simp; omega, by rw [h3, hst]; simp, hm2⟩, by simp only; omega⟩
    (refine cov_of ?_ ?_ <;> simp [go_sem])
    all_goals omega
  · refine awp_exit ?_
    simp only [go_sem]
    refine hK1 _ ?_; clear hK1
    have hend := blkS_end (lt := ltC c) (s := 20) (l := Q) (by omega)
    have S := insertion_spec (A := P) (X := Q) (B := []) (m := k) (pa := (P.length : Int)) (pb := (l.length : Int)) f g c w (fun x hx y hy => hc x (h4 x hx) y (h4 y hy)) (by rw [h1]; simp) rfl (by omega) (by omega)
    have e : P ++ (sortL (ltC c) Q ++ []) = blkS (ltC c) 20 l := by rw [h3, hend]; simp
    rw [e] at S
    (refine awp_sr fun KK hKK => ?_; simp [go_sem]; ((repeat' (first|(refine ag_x ?_;simp [go_sem])|intro _|refine And.intro ?_ ?_|(apply hKK;clear hKK KK)));all_goals first|refine Hold.mk ?_|omega|with_reducible assumption|(simp only [InR] at *;omega)|skip))
    (refine callA_l [900000] (by first | exact .inl ⟨rfl, rfl⟩ | exact .inr rfl) (by simp [go_sem]) ?_; intro args ha; simp [go_sem] at ha; subst ha; refine ⟨_, _, S, (by simp [go_sem]), ?_⟩; rintro ps r hps ⟨rfl, rfl⟩; simp [go_sem]; ((repeat' (first|(refine ag_x ?_;simp [go_sem])|intro _|refine And.intro ?_ ?_|(apply hKK;clear hKK KK)));all_goals first|refine Hold.mk ?_|omega|with_reducible assumption|(simp only [InR] at *;omega)|skip))
    clear S e hend h1 h2 h3 h4 h5 hkl
    refine awp_block ?_
    refine awp_loop (σ := Nat) (fun s => ⟨[(0, .own 900000 g), (1, dI l.length), (2, dF f), (6, dI s)], [(900000, (g, .row 9 1 ((blkS (ltC c) s l).map cS)))]⟩) (fun s => 20 ≤ s ∧ s ≤ 2000000000020) (fun s => l.length - s) 20 ?_ ?_ ?_
    · (refine cov_of ?_ ?_ <;> simp [go_sem])
    · omega
    rintro s ⟨hs1, hs2⟩
    refine awp_seq_k fun K4 hK4 => ?_
    (refine awp_sr fun KK hKK => ?_; simp [go_sem]; ((repeat' (first|(refine ag_x ?_;simp [go_sem])|intro _|refine And.intro ?_ ?_|(apply hKK;clear hKK KK)));all_goals first|refine Hold.mk ?_|omega|with_reducible assumption|(simp only [InR] at *;omega)|skip))
    (refine awp_if fun T F hT hF => ?_; simp [go_sem]; refine BR.intro (fun h5 => hT ?_) (fun h5 => hF ?_); all_goals clear hT hF T F; try simp at h5) 
    · refine awp_skip ?_
      refine hK4 _ ?_; clear hK4
      refine awp_block ?_
      have hbl := blkS_len (lt := ltC c) (s := s) (l := l)
      (refine awp_sr fun KK hKK => ?_; simp [go_sem]; ((repeat' (first|(refine ag_x ?_;simp [go_sem])|intro _|refine And.intro ?_ ?_|(apply hKK;clear hKK KK)));all_goals first|refine Hold.mk ?_|omega|with_reducible assumption|(simp only [InR] at *;omega)|skip))
      refine awp_seq_k fun K6 hK6 => ?_
      refine awp_block ?_
      refine awp_loop (σ := List (List UInt8) × List (List UInt8) × List (List UInt8)) (fun x => ⟨[(0, .own 900000 g), (1, dI l.length), (2, dF f), (6, dI s), (7, dI x.1.length), (8, dI (x.1.length + 2 * s))], [(900000, (g, .row 9 1 (x.2.2.map cS)))]⟩)
        (fun x => x.2.2 = x.1 ++ blkS (ltC c) s x.2.1 ∧ x.1.length + x.2.1.length = l.length ∧ blkS (ltC c) (s + s) l = x.1 ++ blkS (ltC c) (s + s) x.2.1 ∧ ∀ y ∈ x.2.1, y ∈ l) (fun x => x.2.1.length) ([], l, blkS (ltC c) s l) ?_ ?_ ?_
      · (refine cov_of ?_ ?_ <;> simp [go_sem])
      · exact ⟨by simp, by simp, by simp, fun y hy => hy⟩
      rintro ⟨P, Q, k⟩ ⟨h1, h2, h3, h4⟩
      simp only at h1 h2 h3 h4
      have hbq := blkS_len (lt := ltC c) (s := s) (l := Q)
      have hkl : k.length = l.length := by rw [h1]; simp; omega
      refine awp_seq_k fun K7 hK7 => ?_
      (refine awp_sr fun KK hKK => ?_; simp [go_sem]; ((repeat' (first|(refine ag_x ?_;simp [go_sem])|intro _|refine And.intro ?_ ?_|(apply hKK;clear hKK KK)));all_goals first|refine Hold.mk ?_|omega|with_reducible assumption|(simp only [InR] at *;omega)|skip))
      (refine awp_if fun T F hT hF => ?_; simp [go_sem]; refine BR.intro (fun h8 => hT ?_) (fun h8 => hF ?_); all_goals clear hT hF T F; try simp at h8) 
      · refine awp_skip ?_
        refine hK7 _ ?_; clear hK7
        refine awp_block ?_
        obtain ⟨b1, b2⟩ := blkS_two w (s := s) (l := Q) (by omega) (by omega)
        have hm1 : ∀ y ∈ sortL (ltC c) (Q.take s), y ∈ l := fun y hy => h4 y (List.mem_of_mem_take (sort_mem.1 hy))
        have hm2 : ∀ y ∈ sortL (ltC c) ((Q.drop s).take s), y ∈ l := fun y hy => h4 y (List.mem_of_mem_drop (List.mem_of_mem_take (sort_mem.1 hy)))
        have hm3 : ∀ y ∈ Q.drop (s + s), y ∈ l := fun y hy => h4 y (List.mem_of_mem_drop hy)
        have l1 : (sortL (ltC c) (Q.take s)).length = s := by rw [sort_len]; simp; omega
        have l2 : (sortL (ltC c) ((Q.drop s).take s)).length = s := by rw [sort_len]; simp; omega
        have l3 : (Q.drop (s + s)).length = Q.length - (s + s) := by simp
        have s1 := sort_srt w (Q.take s)
        have s2 := sort_srt w ((Q.drop s).take s)
        generalize sortL (ltC c) (Q.take s) = L at *
        generalize sortL (ltC c) ((Q.drop s).take s) = R at *
        generalize Q.drop (s + s) = Y at *
        have hml := @merge_len _ (ltC c) L R
        have S := symMerge_spec f c w (L.length + R.length) P L R (blkS (ltC c) s Y) k (P.length : Int) ((P.length : Int) + s) ((P.length : Int) + 2 * s) g (Nat.le_refl _) (by omega) (by omega) s1 s2
          (fun x hx y hy => hc x (by rcases List.mem_append.1 hx with h | h; exact hm1 x h; exact hm2 x h) y (by rcases List.mem_append.1 hy with h | h; exact hm1 y h; exact hm2 y h)) (by rw [h1, b1]) rfl (by omega) (by omega) (by omega)
        (refine awp_sr fun KK hKK => ?_; simp [go_sem]; ((repeat' (first|(refine ag_x ?_;simp [go_sem])|intro _|refine And.intro ?_ ?_|(apply hKK;clear hKK KK)));all_goals first|refine Hold.mk ?_|omega|with_reducible assumption|(simp only [InR] at *;omega)|skip))
        (refine callA_l [900000] (by first | exact .inl ⟨rfl, rfl⟩ | exact .inr rfl) (by simp [go_sem]) ?_; intro args ha; simp [go_sem] at ha; subst ha; refine ⟨_, _, S, (by simp [go_sem]), ?_⟩; rintro ps r hps ⟨rfl, rfl⟩; simp [go_sem]; ((repeat' (first|(refine ag_x ?_;simp [go_sem])|intro _|refine And.intro ?_ ?_|(apply hKK;clear hKK KK)));all_goals first|refine Hold.mk ?_|omega|with_reducible assumption|(simp only [InR] at *;omega)|skip))
        (refine awp_sr fun KK hKK => ?_; simp [go_sem]; ((repeat' (first|(refine ag_x ?_;simp [go_sem])|intro _|refine And.intro ?_ ?_|(apply hKK;clear hKK KK)));all_goals first|refine Hold.mk ?_|omega|with_reducible assumption|(simp only [InR] at *;omega)|skip))
        (refine awp_r fun KK hKK => ?_; simp [go_sem]; ((repeat' (first|(refine ag_x ?_;simp [go_sem])|intro _|refine And.intro ?_ ?_|(apply hKK;clear hKK KK)));all_goals first|refine Hold.mk ?_|omega|with_reducible assumption|(simp only [InR] at *;omega)|skip))
        refine ⟨(P ++ mergeL (ltC c) L R, Y, P ++ (mergeL (ltC c) L R ++ blkS (ltC c) s Y)), ?_, ⟨by simp, by simp; omega, by rw [h3, b2]; simp, hm3⟩, by simp only; omega⟩
        (refine cov_of ?_ ?_ <;> simp [go_sem])
        all_goals omega
      · refine awp_exit ?_
        simp only [go_sem]
        refine hK6 _ ?_; clear hK6
        refine awp_seq_k fun K9 hK9 => ?_
        have tl9 : ∀ S', Cov S' ⟨[(0, .own 900000 g), (1, dI l.length), (2, dF f), (6, dI s)], [(900000, (g, .row 9 1 ((blkS (ltC c) (s + s) l).map cS)))]⟩ → K9 S' := fun S' hS => by
          refine hK9 _ ?_
          refine awp_cov hS ?_; clear hS
          (refine awp_r fun KK hKK => ?_; simp [go_sem]; ((repeat' (first|(refine ag_x ?_;simp [go_sem])|intro _|refine And.intro ?_ ?_|(apply hKK;clear hKK KK)));all_goals first|refine Hold.mk ?_|omega|with_reducible assumption|(simp only [InR] at *;omega)|skip))
          refine ⟨s + s, ?_, by omega, by omega⟩
          (refine cov_of ?_ ?_ <;> simp [go_sem])
          omega
        clear hK9
        (refine awp_sr fun KK hKK => ?_; simp [go_sem]; ((repeat' (first|(refine ag_x ?_;simp [go_sem])|intro _|refine And.intro ?_ ?_|(apply hKK;clear hKK KK)));all_goals first|refine Hold.mk ?_|omega|with_reducible assumption|(simp only [InR] at *;omega)|skip))
        (refine awp_sr fun KK hKK => ?_; simp [go_sem]; ((repeat' (first|(refine ag_x ?_;simp [go_sem])|intro _|refine And.intro ?_ ?_|(apply hKK;clear hKK KK)));all_goals first|refine Hold.mk ?_|omega|with_reducible assumption|(simp only [InR] at *;omega)|skip))
        (refine awp_if fun T F hT hF => ?_; simp [go_sem]; refine BR.intro (fun h10 => hT ?_) (fun h10 => hF ?_); all_goals clear hT hF T F; try simp at h10) 
        · obtain ⟨b1, b2⟩ := blkS_last w (s := s) (l := Q) (by omega) (by omega) (by omega)
          have hm1 : ∀ y ∈ sortL (ltC c) (Q.take s), y ∈ l := fun y hy => h4 y (List.mem_of_mem_take (sort_mem.1 hy))
          have hm2 : ∀ y ∈ sortL (ltC c) (Q.drop s), y ∈ l := fun y hy => h4 y (List.mem_of_mem_drop (sort_mem.1 hy))
          have l1 : (sortL (ltC c) (Q.take s)).length = s := by rw [sort_len]; simp; omega
          have l2 : (sortL (ltC c) (Q.drop s)).length = Q.length - s := by rw [sort_len]; simp
          have s1 := sort_srt w (Q.take s)
          have s2 := sort_srt w (Q.drop s)
          generalize sortL (ltC c) (Q.take s) = L at *
          generalize sortL (ltC c) (Q.drop s) = R at *
          have S := symMerge_spec f c w (L.length + R.length) P L R [] k (P.length : Int) ((P.length : Int) + s) (l.length : Int) g (Nat.le_refl _) (by omega) (by omega) s1 s2
            (fun x hx y hy => hc x (by rcases List.mem_append.1 hx with h | h; exact hm1 x h; exact hm2 x h) y (by rcases List.mem_append.1 hy with h | h; exact hm1 y h; exact hm2 y h)) (by rw [h1, b1]; simp) rfl (by omega) (by omega) (by omega)
          have e : P ++ (mergeL (ltC c) L R ++ []) = blkS (ltC c) (s + s) l := by rw [h3, b2]; simp
          rw [e] at S
          (refine awp_r fun KK hKK => ?_; simp [go_sem]; ((repeat' (first|(refine ag_x ?_;simp [go_sem])|intro _|refine And.intro ?_ ?_|(apply hKK;clear hKK KK)));all_goals first|refine Hold.mk ?_|omega|with_reducible assumption|(simp only [InR] at *;omega)|skip))
          (refine callA_l [900000] (by first | exact .inl ⟨rfl, rfl⟩ | exact .inr rfl) (by simp [go_sem]) ?_; intro args ha; simp [go_sem] at ha; subst ha; refine ⟨_, _, S, (by simp [go_sem]), ?_⟩; rintro ps r hps ⟨rfl, rfl⟩; simp [go_sem]; ((repeat' (first|(refine ag_x ?_;simp [go_sem])|intro _|refine And.intro ?_ ?_|(apply hKK;clear hKK KK)));all_goals first|refine Hold.mk ?_|omega|with_reducible assumption|(simp only [InR] at *;omega)|skip))
          refine tl9 _ ?_
          (refine cov_of ?_ ?_ <;> simp [go_sem])
        · have e : k = blkS (ltC c) (s + s) l := by rw [h1, h3, blkS_same (by omega) (by omega)]
          subst e
          refine awp_skip ?_
          refine tl9 _ ?_
          (refine cov_of ?_ ?_ <;> simp [go_sem])
    · refine awp_exit ?_
      simp only [go_sem]
      rw [blkS_le (by omega) (by omega)]
      simp [go_sem]
theorem sortStable_spec {l : List (List UInt8)} (f g : Nat) (c : List UInt8 → List UInt8 → Int) (w : Weakly (ltC c)) (hc : ∀ x ∈ l, ∀ y ∈ l, PCall Tryz.prog f [dS x, dS y] fun r => r = dI (c x y)) (hl : l.length ≤ 1000000000000) :
    ACall Tryz.prog 57 [.own 900000 g, dF f] (lent g l) [900000] fun ps r => ps = [(g, .row 9 1 ((sortL (ltC c) l).map cS))] ∧ r = .tup [] := by 
  refine acall_of Tryz.func57 rfl rfl Tryz.ntmps57 (rs := []) (tys := []) rfl rfl (by simp) ?_ ?_
  · intro p hp
    simp only [List.mem_cons, List.mem_nil_iff, or_false] at hp
    subst hp; simp [notFroz]
  (refine awp_r fun KK hKK => ?_; simp [go_sem]; ((repeat' (first|(refine ag_x ?_;simp [go_sem])|intro _|refine And.intro ?_ ?_|(apply hKK;clear hKK KK)));all_goals first|refine Hold.mk ?_|omega|with_reducible assumption|(simp only [InR] at *;omega)|skip))
  (refine callA_l [900000] (by first | exact .inl ⟨rfl, rfl⟩ | exact .inr rfl) (by simp [go_sem]) ?_; intro args ha; simp [go_sem] at ha; subst ha; refine ⟨_, _, (stable_spec f g c w hc rfl hl), (by simp [go_sem]), ?_⟩; rintro ps r hps ⟨rfl, rfl⟩; simp [go_sem]; ((repeat' (first|(refine ag_x ?_;simp [go_sem])|intro _|refine And.intro ?_ ?_|(apply hKK;clear hKK KK)));all_goals first|refine Hold.mk ?_|omega|with_reducible assumption|(simp only [InR] at *;omega)|skip))
  simp [go_sem]
end Go.Proofs.YtjdccagkafnbfaaGreatDoor
