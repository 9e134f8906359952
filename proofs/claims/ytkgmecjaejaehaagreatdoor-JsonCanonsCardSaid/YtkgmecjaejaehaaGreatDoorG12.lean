/- Part of a proof: see the last text. -/
import Derived.Test.YtkgmecjaejaehaaGreatDoorG11
set_option linter.unusedVariables false
set_option linter.unusedSimpArgs false
namespace Go.Js
theorem okG_turn : ∀ (d : Nat) (v : JV), okG d v → okG d (turnV v) ∧ canonV (turnV v) = canonV v := by
 intro d
 induction d with
 | zero =>
  intro v h
  have := (leaf_canon h).2
  rw [this]
  exact ⟨h, rfl⟩
 | succ d ih =>
  intro v h
  rcases h with h | ⟨k, ns, xs, rfl, hl, hk, hx⟩
  ·have := (leaf_canon h).2
   rw [this]
   exact ⟨.inl h, rfl⟩
  ·rcases hk with ⟨rfl, rfl⟩ | ⟨rfl, hnl, hng⟩
   ·have e : turnV (.mk 5 [] [] xs) = .mk 5 [] [] (xs.map turnV) := by simp [turnV, turnL_map]
    rw [e]
    refine ⟨.inr ⟨5, [], _, rfl, by simpa using hl, .inl ⟨rfl, rfl⟩, fun y hy => ?_⟩, ?_⟩
    ·obtain ⟨x, hx', rfl⟩ := List.mem_map.1 hy
     exact (ih x (hx x hx')).1
    ·simp only [canonV, canonL_map]
     rw [if_neg (by decide), if_neg (by decide)]
     congr 1
     rw [List.map_map]
     exact List.map_congr_left fun x hx' => (ih x (hx x hx')).2
   ·have e : turnV (.mk 6 [] ns xs) = .mk 6 [] ns.reverse (xs.map turnV).reverse := by simp [turnV, turnL_map]
    rw [e]
    refine ⟨.inr ⟨6, _, _, rfl, by simpa using hl, .inr ⟨rfl, by simpa using hnl, namesG_rev hng⟩, fun y hy => ?_⟩, ?_⟩
    ·obtain ⟨x, hx', rfl⟩ := List.mem_map.1 (List.mem_reverse.1 hy)
     exact (ih x (hx x hx')).1
    ·simp only [canonV]
     rw [if_pos trivial, if_pos trivial, srtV_rev]
     congr 1
     apply List.map_congr_left
     intro n hn
     have hm : n ∈ ns := (srtV_of ns).mem_iff.1 hn
     obtain ⟨j, hj, hjn⟩ := List.mem_iff_getElem.1 hm
     have hq : ns[j]? = some n := by rw [List.getElem?_eq_getElem hj, hjn]
     have hq2 : ns.reverse[ns.length - 1 - j]? = some n := by
      rw [List.getElem?_reverse (by omega), show ns.length - 1 - (ns.length - 1 - j) = j by omega, hq]
     rw [ixV_at hng.1 hq, ixV_at (namesG_rev hng).1 hq2, Int.toNat_natCast, Int.toNat_natCast, canonL_map, canonL_map]
     have hjx : j < xs.length := by omega
     have e1 : (List.map canonV (List.map turnV xs).reverse).getD (ns.length - 1 - j) default = canonV (turnV xs[j]) := by
      rw [List.getD_eq_getElem?_getD, List.getElem?_map, List.getElem?_reverse (by rw [List.length_map]; omega), List.length_map, show xs.length - 1 - (ns.length - 1 - j) = j by omega, List.getElem?_map, List.getElem?_eq_getElem hjx]
      rfl
     have e2 : (List.map canonV xs).getD j default = canonV xs[j] := by
      rw [List.getD_eq_getElem?_getD, List.getElem?_map, List.getElem?_eq_getElem hjx]
      rfl
     rw [e1, e2]
     exact (ih xs[j] (hx _ (List.getElem_mem hjx))).2
/-! such values are valid, and not large -/
def cntN : Nat → Nat
 | 0 => 1
 | d + 1 => 1 + 4 * cntN d
theorem cntN_pos (d : Nat) : 1 ≤ cntN d := by cases d <;> simp [cntN]
theorem leaf_valid {v : JV} (h : leafG v) (left deep : Int) (h1 : 1 ≤ left) (h2 : deep ≤ 50) : vldV v left deep = (true, left - 1) := by
 have hn : ¬ (left - 1 < 0 ∨ 50 < deep) := by omega
 rcases h with ⟨k, hk, rfl⟩ | ⟨t, ht, rfl⟩ | ⟨t, ht, rfl⟩
 ·simp only [vldV]
  rw [if_neg hn, if_pos (by omega)]
  have : (k : Int) = 0 ∨ (k : Int) = 1 ∨ (k : Int) = 2 := by omega
  unfold leafV
  rw [if_pos this]
  simp
 ·simp only [vldV]
  rw [if_neg hn, if_pos (by simp)]
  simp [leafV, nums_valid t ht]
 ·simp only [vldV]
  rw [if_neg hn, if_pos (by simp)]
  simp [leafV, texts_valid t ht]
theorem vldL_all (c : Int) (hc : 0 ≤ c) : ∀ (xs : List JV) (left deep : Int), (∀ x ∈ xs, ∀ l : Int, c ≤ l → (vldV x l deep).1 = true ∧ l - c ≤ (vldV x l deep).2) → xs.length * c ≤ left →
  (vldL xs left deep).1 = true ∧ left - xs.length * c ≤ (vldL xs left deep).2
 | [], left, deep, _, _ => by simp [vldL]
 | x :: xs, left, deep, H, hl => by
  have e : ((x :: xs).length : Int) * c = xs.length * c + c := by
   rw [List.length_cons, Int.natCast_add, Int.add_mul]; simp
  rw [e] at hl ⊢
  have hxc : 0 ≤ (xs.length : Int) * c := Int.mul_nonneg (by omega) hc
  have h1 := H x (List.mem_cons_self ..) left (by omega)
  have h2 := vldL_all c hc xs (vldV x left deep).2 deep (fun y hy => H y (List.mem_cons_of_mem _ hy)) (by omega)
  simp only [vldL]
  rw [if_pos h1.1]
  exact ⟨h2.1, by omega⟩
theorem okG_valid : ∀ (d : Nat) (v : JV), okG d v → ∀ left deep : Int, (cntN d : Int) ≤ left → deep + d ≤ 50 → (vldV v left deep).1 = true ∧ left - cntN d ≤ (vldV v left deep).2 := by
 intro d
 induction d with
 | zero =>
  intro v h left deep h1 h2
  have : (cntN 0 : Int) = 1 := rfl
  rw [leaf_valid h left deep (by omega) (by omega)]
  exact ⟨rfl, by simp only; omega⟩
 | succ d ih =>
  intro v h left deep h1 h2
  have hp := cntN_pos d
  have e : (cntN (d + 1) : Int) = 1 + 4 * cntN d := by simp only [cntN]; omega
  rcases h with h | ⟨k, ns, xs, rfl, hl, hk, hx⟩
  ·rw [leaf_valid h left deep (by omega) (by omega)]
   exact ⟨rfl, by simp only; omega⟩
  ·have hn : ¬ (left - 1 < 0 ∨ 50 < deep) := by omega
   have hlc : (xs.length : Int) * cntN d ≤ 4 * cntN d := Int.mul_le_mul_of_nonneg_right (by omega) (by omega)
   have hL := vldL_all (cntN d) (by omega) xs (left - 1) (deep + 1) (fun x hx' l hc => ih x (hx x hx') l (deep + 1) hc (by omega)) (by omega)
   simp only [vldV]
   rw [if_neg hn]
   rcases hk with ⟨rfl, rfl⟩ | ⟨rfl, hnl, hng⟩
   ·rw [if_neg (by omega), if_pos rfl, if_neg (by simp), if_neg (by simp)]
    exact ⟨hL.1, by omega⟩
   ·rw [if_neg (by omega), if_neg (by omega), if_pos rfl, ← hnl, okNames_of hng, if_neg (by simp), if_neg (by simp)]
    exact ⟨hL.1, by omega⟩
def bigN : Nat → Nat
 | 0 => 10
 | d + 1 => 100 + 4 * bigN d
theorem sizeJs_le (c : Nat) : ∀ xs : List JV, (∀ x ∈ xs, sizeJ x ≤ c) → sizeJs xs ≤ xs.length * c
 | [], _ => by simp [sizeJs]
 | x :: xs, h => by
  have h1 := h x (List.mem_cons_self ..)
  have h2 := sizeJs_le c xs fun y hy => h y (List.mem_cons_of_mem _ hy)
  simp only [sizeJs, List.length_cons, Nat.add_mul, Nat.one_mul]; omega
theorem longJs_le (c : Nat) : ∀ xs : List JV, (∀ x ∈ xs, longJ x ≤ c) → longJs xs ≤ xs.length * c
 | [], _ => by simp [longJs]
 | x :: xs, h => by
  have h1 := h x (List.mem_cons_self ..)
  have h2 := longJs_le c xs fun y hy => h y (List.mem_cons_of_mem _ hy)
  simp only [longJs, List.length_cons, Nat.add_mul, Nat.one_mul]; omega
theorem longB_le (c : Nat) : ∀ ts : List (List UInt8), (∀ t ∈ ts, t.length ≤ c) → longB ts ≤ ts.length * c
 | [], _ => by simp [longB]
 | x :: xs, h => by
  have h1 := h x (List.mem_cons_self ..)
  have h2 := longB_le c xs fun y hy => h y (List.mem_cons_of_mem _ hy)
  simp only [longB, List.length_cons, Nat.add_mul, Nat.one_mul]; omega
theorem texts_len : ∀ s ∈ textT, s.length ≤ 6 := by decide +kernel
theorem nums_len : ∀ s ∈ numT, s.length ≤ 6 := by decide +kernel
theorem leaf_size {v : JV} (h : leafG v) : sizeJ v ≤ 10 ∧ longJ v ≤ 10 := by
 rcases h with ⟨k, hk, rfl⟩ | ⟨t, ht, rfl⟩ | ⟨t, ht, rfl⟩
 ·simp [sizeJ, sizeJs, longJ, longJs, longB]
 ·have := nums_len t ht
  simp [sizeJ, sizeJs, longJ, longJs, longB]; omega
 ·have := texts_len t ht
  simp [sizeJ, sizeJs, longJ, longJs, longB]; omega
theorem okG_size : ∀ (d : Nat) (v : JV), okG d v → sizeJ v ≤ bigN d ∧ longJ v ≤ bigN d := by
 intro d
 induction d with
 | zero => intro v h; exact leaf_size h
 | succ d ih =>
  intro v h
  rcases h with h | ⟨k, ns, xs, rfl, hl, hk, hx⟩
  ·have := leaf_size h
   simp only [bigN]; omega
  ·have h1 := sizeJs_le (bigN d) xs fun x hx' => (ih x (hx x hx')).1
   have h2 := longJs_le (bigN d) xs fun x hx' => (ih x (hx x hx')).2
   have h3 : xs.length * bigN d ≤ 4 * bigN d := Nat.mul_le_mul_right _ hl
   have hns : ns.length ≤ 4 ∧ ∀ s ∈ ns, s.length ≤ 6 := by
    rcases hk with ⟨_, rfl⟩ | ⟨_, hnl, hng⟩
    ·simp
    ·exact ⟨by omega, fun s hs => texts_len s (hng.2 s hs)⟩
   have h4 := longB_le 6 ns hns.2
   simp only [sizeJ, longJ, bigN, List.length_nil]
   omega
end Go.Js
namespace Go.Proofs.YtkgmecjaejaehaaGreatDoor
open Go.Eng Go.Js
set_option maxRecDepth 20000
attribute [local irreducible] AG CallA CallT AWp PCall ACall XCall AgC
theorem okG_ok {v : JV} (h : okG 4 v) : okV v = true ∧ sizeJ v ≤ 1000000 ∧ longJ v ≤ 4611686018427387904 ∧ fitV v := by
 have h1 := (okG_valid 4 v h 2000 1 (by decide) (by decide)).1
 have h2 := okG_size 4 v h
 have h3 : bigN 4 = 11060 + 0 * bigN 0 := by decide
 exact ⟨h1, by omega, by omega, vldV_fit _ v (Nat.le_refl _) 2000 1 h1⟩
theorem emO_ok : okV emO = true := by
 have h : okG 4 emO := .inr ⟨6, [], [], rfl, by simp, .inr ⟨rfl, rfl, by simp [namesG]⟩, by simp⟩
 exact (okG_ok h).1
set_option maxHeartbeats 16000000 in
theorem canons_spec (l : List Int) : PCall Tryz.prog 6 [dIs l] fun r => r = dB true := by
 refine pcall_of Tryz.func6 rfl rfl Tryz.ntmps6 (rs := [.tmp 2]) (tys := [4]) rfl rfl (by simp) ?_
 (refine awp_sr fun Y Yh => ?_; simp [go_sem]; ((repeat' (first|(refine ag_x ?_;simp [go_sem])|intro _|apply And.intro|(apply Yh;clear Yh Y)));all_goals first|apply Hold.mk|omega|with_reducible assumption|skip))
 (refine awp_sr fun Y Yh => ?_; simp [go_sem]; ((repeat' (first|(refine ag_x ?_;simp [go_sem])|intro _|apply And.intro|(apply Yh;clear Yh Y)));all_goals first|apply Hold.mk|omega|with_reducible assumption|skip))
 ((try refine CallT.toA ?_); refine callT_m (by first|exact .inl ⟨rfl,rfl⟩|exact .inr rfl) (by simp [go_sem]) ?_; intro args ha; simp [go_sem] at ha; subst ha; refine ⟨_, (grown_spec l), ?_⟩; rintro _ ⟨⟨k, t, ns, xs⟩, hv, rfl⟩; simp [go_sem, dJ_mk]; ((repeat' (first|(refine ag_x ?_;simp [go_sem, dJ_mk])|intro _|apply And.intro|(apply Yh;clear Yh Y)));all_goals first|apply Hold.mk|omega|with_reducible assumption|skip))
 
 have hc := okG_canon 4 _ hv
 have htn := okG_turn 4 _ hv
 obtain ⟨o1, s1, l1, f1⟩ := okG_ok hv
 obtain ⟨o2, s2, l2, f2⟩ := okG_ok hc.1
 obtain ⟨o3, s3, l3, f3⟩ := okG_ok htn.1
 have HB := back_spec _ (.mk k t ns xs) (Nat.le_refl _) (by omega)
 have HA := as_spec _ (.mk k t ns xs) (Nat.le_refl _) (by omega)
 have HC1 := canonE_spec (.mk k t ns xs) s1 l1
 have HC2 := canonE_spec _ s2 l2
 have HC3 := canonE_spec _ s3 l3
 have HT := turned_spec _ (.mk k t ns xs) (Nat.le_refl _) (by omega) f1
 have HB3 := back_spec _ (turnV (.mk k t ns xs)) (Nat.le_refl _) (by omega)
 have HA2 := as_spec _ (canonV (.mk k t ns xs)) (Nat.le_refl _) (by omega)
 have HS2 := same_spec _ (canonV (.mk k t ns xs)) (canonV (.mk k t ns xs)) (Nat.le_refl _) (by omega)
 have HM := mergeE_spec (.mk k t ns xs) s1 l1 o1 emO_ok
 have HS1 := same_spec _ (.mk k t ns xs) (.mk k t ns xs) (Nat.le_refl _) (by omega)
 have HAe := as_spec 1 emO (by decide +kernel) (by decide)
 have HSe := same_spec 1 emO emO (by decide +kernel) (by decide)
 rw [eqJ_self] at HS1 HS2 HSe
 unfold canO at HC1 HC2 HC3
 rw [o1] at HC1
 rw [o2, hc.2] at HC2
 rw [o3, htn.2] at HC3
 obtain ⟨k2, t2, ns2, xs2, hx2⟩ : ∃ k2 t2 ns2 xs2, canonV (.mk k t ns xs) = .mk k2 t2 ns2 xs2 := by
  cases h : canonV (.mk k t ns xs) with
  | mk k2 t2 ns2 xs2 => exact ⟨_, _, _, _, rfl⟩
 obtain ⟨k3, t3, ns3, xs3, hx3⟩ : ∃ k2 t2 ns2 xs2, turnV (.mk k t ns xs) = .mk k2 t2 ns2 xs2 := by
  cases h : turnV (.mk k t ns xs) with
  | mk k2 t2 ns2 xs2 => exact ⟨_, _, _, _, rfl⟩
 rw [hx2] at HC1 HC2 HC3 HA2 HS2
 rw [hx3] at HC3 HT HB3
 simp only [if_true, dJ_mk, List.map_nil] at HC1 HC2 HC3 HA2 HS2 HT HB3 HB HA HM HS1 HAe HSe
 clear hc htn o1 s1 l1 f1 o2 s2 l2 f2 o3 s3 l3 f3 hx2 hx3
 ((try refine CallT.toA ?_); refine callT_m (by first|exact .inl ⟨rfl,rfl⟩|exact .inr rfl) (by simp [go_sem]) ?_; intro args ha; simp [go_sem] at ha; subst ha; refine ⟨_, HB, ?_⟩; rintro _ rfl; simp [go_sem]; ((repeat' (first|(refine ag_x ?_;simp [go_sem])|intro _|apply And.intro|(apply Yh;clear Yh Y)));all_goals first|apply Hold.mk|omega|with_reducible assumption|skip))
 (refine awp_sr fun Y Yh => ?_; simp [go_sem]; ((repeat' (first|(refine ag_x ?_;simp [go_sem])|intro _|apply And.intro|(apply Yh;clear Yh Y)));all_goals first|apply Hold.mk|omega|with_reducible assumption|skip))
 ((try refine CallT.toA ?_); refine callT_m (by first|exact .inl ⟨rfl,rfl⟩|exact .inr rfl) (by simp [go_sem]) ?_; intro args ha; simp [go_sem] at ha; subst ha; refine ⟨_, HC1, ?_⟩; rintro _ rfl; simp [go_sem]; ((repeat' (first|(refine ag_x ?_;simp [go_sem])|intro _|apply And.intro|(apply Yh;clear Yh Y)));all_goals first|apply Hold.mk|omega|with_reducible assumption|skip))
 (refine awp_sr fun Y Yh => ?_; simp [go_sem]; ((repeat' (first|(refine ag_x ?_;simp [go_sem])|intro _|apply And.intro|(apply Yh;clear Yh Y)));all_goals first|apply Hold.mk|omega|with_reducible assumption|skip))
 ((try refine CallT.toA ?_); refine callT_m (by first|exact .inl ⟨rfl,rfl⟩|exact .inr rfl) (by simp [go_sem]) ?_; intro args ha; simp [go_sem] at ha; subst ha; refine ⟨_, HC2, ?_⟩; rintro _ rfl; simp [go_sem]; ((repeat' (first|(refine ag_x ?_;simp [go_sem])|intro _|apply And.intro|(apply Yh;clear Yh Y)));all_goals first|apply Hold.mk|omega|with_reducible assumption|skip))
 (refine awp_sr fun Y Yh => ?_; simp [go_sem]; ((repeat' (first|(refine ag_x ?_;simp [go_sem])|intro _|apply And.intro|(apply Yh;clear Yh Y)));all_goals first|apply Hold.mk|omega|with_reducible assumption|skip))
 ((try refine CallT.toA ?_); refine callT_m (by first|exact .inl ⟨rfl,rfl⟩|exact .inr rfl) (by simp [go_sem]) ?_; intro args ha; simp [go_sem] at ha; subst ha; refine ⟨_, HA, ?_⟩; rintro _ rfl; simp [go_sem]; ((repeat' (first|(refine ag_x ?_;simp [go_sem])|intro _|apply And.intro|(apply Yh;clear Yh Y)));all_goals first|apply Hold.mk|omega|with_reducible assumption|skip))
 ((try refine CallT.toA ?_); refine callT_m (by first|exact .inl ⟨rfl,rfl⟩|exact .inr rfl) (by simp [go_sem]) ?_; intro args ha; simp [go_sem] at ha; subst ha; refine ⟨_, HT, ?_⟩; rintro _ rfl; simp [go_sem]; ((repeat' (first|(refine ag_x ?_;simp [go_sem])|intro _|apply And.intro|(apply Yh;clear Yh Y)));all_goals first|apply Hold.mk|omega|with_reducible assumption|skip))
 (refine awp_sr fun Y Yh => ?_; simp [go_sem]; ((repeat' (first|(refine ag_x ?_;simp [go_sem])|intro _|apply And.intro|(apply Yh;clear Yh Y)));all_goals first|apply Hold.mk|omega|with_reducible assumption|skip))
 ((try refine CallT.toA ?_); refine callT_m (by first|exact .inl ⟨rfl,rfl⟩|exact .inr rfl) (by simp [go_sem]) ?_; intro args ha; simp [go_sem] at ha; subst ha; refine ⟨_, HB3, ?_⟩; rintro _ rfl; simp [go_sem]; ((repeat' (first|(refine ag_x ?_;simp [go_sem])|intro _|apply And.intro|(apply Yh;clear Yh Y)));all_goals first|apply Hold.mk|omega|with_reducible assumption|skip))
 ((try refine CallT.toA ?_); refine callT_m (by first|exact .inl ⟨rfl,rfl⟩|exact .inr rfl) (by simp [go_sem]) ?_; intro args ha; simp [go_sem] at ha; subst ha; refine ⟨_, HC3, ?_⟩; rintro _ rfl; simp [go_sem]; ((repeat' (first|(refine ag_x ?_;simp [go_sem])|intro _|apply And.intro|(apply Yh;clear Yh Y)));all_goals first|apply Hold.mk|omega|with_reducible assumption|skip))
 refine awp_seq_k fun K6 hK6 => ?_
 ((refine awp_dr (.qs [0, 1, 2, 3, 4, 5, 6, 7, 8, 9, 10, 11, 13] (.kp 12 (.kp 14 (.kp 15 (.qs [16, 17, 18] (.nb (.qs [19, 21] (.kp 20 (.kp 22 (.kp 23 (.qs [24, 25] (.nil)))))))))))) (by kernel_rfl) ?_ ?_ ?_ ?_); (kernel_rfl); (exact (by decide +kernel)); (kernel_rfl); intro Y Yh; ((repeat' (first|(refine ag_x ?_;simp [go_sem])|refine adr_nil ?_|((first|refine adr_qs fun Y Yh=>?_|refine adr_y fun Y Yh=>?_);simp [go_sem])|intro _|apply And.intro|(apply Yh;clear Yh Y)));all_goals first|apply Hold.mk|omega|with_reducible assumption|skip))
 (refine agc_m (.agg [dI k2, dS t2, dSs ns2, .sl 4 (xs2.map cJ)]) (by first|exact .inl ⟨rfl,rfl⟩|exact .inr rfl) (by simp [go_sem]) ?_ ?_; (intro hc args ha; simp [go_sem] at ha; subst ha; exact HA2); simp [go_sem]; ((repeat' (first|(refine ag_x ?_;simp [go_sem])|refine adr_nil ?_|((first|refine adr_qs fun Y Yh=>?_|refine adr_y fun Y Yh=>?_);simp [go_sem])|intro _|apply And.intro|(apply Yh;clear Yh Y)));all_goals first|apply Hold.mk|omega|with_reducible assumption|skip))
 (refine agc_m (.agg [dI k2, dS t2, dSs ns2, .sl 4 (xs2.map cJ)]) (by first|exact .inl ⟨rfl,rfl⟩|exact .inr rfl) (by simp [go_sem]) ?_ ?_; (intro hc args ha; simp [go_sem] at ha; subst ha; exact HA2); simp [go_sem]; ((repeat' (first|(refine ag_x ?_;simp [go_sem])|refine adr_nil ?_|((first|refine adr_qs fun Y Yh=>?_|refine adr_y fun Y Yh=>?_);simp [go_sem])|intro _|apply And.intro|(apply Yh;clear Yh Y)));all_goals first|apply Hold.mk|omega|with_reducible assumption|skip))
 (refine agc_f (dB true) (by first|exact .inl ⟨rfl,rfl⟩|exact .inr rfl) ?_ rfl ?_; (intro hc args ha; simp [go_sem] at ha; subst ha; exact HS2); simp [go_sem]; ((repeat' (first|(refine ag_x ?_;simp [go_sem])|refine adr_nil ?_|((first|refine adr_qs fun Y Yh=>?_|refine adr_y fun Y Yh=>?_);simp [go_sem])|intro _|apply And.intro|(apply Yh;clear Yh Y)));all_goals first|apply Hold.mk|omega|with_reducible assumption|skip))
 (refine agc_m (.agg [dI k2, dS t2, dSs ns2, .sl 4 (xs2.map cJ)]) (by first|exact .inl ⟨rfl,rfl⟩|exact .inr rfl) (by simp [go_sem]) ?_ ?_; (intro hc args ha; simp [go_sem] at ha; subst ha; exact HA2); simp [go_sem]; ((repeat' (first|(refine ag_x ?_;simp [go_sem])|refine adr_nil ?_|((first|refine adr_qs fun Y Yh=>?_|refine adr_y fun Y Yh=>?_);simp [go_sem])|intro _|apply And.intro|(apply Yh;clear Yh Y)));all_goals first|apply Hold.mk|omega|with_reducible assumption|skip))
 (refine agc_m (.agg [dI k2, dS t2, dSs ns2, .sl 4 (xs2.map cJ)]) (by first|exact .inl ⟨rfl,rfl⟩|exact .inr rfl) (by simp [go_sem]) ?_ ?_; (intro hc args ha; simp [go_sem] at ha; subst ha; exact HA2); simp [go_sem]; ((repeat' (first|(refine ag_x ?_;simp [go_sem])|refine adr_nil ?_|((first|refine adr_qs fun Y Yh=>?_|refine adr_y fun Y Yh=>?_);simp [go_sem])|intro _|apply And.intro|(apply Yh;clear Yh Y)));all_goals first|apply Hold.mk|omega|with_reducible assumption|skip))
 (refine agc_f (dB true) (by first|exact .inl ⟨rfl,rfl⟩|exact .inr rfl) ?_ rfl ?_; (intro hc args ha; simp [go_sem] at ha; subst ha; exact HS2); simp [go_sem]; ((repeat' (first|(refine ag_x ?_;simp [go_sem])|refine adr_nil ?_|((first|refine adr_qs fun Y Yh=>?_|refine adr_y fun Y Yh=>?_);simp [go_sem])|intro _|apply And.intro|(apply Yh;clear Yh Y)));all_goals first|apply Hold.mk|omega|with_reducible assumption|skip))
 (refine awp_if fun T F hT hF => ?_; simp [go_sem]; refine hF ?_; clear hT hF T F)
 refine awp_skip ?_
 refine hK6 _ ?_; clear hK6
 by_cases q : k = 6
 ·subst q
  have hm : mrg0 (.mk 6 t ns xs) = .mk 6 t ns xs := rfl
  rw [hm, dJ_mk] at HM
  (refine awp_sr fun Y Yh => ?_; simp [go_sem]; ((repeat' (first|(refine ag_x ?_;simp [go_sem])|intro _|apply And.intro|(apply Yh;clear Yh Y)));all_goals first|apply Hold.mk|omega|with_reducible assumption|skip))
  ((try refine CallT.toA ?_); refine callT_m (by first|exact .inl ⟨rfl,rfl⟩|exact .inr rfl) (by simp [go_sem]) ?_; intro args ha; simp [go_sem] at ha; subst ha; refine ⟨_, HM, ?_⟩; rintro _ rfl; simp [go_sem]; ((repeat' (first|(refine ag_x ?_;simp [go_sem])|intro _|apply And.intro|(apply Yh;clear Yh Y)));all_goals first|apply Hold.mk|omega|with_reducible assumption|skip))
  refine awp_seq_k fun K9 hK9 => ?_
  (refine awp_sr fun Y Yh => ?_; simp [go_sem]; ((repeat' (first|(refine ag_x ?_;simp [go_sem])|intro _|apply And.intro|(apply Yh;clear Yh Y)));all_goals first|apply Hold.mk|omega|with_reducible assumption|skip))
  (refine awp_if fun T F hT hF => ?_; simp [go_sem]; refine hT ?_; clear hT hF T F)
  ((refine awp_dr (.qs [0, 1, 2, 3, 5] (.kp 4 (.kp 6 (.kp 7 (.qs [8, 9] (.kp 10 (.qs [11, 12] (.nil)))))))) (by kernel_rfl) ?_ ?_ ?_ ?_); (kernel_rfl); (exact (by decide +kernel)); (kernel_rfl); intro Y Yh; ((repeat' (first|(refine ag_x ?_;simp [go_sem])|refine adr_nil ?_|((first|refine adr_qs fun Y Yh=>?_|refine adr_y fun Y Yh=>?_);simp [go_sem])|intro _|apply And.intro|(apply Yh;clear Yh Y)));all_goals first|apply Hold.mk|omega|with_reducible assumption|skip))
  (refine agc_m (.agg [dI 6, dS t, dSs ns, .sl 4 (xs.map cJ)]) (by first|exact .inl ⟨rfl,rfl⟩|exact .inr rfl) (by simp [go_sem]) ?_ ?_; (intro hc args ha; simp [go_sem] at ha; subst ha; exact HA); simp [go_sem]; ((repeat' (first|(refine ag_x ?_;simp [go_sem])|refine adr_nil ?_|((first|refine adr_qs fun Y Yh=>?_|refine adr_y fun Y Yh=>?_);simp [go_sem])|intro _|apply And.intro|(apply Yh;clear Yh Y)));all_goals first|apply Hold.mk|omega|with_reducible assumption|skip))
  (refine agc_m (.agg [dI 6, dS t, dSs ns, .sl 4 (xs.map cJ)]) (by first|exact .inl ⟨rfl,rfl⟩|exact .inr rfl) (by simp [go_sem]) ?_ ?_; (intro hc args ha; simp [go_sem] at ha; subst ha; exact HA); simp [go_sem]; ((repeat' (first|(refine ag_x ?_;simp [go_sem])|refine adr_nil ?_|((first|refine adr_qs fun Y Yh=>?_|refine adr_y fun Y Yh=>?_);simp [go_sem])|intro _|apply And.intro|(apply Yh;clear Yh Y)));all_goals first|apply Hold.mk|omega|with_reducible assumption|skip))
  (refine agc_f (dB true) (by first|exact .inl ⟨rfl,rfl⟩|exact .inr rfl) ?_ rfl ?_; (intro hc args ha; simp [go_sem] at ha; subst ha; exact HS1); simp [go_sem]; ((repeat' (first|(refine ag_x ?_;simp [go_sem])|refine adr_nil ?_|((first|refine adr_qs fun Y Yh=>?_|refine adr_y fun Y Yh=>?_);simp [go_sem])|intro _|apply And.intro|(apply Yh;clear Yh Y)));all_goals first|apply Hold.mk|omega|with_reducible assumption|skip))
  (refine agc_f (dB true) (by first|exact .inl ⟨rfl,rfl⟩|exact .inr rfl) ?_ rfl ?_; (intro hc args ha; simp [go_sem] at ha; subst ha; exact sane_spec); simp [go_sem]; ((repeat' (first|(refine ag_x ?_;simp [go_sem])|refine adr_nil ?_|((first|refine adr_qs fun Y Yh=>?_|refine adr_y fun Y Yh=>?_);simp [go_sem])|intro _|apply And.intro|(apply Yh;clear Yh Y)));all_goals first|apply Hold.mk|omega|with_reducible assumption|skip))
  (refine awp_ret ?_; simp [go_sem])
 ·have hm : mrg0 (.mk k t ns xs) = emO := by simp [mrg0, JV.kind, q]
  rw [hm] at HM
  simp only [dJ_mk, List.map_nil] at HM
  (refine awp_sr fun Y Yh => ?_; simp [go_sem]; ((repeat' (first|(refine ag_x ?_;simp [go_sem])|intro _|apply And.intro|(apply Yh;clear Yh Y)));all_goals first|apply Hold.mk|omega|with_reducible assumption|skip))
  ((try refine CallT.toA ?_); refine callT_m (by first|exact .inl ⟨rfl,rfl⟩|exact .inr rfl) (by simp [go_sem]) ?_; intro args ha; simp [go_sem] at ha; subst ha; refine ⟨_, HM, ?_⟩; rintro _ rfl; simp [go_sem]; ((repeat' (first|(refine ag_x ?_;simp [go_sem])|intro _|apply And.intro|(apply Yh;clear Yh Y)));all_goals first|apply Hold.mk|omega|with_reducible assumption|skip))
  refine awp_seq_k fun K9 hK9 => ?_
  (refine awp_sr fun Y Yh => ?_; simp [go_sem]; ((repeat' (first|(refine ag_x ?_;simp [go_sem])|intro _|apply And.intro|(apply Yh;clear Yh Y)));all_goals first|apply Hold.mk|omega|with_reducible assumption|skip))
  (refine awp_if fun T F hT hF => ?_; simp [go_sem, q]; refine hF ?_; clear hT hF T F)
  refine awp_skip ?_
  refine hK9 _ ?_; clear hK9
  (refine awp_sr fun Y Yh => ?_; simp [go_sem]; ((repeat' (first|(refine ag_false ?_ ?_ ?_;(focus (simp [go_sem, undef];done));(focus (simp [go_sem];done));simp [go_sem])|(refine ag_true ?_ ?_;(focus (simp [go_sem, undef];done));simp [go_sem])|(refine ag_x ?_;simp [go_sem, undef])|intro _|apply And.intro|(apply Yh;clear Yh Y)));all_goals first|apply Hold.mk|omega|with_reducible assumption|skip))
  ((try refine CallT.toA ?_); refine callT_m (by first|exact .inl ⟨rfl,rfl⟩|exact .inr rfl) (by simp [go_sem]) ?_; intro args ha; simp [go_sem] at ha; subst ha; refine ⟨_, HAe, ?_⟩; rintro _ rfl; simp [go_sem]; ((repeat' (first|(refine ag_false ?_ ?_ ?_;(focus (simp [go_sem, undef];done));(focus (simp [go_sem];done));simp [go_sem])|(refine ag_true ?_ ?_;(focus (simp [go_sem, undef];done));simp [go_sem])|(refine ag_x ?_;simp [go_sem, undef])|intro _|apply And.intro|(apply Yh;clear Yh Y)));all_goals first|apply Hold.mk|omega|with_reducible assumption|skip))
  ((try refine CallT.toA ?_); refine callT_m (by first|exact .inl ⟨rfl,rfl⟩|exact .inr rfl) (by simp [go_sem]) ?_; intro args ha; simp [go_sem] at ha; subst ha; refine ⟨_, HSe, ?_⟩; rintro _ rfl; simp [go_sem]; ((repeat' (first|(refine ag_false ?_ ?_ ?_;(focus (simp [go_sem, undef];done));(focus (simp [go_sem];done));simp [go_sem])|(refine ag_true ?_ ?_;(focus (simp [go_sem, undef];done));simp [go_sem])|(refine ag_x ?_;simp [go_sem, undef])|intro _|apply And.intro|(apply Yh;clear Yh Y)));all_goals first|apply Hold.mk|omega|with_reducible assumption|skip))
  ((try refine CallT.toA ?_); refine callT_m (by first|exact .inl ⟨rfl,rfl⟩|exact .inr rfl) (by simp [go_sem]) ?_; intro args ha; simp [go_sem] at ha; subst ha; refine ⟨_, sane_spec, ?_⟩; rintro _ rfl; simp [go_sem]; ((repeat' (first|(refine ag_false ?_ ?_ ?_;(focus (simp [go_sem, undef];done));(focus (simp [go_sem];done));simp [go_sem])|(refine ag_true ?_ ?_;(focus (simp [go_sem, undef];done));simp [go_sem])|(refine ag_x ?_;simp [go_sem, undef])|intro _|apply And.intro|(apply Yh;clear Yh Y)));all_goals first|apply Hold.mk|omega|with_reducible assumption|skip))
  (refine awp_ret ?_; simp [go_sem])
end Go.Proofs.YtkgmecjaejaehaaGreatDoor
