/- Part of a proof: see the last text. -/
import Derived.Test.YtmgbaegdkjcagaaWH
set_option linter.unusedVariables false
set_option linter.unusedSimpArgs false
namespace Go.Proofs.Ytmgbaegdkjcagaa
open Go.Eng
set_option maxRecDepth 20000
attribute [local irreducible] AG CallA CallT AWp PCall ACall AgC

@[go_sem] abbrev cBo (b : Bool) : List D := [.v (.bool b)]
/-- what the document's fold knows -/
structure KnownR (regs : Int) (kn : List Bool) (wd : List Int) (K : Int → Option Int) : Prop where
  lk : (kn.length : Int) = regs
  lw : (wd.length : Int) = regs
  is : ∀ (r : Int) b, 0 ≤ r → kn[r.toNat]? = some b → (K r).isSome = b
  wo : ∀ (r : Int) w v, 0 ≤ r → wd[r.toNat]? = some w → K r = some v → w = v
  word : ∀ r v, K r = some v → isW v = true
theorem KnownR.set {regs : Int} {kn : List Bool} {wd : List Int} {K : Int → Option Int} (h : KnownR regs kn wd K) {d : Int} (hd : 0 ≤ d ∧ d < regs) (is : Bool) (n : Int) (hn : is = true → isW n = true) : KnownR regs (kn.set d.toNat is) (wd.set d.toNat n) (upK K d (if is then some n else none)) := by
  have lk := h.lk
  have lw := h.lw
  refine ⟨by simpa using lk, by simpa using lw, fun r b hr hb => ?_, fun r w v hr hw hv => ?_, fun r v hv => ?_⟩
  · rw [List.getElem?_set] at hb
    unfold upK
    by_cases hrd : r = d
    · subst hrd
      rw [if_pos rfl, if_pos (by omega)] at hb
      simp only [Option.some.injEq] at hb
      subst hb
      cases is <;> simp
    · rw [if_neg (by omega)] at hb
      rw [if_neg hrd]
      exact h.is r b hr hb
  · rw [List.getElem?_set] at hw
    unfold upK at hv
    by_cases hrd : r = d
    · subst hrd
      rw [if_pos rfl, if_pos (by omega)] at hw
      simp only [Option.some.injEq] at hw
      subst hw
      cases is <;> simp at hv
      exact hv
    · rw [if_neg (by omega)] at hw
      rw [if_neg hrd] at hv
      exact h.wo r w v hr hw hv
  · unfold upK at hv
    split at hv
    · cases is with
      | true => simp at hv; subst hv; exact hn rfl
      | false => simp at hv
    · exact h.word r v hv
theorem flds_d {op : Int} (h : 0 ≤ op) (h' : op ≤ 10) : (flds op).contains 68 = decide (op ≤ 8) := by
  have hk : op = 0 ∨ op = 1 ∨ op = 2 ∨ op = 3 ∨ op = 4 ∨ op = 5 ∨ op = 6 ∨ op = 7 ∨ op = 8 ∨ op = 9 ∨ op = 10 := by omega
  rcases hk with h | h | h | h | h | h | h | h | h | h | h <;> subst h <;> decide

theorem flds_m {op : Int} (h : 0 ≤ op) (h' : op ≤ 10) : 68 ∈ flds op ↔ op ≤ 8 := by
  have := flds_d h h'
  rw [← List.elem_eq_contains] at this
  constructor
  · intro hm
    rw [List.elem_eq_true_of_mem hm] at this
    exact of_decide_eq_true this.symm
  · intro hl
    rw [decide_eq_true hl] at this
    exact List.mem_of_elem_eq_true this

set_option maxHeartbeats 8000000 in
theorem rfold_spec (t : Tr) : PCall Try.prog 29 [dTr t] fun r => r = .tup [dTr (if trOk t then foldV t else ⟨0, [], []⟩), dI (if trOk t then 0 else 1)] := by 
  refine pcall_of Try.func29 rfl rfl Try.ntmps29 (rs := [.cell 2 32, .tmp 3]) (tys := [32, 36]) rfl rfl (by simp) ?_
  (refine awp_sr fun KK hKK => ?_; simp [go_sem]; ((repeat' (first|(refine ag_x ?_;simp [go_sem])|intro _|refine And.intro ?_ ?_|(apply hKK;clear hKK KK)));all_goals first|refine Hold.mk ?_|omega|with_reducible assumption|(simp only [InR] at *;omega)|skip))
  rename_i g1 g2
  refine awp_frzbox 1 rfl rfl ?_
  simp only [go_sem]
  refine awp_seq_k fun K1 hK1 => ?_
  (refine awp_sr fun KK hKK => ?_; simp [go_sem]; ((repeat' (first|(refine ag_x ?_;simp [go_sem])|intro _|refine And.intro ?_ ?_|(apply hKK;clear hKK KK)));all_goals first|refine Hold.mk ?_|omega|with_reducible assumption|(simp only [InR] at *;omega)|skip))
  ((try refine CallT.toA ?_); refine callT_m (by first | exact .inl ⟨rfl, rfl⟩ | exact .inr rfl) (by simp [go_sem]) ?_; intro args ha; simp [go_sem] at ha; subst ha; refine ⟨_, (rvalid_spec _), ?_⟩; rintro _ rfl; simp [go_sem]; ((repeat' (first|(refine ag_x ?_;simp [go_sem])|intro _|refine And.intro ?_ ?_|(apply hKK;clear hKK KK)));all_goals first|refine Hold.mk ?_|omega|with_reducible assumption|(simp only [InR] at *;omega)|skip))
  (refine awp_if fun T F hT hF => ?_; simp [go_sem]; refine BR.intro (fun h2 => hT ?_) (fun h2 => hF ?_); all_goals clear hT hF T F; try simp at h2)
  · (refine awp_sr fun KK hKK => ?_; simp [go_sem]; ((repeat' (first|(refine ag_x ?_;simp [go_sem])|intro _|refine And.intro ?_ ?_|(apply hKK;clear hKK KK)));all_goals first|refine Hold.mk ?_|omega|with_reducible assumption|(simp only [InR] at *;omega)|skip))
    (refine awp_ret ?_; simp [go_sem, h2])
  · refine awp_skip ?_
    refine hK1 _ ?_; clear hK1
    have hok : trOk t = true := h2
    obtain ⟨hr1, hr2, hcl, hel⟩ := trOk_regs hok
    have hsl := trOk_slots hok
    (refine awp_sr fun KK hKK => ?_; simp [go_sem]; ((repeat' (first|(refine ag_x ?_;simp [go_sem])|intro _|refine And.intro ?_ ?_|(apply hKK;clear hKK KK)));all_goals first|refine Hold.mk ?_|omega|with_reducible assumption|(simp only [InR] at *;omega)|skip))
    ((try refine CallT.toA ?_); refine callT_m (by first | exact .inl ⟨rfl, rfl⟩ | exact .inr rfl) (by simp [go_sem]) ?_; intro args ha; simp [go_sem] at ha; subst ha; refine ⟨_, (own_spec t (by omega) (by omega) (fun x hx => by have := hsl x hx; omega)), ?_⟩; rintro _ rfl; simp [go_sem]; ((repeat' (first|(refine ag_x ?_;simp [go_sem])|intro _|refine And.intro ?_ ?_|(apply hKK;clear hKK KK)));all_goals first|refine Hold.mk ?_|omega|with_reducible assumption|(simp only [InR] at *;omega)|skip))
    rename_i g4
    (refine awp_sr fun KK hKK => ?_; simp [go_sem]; ((repeat' (first|(refine ag_x ?_;simp [go_sem])|intro _|refine And.intro ?_ ?_|(apply hKK;clear hKK KK)));all_goals first|refine Hold.mk ?_|omega|with_reducible assumption|(simp only [InR] at *;omega)|skip))
    refine awp_nilbox 134 57 6 1 (sb := 4) rfl rfl (by decide) fun gc => ?_
    simp only [List.set, go_sem]
    (refine awp_sr fun KK hKK => ?_; simp [go_sem]; ((repeat' (first|(refine ag_x ?_;simp [go_sem])|intro _|refine And.intro ?_ ?_|(apply hKK;clear hKK KK)));all_goals first|refine Hold.mk ?_|omega|with_reducible assumption|(simp only [InR] at *;omega)|skip))
    rename_i gk
    (refine awp_sr fun KK hKK => ?_; simp [go_sem]; ((repeat' (first|(refine ag_x ?_;simp [go_sem])|intro _|refine And.intro ?_ ?_|(apply hKK;clear hKK KK)));all_goals first|refine Hold.mk ?_|omega|with_reducible assumption|(simp only [InR] at *;omega)|skip))
    rename_i gw
    refine awp_seq_k fun K3 hK3 => ?_
    (refine awp_sr fun KK hKK => ?_; simp [go_sem]; ((repeat' (first|(refine ag_x ?_;simp [go_sem])|intro _|refine And.intro ?_ ?_|(apply hKK;clear hKK KK)));all_goals first|refine Hold.mk ?_|omega|with_reducible assumption|(simp only [InR] at *;omega)|skip))
    refine awp_block ?_
    refine awp_loop (σ := Nat × (Int → Option Int) × List Ins × Nat × List Bool × List Int) (fun x => ⟨[(1, .rd [dI t.regs, .sl 6 (t.code.map cIns), .sl 2 (t.exits.map cExi)]), (2, .ptr 2 g2 0), (4, .ptr 4 g4 0), (5, .own 20 gk), (6, .own 23 gw), (7, dI x.1)], [(2, g2, .box [dI 0, .v (.slice none 0 0), .v (.slice none 0 0)]), (4, g4, .box [dI t.regs, .own 134 x.2.2.2.1, .sl 2 (t.exits.map cExi)]), (134, x.2.2.2.1, .row 57 6 (x.2.2.1.map cIns)), (20, gk, .row 4 1 (x.2.2.2.2.1.map cBo)), (23, gw, .row 3 1 (x.2.2.2.2.2.map cI))]⟩)
      (fun x => x.1 ≤ t.code.length ∧ x.2.2.1.length ≤ x.1 ∧ KnownR t.regs x.2.2.2.2.1 x.2.2.2.2.2 x.2.1 ∧ x.2.2.1 ++ foldFrom (t.code.drop x.1) x.2.1 = (foldV t).code) (fun x => t.code.length - x.1) (0, (fun _ => none), [], gc, List.replicate t.regs.toNat false, List.replicate t.regs.toNat 0) ?_ ?_ ?_
    · (refine cov_of ?_ ?_ <;> simp [go_sem])
    · refine ⟨by simp, by simp, ⟨by simp; omega, by simp; omega, fun r b hr hb => ?_, fun _ _ _ _ _ h => (by cases h), fun _ _ h => by cases h⟩, by simp [foldV]⟩
      have := List.mem_of_getElem? hb
      simp at this
      simp [this.2]
    rintro ⟨k, K, out, gc, kn, wd⟩ ⟨hk, hol, hKn, hout⟩
    simp only at hk hol hKn hout
    have hlk := hKn.lk
    have hlw := hKn.lw
    refine awp_seq_k fun K4 hK4 => ?_
    (refine awp_sr fun KK hKK => ?_; simp [go_sem]; ((repeat' (first|(refine ag_x ?_;simp [go_sem])|intro _|refine And.intro ?_ ?_|(apply hKK;clear hKK KK)));all_goals first|refine Hold.mk ?_|omega|with_reducible assumption|(simp only [InR] at *;omega)|skip))
    (refine awp_if fun T F hT hF => ?_; simp [go_sem]; refine BR.intro (fun h5 => hT ?_) (fun h5 => hF ?_); all_goals clear hT hF T F; try simp at h5)
    · refine awp_skip ?_
      refine hK4 _ ?_; clear hK4
      obtain ⟨x, hx⟩ : ∃ x, t.code[k]? = some x := ⟨_, List.getElem?_eq_getElem (by omega)⟩
      have hins := insOk_at hok hx
      obtain ⟨ho1, ho2, hxa, hxb, hxd, hxn⟩ := insOk_regs hins hr1
      obtain ⟨ka, hka⟩ : ∃ v, kn[x.a.toNat]? = some v := ⟨_, List.getElem?_eq_getElem (by omega)⟩
      obtain ⟨kb, hkb⟩ : ∃ v, kn[x.b.toNat]? = some v := ⟨_, List.getElem?_eq_getElem (by omega)⟩
      obtain ⟨kd, hkd⟩ : ∃ v, kn[x.d.toNat]? = some v := ⟨_, List.getElem?_eq_getElem (by omega)⟩
      obtain ⟨wa, hwa⟩ : ∃ v, wd[x.a.toNat]? = some v := ⟨_, List.getElem?_eq_getElem (by omega)⟩
      obtain ⟨wb, hwb⟩ : ∃ v, wd[x.b.toNat]? = some v := ⟨_, List.getElem?_eq_getElem (by omega)⟩
      obtain ⟨wdd, hwdd⟩ : ∃ v, wd[x.d.toNat]? = some v := ⟨_, List.getElem?_eq_getElem (by omega)⟩
      have isa := hKn.is x.a ka hxa.1 hka
      have isb := hKn.is x.b kb hxb.1 hkb
      have Ka : ka = true → K x.a = some wa := fun h => by
        rw [h] at isa
        obtain ⟨v, hv⟩ := Option.isSome_iff_exists.1 isa
        rw [hv, hKn.wo x.a wa v hxa.1 hwa hv]
      have Kb : kb = true → K x.b = some wb := fun h => by
        rw [h] at isb
        obtain ⟨v, hv⟩ := Option.isSome_iff_exists.1 isb
        rw [hv, hKn.wo x.b wb v hxb.1 hwb hv]
      have Na : ka = false → K x.a = none := fun h => by rw [h] at isa; simpa using isa
      have Nb : kb = false → K x.b = none := fun h => by rw [h] at isb; simpa using isb
      rw [drop_at hx] at hout
      refine awp_seq_k fun K6 hK6 => ?_
      have tl6 : ∀ S' K' out' gc' kn' wd', out'.length ≤ k + 1 → KnownR t.regs kn' wd' K' → out' ++ foldFrom (t.code.drop (k + 1)) K' = (foldV t).code → Cov S' ⟨[(1, .rd [dI t.regs, .sl 6 (t.code.map cIns), .sl 2 (t.exits.map cExi)]), (2, .ptr 2 g2 0), (4, .ptr 4 g4 0), (5, .own 20 gk), (6, .own 23 gw), (7, dI k)], [(2, g2, .box [dI 0, .v (.slice none 0 0), .v (.slice none 0 0)]), (4, g4, .box [dI t.regs, .own 134 gc', .sl 2 (t.exits.map cExi)]), (134, gc', .row 57 6 (out'.map cIns)), (20, gk, .row 4 1 (kn'.map cBo)), (23, gw, .row 3 1 (wd'.map cI))]⟩ → K6 S' := fun S' K' out' gc' kn' wd' h1 h2' h3 hS => by
        refine hK6 _ ?_; clear hK6
        refine awp_cov hS ?_; clear hS
        (refine awp_r fun KK hKK => ?_; simp [go_sem]; ((repeat' (first|(refine ag_x ?_;simp [go_sem])|intro _|refine And.intro ?_ ?_|(apply hKK;clear hKK KK)));all_goals first|refine Hold.mk ?_|omega|with_reducible assumption|(simp only [InR] at *;omega)|skip))
        refine ⟨(k + 1, K', out', gc', kn', wd'), ?_, ⟨by simp; omega, h1, h2', h3⟩, by simp; omega⟩
        (refine cov_of ?_ ?_ <;> simp [go_sem])
      clear hK6
      refine awp_block ?_
      (refine awp_sr fun KK hKK => ?_; simp [go_sem, hx]; ((repeat' (first|(refine ag_x ?_;simp [go_sem, hx])|intro _|refine And.intro ?_ ?_|(apply hKK;clear hKK KK)));all_goals first|refine Hold.mk ?_|omega|with_reducible assumption|(simp only [InR] at *;omega)|skip))
      rename_i g8
      refine awp_seq_k fun K7 hK7 => ?_
      ((refine awp_dr (.qs [0, 1, 2, 3, 4, 5, 6, 7, 8, 9, 10, 11, 12, 16, 13, 14, 15, 17, 18, 19] (.nil)) (by kernel_rfl) ?_ ?_ ?_ ?_); (kernel_rfl); (exact (by decide +kernel)); (kernel_rfl); intro KK hKK; ((repeat' (first|(refine ag_x ?_;simp [go_sem, hka, hwa])|refine adr_nil ?_|refine adr_two ?_ ?_|refine adr_kp2 ?_ ?_|((first|refine adr_qs fun KK hKK=>?_|refine adr_y fun KK hKK=>?_);simp [go_sem, hka, hwa])|intro _|refine And.intro ?_ ?_|(apply hKK;clear hKK KK)));all_goals first|refine Hold.mk ?_|omega|with_reducible assumption|(simp only [InR] at *;omega)|skip))
      (refine awp_if fun T F hT hF => ?_; simp [go_sem]; refine BR.intro (fun h8 => hT ?_) (fun h8 => hF ?_); all_goals clear hT hF T F; try simp at h8)
      · refine awp_exit ?_
        simp only [go_sem]
        refine tl6 _ K out gc kn wd (by omega) hKn ?_ ?_
        · obtain ⟨⟨h8a, h8b⟩, h8c⟩ := h8
          simp only [foldFrom, h8a, if_true, Ka h8b, h8c] at hout
          exact hout
        · (refine cov_of ?_ ?_ <;> simp [go_sem])
      · refine awp_skip ?_
        refine hK7 _ ?_; clear hK7
        have hout2 : out ++ (if x.op ≤ 8 then foldI x (foldRes x K) :: foldFrom (t.code.drop (k + 1)) (upK K x.d (foldRes x K)) else x :: foldFrom (t.code.drop (k + 1)) K) = (foldV t).code := by
          by_cases h9 : x.op = 9
          · have : ¬ K x.a = some x.n := by
              intro hka'
              cases hkk : ka with
              | true => rw [Ka hkk] at hka'; simp only [Option.some.injEq] at hka'; exact h8 h9 hkk hka'
              | false => rw [Na hkk] at hka'; cases hka'
            simp only [foldFrom, h9, if_true, this, if_false] at hout
            simpa [h9] using hout
          · by_cases h10 : x.op = 10
            · simp only [foldFrom, h10, if_true, show ¬ (10 : Int) = 9 by decide, if_false] at hout
              simpa [h10] using hout
            · simp only [foldFrom, h9, h10, if_false] at hout
              rw [if_pos (by omega)]
              exact hout
        clear hout
        (refine awp_sr fun KK hKK => ?_; simp [go_sem]; ((repeat' (first|(refine ag_x ?_;simp [go_sem])|intro _|refine And.intro ?_ ?_|(apply hKK;clear hKK KK)));all_goals first|refine Hold.mk ?_|omega|with_reducible assumption|(simp only [InR] at *;omega)|skip))
        (refine awp_sr fun KK hKK => ?_; simp [go_sem]; ((repeat' (first|(refine ag_x ?_;simp [go_sem])|intro _|refine And.intro ?_ ?_|(apply hKK;clear hKK KK)));all_goals first|refine Hold.mk ?_|omega|with_reducible assumption|(simp only [InR] at *;omega)|skip))
        refine awp_seq_k fun K9 hK9 => ?_
        have tl9 : ∀ S', Cov S' ⟨[(1, .rd [dI t.regs, .sl 6 (t.code.map cIns), .sl 2 (t.exits.map cExi)]), (2, .ptr 2 g2 0), (4, .ptr 4 g4 0), (5, .own 20 gk), (6, .own 23 gw), (7, dI k), (8, .ptr 8 g8 0), (9, dI (if x.op = 1 then wa else x.n)), (10, dB (if x.op = 1 then ka else decide (x.op = 0)))], [(2, g2, .box [dI 0, .v (.slice none 0 0), .v (.slice none 0 0)]), (4, g4, .box [dI t.regs, .own 134 gc, .sl 2 (t.exits.map cExi)]), (134, gc, .row 57 6 (out.map cIns)), (20, gk, .row 4 1 (kn.map cBo)), (23, gw, .row 3 1 (wd.map cI)), (8, g8, .box (cIns x))]⟩ → K9 S' := fun S' hS => by
          refine hK9 _ ?_; clear hK9
          refine awp_cov hS ?_; clear hS
          refine awp_seq_k fun K10 hK10 => ?_
          have tl10 : ∀ S' n is, (x.op ≤ 8 → (if is then some n else none) = foldRes x K) → (x.op ≤ 8 → is = true → isW n = true) → Cov S' ⟨[(1, .rd [dI t.regs, .sl 6 (t.code.map cIns), .sl 2 (t.exits.map cExi)]), (2, .ptr 2 g2 0), (4, .ptr 4 g4 0), (5, .own 20 gk), (6, .own 23 gw), (7, dI k), (8, .ptr 8 g8 0), (9, dI n), (10, dB is)], [(2, g2, .box [dI 0, .v (.slice none 0 0), .v (.slice none 0 0)]), (4, g4, .box [dI t.regs, .own 134 gc, .sl 2 (t.exits.map cExi)]), (134, gc, .row 57 6 (out.map cIns)), (20, gk, .row 4 1 (kn.map cBo)), (23, gw, .row 3 1 (wd.map cI)), (8, g8, .box (cIns x))]⟩ → K10 S' := fun S' n is hres hnw hS => by
            refine hK10 _ ?_; clear hK10
            refine awp_cov hS ?_; clear hS
            refine awp_seq_k fun K11 hK11 => ?_
            have tl11 : ∀ S' K' y kn' wd', KnownR t.regs kn' wd' K' → (out ++ [y]) ++ foldFrom (t.code.drop (k + 1)) K' = (foldV t).code → Cov S' ⟨[(1, .rd [dI t.regs, .sl 6 (t.code.map cIns), .sl 2 (t.exits.map cExi)]), (2, .ptr 2 g2 0), (4, .ptr 4 g4 0), (5, .own 20 gk), (6, .own 23 gw), (7, dI k), (8, .ptr 8 g8 0)], [(2, g2, .box [dI 0, .v (.slice none 0 0), .v (.slice none 0 0)]), (4, g4, .box [dI t.regs, .own 134 gc, .sl 2 (t.exits.map cExi)]), (134, gc, .row 57 6 (out.map cIns)), (20, gk, .row 4 1 (kn'.map cBo)), (23, gw, .row 3 1 (wd'.map cI)), (8, g8, .box (cIns y))]⟩ → K11 S' := fun S' K' y kn' wd' h1 h2' hS => by
              refine hK11 _ ?_; clear hK11
              refine awp_cov hS ?_; clear hS
              (refine awp_r fun KK hKK => ?_; simp [go_sem]; ((repeat' (first|(refine ag_x ?_;simp [go_sem])|intro _|refine And.intro ?_ ?_|(apply hKK;clear hKK KK)));all_goals first|refine Hold.mk ?_|omega|with_reducible assumption|(simp only [InR] at *;omega)|skip))
              rename_i ga gb
              refine tl6 _ K' (out ++ [y]) gb kn' wd' (by simp; omega) h1 h2' ?_
              (refine cov_of ?_ ?_ <;> simp [go_sem])
            clear hK11
            (refine awp_sr fun KK hKK => ?_; simp [go_sem]; ((repeat' (first|(refine ag_x ?_;simp [go_sem])|intro _|refine And.intro ?_ ?_|(apply hKK;clear hKK KK)));all_goals first|refine Hold.mk ?_|omega|with_reducible assumption|(simp only [InR] at *;omega)|skip))
            ((try refine CallT.toA ?_); refine callT_m (by first | exact .inl ⟨rfl, rfl⟩ | exact .inr rfl) (by simp [go_sem]) ?_; intro args ha; simp [go_sem] at ha; subst ha; refine ⟨_, (has_spec x.op 68 ho1 ho2), ?_⟩; rintro _ rfl; simp [go_sem, flds_d ho1 ho2]; ((repeat' (first|(refine ag_x ?_;simp [go_sem, flds_d ho1 ho2])|intro _|refine And.intro ?_ ?_|(apply hKK;clear hKK KK)));all_goals first|refine Hold.mk ?_|omega|with_reducible assumption|(simp only [InR] at *;omega)|skip))
            (refine awp_if fun T F hT hF => ?_; simp [go_sem]; refine BR.intro (fun h12 => hT ?_) (fun h12 => hF ?_); all_goals clear hT hF T F; try simp at h12)
            · have h8' : x.op ≤ 8 := (flds_m ho1 ho2).1 h12
              rw [if_pos h8'] at hout2
              have hr' := hres h8'
              rw [← hr'] at hout2
              have hKs := hKn.set hxd is n (hnw h8')
              (refine awp_sr fun KK hKK => ?_; simp [go_sem, hkd]; ((repeat' (first|(refine ag_x ?_;simp [go_sem, hkd])|intro _|refine And.intro ?_ ?_|(apply hKK;clear hKK KK)));all_goals first|refine Hold.mk ?_|omega|with_reducible assumption|(simp only [InR] at *;omega)|skip))
              (refine awp_sr fun KK hKK => ?_; simp [go_sem, hwdd]; ((repeat' (first|(refine ag_x ?_;simp [go_sem, hwdd])|intro _|refine And.intro ?_ ?_|(apply hKK;clear hKK KK)));all_goals first|refine Hold.mk ?_|omega|with_reducible assumption|(simp only [InR] at *;omega)|skip))
              (refine awp_sr fun KK hKK => ?_; simp [go_sem]; ((repeat' (first|(refine ag_x ?_;simp [go_sem])|intro _|refine And.intro ?_ ?_|(apply hKK;clear hKK KK)));all_goals first|refine Hold.mk ?_|omega|with_reducible assumption|(simp only [InR] at *;omega)|skip))
              (refine awp_if fun T F hT hF => ?_; simp [go_sem]; refine BR.intro (fun h13 => hT ?_) (fun h13 => hF ?_); all_goals clear hT hF T F; try simp at h13)
              · subst h13
                (refine awp_r fun KK hKK => ?_; simp [go_sem]; ((repeat' (first|(refine ag_x ?_;simp [go_sem])|intro _|refine And.intro ?_ ?_|(apply hKK;clear hKK KK)));all_goals first|refine Hold.mk ?_|omega|with_reducible assumption|(simp only [InR] at *;omega)|skip))
                refine tl11 _ _ ⟨0, x.d, 0, 0, n, 0⟩ _ _ hKs ?_ ?_
                · rw [List.append_assoc]; exact hout2
                · (refine cov_of ?_ ?_ <;> simp [go_sem])
              · subst h13
                refine awp_skip ?_
                refine tl11 _ _ x _ _ hKs ?_ ?_
                · rw [List.append_assoc]; exact hout2
                · (refine cov_of ?_ ?_ <;> simp [go_sem])
            · have h8n : ¬ x.op ≤ 8 := fun h => h12 ((flds_m ho1 ho2).2 h)
              rw [if_neg h8n] at hout2
              refine awp_skip ?_
              refine tl11 _ K x kn wd hKn ?_ ?_
              · rw [List.append_assoc]; exact hout2
              · (refine cov_of ?_ ?_ <;> simp [go_sem])
          clear hK10
          (refine awp_sr fun KK hKK => ?_; simp [go_sem, hka, hkb]; ((repeat' (first|(refine ag_x ?_;simp [go_sem, hka, hkb])|intro _|refine And.intro ?_ ?_|(apply hKK;clear hKK KK)));all_goals first|refine Hold.mk ?_|omega|with_reducible assumption|(simp only [InR] at *;omega)|skip))
          (refine awp_if fun T F hT hF => ?_; simp [go_sem]; refine BR.intro (fun h14 => hT ?_) (fun h14 => hF ?_); all_goals clear hT hF T F; try simp at h14)
          · obtain ⟨⟨⟨h14a, h14b⟩, h14c⟩, h14d⟩ := h14
            have ew := hKn.word _ _ (Ka h14c)
            have ew2 := hKn.word _ _ (Kb h14d)
            ((refine awp_d (.qs [0, 2, 3, 7, 8, 1, 4, 5, 6, 9, 10, 11] (.one 12 (.qs [13, 14, 15, 16, 17] (.nil)))) (by kernel_rfl) ?_ ?_ ?_ ?_); (kernel_rfl); (exact (by decide +kernel)); (kernel_rfl); intro KK hKK; ((repeat' (first|(refine ag_x ?_;simp [go_sem, hwa, hwb])|refine adr_nil ?_|refine adr_two ?_ ?_|refine adr_kp2 ?_ ?_|((first|refine adr_qs fun KK hKK=>?_|refine adr_y fun KK hKK=>?_);simp [go_sem, hwa, hwb])|intro _|refine And.intro ?_ ?_|(apply hKK;clear hKK KK)));all_goals first|refine Hold.mk ?_|omega|with_reducible assumption|(simp only [InR] at *;omega)|skip))
            ((try refine CallT.toA ?_); refine callT_m (by first | exact .inl ⟨rfl, rfl⟩ | exact .inr rfl) (by simp [go_sem]) ?_; intro args ha; simp [go_sem] at ha; subst ha; refine ⟨_, (rvalue_spec x.op wa wb ew ew2), ?_⟩; rintro _ rfl; simp [go_sem]; ((repeat' (first|(refine ag_x ?_;simp [go_sem])|refine adr_nil ?_|refine adr_two ?_ ?_|refine adr_kp2 ?_ ?_|((first|refine adr_qs fun KK hKK=>?_|refine adr_y fun KK hKK=>?_);simp [go_sem])|intro _|refine And.intro ?_ ?_|(apply hKK;clear hKK KK)));all_goals first|refine Hold.mk ?_|omega|with_reducible assumption|(simp only [InR] at *;omega)|skip))
            refine tl10 _ (valR x.op wa wb).1 (valR x.op wa wb).2 (fun _ => ?_) (fun _ h => val_word ew ew2 h) ?_
            · simp only [foldRes, show ¬ x.op = 0 by omega, show ¬ x.op = 1 by omega, if_false, Ka h14c, Kb h14d]
            · (refine cov_of ?_ ?_ <;> simp [go_sem])
          · refine awp_skip ?_
            refine tl10 _ (if x.op = 1 then wa else x.n) (if x.op = 1 then ka else decide (x.op = 0)) (fun h8' => ?_) (fun h8' h => ?_) ?_
            · by_cases h1 : x.op = 1
              · simp only [h1, if_true, foldRes, show ¬ (1 : Int) = 0 by decide, if_false]
                cases hkk : ka with
                | true => simp [Ka hkk]
                | false => simp [Na hkk]
              · by_cases h0 : x.op = 0
                · simp [foldRes, h0]
                · simp only [foldRes, h0, h1, if_false, decide_false, Bool.false_eq_true]
                  cases hkk : ka with
                  | false => simp [Na hkk]
                  | true =>
                    cases hkk2 : kb with
                    | false => rw [Ka hkk, Nb hkk2]
                    | true => rw [h14 (by omega) h8' hkk] at hkk2; cases hkk2
            · by_cases h1 : x.op = 1
              · simp only [h1, if_true] at h ⊢
                exact hKn.word _ _ (Ka h)
              · simp only [h1, if_false] at h ⊢
                exact hxn
            · (refine cov_of ?_ ?_ <;> simp [go_sem])
        clear hK9
        (refine awp_sr fun KK hKK => ?_; simp [go_sem]; ((repeat' (first|(refine ag_x ?_;simp [go_sem])|intro _|refine And.intro ?_ ?_|(apply hKK;clear hKK KK)));all_goals first|refine Hold.mk ?_|omega|with_reducible assumption|(simp only [InR] at *;omega)|skip))
        (refine awp_if fun T F hT hF => ?_; simp [go_sem]; refine BR.intro (fun h15 => hT ?_) (fun h15 => hF ?_); all_goals clear hT hF T F; try simp at h15)
        · (refine awp_sr fun KK hKK => ?_; simp [go_sem, hwa]; ((repeat' (first|(refine ag_x ?_;simp [go_sem, hwa])|intro _|refine And.intro ?_ ?_|(apply hKK;clear hKK KK)));all_goals first|refine Hold.mk ?_|omega|with_reducible assumption|(simp only [InR] at *;omega)|skip))
          (refine awp_r fun KK hKK => ?_; simp [go_sem, hka]; ((repeat' (first|(refine ag_x ?_;simp [go_sem, hka])|intro _|refine And.intro ?_ ?_|(apply hKK;clear hKK KK)));all_goals first|refine Hold.mk ?_|omega|with_reducible assumption|(simp only [InR] at *;omega)|skip))
          refine tl9 _ ?_
          (refine cov_of ?_ ?_ <;> simp [go_sem, h15])
        · refine awp_skip ?_
          refine tl9 _ ?_
          (refine cov_of ?_ ?_ <;> simp [go_sem, h15])
    · refine awp_exit ?_
      simp only [go_sem]
      refine hK3 _ ?_; clear hK3
      have : k = t.code.length := by omega
      subst this
      rw [List.drop_length] at hout
      simp only [foldFrom, List.append_nil] at hout
      (refine awp_sr fun KK hKK => ?_; simp [go_sem]; ((repeat' (first|(refine ag_x ?_;simp [go_sem])|intro _|refine And.intro ?_ ?_|(apply hKK;clear hKK KK)));all_goals first|refine Hold.mk ?_|omega|with_reducible assumption|(simp only [InR] at *;omega)|skip))
      (refine awp_ret ?_; simp [go_sem, hok])
      simp [foldV] at hout ⊢
      rw [hout]
end Go.Proofs.Ytmgbaegdkjcagaa

namespace Go.Proofs.Ytmgbaegdkjcagaa
open Go.Eng
set_option maxRecDepth 20000
set_option linter.unusedSimpArgs false
set_option linter.unusedVariables false
attribute [local irreducible] AG CallA CallT AWp PCall ACall AgC

theorem fold_bounds {t : Tr} (h : largeV t = false) : (if trOk t then foldV t else ⟨0, [], []⟩ : Tr).code.length ≤ 500 ∧ (if trOk t then foldV t else ⟨0, [], []⟩ : Tr).exits.length ≤ 100 ∧ ∀ x ∈ (if trOk t then foldV t else ⟨0, [], []⟩ : Tr).exits, x.slots.length ≤ 2000 := by
  obtain ⟨b1, b2, b3⟩ := large_bounds h
  have := foldFrom_len t.code (fun _ => none)
  split
  · exact ⟨by simp only [foldV]; omega, b2, b3⟩
  · exact ⟨by simp, by simp, by simp⟩

set_option maxHeartbeats 8000000 in
theorem traceFolds_spec (t : Tr) : PCall Try.prog 6 [dTr t] fun r => r = dB true := by 
  refine pcall_of Try.func6 rfl rfl Try.ntmps6 (rs := [.tmp 2]) (tys := [4]) rfl rfl (by simp) ?_
  (refine awp_sr fun KK hKK => ?_; simp [go_sem]; ((repeat' (first|(refine ag_x ?_;simp [go_sem])|intro _|refine And.intro ?_ ?_|(apply hKK;clear hKK KK)));all_goals first|refine Hold.mk ?_|omega|with_reducible assumption|(simp only [InR] at *;omega)|skip))
  refine awp_frzbox 1 rfl rfl ?_
  simp only [go_sem]
  refine awp_seq_k fun K1 hK1 => ?_
  (refine awp_sr fun KK hKK => ?_; simp [go_sem]; ((repeat' (first|(refine ag_x ?_;simp [go_sem])|intro _|refine And.intro ?_ ?_|(apply hKK;clear hKK KK)));all_goals first|refine Hold.mk ?_|omega|with_reducible assumption|(simp only [InR] at *;omega)|skip))
  ((try refine CallT.toA ?_); refine callT_f (by first | exact .inl ⟨rfl, rfl⟩ | exact .inr rfl) ?_; intro args ha; simp [go_sem] at ha; subst ha; refine ⟨_, (large_spec _), ?_⟩; rintro _ rfl; refine ⟨rfl, ?_⟩; simp [go_sem]; ((repeat' (first|(refine ag_x ?_;simp [go_sem])|intro _|refine And.intro ?_ ?_|(apply hKK;clear hKK KK)));all_goals first|refine Hold.mk ?_|omega|with_reducible assumption|(simp only [InR] at *;omega)|skip))
  (refine awp_if fun T F hT hF => ?_; simp [go_sem]; refine BR.intro (fun h2 => hT ?_) (fun h2 => hF ?_); all_goals clear hT hF T F; try simp at h2)
  · (refine awp_sr fun KK hKK => ?_; simp [go_sem]; ((repeat' (first|(refine ag_x ?_;simp [go_sem])|intro _|refine And.intro ?_ ?_|(apply hKK;clear hKK KK)));all_goals first|refine Hold.mk ?_|omega|with_reducible assumption|(simp only [InR] at *;omega)|skip))
    ((try refine CallT.toA ?_); refine callT_f (by first | exact .inl ⟨rfl, rfl⟩ | exact .inr rfl) ?_; intro args ha; simp [go_sem] at ha; subst ha; refine ⟨_, sane_spec, ?_⟩; rintro _ rfl; refine ⟨rfl, ?_⟩; simp [go_sem]; ((repeat' (first|(refine ag_x ?_;simp [go_sem])|intro _|refine And.intro ?_ ?_|(apply hKK;clear hKK KK)));all_goals first|refine Hold.mk ?_|omega|with_reducible assumption|(simp only [InR] at *;omega)|skip))
    (refine awp_ret ?_; simp [go_sem])
  · refine awp_skip ?_
    refine hK1 _ ?_; clear hK1
    obtain ⟨c1, c2, c3⟩ := fold_bounds h2
    obtain ⟨b1, b2, b3⟩ := large_bounds h2
    have hf := fold_spec t
    have hr := rfold_spec t
    generalize (if trOk t then foldV t else ⟨0, [], []⟩ : Tr) = u at c1 c2 c3 hf hr
    generalize (if trOk t then 0 else 1 : Int) = e at hf hr
    (refine awp_sr fun KK hKK => ?_; simp [go_sem]; ((repeat' (first|(refine ag_x ?_;simp [go_sem])|intro _|refine And.intro ?_ ?_|(apply hKK;clear hKK KK)));all_goals first|refine Hold.mk ?_|omega|with_reducible assumption|(simp only [InR] at *;omega)|skip))
    ((try refine CallT.toA ?_); refine callT_m (by first | exact .inl ⟨rfl, rfl⟩ | exact .inr rfl) (by simp [go_sem]) ?_; intro args ha; simp [go_sem] at ha; subst ha; refine ⟨_, hf, ?_⟩; rintro _ rfl; simp [go_sem]; ((repeat' (first|(refine ag_x ?_;simp [go_sem])|intro _|refine And.intro ?_ ?_|(apply hKK;clear hKK KK)));all_goals first|refine Hold.mk ?_|omega|with_reducible assumption|(simp only [InR] at *;omega)|skip))
    rename_i ga
    refine awp_frzbox 3 rfl rfl ?_
    simp only [go_sem]
    (refine awp_sr fun KK hKK => ?_; simp [go_sem]; ((repeat' (first|(refine ag_x ?_;simp [go_sem])|intro _|refine And.intro ?_ ?_|(apply hKK;clear hKK KK)));all_goals first|refine Hold.mk ?_|omega|with_reducible assumption|(simp only [InR] at *;omega)|skip))
    ((try refine CallT.toA ?_); refine callT_m (by first | exact .inl ⟨rfl, rfl⟩ | exact .inr rfl) (by simp [go_sem]) ?_; intro args ha; simp [go_sem] at ha; subst ha; refine ⟨_, (as_spec t b1 b2 b3), ?_⟩; rintro _ rfl; simp [go_sem]; ((repeat' (first|(refine ag_x ?_;simp [go_sem])|intro _|refine And.intro ?_ ?_|(apply hKK;clear hKK KK)));all_goals first|refine Hold.mk ?_|omega|with_reducible assumption|(simp only [InR] at *;omega)|skip))
    ((try refine CallT.toA ?_); refine callT_m (by first | exact .inl ⟨rfl, rfl⟩ | exact .inr rfl) (by simp [go_sem]) ?_; intro args ha; simp [go_sem] at ha; subst ha; refine ⟨_, hr, ?_⟩; rintro _ rfl; simp [go_sem]; ((repeat' (first|(refine ag_x ?_;simp [go_sem])|intro _|refine And.intro ?_ ?_|(apply hKK;clear hKK KK)));all_goals first|refine Hold.mk ?_|omega|with_reducible assumption|(simp only [InR] at *;omega)|skip))
    rename_i gb
    refine awp_frzbox 5 rfl rfl ?_
    simp only [go_sem]
    ((refine awp_dr (.qs [0, 1, 2, 3] (.two 4 (.two 5 (.qs [6] (.one 7 (.qs [8, 9] (.one 10 (.qs [11, 12] (.nil)))))) 6 (.one 5 (.one 7 (.qs [8, 9] (.one 10 (.qs [11, 12] (.nil))))))) 6 (.qs [4] (.one 5 (.one 7 (.qs [8, 9] (.one 10 (.qs [11, 12] (.nil))))))))) (by kernel_rfl) ?_ ?_ ?_ ?_); (kernel_rfl); (exact (by decide +kernel)); (kernel_rfl); intro KK hKK; ((repeat' (first|(refine ag_x ?_;simp [go_sem])|refine adr_nil ?_|refine adr_two ?_ ?_|refine adr_kp2 ?_ ?_|((first|refine adr_qs fun KK hKK=>?_|refine adr_y fun KK hKK=>?_);simp [go_sem])|intro _|refine And.intro ?_ ?_|(apply hKK;clear hKK KK)));all_goals first|refine Hold.mk ?_|omega|with_reducible assumption|(simp only [InR] at *;omega)|skip))
    all_goals
      repeat' (first
        | (refine agc_m (dTr u) (by first | exact .inl ⟨rfl, rfl⟩ | exact .inr rfl) (by simp [go_sem]) ?_ ?_; (intro hc args ha; simp [go_sem] at ha; subst ha; exact (as_spec u c1 c2 c3)); simp [go_sem]; ((repeat' (first|(refine ag_x ?_;simp [go_sem])|refine adr_nil ?_|refine adr_two ?_ ?_|refine adr_kp2 ?_ ?_|((first|refine adr_qs fun KK hKK=>?_|refine adr_y fun KK hKK=>?_);simp [go_sem])|intro _|refine And.intro ?_ ?_|(apply hKK;clear hKK KK)));all_goals first|refine Hold.mk ?_|omega|with_reducible assumption|(simp only [InR] at *;omega)|skip))
        | (refine agc_f (dB (decide (u = u))) (by first | exact .inl ⟨rfl, rfl⟩ | exact .inr rfl) ?_ rfl ?_; (intro hc args ha; simp [go_sem] at ha; subst ha; exact (rsame_spec u u)); simp [go_sem]; ((repeat' (first|(refine ag_x ?_;simp [go_sem])|refine adr_nil ?_|refine adr_two ?_ ?_|refine adr_kp2 ?_ ?_|((first|refine adr_qs fun KK hKK=>?_|refine adr_y fun KK hKK=>?_);simp [go_sem])|intro _|refine And.intro ?_ ?_|(apply hKK;clear hKK KK)));all_goals first|refine Hold.mk ?_|omega|with_reducible assumption|(simp only [InR] at *;omega)|skip))
        | (refine agc_f (dB true) (by first | exact .inl ⟨rfl, rfl⟩ | exact .inr rfl) ?_ rfl ?_; (intro hc args ha; simp [go_sem] at ha; subst ha; exact sane_spec); simp [go_sem]; ((repeat' (first|(refine ag_x ?_;simp [go_sem])|refine adr_nil ?_|refine adr_two ?_ ?_|refine adr_kp2 ?_ ?_|((first|refine adr_qs fun KK hKK=>?_|refine adr_y fun KK hKK=>?_);simp [go_sem])|intro _|refine And.intro ?_ ?_|(apply hKK;clear hKK KK)));all_goals first|refine Hold.mk ?_|omega|with_reducible assumption|(simp only [InR] at *;omega)|skip)))
    all_goals (refine awp_ret ?_; simp [go_sem])
end Go.Proofs.Ytmgbaegdkjcagaa
