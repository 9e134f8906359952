/- Part of a proof: see the last text. -/
import Derived.Test.YtmgbaegdkjcagaaWL
import Derived.Test.YtmgbaegdkjcagaaWD
set_option linter.unusedVariables false
set_option linter.unusedSimpArgs false
namespace Go.Proofs.Ytmgbaegdkjcagaa
open Go.Eng
set_option maxRecDepth 20000
set_option linter.unusedSimpArgs false
set_option linter.unusedVariables false
attribute [local irreducible] AG CallA CallT AWp PCall ACall AgC

/-- what an instruction reads, field by field -/
theorem reads_split {t : Tr} {i : Ins} (h : 0 ≤ i.op) (h' : i.op ≤ 10) : readsV t i true = (if 65 ∈ flds i.op then [i.a] else []) ++ ((if 66 ∈ flds i.op then [i.b] else []) ++ (if exitsV i.op = true then slotsAt t i.x else [])) := by
  have hk : i.op = 0 ∨ i.op = 1 ∨ i.op = 2 ∨ i.op = 3 ∨ i.op = 4 ∨ i.op = 5 ∨ i.op = 6 ∨ i.op = 7 ∨ i.op = 8 ∨ i.op = 9 ∨ i.op = 10 := by omega
  rcases hk with h | h | h | h | h | h | h | h | h | h | h <;> simp [readsV, flds, h, readsC, exitsV]
theorem aheadV_split {t : Tr} {i : Ins} (h : 0 ≤ i.op) (h' : i.op ≤ 10) (R R1 R2 R3 R4 : List Bool) (h1 : R1 = if 68 ∈ flds i.op then R.set i.d.toNat false else R) (h2 : R2 = if 65 ∈ flds i.op then R1.set i.a.toNat true else R1)
    (h3 : R3 = if 66 ∈ flds i.op then R2.set i.b.toNat true else R2) (h4 : R4 = if exitsV i.op = true then markL R3 (slotsAt t i.x) else R3) : aheadV t i R = R4 := by
  subst h1 h2 h3 h4
  unfold aheadV
  rw [reads_split h h', markL_app, markL_app]
  simp only [flds_m h h']
  congr 1
  split <;> split <;> split <;> split <;> simp [markL]

set_option maxHeartbeats 8000000 in
theorem rahead_spec (t : Tr) (c : Ins) (j g : Nat) (R : List Bool) (hok : trOk t = true) (hic : insOk t.regs t.exits.length c = true) (hR : R.length = t.regs.toNat) :
    ACall Try.prog 84 [dTr t, .agg (cIns c), .own (fs 1 j) g] [(fs 1 j, (g, .row 4 1 (mB R)))] [fs 1 j, 800000] fun ps r => ∃ g', ps = [(g, .row 4 1 (mB R)), (g', .row 4 1 (mB (aheadV t c R)))] ∧ r = .own 800000 g' := by 
  obtain ⟨hr1, hr2, hcl, hel⟩ := trOk_regs hok
  obtain ⟨ho1, ho2, hxa, hxb, hxd, _⟩ := insOk_regs hic hr1
  obtain ⟨hse, hse20⟩ := exOk_slots hok
  refine acall_of Try.func84 rfl rfl Try.ntmps84 (rs := [.tmp 6]) (tys := [91]) rfl rfl (by simp) (by simp [notFroz, fs_big]) ?_
  have hsp := fun R1 R2 R3 R4 => aheadV_split (t := t) ho1 ho2 R R1 R2 R3 R4
  (refine awp_sr fun KK hKK => ?_; simp [go_sem]; ((repeat' (first|(refine ag_x ?_;simp [go_sem])|intro _|refine And.intro ?_ ?_|(apply hKK;clear hKK KK)));all_goals first|refine Hold.mk ?_|omega|with_reducible assumption|(simp only [InR] at *;omega)|skip))
  refine awp_frzbox 3 rfl rfl ?_
  refine awp_frzbox 4 rfl rfl ?_
  simp only [go_sem]
  (refine awp_sr fun KK hKK => ?_; simp [go_sem]; ((repeat' (first|(refine ag_x ?_;simp [go_sem])|intro _|refine And.intro ?_ ?_|(apply hKK;clear hKK KK)));all_goals first|refine Hold.mk ?_|omega|with_reducible assumption|(simp only [InR] at *;omega)|skip))
  · rename_i gl0 gl
    have slots2 : ∀ e, t.exits[c.x.toNat]? = some e → slotsAt t c.x = e.slots := fun e he => by simp [slotsAt, he]
    refine awp_cov (S' := ⟨[(3, .rd [dI t.regs, .sl 6 (t.code.map cIns), .sl 2 (t.exits.map cExi)]), (4, .rd (cIns c)), (7, .own 10 gl)], [(10, (gl, .row 4 1 (mB R))), (fs 1 j, (g, .row 4 1 (mB R)))]⟩) (by (refine cov_of ?_ ?_ <;> simp [go_sem])) ?_
    refine awp_seq_k fun K1 hK1 => ?_
    have tl1 : ∀ S' R1, (R1 = if 68 ∈ flds c.op then R.set c.d.toNat false else R) → Cov S' ⟨[(3, .rd [dI t.regs, .sl 6 (t.code.map cIns), .sl 2 (t.exits.map cExi)]), (4, .rd (cIns c)), (7, .own 10 gl)], [(10, (gl, .row 4 1 (mB R1))), (fs 1 j, (g, .row 4 1 (mB R)))]⟩ → K1 S' := fun S' R1 hR1 hS => by
      refine hK1 _ ?_; clear hK1
      refine awp_cov hS ?_; clear hS
      have hl1 : R1.length = t.regs.toNat := by rw [hR1]; split <;> simp [hR]
      refine awp_seq_k fun K2 hK2 => ?_
      have tl2 : ∀ S' R2, (R2 = if 65 ∈ flds c.op then R1.set c.a.toNat true else R1) → Cov S' ⟨[(3, .rd [dI t.regs, .sl 6 (t.code.map cIns), .sl 2 (t.exits.map cExi)]), (4, .rd (cIns c)), (7, .own 10 gl)], [(10, (gl, .row 4 1 (mB R2))), (fs 1 j, (g, .row 4 1 (mB R)))]⟩ → K2 S' := fun S' R2 hR2 hS => by
        refine hK2 _ ?_; clear hK2
        refine awp_cov hS ?_; clear hS
        have hl2 : R2.length = t.regs.toNat := by rw [hR2]; split <;> simp [hl1]
        refine awp_seq_k fun K3 hK3 => ?_
        have tl3 : ∀ S' R3, (R3 = if 66 ∈ flds c.op then R2.set c.b.toNat true else R2) → Cov S' ⟨[(3, .rd [dI t.regs, .sl 6 (t.code.map cIns), .sl 2 (t.exits.map cExi)]), (4, .rd (cIns c)), (7, .own 10 gl)], [(10, (gl, .row 4 1 (mB R3))), (fs 1 j, (g, .row 4 1 (mB R)))]⟩ → K3 S' := fun S' R3 hR3 hS => by
          refine hK3 _ ?_; clear hK3
          refine awp_cov hS ?_; clear hS
          have hl3 : R3.length = t.regs.toNat := by rw [hR3]; split <;> simp [hl2]
          refine awp_seq_k fun K4 hK4 => ?_
          have tl4 : ∀ S' R4, (R4 = if exitsV c.op = true then markL R3 (slotsAt t c.x) else R3) → Cov S' ⟨[(7, .own 10 gl)], [(10, (gl, .row 4 1 (mB R4))), (fs 1 j, (g, .row 4 1 (mB R)))]⟩ → K4 S' := fun S' R4 hR4 hS => by
            refine hK4 _ ?_; clear hK4
            refine awp_cov hS ?_; clear hS
            rw [← hsp R1 R2 R3 R4 hR1 hR2 hR3 hR4]
            refine awp_renrow 7 800000 rfl rfl (by decide) fun ge => ?_
            simp only [go_sem]
            (refine awp_sr fun KK hKK => ?_; simp [go_sem]; ((repeat' (first|(refine ag_x ?_;simp [go_sem])|intro _|refine And.intro ?_ ?_|(apply hKK;clear hKK KK)));all_goals first|refine Hold.mk ?_|omega|with_reducible assumption|(simp only [InR] at *;omega)|skip))
            (refine awp_ret ?_; simp [go_sem])
          clear hK4
          (refine awp_sr fun KK hKK => ?_; simp [go_sem]; ((repeat' (first|(refine ag_x ?_;simp [go_sem])|intro _|refine And.intro ?_ ?_|(apply hKK;clear hKK KK)));all_goals first|refine Hold.mk ?_|omega|with_reducible assumption|(simp only [InR] at *;omega)|skip))
          ((try refine CallT.toA ?_); refine callT_m (by first | exact .inl ⟨rfl, rfl⟩ | exact .inr rfl) (by simp [go_sem]) ?_; intro args ha; simp [go_sem] at ha; subst ha; refine ⟨_, (rexits_spec c.op ho1 ho2), ?_⟩; rintro _ rfl; simp [go_sem]; ((repeat' (first|(refine ag_x ?_;simp [go_sem])|intro _|refine And.intro ?_ ?_|(apply hKK;clear hKK KK)));all_goals first|refine Hold.mk ?_|omega|with_reducible assumption|(simp only [InR] at *;omega)|skip))
          (refine awp_if fun T F hT hF => ?_; simp [go_sem]; refine BR.intro (fun h5 => hT ?_) (fun h5 => hF ?_); all_goals clear hT hF T F; try simp at h5) 
          · have hop : (2 ≤ c.op ∧ c.op ≤ 6) ∨ c.op = 9 := by simpa [exitsV] using h5
            obtain ⟨hx0, hx1⟩ := insOk_exit hic hop
            obtain ⟨e, he⟩ : ∃ e, t.exits[c.x.toNat]? = some e := ⟨_, List.getElem?_eq_getElem (by omega)⟩
            have hsx := slots2 e he
            have hs9 := hse20 e (List.mem_of_getElem? he)
            have hsb := hse e (List.mem_of_getElem? he)
            (refine awp_sr fun KK hKK => ?_; simp [go_sem, he]; ((repeat' (first|(refine ag_x ?_;simp [go_sem, he])|intro _|refine And.intro ?_ ?_|(apply hKK;clear hKK KK)));all_goals first|refine Hold.mk ?_|omega|with_reducible assumption|(simp only [InR] at *;omega)|skip))
            (refine awp_sr fun KK hKK => ?_; simp [go_sem]; ((repeat' (first|(refine ag_x ?_;simp [go_sem])|intro _|refine And.intro ?_ ?_|(apply hKK;clear hKK KK)));all_goals first|refine Hold.mk ?_|omega|with_reducible assumption|(simp only [InR] at *;omega)|skip))
            refine awp_block ?_
            refine awp_loop (σ := Nat) (fun y => ⟨[(7, .own 10 gl), (8, dIs e.slots), (9, dI y)], [(10, (gl, .row 4 1 (mB (markL R3 (e.slots.take y))))), (fs 1 j, (g, .row 4 1 (mB R)))]⟩) (fun y => y ≤ e.slots.length) (fun y => e.slots.length - y) 0 ?_ ?_ ?_
            · (refine cov_of ?_ ?_ <;> simp [go_sem, markL])
            · simp
            intro y hy
            refine awp_seq_k fun K6 hK6 => ?_
            (refine awp_sr fun KK hKK => ?_; simp [go_sem]; ((repeat' (first|(refine ag_x ?_;simp [go_sem])|intro _|refine And.intro ?_ ?_|(apply hKK;clear hKK KK)));all_goals first|refine Hold.mk ?_|omega|with_reducible assumption|(simp only [InR] at *;omega)|skip))
            (refine awp_if fun T F hT hF => ?_; simp [go_sem]; refine BR.intro (fun h7 => hT ?_) (fun h7 => hF ?_); all_goals clear hT hF T F; try simp at h7) 
            · refine awp_skip ?_
              refine hK6 _ ?_; clear hK6
              obtain ⟨r, hr⟩ : ∃ r, e.slots[y]? = some r := ⟨_, List.getElem?_eq_getElem (by omega)⟩
              have hrb := hsb r (List.mem_of_getElem? hr)
              have hml : (markL R3 (e.slots.take y)).length = t.regs.toNat := by rw [markL_len, hl3]
              obtain ⟨bo, hbo⟩ : ∃ b, (markL R3 (e.slots.take y))[r.toNat]? = some b := ⟨_, List.getElem?_eq_getElem (by omega)⟩
              refine awp_seq_k fun K8 hK8 => ?_
              refine awp_block ?_
              (refine awp_r fun KK hKK => ?_; simp [go_sem, hr, hbo]; ((repeat' (first|(refine ag_x ?_;simp [go_sem, hr, hbo])|intro _|refine And.intro ?_ ?_|(apply hKK;clear hKK KK)));all_goals first|refine Hold.mk ?_|omega|with_reducible assumption|(simp only [InR] at *;omega)|skip))
              refine hK8 _ ?_; clear hK8
              (refine awp_r fun KK hKK => ?_; simp [go_sem]; ((repeat' (first|(refine ag_x ?_;simp [go_sem])|intro _|refine And.intro ?_ ?_|(apply hKK;clear hKK KK)));all_goals first|refine Hold.mk ?_|omega|with_reducible assumption|(simp only [InR] at *;omega)|skip))
              refine ⟨y + 1, ?_, by omega, by omega⟩
              rw [markL_step (l := R3) hr, mB_set]
              (refine cov_of ?_ ?_ <;> simp [go_sem])
            · refine awp_exit ?_
              simp only [go_sem]
              have : y = e.slots.length := by omega
              subst this
              refine tl4 _ (markL R3 e.slots) (by rw [if_pos h5, hsx]) ?_
              rw [List.take_length]
              (refine cov_of ?_ ?_ <;> simp [go_sem])
          · refine awp_skip ?_
            refine tl4 _ R3 (by rw [if_neg (by simp [h5])]) ?_
            (refine cov_of ?_ ?_ <;> simp [go_sem])
        clear hK3
        obtain ⟨bb, hbb⟩ : ∃ b, R2[c.b.toNat]? = some b := ⟨_, List.getElem?_eq_getElem (by omega)⟩
        (refine awp_sr fun KK hKK => ?_; simp [go_sem]; ((repeat' (first|(refine ag_x ?_;simp [go_sem])|intro _|refine And.intro ?_ ?_|(apply hKK;clear hKK KK)));all_goals first|refine Hold.mk ?_|omega|with_reducible assumption|(simp only [InR] at *;omega)|skip))
        ((try refine CallT.toA ?_); refine callT_m (by first | exact .inl ⟨rfl, rfl⟩ | exact .inr rfl) (by simp [go_sem]) ?_; intro args ha; simp [go_sem] at ha; subst ha; refine ⟨_, (has_spec c.op 66 ho1 ho2), ?_⟩; rintro _ rfl; simp [go_sem]; ((repeat' (first|(refine ag_x ?_;simp [go_sem])|intro _|refine And.intro ?_ ?_|(apply hKK;clear hKK KK)));all_goals first|refine Hold.mk ?_|omega|with_reducible assumption|(simp only [InR] at *;omega)|skip))
        (refine awp_if fun T F hT hF => ?_; simp [go_sem]; refine BR.intro (fun h9 => hT ?_) (fun h9 => hF ?_); all_goals clear hT hF T F; try simp at h9) 
        · (refine awp_r fun KK hKK => ?_; simp [go_sem, hbb]; ((repeat' (first|(refine ag_x ?_;simp [go_sem, hbb])|intro _|refine And.intro ?_ ?_|(apply hKK;clear hKK KK)));all_goals first|refine Hold.mk ?_|omega|with_reducible assumption|(simp only [InR] at *;omega)|skip))
          refine tl3 _ (R2.set c.b.toNat true) (by rw [if_pos h9]) ?_
          rw [mB_set]
          (refine cov_of ?_ ?_ <;> simp [go_sem])
        · refine awp_skip ?_
          refine tl3 _ R2 (by rw [if_neg h9]) ?_
          (refine cov_of ?_ ?_ <;> simp [go_sem])
      clear hK2
      obtain ⟨ba, hba⟩ : ∃ b, R1[c.a.toNat]? = some b := ⟨_, List.getElem?_eq_getElem (by omega)⟩
      (refine awp_sr fun KK hKK => ?_; simp [go_sem]; ((repeat' (first|(refine ag_x ?_;simp [go_sem])|intro _|refine And.intro ?_ ?_|(apply hKK;clear hKK KK)));all_goals first|refine Hold.mk ?_|omega|with_reducible assumption|(simp only [InR] at *;omega)|skip))
      ((try refine CallT.toA ?_); refine callT_m (by first | exact .inl ⟨rfl, rfl⟩ | exact .inr rfl) (by simp [go_sem]) ?_; intro args ha; simp [go_sem] at ha; subst ha; refine ⟨_, (has_spec c.op 65 ho1 ho2), ?_⟩; rintro _ rfl; simp [go_sem]; ((repeat' (first|(refine ag_x ?_;simp [go_sem])|intro _|refine And.intro ?_ ?_|(apply hKK;clear hKK KK)));all_goals first|refine Hold.mk ?_|omega|with_reducible assumption|(simp only [InR] at *;omega)|skip))
      (refine awp_if fun T F hT hF => ?_; simp [go_sem]; refine BR.intro (fun h10 => hT ?_) (fun h10 => hF ?_); all_goals clear hT hF T F; try simp at h10) 
      · (refine awp_r fun KK hKK => ?_; simp [go_sem, hba]; ((repeat' (first|(refine ag_x ?_;simp [go_sem, hba])|intro _|refine And.intro ?_ ?_|(apply hKK;clear hKK KK)));all_goals first|refine Hold.mk ?_|omega|with_reducible assumption|(simp only [InR] at *;omega)|skip))
        refine tl2 _ (R1.set c.a.toNat true) (by rw [if_pos h10]) ?_
        rw [mB_set]
        (refine cov_of ?_ ?_ <;> simp [go_sem])
      · refine awp_skip ?_
        refine tl2 _ R1 (by rw [if_neg h10]) ?_
        (refine cov_of ?_ ?_ <;> simp [go_sem])
    clear hK1
    obtain ⟨bd, hbd⟩ : ∃ b, R[c.d.toNat]? = some b := ⟨_, List.getElem?_eq_getElem (by omega)⟩
    (refine awp_sr fun KK hKK => ?_; simp [go_sem]; ((repeat' (first|(refine ag_x ?_;simp [go_sem])|intro _|refine And.intro ?_ ?_|(apply hKK;clear hKK KK)));all_goals first|refine Hold.mk ?_|omega|with_reducible assumption|(simp only [InR] at *;omega)|skip))
    ((try refine CallT.toA ?_); refine callT_m (by first | exact .inl ⟨rfl, rfl⟩ | exact .inr rfl) (by simp [go_sem]) ?_; intro args ha; simp [go_sem] at ha; subst ha; refine ⟨_, (has_spec c.op 68 ho1 ho2), ?_⟩; rintro _ rfl; simp [go_sem]; ((repeat' (first|(refine ag_x ?_;simp [go_sem])|intro _|refine And.intro ?_ ?_|(apply hKK;clear hKK KK)));all_goals first|refine Hold.mk ?_|omega|with_reducible assumption|(simp only [InR] at *;omega)|skip))
    (refine awp_if fun T F hT hF => ?_; simp [go_sem]; refine BR.intro (fun h11 => hT ?_) (fun h11 => hF ?_); all_goals clear hT hF T F; try simp at h11) 
    · (refine awp_r fun KK hKK => ?_; simp [go_sem, hbd]; ((repeat' (first|(refine ag_x ?_;simp [go_sem, hbd])|intro _|refine And.intro ?_ ?_|(apply hKK;clear hKK KK)));all_goals first|refine Hold.mk ?_|omega|with_reducible assumption|(simp only [InR] at *;omega)|skip))
      refine tl1 _ (R.set c.d.toNat false) (by rw [if_pos h11]) ?_
      rw [mB_set]
      (refine cov_of ?_ ?_ <;> simp [go_sem])
    · refine awp_skip ?_
      refine tl1 _ R (by rw [if_neg h11]) ?_
      (refine cov_of ?_ ?_ <;> simp [go_sem])
end Go.Proofs.Ytmgbaegdkjcagaa

namespace Go.Proofs.Ytmgbaegdkjcagaa
open Go.Eng
set_option maxRecDepth 20000
set_option linter.unusedSimpArgs false
set_option linter.unusedVariables false
attribute [local irreducible] AG CallA CallT AWp PCall ACall AgC

theorem orL_none {t : Tr} {l : List Bool} (h : l.length = t.regs.toNat) : orL (noneV t) l = l :=
  row_ext (by rw [orL_len]; simp [noneV, h]) fun m hm => by
    rw [orL_len] at hm
    rw [orL_get _ _ _ hm, noneV_get, Bool.false_or]
theorem lastV_nil (t : Tr) : lastV t [] = rowA t t.code (noneV t) := orL_nil _
theorem orL_wrap (t : Tr) : orL (lastV t []) (rowA t t.code (lastV t [])) = lastV t [] :=
  row_ext (orL_len _ _) fun m hm => by
    rw [orL_len] at hm
    rw [orL_get _ _ _ hm]
    have := wrap_last t [] m hm
    cases h : (lastV t []).getD m false
    · cases h2 : (rowA t t.code (lastV t [])).getD m false
      · rfl
      · rw [this h2] at h; cases h
    · rfl
def passV (t : Tr) : Nat → List Bool
  | 0 => noneV t
  | _ + 1 => lastV t []
theorem passV_len (t : Tr) (p : Nat) : (passV t p).length = t.regs.toNat := by cases p <;> simp [passV, noneV, lastV_len]
theorem pass_same {t : Tr} {p : Nat} (h : orL (passV t p) (rowA t t.code (passV t p)) = passV t p) : passV t p = lastV t [] := by
  cases p with
  | zero =>
    simp only [passV] at h ⊢
    rw [orL_none (by rw [rowA_len]; simp [noneV])] at h
    rw [lastV_nil, h]
  | succ p => rfl
theorem pass_more {t : Tr} {p : Nat} (h : orL (passV t p) (rowA t t.code (passV t p)) ≠ passV t p) : p = 0 ∧ orL (passV t p) (rowA t t.code (passV t p)) = passV t 1 := by
  cases p with
  | zero =>
    refine ⟨rfl, ?_⟩
    simp only [passV]
    rw [orL_none (by rw [rowA_len]; simp [noneV]), lastV_nil]
  | succ p => exact absurd (orL_wrap t) h
def moreV (L R : List Bool) (r : Nat) : Bool := !decide (orL L (R.take r) = L)
theorem moreV_zero (L R : List Bool) : moreV L R 0 = false := by simp [moreV, orL_nil]
theorem moreV_set {L R : List Bool} {r : Nat} {b : Bool} (hR : R[r]? = some b) (hr : r < L.length) (hb : b = true) (hl : L.getD r false = false) : moreV L R (r + 1) = true ∧ orL L (R.take (r + 1)) = (orL L (R.take r)).set r true := by
  have h := orL_take hR hr
  rw [hl, hb] at h
  refine ⟨?_, h⟩
  unfold moreV
  rw [h]
  simp only [Bool.not_eq_true', decide_eq_false_iff_not]
  intro e
  have := congrArg (fun l => l.getD r false) e
  simp only [hl, List.getD_eq_getElem?_getD, List.getElem?_set, orL_len, hr, if_true] at this
  simp at this
theorem moreV_keep {L R : List Bool} {r : Nat} {b : Bool} (hR : R[r]? = some b) (hr : r < L.length) (h : ¬ (b = true ∧ L.getD r false = false)) : moreV L R (r + 1) = moreV L R r ∧ orL L (R.take (r + 1)) = orL L (R.take r) := by
  have h1 := orL_take hR hr
  have h2 := orL_at L R r hr
  have : orL L (R.take (r + 1)) = orL L (R.take r) := by
    rw [h1]
    have e : (L.getD r false || b) = L.getD r false := by cases hb : b <;> cases hl : L.getD r false <;> simp_all
    rw [e]
    obtain ⟨h3, h4⟩ := List.getElem?_eq_some_iff.1 h2
    rw [← h4, List.set_getElem_self]
  unfold moreV
  rw [this]
  exact ⟨rfl, rfl⟩

set_option maxHeartbeats 16000000 in
theorem rlives_spec (t : Tr) (hok : trOk t = true) : PCall Try.prog 77 [dTr t] fun r => r = dBll (rowsV t []) := by 
  obtain ⟨hr1, hr2, hcl, hel⟩ := trOk_regs hok
  refine pcall_of Try.func77 rfl rfl Try.ntmps77 (rs := [.tmp 2]) (tys := [94]) rfl rfl (by simp) ?_
  (refine awp_sr fun KK hKK => ?_; simp [go_sem]; ((repeat' (first|(refine ag_x ?_;simp [go_sem])|intro _|refine And.intro ?_ ?_|(apply hKK;clear hKK KK)));all_goals first|refine Hold.mk ?_|omega|with_reducible assumption|(simp only [InR] at *;omega)|skip))
  refine awp_frzbox 1 rfl rfl ?_
  simp only [go_sem]
  (refine awp_sr fun KK hKK => ?_; simp [go_sem]; ((repeat' (first|(refine ag_x ?_;simp [go_sem])|intro _|refine And.intro ?_ ?_|(apply hKK;clear hKK KK)));all_goals first|refine Hold.mk ?_|omega|with_reducible assumption|(simp only [InR] at *;omega)|skip))
  (refine awp_sr fun KK hKK => ?_; simp [go_sem]; ((repeat' (first|(refine ag_x ?_;simp [go_sem])|intro _|refine And.intro ?_ ?_|(apply hKK;clear hKK KK)));all_goals first|refine Hold.mk ?_|omega|with_reducible assumption|(simp only [InR] at *;omega)|skip))
  rename_i go
  refine awp_cov (S' := ⟨[(1, .rd [dI t.regs, .sl 6 (t.code.map cIns), .sl 2 (t.exits.map cExi)]), (3, dI t.code.length), (4, .own 13 go)], [(13, (go, .row 91 1 (List.replicate (t.code.length + 1) [.v (.slice none 0 0)])))]⟩) (by (refine cov_of ?_ ?_ <;> simp [go_sem])) ?_
  refine awp_nilfam (b := 1) (e := 4) (k := 1) (f := mB) 13 (x := []) rfl (by decide) fun rs hrl _ => ?_
  obtain ⟨⟨gn, rn⟩, hn⟩ : ∃ x, rs[t.code.length]? = some x := ⟨_, List.getElem?_eq_getElem (by omega)⟩
  (refine awp_sr fun KK hKK => ?_; simp [go_sem, hn]; ((repeat' (first|(refine ag_x ?_;simp [go_sem, hn])|intro _|refine And.intro ?_ ?_|(apply hKK;clear hKK KK)));all_goals first|refine Hold.mk ?_|omega|with_reducible assumption|(simp only [InR] at *;omega)|skip))
  rename_i g18
  refine awp_renin 18 (fs 1 t.code.length) 13 t.code.length (g := g18) (go := go) rfl rfl (by decide) (fs_nlit (by decide)) (by rw [List.getElem?_set]; simp [famO_len, hrl]) (fun h => absurd h (by decide)) fun g' => ?_
  have hfo := famO_setg (b := 1) rs t.code.length g' (noneV t)
  simp only [List.set_set, ← hfo]
  refine awp_block ?_
  refine awp_loop (σ := Nat × List (Nat × List Bool)) (fun x => ⟨[(1, .rd [dI t.regs, .sl 6 (t.code.map cIns), .sl 2 (t.exits.map cExi)]), (3, dI t.code.length), (4, .own 13 go)],
    (13, (go, .row 91 1 (famO 1 0 x.2))) :: fam 1 4 1 mB 0 x.2⟩) (fun x => x.1 ≤ 1 ∧ x.2.length = t.code.length + 1 ∧ (x.2[t.code.length]?).map (·.2) = some (passV t x.1)) (fun x => 2 - x.1) (0, rs.set t.code.length (g', noneV t)) ?_ ?_ ?_
  · (refine cov_of ?_ ?_ <;> simp [go_sem])
    refine FamIn.set ?_ ?_
    · simp [go_sem]
    · simp [mB, noneV]
  · exact ⟨by simp, by simp [hrl], by rw [List.getElem?_set]; simp [hrl, passV]⟩
  clear hn hrl hfo
  rintro ⟨p, rs⟩ ⟨hp, hrl, hlast⟩
  simp only at hp hrl hlast
  obtain ⟨L, hL⟩ : ∃ L, L = passV t p := ⟨_, rfl⟩
  have hLl : L.length = t.regs.toNat := by rw [hL, passV_len]
  rw [← hL] at hlast
  refine awp_block ?_
  refine awp_seq_k fun K1 hK1 => ?_
  (refine awp_sr fun KK hKK => ?_; simp [go_sem]; ((repeat' (first|(refine ag_x ?_;simp [go_sem])|intro _|refine And.intro ?_ ?_|(apply hKK;clear hKK KK)));all_goals first|refine Hold.mk ?_|omega|with_reducible assumption|(simp only [InR] at *;omega)|skip))
  refine awp_block ?_
  refine awp_loop (σ := Nat × List (Nat × List Bool)) (fun x => ⟨[(1, .rd [dI t.regs, .sl 6 (t.code.map cIns), .sl 2 (t.exits.map cExi)]), (3, dI t.code.length), (4, .own 13 go), (5, dI ((x.1 : Int) - 1))],
    (13, (go, .row 91 1 (famO 1 0 x.2))) :: fam 1 4 1 mB 0 x.2⟩) (fun x => x.1 ≤ t.code.length ∧ x.2.length = t.code.length + 1 ∧ ∀ i, x.1 ≤ i → i ≤ t.code.length → (x.2[i]?).map (·.2) = some (rowA t (t.code.drop i) L)) (fun x => x.1) (t.code.length, rs) ?_ ?_ ?_
  · (refine cov_of ?_ ?_ <;> simp [go_sem])
  · exact ⟨Nat.le_refl _, hrl, fun i h1 h2 => by
      have : i = t.code.length := by simp at h1; omega
      subst this
      simp only [hlast, List.drop_length]
      rfl⟩
  clear hlast hrl
  rintro ⟨m, rs⟩ ⟨hm, hrl, hdone⟩
  simp only at hm hrl hdone
  refine awp_seq_k fun K2 hK2 => ?_
  (refine awp_sr fun KK hKK => ?_; simp [go_sem]; ((repeat' (first|(refine ag_x ?_;simp [go_sem])|intro _|refine And.intro ?_ ?_|(apply hKK;clear hKK KK)));all_goals first|refine Hold.mk ?_|omega|with_reducible assumption|(simp only [InR] at *;omega)|skip))
  (refine awp_if fun T F hT hF => ?_; simp [go_sem]; refine BR.intro (fun h3 => hT ?_) (fun h3 => hF ?_); all_goals clear hT hF T F; try simp at h3) 
  · refine awp_skip ?_
    refine hK2 _ ?_; clear hK2
    obtain ⟨k, rfl⟩ : ∃ k, m = k + 1 := ⟨m - 1, by omega⟩
    have ek : ((k + 1 : Nat) : Int) - 1 = k := by omega
    have ek1 : ((k : Int) + 1).toNat = k + 1 := by omega
    rw [ek]
    obtain ⟨x, hx⟩ : ∃ x, t.code[k]? = some x := ⟨_, List.getElem?_eq_getElem (by omega)⟩
    obtain ⟨⟨gk, rk⟩, hrk⟩ : ∃ x, rs[k]? = some x := ⟨_, List.getElem?_eq_getElem (by omega)⟩
    obtain ⟨⟨gk1, R⟩, hrk1⟩ : ∃ x, rs[k + 1]? = some x := ⟨_, List.getElem?_eq_getElem (by omega)⟩
    have hR := hdone (k + 1) (Nat.le_refl _) (by omega)
    rw [hrk1] at hR
    simp only [Option.map_some, Option.some.injEq] at hR
    have hlR : R.length = t.regs.toNat := by rw [hR, rowA_len, hLl]
    have hix := insOk_at hok hx
    have hah : rowA t (t.code.drop k) L = aheadV t x R := by
      have hd : t.code.drop k = x :: t.code.drop (k + 1) := by
        rw [List.drop_eq_getElem_cons (by omega)]
        rw [List.getElem?_eq_getElem (by omega)] at hx
        simp only [Option.some.injEq] at hx
        rw [hx]
      rw [hd, rowA_cons, ← hR]
    refine awp_seq_k fun K4 hK4 => ?_
    refine awp_block ?_
    ((refine awp_d (.qs [0, 1, 3, 5, 8, 9, 10, 11, 2, 4, 6, 7, 12] (.one 13 (.qs [14] (.one 15 (.nil))))) (by kernel_rfl) ?_ ?_ ?_ ?_); (kernel_rfl); (exact (by decide +kernel)); (kernel_rfl); intro KK hKK; ((repeat' (first|(refine ag_x ?_;simp [go_sem, hx, hrk, hrk1, ek1])|refine adr_nil ?_|refine adr_two ?_ ?_|refine adr_kp2 ?_ ?_|((first|refine adr_qs fun KK hKK=>?_|refine adr_y fun KK hKK=>?_);simp [go_sem, hx, hrk, hrk1, ek1])|intro _|refine And.intro ?_ ?_|(apply hKK;clear hKK KK)));all_goals first|refine Hold.mk ?_|omega|with_reducible assumption|(simp only [InR] at *;omega)|skip))
    (refine callA_l [fs 1 (k + 1), 800000] (by first | exact .inl ⟨rfl, rfl⟩ | exact .inr rfl) (by simp [go_sem]) ?_; intro args ha; simp [go_sem] at ha; subst ha; refine ⟨_, _, (rahead_spec t x (k + 1) gk1 R hok hix hlR), (by simp [go_sem, hrk, hrk1]), ?_⟩; rintro ps r hps ⟨ge, rfl, rfl⟩; simp [go_sem, hrk, hrk1]; ((repeat' (first|(refine ag_x ?_;simp [go_sem, hrk, hrk1])|refine adr_nil ?_|refine adr_two ?_ ?_|refine adr_kp2 ?_ ?_|((first|refine adr_qs fun KK hKK=>?_|refine adr_y fun KK hKK=>?_);simp [go_sem, hrk, hrk1])|intro _|refine And.intro ?_ ?_|(apply hKK;clear hKK KK)));all_goals first|refine Hold.mk ?_|omega|with_reducible assumption|(simp only [InR] at *;omega)|skip))
    simp only [go_sem]
    refine hK4 _ ?_; clear hK4
    refine awp_renin 800000 (fs 1 k) 13 k (g := ge) (go := go) (e := 4) (k := 1) (es := mB (aheadV t x R)) (by simp [go_sem]) rfl (by decide) (fs_nlit (by decide)) (by rw [List.getElem?_set]; simp [famO_len, hrl]; omega) (fun h => absurd h (by decide)) fun g' => ?_
    have hfo := famO_setg (b := 1) rs k g' (rowA t (t.code.drop k) L)
    simp only [List.set_set, ← hfo, ← hah]
    simp only [go_sem]
    (refine awp_r fun KK hKK => ?_; simp [go_sem]; ((repeat' (first|(refine ag_x ?_;simp [go_sem])|intro _|refine And.intro ?_ ?_|(apply hKK;clear hKK KK)));all_goals first|refine Hold.mk ?_|omega|with_reducible assumption|(simp only [InR] at *;omega)|skip))
    refine ⟨(k, rs.set k (g', rowA t (t.code.drop k) L)), ?_, ⟨by omega, by simp [hrl], fun i h1 h2 => ?_⟩, by simp⟩
    · (refine cov_of ?_ ?_ <;> simp [go_sem])
      exact FamIn.set (FamIn.lt (FamIn.same (FamIn.lt (FamIn.refl _ _) (by decide)) hrk1 rfl) (by decide)) rfl
    · simp only at h1 ⊢
      rw [List.getElem?_set]
      by_cases hik : k = i
      · subst hik; simp [hrl]; omega
      · rw [if_neg hik]; exact hdone i (by omega) h2
  · refine awp_exit ?_
    simp only [go_sem]
    refine hK1 _ ?_; clear hK1
    have hm0 : m = 0 := by omega
    subst hm0
    obtain ⟨⟨g0, R0⟩, h0⟩ : ∃ x, rs[0]? = some x := ⟨_, List.getElem?_eq_getElem (by omega)⟩
    obtain ⟨⟨gn, rn⟩, hn⟩ : ∃ x, rs[t.code.length]? = some x := ⟨_, List.getElem?_eq_getElem (by omega)⟩
    have hR0 := hdone 0 (Nat.le_refl _) (by omega)
    have hrn := hdone t.code.length (by omega) (Nat.le_refl _)
    rw [h0, List.drop_zero] at hR0
    rw [hn, List.drop_length] at hrn
    simp only [Option.map_some, Option.some.injEq] at hR0 hrn
    change rn = L at hrn
    subst hrn
    have hl0 : R0.length = t.regs.toNat := by rw [hR0, rowA_len, hLl]
    have hfoX : ∀ X, famO 1 0 (rs.set t.code.length (gn, X)) = famO 1 0 rs := fun X => famO_set rs _ gn X _ hn 0
    have hsn : ∀ X, (rs.set t.code.length (gn, X))[t.code.length]? = some (gn, X) := fun X => by rw [List.getElem?_set]; simp [hrl]
    (refine awp_sr fun KK hKK => ?_; simp [go_sem]; ((repeat' (first|(refine ag_x ?_;simp [go_sem])|intro _|refine And.intro ?_ ?_|(apply hKK;clear hKK KK)));all_goals first|refine Hold.mk ?_|omega|with_reducible assumption|(simp only [InR] at *;omega)|skip))
    refine awp_seq_k fun K5 hK5 => ?_
    (refine awp_sr fun KK hKK => ?_; simp [go_sem]; ((repeat' (first|(refine ag_x ?_;simp [go_sem])|intro _|refine And.intro ?_ ?_|(apply hKK;clear hKK KK)));all_goals first|refine Hold.mk ?_|omega|with_reducible assumption|(simp only [InR] at *;omega)|skip))
    refine awp_block ?_
    refine awp_loop (σ := Nat) (fun r => ⟨[(1, .rd [dI t.regs, .sl 6 (t.code.map cIns), .sl 2 (t.exits.map cExi)]), (3, dI t.code.length), (4, .own 13 go), (6, dB (moreV rn R0 r)), (7, dI r)],
      (13, (go, .row 91 1 (famO 1 0 rs))) :: fam 1 4 1 mB 0 (rs.set t.code.length (gn, orL rn (R0.take r)))⟩) (fun r => (r : Int) ≤ t.regs) (fun r => t.regs.toNat - r) 0 ?_ ?_ ?_
    · have e1 : rs.set t.code.length (gn, orL rn (R0.take 0)) = rs := by
        rw [List.take_zero, orL_nil]
        obtain ⟨h1, h2⟩ := List.getElem?_eq_some_iff.1 hn
        rw [← h2, List.set_getElem_self]
      rw [e1]
      (refine cov_of ?_ ?_ <;> simp [go_sem, moreV_zero])
    · simp; omega
    intro r hr
    refine awp_seq_k fun K6 hK6 => ?_
    (refine awp_sr fun KK hKK => ?_; simp [go_sem]; ((repeat' (first|(refine ag_x ?_;simp [go_sem])|intro _|refine And.intro ?_ ?_|(apply hKK;clear hKK KK)));all_goals first|refine Hold.mk ?_|omega|with_reducible assumption|(simp only [InR] at *;omega)|skip))
    (refine awp_if fun T F hT hF => ?_; simp [go_sem]; refine BR.intro (fun h7 => hT ?_) (fun h7 => hF ?_); all_goals clear hT hF T F; try simp at h7) 
    · refine awp_skip ?_
      refine hK6 _ ?_; clear hK6
      obtain ⟨b0, hb0⟩ : ∃ b, R0[r]? = some b := ⟨_, List.getElem?_eq_getElem (by omega)⟩
      have hbn := orL_at rn R0 r (by omega)
      obtain ⟨X0, hX0, hX0r⟩ : ∃ X0, (rs.set t.code.length (gn, orL rn (R0.take r)))[0]? = some (g0, X0) ∧ X0[r]? = some b0 := by
        by_cases hz : t.code.length = 0
        · rw [hz] at hn ⊢
          rw [h0] at hn
          simp only [Option.some.injEq, Prod.mk.injEq] at hn
          obtain ⟨e1, e2⟩ := hn
          refine ⟨orL rn (R0.take r), by rw [List.getElem?_set]; simp [hrl, e1], ?_⟩
          rw [hbn, ← e2, List.getD_eq_getElem?_getD, hb0]; rfl
        · exact ⟨R0, by rw [List.getElem?_set, if_neg hz]; exact h0, hb0⟩
      have hkeep := moreV_keep (L := rn) hb0 (by omega)
      have hset := moreV_set (L := rn) hb0 (by omega)
      have hX0l := (List.getElem?_eq_some_iff.1 hX0r).1
      generalize hX : orL rn (R0.take r) = X at hbn hX0 hkeep hset ⊢
      generalize hbl : rn.getD r false = bl at hbn hkeep hset
      have hXl : X.length = t.regs.toNat := by rw [← hX, orL_len, hLl]
      refine awp_seq_k fun K8 hK8 => ?_
      have tl8 : ∀ S', Cov S' ⟨[(1, .rd [dI t.regs, .sl 6 (t.code.map cIns), .sl 2 (t.exits.map cExi)]), (3, dI t.code.length), (4, .own 13 go), (6, dB (moreV rn R0 (r + 1))), (7, dI r)],
          (13, (go, .row 91 1 (famO 1 0 rs))) :: fam 1 4 1 mB 0 (rs.set t.code.length (gn, orL rn (R0.take (r + 1))))⟩ → K8 S' := fun S' hS => by
        refine hK8 _ ?_; clear hK8
        refine awp_cov hS ?_; clear hS
        (refine awp_r fun KK hKK => ?_; simp [go_sem]; ((repeat' (first|(refine ag_x ?_;simp [go_sem])|intro _|refine And.intro ?_ ?_|(apply hKK;clear hKK KK)));all_goals first|refine Hold.mk ?_|omega|with_reducible assumption|(simp only [InR] at *;omega)|skip))
        refine ⟨r + 1, ?_, by omega, by omega⟩
        (refine cov_of ?_ ?_ <;> simp [go_sem])
      clear hK8
      refine awp_block ?_
      (refine awp_sr fun KK hKK => ?_; simp [go_sem, h0, hn, hsn, hX0, hX0r, hbn]; ((repeat' (first|(refine ag_x ?_;simp [go_sem, h0, hn, hsn, hX0, hX0r, hbn])|intro _|refine And.intro ?_ ?_|(apply hKK;clear hKK KK)));all_goals first|refine Hold.mk ?_|omega|with_reducible assumption|(simp only [InR] at *;omega)|skip))
      (refine awp_if fun T F hT hF => ?_; simp [go_sem]; refine BR.intro (fun h9 => hT ?_) (fun h9 => hF ?_); all_goals clear hT hF T F; try simp at h9) 
      · obtain ⟨e1, e2⟩ := hset (by simpa using h9.1) (by simpa using h9.2)
        (refine awp_sr fun KK hKK => ?_; simp [go_sem, hn, hsn, hbn]; ((repeat' (first|(refine ag_x ?_;simp [go_sem, hn, hsn, hbn])|intro _|refine And.intro ?_ ?_|(apply hKK;clear hKK KK)));all_goals first|refine Hold.mk ?_|omega|with_reducible assumption|(simp only [InR] at *;omega)|skip))
        (refine awp_r fun KK hKK => ?_; simp [go_sem]; ((repeat' (first|(refine ag_x ?_;simp [go_sem])|intro _|refine And.intro ?_ ?_|(apply hKK;clear hKK KK)));all_goals first|refine Hold.mk ?_|omega|with_reducible assumption|(simp only [InR] at *;omega)|skip))
        refine tl8 _ ?_
        rw [e1, e2]
        (refine cov_of ?_ ?_ <;> simp [go_sem])
        have hfam := FamIn.set (m := t.code.length) (g := gn) (x := X.set r true) (es := mB (X.set r true)) (FamIn.lt (s := 13) (x := (go, .row 91 1 (famO 1 0 rs))) (FamIn.refl (b := 1) (e := 4) (k := 1) (f := mB) (rs.set t.code.length (gn, X)) 0) (by decide)) rfl
        rw [List.set_set, mB_set] at hfam
        simpa [mB] using hfam
      · refine awp_skip ?_
        obtain ⟨e1, e2⟩ := hkeep (by simpa using h9)
        refine tl8 _ ?_
        rw [e1, e2]
        (refine cov_of ?_ ?_ <;> simp [go_sem])
    · refine awp_exit ?_
      simp only [go_sem]
      refine hK5 _ ?_; clear hK5
      have hrr : R0.take r = R0 := List.take_of_length_le (by omega)
      have hmv : moreV rn R0 r = !decide (orL rn R0 = rn) := by unfold moreV; rw [hrr]
      rw [hrr, hmv]
      (refine awp_sr fun KK hKK => ?_; simp [go_sem]; ((repeat' (first|(refine ag_x ?_;simp [go_sem])|intro _|refine And.intro ?_ ?_|(apply hKK;clear hKK KK)));all_goals first|refine Hold.mk ?_|omega|with_reducible assumption|(simp only [InR] at *;omega)|skip))
      (refine awp_if fun T F hT hF => ?_; simp [go_sem]; refine BR.intro (fun h10 => hT ?_) (fun h10 => hF ?_); all_goals clear hT hF T F; try simp at h10) 
      · have h10' : orL rn R0 = rn := by simpa using h10
        have hlv : rn = lastV t [] := by
          rw [hL]; exact pass_same (by rw [← hL, ← hR0]; exact h10')
        refine awp_frzfam (b := 1) (e := 4) (k := 1) (f := mB) (go := go) (eo := 91) 13 (rs := rs.set t.code.length (gn, orL rn R0)) (ho := []) (by simp [go_sem, hfoX]) (by simp [go_sem]) (by decide) trivial (by simp) ?_
        (refine awp_sr fun KK hKK => ?_; simp [go_sem]; ((repeat' (first|(refine ag_x ?_;simp [go_sem])|intro _|refine And.intro ?_ ?_|(apply hKK;clear hKK KK)));all_goals first|refine Hold.mk ?_|omega|with_reducible assumption|(simp only [InR] at *;omega)|skip))
        (refine awp_ret ?_; simp [go_sem])
        have hfin : (rs.set t.code.length (gn, orL rn R0)).map (·.2) = rowsV t [] := by
          rw [h10']
          unfold rowsV rowsL
          apply List.ext_getElem?
          intro i
          rw [List.getElem?_map, List.getElem?_map, List.getElem?_set]
          by_cases hi : i ≤ t.code.length
          · rw [List.getElem?_range (by omega)]
            split
            · rename_i e; subst e
              rw [if_pos (by omega)]
              simp only [Option.map_some, List.drop_length]
              rw [hlv]; rfl
            · rw [hdone i (by omega) hi, hlv]; rfl
          · rw [if_neg (by omega), List.getElem?_eq_none (by omega), List.getElem?_eq_none (by simp; omega)]; rfl
        rw [← hfin, List.map_map, List.map_set]
        rfl
      · have h10' : orL rn R0 ≠ rn := by simpa using h10
        obtain ⟨hp0, hX1⟩ := pass_more (p := p) (t := t) (by rw [← hL, ← hR0]; exact h10')
        rw [← hL, ← hR0] at hX1
        subst hp0
        refine awp_skip ?_
        refine ⟨(1, rs.set t.code.length (gn, orL rn R0)), ?_, ⟨by simp, by simp [hrl], ?_⟩, by simp⟩
        · simp only [hfoX]
          (refine cov_of ?_ ?_ <;> simp [go_sem])
        · simp only [hsn, hX1]; rfl
end Go.Proofs.Ytmgbaegdkjcagaa

namespace Go.Proofs.Ytmgbaegdkjcagaa
open Go.Eng
set_option maxRecDepth 20000
set_option linter.unusedSimpArgs false
set_option linter.unusedVariables false
attribute [local irreducible] AG CallA CallT AWp PCall ACall AgC

set_option maxHeartbeats 8000000 in
theorem rliveT_spec (t : Tr) : PCall Try.prog 57 [dTr t] fun r => r = .tup [dIss (if trOk t then liveV t else []), dI (if trOk t then 0 else 1)] := by 
  refine pcall_of Try.func57 rfl rfl Try.ntmps57 (rs := [.tmp 2, .tmp 3]) (tys := [64, 36]) rfl rfl (by simp) ?_
  (refine awp_sr fun KK hKK => ?_; simp [go_sem]; ((repeat' (first|(refine ag_x ?_;simp [go_sem])|intro _|refine And.intro ?_ ?_|(apply hKK;clear hKK KK)));all_goals first|refine Hold.mk ?_|omega|with_reducible assumption|(simp only [InR] at *;omega)|skip))
  refine awp_frzbox 1 rfl rfl ?_
  simp only [go_sem]
  refine awp_seq_k fun K1 hK1 => ?_
  (refine awp_sr fun KK hKK => ?_; simp [go_sem]; ((repeat' (first|(refine ag_x ?_;simp [go_sem])|intro _|refine And.intro ?_ ?_|(apply hKK;clear hKK KK)));all_goals first|refine Hold.mk ?_|omega|with_reducible assumption|(simp only [InR] at *;omega)|skip))
  ((try refine CallT.toA ?_); refine callT_m (by first | exact .inl ⟨rfl, rfl⟩ | exact .inr rfl) (by simp [go_sem]) ?_; intro args ha; simp [go_sem] at ha; subst ha; refine ⟨_, (rvalid_spec t), ?_⟩; rintro _ rfl; simp [go_sem]; ((repeat' (first|(refine ag_x ?_;simp [go_sem])|intro _|refine And.intro ?_ ?_|(apply hKK;clear hKK KK)));all_goals first|refine Hold.mk ?_|omega|with_reducible assumption|(simp only [InR] at *;omega)|skip))
  (refine awp_if fun T F hT hF => ?_; simp [go_sem]; refine BR.intro (fun h2 => hT ?_) (fun h2 => hF ?_); all_goals clear hT hF T F; try simp at h2) 
  · (refine awp_sr fun KK hKK => ?_; simp [go_sem]; ((repeat' (first|(refine ag_x ?_;simp [go_sem])|intro _|refine And.intro ?_ ?_|(apply hKK;clear hKK KK)));all_goals first|refine Hold.mk ?_|omega|with_reducible assumption|(simp only [InR] at *;omega)|skip))
    (refine awp_ret ?_; simp [go_sem, h2])
  · refine awp_skip ?_
    have hok : trOk t = true := h2
    obtain ⟨hr1, hr2, hcl, hel⟩ := trOk_regs hok
    refine hK1 _ ?_; clear hK1
    have hrow := rowsV_row t []
    have hlen := rowsV_len t []
    have hlv : liveV t = (rowsV t []).map markV := rfl
    (refine awp_sr fun KK hKK => ?_; simp [go_sem]; ((repeat' (first|(refine ag_x ?_;simp [go_sem])|intro _|refine And.intro ?_ ?_|(apply hKK;clear hKK KK)));all_goals first|refine Hold.mk ?_|omega|with_reducible assumption|(simp only [InR] at *;omega)|skip))
    ((try refine CallT.toA ?_); refine callT_m (by first | exact .inl ⟨rfl, rfl⟩ | exact .inr rfl) (by simp [go_sem]) ?_; intro args ha; simp [go_sem] at ha; subst ha; refine ⟨_, (rlives_spec t hok), ?_⟩; rintro _ rfl; simp [go_sem]; ((repeat' (first|(refine ag_x ?_;simp [go_sem])|intro _|refine And.intro ?_ ?_|(apply hKK;clear hKK KK)));all_goals first|refine Hold.mk ?_|omega|with_reducible assumption|(simp only [InR] at *;omega)|skip))
    generalize rowsV t [] = R at hrow hlen hlv
    (refine awp_sr fun KK hKK => ?_; simp [go_sem]; ((repeat' (first|(refine ag_x ?_;simp [go_sem])|intro _|refine And.intro ?_ ?_|(apply hKK;clear hKK KK)));all_goals first|refine Hold.mk ?_|omega|with_reducible assumption|(simp only [InR] at *;omega)|skip))
    refine awp_nilslot 5 25 26 1 rfl fun gb => ?_
    simp only [go_sem]
    refine awp_seq_k fun K3 hK3 => ?_
    (refine awp_sr fun KK hKK => ?_; simp [go_sem]; ((repeat' (first|(refine ag_x ?_;simp [go_sem])|intro _|refine And.intro ?_ ?_|(apply hKK;clear hKK KK)));all_goals first|refine Hold.mk ?_|omega|with_reducible assumption|(simp only [InR] at *;omega)|skip))
    refine awp_block ?_
    refine awp_loop (σ := Nat × Nat) (fun x => ⟨[(4, dBll R), (5, .own 25 x.2), (6, dI x.1)], [(25, x.2, .row 26 1 ((marksT R x.1).map fun x => [dIs x]))]⟩) (fun x => x.1 ≤ R.length) (fun x => R.length - x.1) (0, gb) ?_ ?_ ?_
    · (refine cov_of ?_ ?_ <;> simp [go_sem, marksT])
    · simp
    rintro ⟨k, gb⟩ hk
    simp only at hk
    refine awp_seq_k fun K4 hK4 => ?_
    (refine awp_sr fun KK hKK => ?_; simp [go_sem]; ((repeat' (first|(refine ag_x ?_;simp [go_sem])|intro _|refine And.intro ?_ ?_|(apply hKK;clear hKK KK)));all_goals first|refine Hold.mk ?_|omega|with_reducible assumption|(simp only [InR] at *;omega)|skip))
    (refine awp_if fun T F hT hF => ?_; simp [go_sem]; refine BR.intro (fun h5 => hT ?_) (fun h5 => hF ?_); all_goals clear hT hF T F; try simp at h5) 
    · refine awp_skip ?_
      refine hK4 _ ?_; clear hK4
      obtain ⟨l, hl⟩ : ∃ l, R[k]? = some l := ⟨_, List.getElem?_eq_getElem (by omega)⟩
      have hll := hrow l (List.mem_of_getElem? hl)
      have hst := marksT_step hl
      have hal : (marksT R k).length ≤ 61 := by have := marksT_len R k; omega
      generalize hacc : marksT R k = acc at hst hal ⊢
      refine awp_seq_k fun K6 hK6 => ?_
      refine awp_block ?_
      (refine awp_r fun KK hKK => ?_; simp [go_sem, hl]; ((repeat' (first|(refine ag_x ?_;simp [go_sem, hl])|intro _|refine And.intro ?_ ?_|(apply hKK;clear hKK KK)));all_goals first|refine Hold.mk ?_|omega|with_reducible assumption|(simp only [InR] at *;omega)|skip))
      ((try refine CallT.toA ?_); refine callT_m (by first | exact .inl ⟨rfl, rfl⟩ | exact .inr rfl) (by simp [go_sem]) ?_; intro args ha; simp [go_sem] at ha; subst ha; refine ⟨_, (rmarked_spec l (by omega)), ?_⟩; rintro _ rfl; simp [go_sem]; ((repeat' (first|(refine ag_x ?_;simp [go_sem])|intro _|refine And.intro ?_ ?_|(apply hKK;clear hKK KK)));all_goals first|refine Hold.mk ?_|omega|with_reducible assumption|(simp only [InR] at *;omega)|skip))
      rename_i g20 g21
      refine hK6 _ ?_; clear hK6
      (refine awp_r fun KK hKK => ?_; simp [go_sem]; ((repeat' (first|(refine ag_x ?_;simp [go_sem])|intro _|refine And.intro ?_ ?_|(apply hKK;clear hKK KK)));all_goals first|refine Hold.mk ?_|omega|with_reducible assumption|(simp only [InR] at *;omega)|skip))
      refine ⟨(k + 1, g21), ?_, by simp; omega, by simp; omega⟩
      rw [hst]
      (refine cov_of ?_ ?_ <;> simp [go_sem])
    · refine awp_exit ?_
      simp only [go_sem]
      refine hK3 _ ?_; clear hK3
      have : k = R.length := by omega
      subst this
      have hfin : marksT R R.length = liveV t := by rw [marksT, List.take_length, hlv]
      rw [hfin]
      (refine awp_sr fun KK hKK => ?_; simp [go_sem]; ((repeat' (first|(refine ag_x ?_;simp [go_sem])|intro _|refine And.intro ?_ ?_|(apply hKK;clear hKK KK)));all_goals first|refine Hold.mk ?_|omega|with_reducible assumption|(simp only [InR] at *;omega)|skip))
      (refine awp_ret ?_; simp [go_sem, hok])

set_option maxHeartbeats 8000000 in
theorem rdeadT_spec (t : Tr) : PCall Try.prog 60 [dTr t] fun r => r = .tup [dIs (if trOk t then nI (deadV t []) else []), dI (if trOk t then 0 else 1)] := by 
  refine pcall_of Try.func60 rfl rfl Try.ntmps60 (rs := [.tmp 2, .tmp 3]) (tys := [26, 36]) rfl rfl (by simp) ?_
  (refine awp_sr fun KK hKK => ?_; simp [go_sem]; ((repeat' (first|(refine ag_x ?_;simp [go_sem])|intro _|refine And.intro ?_ ?_|(apply hKK;clear hKK KK)));all_goals first|refine Hold.mk ?_|omega|with_reducible assumption|(simp only [InR] at *;omega)|skip))
  refine awp_frzbox 1 rfl rfl ?_
  simp only [go_sem]
  refine awp_seq_k fun K1 hK1 => ?_
  (refine awp_sr fun KK hKK => ?_; simp [go_sem]; ((repeat' (first|(refine ag_x ?_;simp [go_sem])|intro _|refine And.intro ?_ ?_|(apply hKK;clear hKK KK)));all_goals first|refine Hold.mk ?_|omega|with_reducible assumption|(simp only [InR] at *;omega)|skip))
  ((try refine CallT.toA ?_); refine callT_m (by first | exact .inl ⟨rfl, rfl⟩ | exact .inr rfl) (by simp [go_sem]) ?_; intro args ha; simp [go_sem] at ha; subst ha; refine ⟨_, (rvalid_spec t), ?_⟩; rintro _ rfl; simp [go_sem]; ((repeat' (first|(refine ag_x ?_;simp [go_sem])|intro _|refine And.intro ?_ ?_|(apply hKK;clear hKK KK)));all_goals first|refine Hold.mk ?_|omega|with_reducible assumption|(simp only [InR] at *;omega)|skip))
  (refine awp_if fun T F hT hF => ?_; simp [go_sem]; refine BR.intro (fun h2 => hT ?_) (fun h2 => hF ?_); all_goals clear hT hF T F; try simp at h2) 
  · (refine awp_sr fun KK hKK => ?_; simp [go_sem]; ((repeat' (first|(refine ag_x ?_;simp [go_sem])|intro _|refine And.intro ?_ ?_|(apply hKK;clear hKK KK)));all_goals first|refine Hold.mk ?_|omega|with_reducible assumption|(simp only [InR] at *;omega)|skip))
    (refine awp_ret ?_; simp [go_sem, h2])
  · refine awp_skip ?_
    have hok : trOk t = true := h2
    obtain ⟨hr1, hr2, hcl, hel⟩ := trOk_regs hok
    refine hK1 _ ?_; clear hK1
    have hrow := rowsV_row t []
    have hlen := rowsV_len t []
    have hat : ∀ k, k ≤ t.code.length → (rowsV t [])[k]? = some (rowA t (t.code.drop k) (lastV t [])) := fun k h => rowsL_at t _ k h
    (refine awp_sr fun KK hKK => ?_; simp [go_sem]; ((repeat' (first|(refine ag_x ?_;simp [go_sem])|intro _|refine And.intro ?_ ?_|(apply hKK;clear hKK KK)));all_goals first|refine Hold.mk ?_|omega|with_reducible assumption|(simp only [InR] at *;omega)|skip))
    ((try refine CallT.toA ?_); refine callT_m (by first | exact .inl ⟨rfl, rfl⟩ | exact .inr rfl) (by simp [go_sem]) ?_; intro args ha; simp [go_sem] at ha; subst ha; refine ⟨_, (rlives_spec t hok), ?_⟩; rintro _ rfl; simp [go_sem]; ((repeat' (first|(refine ag_x ?_;simp [go_sem])|intro _|refine And.intro ?_ ?_|(apply hKK;clear hKK KK)));all_goals first|refine Hold.mk ?_|omega|with_reducible assumption|(simp only [InR] at *;omega)|skip))
    generalize rowsV t [] = R at hrow hlen hat
    (refine awp_sr fun KK hKK => ?_; simp [go_sem]; ((repeat' (first|(refine ag_x ?_;simp [go_sem])|intro _|refine And.intro ?_ ?_|(apply hKK;clear hKK KK)));all_goals first|refine Hold.mk ?_|omega|with_reducible assumption|(simp only [InR] at *;omega)|skip))
    refine awp_nilslot 5 49 3 1 rfl fun gb => ?_
    simp only [go_sem]
    refine awp_seq_k fun K3 hK3 => ?_
    (refine awp_sr fun KK hKK => ?_; simp [go_sem]; ((repeat' (first|(refine ag_x ?_;simp [go_sem])|intro _|refine And.intro ?_ ?_|(apply hKK;clear hKK KK)));all_goals first|refine Hold.mk ?_|omega|with_reducible assumption|(simp only [InR] at *;omega)|skip))
    refine awp_block ?_
    refine awp_loop (σ := Nat × Nat) (fun x => ⟨[(1, .rd [dI t.regs, .sl 6 (t.code.map cIns), .sl 2 (t.exits.map cExi)]), (4, dBll R), (5, .own 49 x.2), (6, dI x.1)], [(49, x.2, .row 3 1 ((nI (deadT t (lastV t []) x.1)).map cI))]⟩) (fun x => x.1 ≤ t.code.length) (fun x => t.code.length - x.1) (0, gb) ?_ ?_ ?_
    · (refine cov_of ?_ ?_ <;> simp [go_sem, deadT, deadFrom, nI])
    · simp
    rintro ⟨k, gb⟩ hkl
    simp only at hkl
    refine awp_seq_k fun K4 hK4 => ?_
    (refine awp_sr fun KK hKK => ?_; simp [go_sem]; ((repeat' (first|(refine ag_x ?_;simp [go_sem])|intro _|refine And.intro ?_ ?_|(apply hKK;clear hKK KK)));all_goals first|refine Hold.mk ?_|omega|with_reducible assumption|(simp only [InR] at *;omega)|skip))
    (refine awp_if fun T F hT hF => ?_; simp [go_sem]; refine BR.intro (fun h5 => hT ?_) (fun h5 => hF ?_); all_goals clear hT hF T F; try simp at h5) 
    · refine awp_skip ?_
      refine hK4 _ ?_; clear hK4
      obtain ⟨x, hx⟩ : ∃ x, t.code[k]? = some x := ⟨_, List.getElem?_eq_getElem (by omega)⟩
      have hix := insOk_at hok hx
      obtain ⟨ho1, ho2, _, _, hxd, _⟩ := insOk_regs hix hr1
      have hst := deadT_step (L := lastV t []) hx
      have hal : (nI (deadT t (lastV t []) k)).length ≤ 60 := by have := deadT_len t (lastV t []) k; simp [nI]; omega
      have hRk := hat (k + 1) (by omega)
      have hlR := hrow _ (List.mem_of_getElem? hRk)
      generalize rowA t (t.code.drop (k + 1)) (lastV t []) = Rk at hst hRk hlR
      obtain ⟨bd, hbd⟩ : ∃ b, Rk[x.d.toNat]? = some b := ⟨_, List.getElem?_eq_getElem (by omega)⟩
      have ek1 : ((k : Int) + 1).toNat = k + 1 := by omega
      have hdi : deadI Rk x = ((flds x.op).contains 68 && !exitsV x.op && !bd) := by
        have e : (flds x.op).contains 68 = decide (x.op ≤ 8) := by
          rw [Bool.eq_iff_iff, decide_eq_true_eq, List.contains_iff_mem]
          exact flds_m ho1 ho2
        rw [e]
        simp [deadI, List.getD_eq_getElem?_getD, hbd]
      rw [hdi] at hst
      generalize hacc : deadT t (lastV t []) k = acc at hst hal ⊢
      refine awp_seq_k fun K6 hK6 => ?_
      have tl6 : ∀ S' gb', Cov S' ⟨[(1, .rd [dI t.regs, .sl 6 (t.code.map cIns), .sl 2 (t.exits.map cExi)]), (4, dBll R), (5, .own 49 gb'), (6, dI k)], [(49, gb', .row 3 1 ((nI (acc ++ (if ((flds x.op).contains 68 && !exitsV x.op && !bd) then [k] else []))).map cI))]⟩ → K6 S' := fun S' gb' hS => by
        refine hK6 _ ?_; clear hK6
        refine awp_cov hS ?_; clear hS
        (refine awp_r fun KK hKK => ?_; simp [go_sem]; ((repeat' (first|(refine ag_x ?_;simp [go_sem])|intro _|refine And.intro ?_ ?_|(apply hKK;clear hKK KK)));all_goals first|refine Hold.mk ?_|omega|with_reducible assumption|(simp only [InR] at *;omega)|skip))
        refine ⟨(k + 1, gb'), ?_, by simp; omega, by simp; omega⟩
        rw [hst]
        (refine cov_of ?_ ?_ <;> simp [go_sem])
      clear hK6
      refine awp_block ?_
      (refine awp_sr fun KK hKK => ?_; simp [go_sem, hx]; ((repeat' (first|(refine ag_x ?_;simp [go_sem, hx])|intro _|refine And.intro ?_ ?_|(apply hKK;clear hKK KK)));all_goals first|refine Hold.mk ?_|omega|with_reducible assumption|(simp only [InR] at *;omega)|skip))
      rename_i g8
      refine awp_frzbox 7 rfl rfl ?_
      simp only [go_sem]
      ((refine awp_dr (.qs [0, 1] (.one 2 (.qs [3, 4, 5] (.one 6 (.qs [7, 8, 9, 10, 11, 12, 13, 15, 14, 16, 17, 18, 19, 20] (.nil)))))) (by kernel_rfl) ?_ ?_ ?_ ?_); (kernel_rfl); (exact (by decide +kernel)); (kernel_rfl); intro KK hKK; ((repeat' (first|(refine ag_x ?_;simp [go_sem])|refine adr_nil ?_|refine adr_two ?_ ?_|refine adr_kp2 ?_ ?_|((first|refine adr_qs fun KK hKK=>?_|refine adr_y fun KK hKK=>?_);simp [go_sem])|intro _|refine And.intro ?_ ?_|(apply hKK;clear hKK KK)));all_goals first|refine Hold.mk ?_|omega|with_reducible assumption|(simp only [InR] at *;omega)|skip))
      ((try refine CallT.toA ?_); refine callT_m (by first | exact .inl ⟨rfl, rfl⟩ | exact .inr rfl) (by simp [go_sem]) ?_; intro args ha; simp [go_sem] at ha; subst ha; refine ⟨_, (has_spec x.op 68 ho1 ho2), ?_⟩; rintro _ rfl; simp [go_sem]; ((repeat' (first|(refine ag_x ?_;simp [go_sem])|refine adr_nil ?_|refine adr_two ?_ ?_|refine adr_kp2 ?_ ?_|((first|refine adr_qs fun KK hKK=>?_|refine adr_y fun KK hKK=>?_);simp [go_sem])|intro _|refine And.intro ?_ ?_|(apply hKK;clear hKK KK)));all_goals first|refine Hold.mk ?_|omega|with_reducible assumption|(simp only [InR] at *;omega)|skip))
      (refine agc_f (dB (exitsV x.op)) (by first | exact .inl ⟨rfl, rfl⟩ | exact .inr rfl) ?_ rfl ?_; (intro hc args ha; simp [go_sem] at ha; subst ha; exact (rexits_spec x.op ho1 ho2)); simp [go_sem, hRk, ek1, hbd]; ((repeat' (first|(refine ag_x ?_;simp [go_sem, hRk, ek1, hbd])|refine adr_nil ?_|refine adr_two ?_ ?_|refine adr_kp2 ?_ ?_|((first|refine adr_qs fun KK hKK=>?_|refine adr_y fun KK hKK=>?_);simp [go_sem, hRk, ek1, hbd])|intro _|refine And.intro ?_ ?_|(apply hKK;clear hKK KK)));all_goals first|refine Hold.mk ?_|omega|with_reducible assumption|(simp only [InR] at *;omega)|skip))
      (refine awp_if fun T F hT hF => ?_; simp [go_sem]; refine BR.intro (fun h7 => hT ?_) (fun h7 => hF ?_); all_goals clear hT hF T F; try simp at h7) 
      · (refine awp_r fun KK hKK => ?_; simp [go_sem]; ((repeat' (first|(refine ag_x ?_;simp [go_sem])|intro _|refine And.intro ?_ ?_|(apply hKK;clear hKK KK)));all_goals first|refine Hold.mk ?_|omega|with_reducible assumption|(simp only [InR] at *;omega)|skip))
        rename_i g43 g44
        refine tl6 _ g44 ?_
        rw [if_pos (by simpa using h7)]
        (refine cov_of ?_ ?_ <;> simp [go_sem, nI])
      · refine awp_skip ?_
        refine tl6 _ gb ?_
        rw [if_neg (by simpa using h7)]
        (refine cov_of ?_ ?_ <;> simp [go_sem])
    · refine awp_exit ?_
      simp only [go_sem]
      refine hK3 _ ?_; clear hK3
      have : k = t.code.length := by omega
      subst this
      rw [deadT_all]
      (refine awp_sr fun KK hKK => ?_; simp [go_sem]; ((repeat' (first|(refine ag_x ?_;simp [go_sem])|intro _|refine And.intro ?_ ?_|(apply hKK;clear hKK KK)));all_goals first|refine Hold.mk ?_|omega|with_reducible assumption|(simp only [InR] at *;omega)|skip))
      (refine awp_ret ?_; simp [go_sem, hok])

set_option maxHeartbeats 8000000 in
theorem analysed_spec (t : Tr) (hc : t.code.length ≤ 500) (he : t.exits.length ≤ 100) (hs : ∀ x ∈ t.exits, x.slots.length ≤ 2000) : PCall Try.prog 33 [dTr t] fun r => r = dB true := by 
  have s1 := liveT_spec t
  have s2 := rliveT_spec t
  have s3 := deadT_spec t
  have s4 := rdeadT_spec t
  have s5 := invariant_spec t
  have s6 := rinvariant_spec t
  have s7 := guards_spec t
  have s8 := rguards_spec t
  have hll : (if trOk t then liveV t else []).length ≤ 61 := by
    split
    · rename_i hok
      have := (trOk_regs hok).2.2.1
      have := rowsV_len t []
      simp [liveV]; omega
    · simp
  generalize (if trOk t then liveV t else []) = lv at s1 s2 hll
  generalize (if trOk t then nI (deadV t []) else []) = dv at s3 s4
  generalize (if trOk t then nI (invV t) else []) = iv at s5 s6
  generalize (if trOk t then gdsV t.code else 0) = gv at s7 s8
  generalize (if trOk t then 0 else 1 : Int) = ev at s1 s2 s3 s4 s5 s6 s7 s8
  refine pcall_of Try.func33 rfl rfl Try.ntmps33 (rs := [.tmp 2]) (tys := [4]) rfl rfl (by simp) ?_
  (refine awp_sr fun KK hKK => ?_; simp [go_sem]; ((repeat' (first|(refine ag_x ?_;simp [go_sem])|intro _|refine And.intro ?_ ?_|(apply hKK;clear hKK KK)));all_goals first|refine Hold.mk ?_|omega|with_reducible assumption|(simp only [InR] at *;omega)|skip))
  refine awp_frzbox 1 rfl rfl ?_
  simp only [go_sem]
  (refine awp_sr fun KK hKK => ?_; simp [go_sem]; ((repeat' (first|(refine ag_x ?_;simp [go_sem])|intro _|refine And.intro ?_ ?_|(apply hKK;clear hKK KK)));all_goals first|refine Hold.mk ?_|omega|with_reducible assumption|(simp only [InR] at *;omega)|skip))
  ((try refine CallT.toA ?_); refine callT_m (by first | exact .inl ⟨rfl, rfl⟩ | exact .inr rfl) (by simp [go_sem]) ?_; intro args ha; simp [go_sem] at ha; subst ha; refine ⟨_, (as_spec t hc he hs), ?_⟩; rintro _ rfl; simp [go_sem]; ((repeat' (first|(refine ag_x ?_;simp [go_sem])|intro _|refine And.intro ?_ ?_|(apply hKK;clear hKK KK)));all_goals first|refine Hold.mk ?_|omega|with_reducible assumption|(simp only [InR] at *;omega)|skip))
  rename_i go
  refine awp_frzbox 3 rfl rfl ?_
  simp only [go_sem]
  (refine awp_sr fun KK hKK => ?_; simp [go_sem]; ((repeat' (first|(refine ag_x ?_;simp [go_sem])|intro _|refine And.intro ?_ ?_|(apply hKK;clear hKK KK)));all_goals first|refine Hold.mk ?_|omega|with_reducible assumption|(simp only [InR] at *;omega)|skip))
  ((try refine CallT.toA ?_); refine callT_m (by first | exact .inl ⟨rfl, rfl⟩ | exact .inr rfl) (by simp [go_sem]) ?_; intro args ha; simp [go_sem] at ha; subst ha; refine ⟨_, s1, ?_⟩; rintro _ rfl; simp [go_sem]; ((repeat' (first|(refine ag_x ?_;simp [go_sem])|intro _|refine And.intro ?_ ?_|(apply hKK;clear hKK KK)));all_goals first|refine Hold.mk ?_|omega|with_reducible assumption|(simp only [InR] at *;omega)|skip))
  (refine awp_sr fun KK hKK => ?_; simp [go_sem]; ((repeat' (first|(refine ag_x ?_;simp [go_sem])|intro _|refine And.intro ?_ ?_|(apply hKK;clear hKK KK)));all_goals first|refine Hold.mk ?_|omega|with_reducible assumption|(simp only [InR] at *;omega)|skip))
  ((try refine CallT.toA ?_); refine callT_m (by first | exact .inl ⟨rfl, rfl⟩ | exact .inr rfl) (by simp [go_sem]) ?_; intro args ha; simp [go_sem] at ha; subst ha; refine ⟨_, s2, ?_⟩; rintro _ rfl; simp [go_sem]; ((repeat' (first|(refine ag_x ?_;simp [go_sem])|intro _|refine And.intro ?_ ?_|(apply hKK;clear hKK KK)));all_goals first|refine Hold.mk ?_|omega|with_reducible assumption|(simp only [InR] at *;omega)|skip))
  (refine awp_sr fun KK hKK => ?_; simp [go_sem]; ((repeat' (first|(refine ag_x ?_;simp [go_sem])|intro _|refine And.intro ?_ ?_|(apply hKK;clear hKK KK)));all_goals first|refine Hold.mk ?_|omega|with_reducible assumption|(simp only [InR] at *;omega)|skip))
  ((try refine CallT.toA ?_); refine callT_m (by first | exact .inl ⟨rfl, rfl⟩ | exact .inr rfl) (by simp [go_sem]) ?_; intro args ha; simp [go_sem] at ha; subst ha; refine ⟨_, s3, ?_⟩; rintro _ rfl; simp [go_sem]; ((repeat' (first|(refine ag_x ?_;simp [go_sem])|intro _|refine And.intro ?_ ?_|(apply hKK;clear hKK KK)));all_goals first|refine Hold.mk ?_|omega|with_reducible assumption|(simp only [InR] at *;omega)|skip))
  (refine awp_sr fun KK hKK => ?_; simp [go_sem]; ((repeat' (first|(refine ag_x ?_;simp [go_sem])|intro _|refine And.intro ?_ ?_|(apply hKK;clear hKK KK)));all_goals first|refine Hold.mk ?_|omega|with_reducible assumption|(simp only [InR] at *;omega)|skip))
  ((try refine CallT.toA ?_); refine callT_m (by first | exact .inl ⟨rfl, rfl⟩ | exact .inr rfl) (by simp [go_sem]) ?_; intro args ha; simp [go_sem] at ha; subst ha; refine ⟨_, s4, ?_⟩; rintro _ rfl; simp [go_sem]; ((repeat' (first|(refine ag_x ?_;simp [go_sem])|intro _|refine And.intro ?_ ?_|(apply hKK;clear hKK KK)));all_goals first|refine Hold.mk ?_|omega|with_reducible assumption|(simp only [InR] at *;omega)|skip))
  (refine awp_sr fun KK hKK => ?_; simp [go_sem]; ((repeat' (first|(refine ag_x ?_;simp [go_sem])|intro _|refine And.intro ?_ ?_|(apply hKK;clear hKK KK)));all_goals first|refine Hold.mk ?_|omega|with_reducible assumption|(simp only [InR] at *;omega)|skip))
  ((try refine CallT.toA ?_); refine callT_m (by first | exact .inl ⟨rfl, rfl⟩ | exact .inr rfl) (by simp [go_sem]) ?_; intro args ha; simp [go_sem] at ha; subst ha; refine ⟨_, s5, ?_⟩; rintro _ rfl; simp [go_sem]; ((repeat' (first|(refine ag_x ?_;simp [go_sem])|intro _|refine And.intro ?_ ?_|(apply hKK;clear hKK KK)));all_goals first|refine Hold.mk ?_|omega|with_reducible assumption|(simp only [InR] at *;omega)|skip))
  (refine awp_sr fun KK hKK => ?_; simp [go_sem]; ((repeat' (first|(refine ag_x ?_;simp [go_sem])|intro _|refine And.intro ?_ ?_|(apply hKK;clear hKK KK)));all_goals first|refine Hold.mk ?_|omega|with_reducible assumption|(simp only [InR] at *;omega)|skip))
  ((try refine CallT.toA ?_); refine callT_m (by first | exact .inl ⟨rfl, rfl⟩ | exact .inr rfl) (by simp [go_sem]) ?_; intro args ha; simp [go_sem] at ha; subst ha; refine ⟨_, s6, ?_⟩; rintro _ rfl; simp [go_sem]; ((repeat' (first|(refine ag_x ?_;simp [go_sem])|intro _|refine And.intro ?_ ?_|(apply hKK;clear hKK KK)));all_goals first|refine Hold.mk ?_|omega|with_reducible assumption|(simp only [InR] at *;omega)|skip))
  (refine awp_sr fun KK hKK => ?_; simp [go_sem]; ((repeat' (first|(refine ag_x ?_;simp [go_sem])|intro _|refine And.intro ?_ ?_|(apply hKK;clear hKK KK)));all_goals first|refine Hold.mk ?_|omega|with_reducible assumption|(simp only [InR] at *;omega)|skip))
  ((try refine CallT.toA ?_); refine callT_m (by first | exact .inl ⟨rfl, rfl⟩ | exact .inr rfl) (by simp [go_sem]) ?_; intro args ha; simp [go_sem] at ha; subst ha; refine ⟨_, s7, ?_⟩; rintro _ rfl; simp [go_sem]; ((repeat' (first|(refine ag_x ?_;simp [go_sem])|intro _|refine And.intro ?_ ?_|(apply hKK;clear hKK KK)));all_goals first|refine Hold.mk ?_|omega|with_reducible assumption|(simp only [InR] at *;omega)|skip))
  (refine awp_sr fun KK hKK => ?_; simp [go_sem]; ((repeat' (first|(refine ag_x ?_;simp [go_sem])|intro _|refine And.intro ?_ ?_|(apply hKK;clear hKK KK)));all_goals first|refine Hold.mk ?_|omega|with_reducible assumption|(simp only [InR] at *;omega)|skip))
  ((try refine CallT.toA ?_); refine callT_m (by first | exact .inl ⟨rfl, rfl⟩ | exact .inr rfl) (by simp [go_sem]) ?_; intro args ha; simp [go_sem] at ha; subst ha; refine ⟨_, s8, ?_⟩; rintro _ rfl; simp [go_sem]; ((repeat' (first|(refine ag_x ?_;simp [go_sem])|intro _|refine And.intro ?_ ?_|(apply hKK;clear hKK KK)));all_goals first|refine Hold.mk ?_|omega|with_reducible assumption|(simp only [InR] at *;omega)|skip))
  refine awp_seq_k fun K1 hK1 => ?_
  (refine awp_sr fun KK hKK => ?_; simp [go_sem]; ((repeat' (first|(refine ag_x ?_;simp [go_sem])|intro _|refine And.intro ?_ ?_|(apply hKK;clear hKK KK)));all_goals first|refine Hold.mk ?_|omega|with_reducible assumption|(simp only [InR] at *;omega)|skip))
  (refine agc_f (dB (decide (dv = dv))) (by first | exact .inl ⟨rfl, rfl⟩ | exact .inr rfl) ?_ rfl ?_; (intro hc args ha; simp [go_sem] at ha; subst ha; exact (ints_spec dv dv)); simp [go_sem]; ((repeat' (first|(refine ag_x ?_;simp [go_sem])|intro _|refine And.intro ?_ ?_|(apply hKK;clear hKK KK)));all_goals first|refine Hold.mk ?_|omega|with_reducible assumption|(simp only [InR] at *;omega)|skip))
  (refine agc_f (dB (decide (iv = iv))) (by first | exact .inl ⟨rfl, rfl⟩ | exact .inr rfl) ?_ rfl ?_; (intro hc args ha; simp [go_sem] at ha; subst ha; exact (ints_spec iv iv)); simp [go_sem]; ((repeat' (first|(refine ag_x ?_;simp [go_sem])|intro _|refine And.intro ?_ ?_|(apply hKK;clear hKK KK)));all_goals first|refine Hold.mk ?_|omega|with_reducible assumption|(simp only [InR] at *;omega)|skip))
  (refine awp_if fun T F hT hF => ?_; simp [go_sem]; refine hF ?_; clear hT hF T F)
  refine awp_skip ?_
  refine hK1 _ ?_; clear hK1
  refine awp_seq_k fun K3 hK3 => ?_
  (refine awp_sr fun KK hKK => ?_; simp [go_sem]; ((repeat' (first|(refine ag_x ?_;simp [go_sem])|intro _|refine And.intro ?_ ?_|(apply hKK;clear hKK KK)));all_goals first|refine Hold.mk ?_|omega|with_reducible assumption|(simp only [InR] at *;omega)|skip))
  refine awp_block ?_
  refine awp_loop (σ := Nat) (fun x => ⟨[(4, dIss lv), (6, dIss lv), (20, dI x)], []⟩) (fun x => x ≤ lv.length) (fun x => lv.length - x) 0 ?_ ?_ ?_
  · (refine cov_of ?_ ?_ <;> simp [go_sem])
  · simp
  intro k hk
  refine awp_seq_k fun K4 hK4 => ?_
  (refine awp_sr fun KK hKK => ?_; simp [go_sem]; ((repeat' (first|(refine ag_x ?_;simp [go_sem])|intro _|refine And.intro ?_ ?_|(apply hKK;clear hKK KK)));all_goals first|refine Hold.mk ?_|omega|with_reducible assumption|(simp only [InR] at *;omega)|skip))
  (refine awp_if fun T F hT hF => ?_; simp [go_sem]; refine BR.intro (fun h5 => hT ?_) (fun h5 => hF ?_); all_goals clear hT hF T F; try simp at h5) 
  · refine awp_skip ?_
    refine hK4 _ ?_; clear hK4
    obtain ⟨l, hl⟩ : ∃ l, lv[k]? = some l := ⟨_, List.getElem?_eq_getElem (by omega)⟩
    refine awp_seq_k fun K6 hK6 => ?_
    refine awp_block ?_
    ((refine awp_dr (.qs [0, 1, 2, 4, 5, 6, 3, 7] (.one 8 (.qs [9] (.nil)))) (by kernel_rfl) ?_ ?_ ?_ ?_); (kernel_rfl); (exact (by decide +kernel)); (kernel_rfl); intro KK hKK; ((repeat' (first|(refine ag_x ?_;simp [go_sem, hl])|refine adr_nil ?_|refine adr_two ?_ ?_|refine adr_kp2 ?_ ?_|((first|refine adr_qs fun KK hKK=>?_|refine adr_y fun KK hKK=>?_);simp [go_sem, hl])|intro _|refine And.intro ?_ ?_|(apply hKK;clear hKK KK)));all_goals first|refine Hold.mk ?_|omega|with_reducible assumption|(simp only [InR] at *;omega)|skip))
    ((try refine CallT.toA ?_); refine callT_m (by first | exact .inl ⟨rfl, rfl⟩ | exact .inr rfl) (by simp [go_sem]) ?_; intro args ha; simp [go_sem] at ha; subst ha; refine ⟨_, (ints_spec l l), ?_⟩; rintro _ rfl; simp [go_sem]; ((repeat' (first|(refine ag_x ?_;simp [go_sem])|refine adr_nil ?_|refine adr_two ?_ ?_|refine adr_kp2 ?_ ?_|((first|refine adr_qs fun KK hKK=>?_|refine adr_y fun KK hKK=>?_);simp [go_sem])|intro _|refine And.intro ?_ ?_|(apply hKK;clear hKK KK)));all_goals first|refine Hold.mk ?_|omega|with_reducible assumption|(simp only [InR] at *;omega)|skip))
    (refine awp_if fun T F hT hF => ?_; simp [go_sem]; refine hF ?_; clear hT hF T F)
    refine awp_skip ?_
    simp only [go_sem]
    refine hK6 _ ?_; clear hK6
    (refine awp_r fun KK hKK => ?_; simp [go_sem]; ((repeat' (first|(refine ag_x ?_;simp [go_sem])|intro _|refine And.intro ?_ ?_|(apply hKK;clear hKK KK)));all_goals first|refine Hold.mk ?_|omega|with_reducible assumption|(simp only [InR] at *;omega)|skip))
    refine ⟨k + 1, ?_, by omega, by omega⟩
    (refine cov_of ?_ ?_ <;> simp [go_sem])
  · refine awp_exit ?_
    simp only [go_sem]
    refine hK3 _ ?_; clear hK3
    (refine awp_sr fun KK hKK => ?_; simp [go_sem]; ((repeat' (first|(refine ag_x ?_;simp [go_sem])|intro _|refine And.intro ?_ ?_|(apply hKK;clear hKK KK)));all_goals first|refine Hold.mk ?_|omega|with_reducible assumption|(simp only [InR] at *;omega)|skip))
    (refine awp_ret ?_; simp [go_sem])

set_option maxHeartbeats 8000000 in
theorem traceLives_spec (t : Tr) : PCall Try.prog 10 [dTr t] fun r => r = dB true := by 
  refine pcall_of Try.func10 rfl rfl Try.ntmps10 (rs := [.tmp 2]) (tys := [4]) rfl rfl (by simp) ?_
  (refine awp_sr fun KK hKK => ?_; simp [go_sem]; ((repeat' (first|(refine ag_x ?_;simp [go_sem])|intro _|refine And.intro ?_ ?_|(apply hKK;clear hKK KK)));all_goals first|refine Hold.mk ?_|omega|with_reducible assumption|(simp only [InR] at *;omega)|skip))
  refine awp_frzbox 1 rfl rfl ?_
  simp only [go_sem]
  by_cases hl : largeV t = true
  · (refine awp_sr fun KK hKK => ?_; simp [go_sem]; ((repeat' (first|(refine ag_x ?_;simp [go_sem])|intro _|refine And.intro ?_ ?_|(apply hKK;clear hKK KK)));all_goals first|refine Hold.mk ?_|omega|with_reducible assumption|(simp only [InR] at *;omega)|skip))
    ((try refine CallT.toA ?_); refine callT_m (by first | exact .inl ⟨rfl, rfl⟩ | exact .inr rfl) (by simp [go_sem]) ?_; intro args ha; simp [go_sem] at ha; subst ha; refine ⟨_, (large_spec t), ?_⟩; rintro _ rfl; simp [go_sem, hl]; ((repeat' (first|(refine ag_x ?_;simp [go_sem, hl])|intro _|refine And.intro ?_ ?_|(apply hKK;clear hKK KK)));all_goals first|refine Hold.mk ?_|omega|with_reducible assumption|(simp only [InR] at *;omega)|skip))
    (refine agc_f (dB true) (by first | exact .inl ⟨rfl, rfl⟩ | exact .inr rfl) ?_ rfl ?_; (intro hc args ha; simp [go_sem] at ha; subst ha; exact (absurd hc (by simp [hl]))); simp [go_sem, hl]; ((repeat' (first|(refine ag_x ?_;simp [go_sem, hl])|intro _|refine And.intro ?_ ?_|(apply hKK;clear hKK KK)));all_goals first|refine Hold.mk ?_|omega|with_reducible assumption|(simp only [InR] at *;omega)|skip))
    (refine agc_f (dB true) (by first | exact .inl ⟨rfl, rfl⟩ | exact .inr rfl) ?_ rfl ?_; (intro hc args ha; simp [go_sem] at ha; subst ha; exact sane_spec); simp [go_sem, hl]; ((repeat' (first|(refine ag_x ?_;simp [go_sem, hl])|intro _|refine And.intro ?_ ?_|(apply hKK;clear hKK KK)));all_goals first|refine Hold.mk ?_|omega|with_reducible assumption|(simp only [InR] at *;omega)|skip))
    (refine awp_ret ?_; simp [go_sem, hl])
  · have hl' : largeV t = false := by simpa using hl
    obtain ⟨b1, b2, b3⟩ := large_bounds hl'
    (refine awp_sr fun KK hKK => ?_; simp [go_sem]; ((repeat' (first|(refine ag_x ?_;simp [go_sem])|intro _|refine And.intro ?_ ?_|(apply hKK;clear hKK KK)));all_goals first|refine Hold.mk ?_|omega|with_reducible assumption|(simp only [InR] at *;omega)|skip))
    ((try refine CallT.toA ?_); refine callT_m (by first | exact .inl ⟨rfl, rfl⟩ | exact .inr rfl) (by simp [go_sem]) ?_; intro args ha; simp [go_sem] at ha; subst ha; refine ⟨_, (large_spec t), ?_⟩; rintro _ rfl; simp [go_sem, hl']; ((repeat' (first|(refine ag_x ?_;simp [go_sem, hl'])|intro _|refine And.intro ?_ ?_|(apply hKK;clear hKK KK)));all_goals first|refine Hold.mk ?_|omega|with_reducible assumption|(simp only [InR] at *;omega)|skip))
    (refine agc_f (dB true) (by first | exact .inl ⟨rfl, rfl⟩ | exact .inr rfl) ?_ rfl ?_; (intro hc args ha; simp [go_sem] at ha; subst ha; exact (analysed_spec t b1 b2 b3)); simp [go_sem, hl']; ((repeat' (first|(refine ag_x ?_;simp [go_sem, hl'])|intro _|refine And.intro ?_ ?_|(apply hKK;clear hKK KK)));all_goals first|refine Hold.mk ?_|omega|with_reducible assumption|(simp only [InR] at *;omega)|skip))
    (refine agc_f (dB true) (by first | exact .inl ⟨rfl, rfl⟩ | exact .inr rfl) ?_ rfl ?_; (intro hc args ha; simp [go_sem] at ha; subst ha; exact sane_spec); simp [go_sem, hl']; ((repeat' (first|(refine ag_x ?_;simp [go_sem, hl'])|intro _|refine And.intro ?_ ?_|(apply hKK;clear hKK KK)));all_goals first|refine Hold.mk ?_|omega|with_reducible assumption|(simp only [InR] at *;omega)|skip))
    (refine awp_ret ?_; simp [go_sem, hl'])
end Go.Proofs.Ytmgbaegdkjcagaa
