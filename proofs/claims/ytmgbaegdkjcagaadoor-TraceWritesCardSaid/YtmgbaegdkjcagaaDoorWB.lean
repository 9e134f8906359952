/- Part of a proof: see the last text. -/
import Derived.Test.YtmgbaegdkjcagaaDoorWA
import Derived.Test.YtmgbaegdkjcagaaDoorED
import Derived.Test.YtmgbaegdkjcagaaDoorSA
import Derived.Lib.FrozenHead2
import Derived.Shelf.RegionOpenPlain
import Derived.Lib.ConvBytes
import Derived.Sort.Grow
set_option linter.unusedVariables false
set_option linter.unusedSimpArgs false
namespace Go.Proofs.YtmgbaegdkjcagaaDoor
open Go.Eng
set_option maxRecDepth 20000
attribute [local irreducible] AG CallA CallT AWp PCall ACall AgC

def wAt (ws : List Int) (a : Int) : Int := ws.getD a.toNat 0
/-- one instruction of the document: what it tells, whether it tells, whether it leaves, the words behind it -/
def stepV (i : Ins) (ws : List Int) : Int × Bool × Bool × List Int :=
  if i.op = 0 then (0, false, false, ws.set i.d.toNat i.n)
  else if i.op = 1 then (0, false, false, ws.set i.d.toNat (wAt ws i.a))
  else if i.op = 9 then (0, false, !decide (wAt ws i.a = i.n), ws)
  else if i.op = 10 then (wAt ws i.a, true, false, ws)
  else if (valR i.op (wAt ws i.a) (wAt ws i.b)).2 then (0, false, false, ws.set i.d.toNat (valR i.op (wAt ws i.a) (wAt ws i.b)).1) else (0, false, true, ws)

end Go.Proofs.YtmgbaegdkjcagaaDoor

namespace Go.Proofs.YtmgbaegdkjcagaaDoor
open Go.Eng
set_option maxRecDepth 20000
def insR (regs nex : Int) (i : Ins) : Bool :=
  (decide (0 ≤ i.op) && decide (i.op ≤ 10)) && (fldOk i.op 68 i.d 0 (regs - 1) && fldOk i.op 65 i.a 0 (regs - 1) && fldOk i.op 66 i.b 0 (regs - 1) && fldOk i.op 78 i.n (-1000000000000000) 1000000000000000 && fldOk i.op 88 i.x 0 (nex - 1))
theorem insR_eq (regs nex : Int) (i : Ins) : insR regs nex i = insOk regs nex i := by
  by_cases h : 0 ≤ i.op ∧ i.op ≤ 10
  · have hk : i.op = 0 ∨ i.op = 1 ∨ i.op = 2 ∨ i.op = 3 ∨ i.op = 4 ∨ i.op = 5 ∨ i.op = 6 ∨ i.op = 7 ∨ i.op = 8 ∨ i.op = 9 ∨ i.op = 10 := by omega
    rw [Bool.eq_iff_iff]
    rcases hk with h | h | h | h | h | h | h | h | h | h | h <;> simp [insR, insOk, fldOk, fOk, ltr, fVal, isB, isW, flds, h] <;> omega
  · have : flds i.op = [] := by
      unfold flds
      repeat' split
      all_goals first | rfl | omega
    simp only [insR, insOk, this]
    by_cases h1 : 0 ≤ i.op <;> by_cases h2 : i.op ≤ 10 <;> simp [h1, h2]
    exact absurd ⟨h1, h2⟩ h
end Go.Proofs.YtmgbaegdkjcagaaDoor

namespace Go.Proofs.YtmgbaegdkjcagaaDoor
open Go.Eng
set_option maxRecDepth 20000
attribute [local irreducible] AG CallA CallT AWp PCall ACall AgC

theorem rvalid_spec (t : Tr) : PCall Tryd.prog 23 [dTr t] fun r => r = dB (trOk t) := by 
  refine pcall_of Tryd.func23 rfl rfl Tryd.ntmps23 (rs := [.tmp 2]) (tys := [4]) rfl rfl (by simp) ?_
  (refine awp_sr fun KK hKK => ?_; simp [go_sem]; ((repeat' (first|(refine ag_x ?_;simp [go_sem])|intro _|refine And.intro ?_ ?_|(apply hKK;clear hKK KK)));all_goals first|refine Hold.mk ?_|omega|with_reducible assumption|(simp only [InR] at *;omega)|skip))
  refine awp_frzbox 1 rfl rfl ?_
  simp only [go_sem]
  refine awp_seq_k fun K1 hK1 => ?_
  (refine awp_sr fun KK hKK => ?_; simp [go_sem]; ((repeat' (first|(refine ag_x ?_;simp [go_sem])|intro _|refine And.intro ?_ ?_|(apply hKK;clear hKK KK)));all_goals first|refine Hold.mk ?_|omega|with_reducible assumption|(simp only [InR] at *;omega)|skip))
  ((try refine CallT.toA ?_); refine callT_m (by first | exact .inl ⟨rfl, rfl⟩ | exact .inr rfl) (by simp [go_sem]) ?_; intro args ha; simp [go_sem] at ha; subst ha; refine ⟨_, (in_spec _ _ _), ?_⟩; rintro _ rfl; simp [go_sem]; ((repeat' (first|(refine ag_x ?_;simp [go_sem])|intro _|refine And.intro ?_ ?_|(apply hKK;clear hKK KK)));all_goals first|refine Hold.mk ?_|omega|with_reducible assumption|(simp only [InR] at *;omega)|skip))
  (refine awp_if fun T F hT hF => ?_; simp [go_sem]; refine BR.intro (fun h2 => hT ?_) (fun h2 => hF ?_); all_goals clear hT hF T F; try simp at h2)
  · (refine awp_sr fun KK hKK => ?_; simp [go_sem]; ((repeat' (first|(refine ag_x ?_;simp [go_sem])|intro _|refine And.intro ?_ ?_|(apply hKK;clear hKK KK)));all_goals first|refine Hold.mk ?_|omega|with_reducible assumption|(simp only [InR] at *;omega)|skip))
    (refine awp_ret ?_; simp [go_sem])
    simp [trOk]
    omega
  · refine awp_skip ?_
    refine hK1 _ ?_; clear hK1
    refine awp_seq_k fun K3 hK3 => ?_
    (refine awp_sr fun KK hKK => ?_; simp [go_sem]; ((repeat' (first|(refine ag_x ?_;simp [go_sem])|intro _|refine And.intro ?_ ?_|(apply hKK;clear hKK KK)));all_goals first|refine Hold.mk ?_|omega|with_reducible assumption|(simp only [InR] at *;omega)|skip))
    refine awp_block ?_
    refine awp_loop (σ := Nat) (fun k => ⟨[(1, .rd [dI t.regs, .sl 6 (t.code.map cIns), .sl 2 (t.exits.map cExi)]), (3, dI k)], []⟩) (fun k => k ≤ t.code.length ∧ (t.code.take k).all (insOk t.regs t.exits.length) = true) (fun k => t.code.length - k) 0 ?_ ?_ ?_
    · (refine cov_of ?_ ?_ <;> simp [go_sem])
    · simp
    rintro k ⟨hk, hall⟩
    refine awp_seq_k fun K4 hK4 => ?_
    (refine awp_sr fun KK hKK => ?_; simp [go_sem]; ((repeat' (first|(refine ag_x ?_;simp [go_sem])|intro _|refine And.intro ?_ ?_|(apply hKK;clear hKK KK)));all_goals first|refine Hold.mk ?_|omega|with_reducible assumption|(simp only [InR] at *;omega)|skip))
    (refine awp_if fun T F hT hF => ?_; simp [go_sem]; refine BR.intro (fun h5 => hT ?_) (fun h5 => hF ?_); all_goals clear hT hF T F; try simp at h5)
    · refine awp_skip ?_
      refine hK4 _ ?_; clear hK4
      obtain ⟨x, hx⟩ : ∃ x, t.code[k]? = some x := ⟨_, List.getElem?_eq_getElem (by omega)⟩
      refine awp_seq_k fun K5 hK5 => ?_
      refine awp_block ?_
      (refine awp_sr fun KK hKK => ?_; simp [go_sem, hx]; ((repeat' (first|(refine ag_x ?_;simp [go_sem, hx])|intro _|refine And.intro ?_ ?_|(apply hKK;clear hKK KK)));all_goals first|refine Hold.mk ?_|omega|with_reducible assumption|(simp only [InR] at *;omega)|skip))
      refine awp_seq_k fun K6 hK6 => ?_
      (refine awp_sr fun KK hKK => ?_; simp [go_sem]; ((repeat' (first|(refine ag_x ?_;simp [go_sem])|intro _|refine And.intro ?_ ?_|(apply hKK;clear hKK KK)));all_goals first|refine Hold.mk ?_|omega|with_reducible assumption|(simp only [InR] at *;omega)|skip))
      ((try refine CallT.toA ?_); refine callT_m (by first | exact .inl ⟨rfl, rfl⟩ | exact .inr rfl) (by simp [go_sem]) ?_; intro args ha; simp [go_sem] at ha; subst ha; refine ⟨_, (in_spec _ _ _), ?_⟩; rintro _ rfl; simp [go_sem]; ((repeat' (first|(refine ag_x ?_;simp [go_sem])|intro _|refine And.intro ?_ ?_|(apply hKK;clear hKK KK)));all_goals first|refine Hold.mk ?_|omega|with_reducible assumption|(simp only [InR] at *;omega)|skip))
      (refine awp_if fun T F hT hF => ?_; simp [go_sem]; refine BR.intro (fun h6 => hT ?_) (fun h6 => hF ?_); all_goals clear hT hF T F; try simp at h6)
      · (refine awp_sr fun KK hKK => ?_; simp [go_sem]; ((repeat' (first|(refine ag_x ?_;simp [go_sem])|intro _|refine And.intro ?_ ?_|(apply hKK;clear hKK KK)));all_goals first|refine Hold.mk ?_|omega|with_reducible assumption|(simp only [InR] at *;omega)|skip))
        (refine awp_ret ?_; simp [go_sem])
        have := all_at hx (p := insOk t.regs t.exits.length) (by rw [← insR_eq]; simp [insR]; omega)
        simp [trOk, this]
      · refine awp_skip ?_
        refine hK6 _ ?_; clear hK6
        have h1 : 0 ≤ x.op := h6.1
        have h2' : x.op ≤ 10 := h6.2
        (refine awp_sr fun KK hKK => ?_; simp [go_sem]; ((repeat' (first|(refine ag_x ?_;simp [go_sem])|intro _|refine And.intro ?_ ?_|(apply hKK;clear hKK KK)));all_goals first|refine Hold.mk ?_|omega|with_reducible assumption|(simp only [InR] at *;omega)|skip))
        (refine awp_sr fun KK hKK => ?_; simp [go_sem]; ((repeat' (first|(refine ag_x ?_;simp [go_sem])|intro _|refine And.intro ?_ ?_|(apply hKK;clear hKK KK)));all_goals first|refine Hold.mk ?_|omega|with_reducible assumption|(simp only [InR] at *;omega)|skip))
        ((try refine CallT.toA ?_); refine callT_m (by first | exact .inl ⟨rfl, rfl⟩ | exact .inr rfl) (by simp [go_sem]) ?_; intro args ha; simp [go_sem] at ha; subst ha; refine ⟨_, (rfield_spec _ _ _ _ _ h1 h2'), ?_⟩; rintro _ rfl; simp [go_sem]; ((repeat' (first|(refine ag_x ?_;simp [go_sem])|intro _|refine And.intro ?_ ?_|(apply hKK;clear hKK KK)));all_goals first|refine Hold.mk ?_|omega|with_reducible assumption|(simp only [InR] at *;omega)|skip))
        (refine agc_f (dB (fldOk x.op 65 x.a 0 (t.regs - 1))) (by first | exact .inl ⟨rfl, rfl⟩ | exact .inr rfl) ?_ rfl ?_; (intro hc args ha; simp [go_sem] at ha; subst ha; exact (rfield_spec _ _ _ _ _ h1 h2')); simp [go_sem]; ((repeat' (first|(refine ag_x ?_;simp [go_sem])|intro _|refine And.intro ?_ ?_|(apply hKK;clear hKK KK)));all_goals first|refine Hold.mk ?_|omega|with_reducible assumption|(simp only [InR] at *;omega)|skip))
        (refine agc_f (dB (fldOk x.op 66 x.b 0 (t.regs - 1))) (by first | exact .inl ⟨rfl, rfl⟩ | exact .inr rfl) ?_ rfl ?_; (intro hc args ha; simp [go_sem] at ha; subst ha; exact (rfield_spec _ _ _ _ _ h1 h2')); simp [go_sem]; ((repeat' (first|(refine ag_x ?_;simp [go_sem])|intro _|refine And.intro ?_ ?_|(apply hKK;clear hKK KK)));all_goals first|refine Hold.mk ?_|omega|with_reducible assumption|(simp only [InR] at *;omega)|skip))
        (refine agc_f (dB (fldOk x.op 78 x.n (-1000000000000000) 1000000000000000)) (by first | exact .inl ⟨rfl, rfl⟩ | exact .inr rfl) ?_ rfl ?_; (intro hc args ha; simp [go_sem] at ha; subst ha; exact (rfield_spec _ _ _ _ _ h1 h2')); simp [go_sem]; ((repeat' (first|(refine ag_x ?_;simp [go_sem])|intro _|refine And.intro ?_ ?_|(apply hKK;clear hKK KK)));all_goals first|refine Hold.mk ?_|omega|with_reducible assumption|(simp only [InR] at *;omega)|skip))
        (refine agc_f (dB (fldOk x.op 88 x.x 0 (t.exits.length - 1))) (by first | exact .inl ⟨rfl, rfl⟩ | exact .inr rfl) ?_ rfl ?_; (intro hc args ha; simp [go_sem] at ha; subst ha; exact (rfield_spec _ _ _ _ _ h1 h2')); simp [go_sem]; ((repeat' (first|(refine ag_x ?_;simp [go_sem])|intro _|refine And.intro ?_ ?_|(apply hKK;clear hKK KK)));all_goals first|refine Hold.mk ?_|omega|with_reducible assumption|(simp only [InR] at *;omega)|skip))
        (refine awp_if fun T F hT hF => ?_; simp [go_sem]; refine BR.intro (fun h7 => hT ?_) (fun h7 => hF ?_); all_goals clear hT hF T F; try simp at h7)
        · (refine awp_sr fun KK hKK => ?_; simp [go_sem]; ((repeat' (first|(refine ag_x ?_;simp [go_sem])|intro _|refine And.intro ?_ ?_|(apply hKK;clear hKK KK)));all_goals first|refine Hold.mk ?_|omega|with_reducible assumption|(simp only [InR] at *;omega)|skip))
          (refine awp_ret ?_; simp [go_sem])
          have := all_at hx (p := insOk t.regs t.exits.length) (by rw [← insR_eq]; rcases h7 with (((h | h) | h) | h) | h <;> simp [insR, h])
          simp [trOk, this]
        · refine awp_skip ?_
          refine hK5 _ ?_; clear hK5
          (refine awp_r fun KK hKK => ?_; simp [go_sem]; ((repeat' (first|(refine ag_x ?_;simp [go_sem])|intro _|refine And.intro ?_ ?_|(apply hKK;clear hKK KK)));all_goals first|refine Hold.mk ?_|omega|with_reducible assumption|(simp only [InR] at *;omega)|skip))
          refine ⟨k + 1, ?_, ⟨by omega, take_all hall hx ?_⟩, by omega⟩
          · (refine cov_of ?_ ?_ <;> simp [go_sem])
          · rw [← insR_eq]; simp [insR, h1, h2', h7]
    · refine awp_exit ?_
      simp only [go_sem]
      refine hK3 _ ?_; clear hK3
      have : k = t.code.length := by omega
      subst this
      rw [List.take_length] at hall
      refine awp_seq_k fun K7 hK7 => ?_
      (refine awp_sr fun KK hKK => ?_; simp [go_sem]; ((repeat' (first|(refine ag_x ?_;simp [go_sem])|intro _|refine And.intro ?_ ?_|(apply hKK;clear hKK KK)));all_goals first|refine Hold.mk ?_|omega|with_reducible assumption|(simp only [InR] at *;omega)|skip))
      refine awp_block ?_
      refine awp_loop (σ := Nat) (fun k => ⟨[(1, .rd [dI t.regs, .sl 6 (t.code.map cIns), .sl 2 (t.exits.map cExi)]), (6, dI k)], []⟩) (fun k => k ≤ t.exits.length ∧ (t.exits.take k).all (exOk t.regs) = true) (fun k => t.exits.length - k) 0 ?_ ?_ ?_
      · (refine cov_of ?_ ?_ <;> simp [go_sem])
      · simp
      rintro k ⟨hk', hall'⟩
      refine awp_seq_k fun K8 hK8 => ?_
      (refine awp_sr fun KK hKK => ?_; simp [go_sem]; ((repeat' (first|(refine ag_x ?_;simp [go_sem])|intro _|refine And.intro ?_ ?_|(apply hKK;clear hKK KK)));all_goals first|refine Hold.mk ?_|omega|with_reducible assumption|(simp only [InR] at *;omega)|skip))
      (refine awp_if fun T F hT hF => ?_; simp [go_sem]; refine BR.intro (fun h8 => hT ?_) (fun h8 => hF ?_); all_goals clear hT hF T F; try simp at h8)
      · refine awp_skip ?_
        refine hK8 _ ?_; clear hK8
        obtain ⟨x, hx⟩ : ∃ x, t.exits[k]? = some x := ⟨_, List.getElem?_eq_getElem (by omega)⟩
        refine awp_seq_k fun K9 hK9 => ?_
        refine awp_block ?_
        (refine awp_sr fun KK hKK => ?_; simp [go_sem, hx]; ((repeat' (first|(refine ag_x ?_;simp [go_sem, hx])|intro _|refine And.intro ?_ ?_|(apply hKK;clear hKK KK)));all_goals first|refine Hold.mk ?_|omega|with_reducible assumption|(simp only [InR] at *;omega)|skip))
        refine awp_seq_k fun K10 hK10 => ?_
        (refine awp_sr fun KK hKK => ?_; simp [go_sem]; ((repeat' (first|(refine ag_x ?_;simp [go_sem])|intro _|refine And.intro ?_ ?_|(apply hKK;clear hKK KK)));all_goals first|refine Hold.mk ?_|omega|with_reducible assumption|(simp only [InR] at *;omega)|skip))
        (refine awp_if fun T F hT hF => ?_; simp [go_sem]; refine BR.intro (fun h9 => hT ?_) (fun h9 => hF ?_); all_goals clear hT hF T F; try simp at h9)
        · (refine awp_sr fun KK hKK => ?_; simp [go_sem]; ((repeat' (first|(refine ag_x ?_;simp [go_sem])|intro _|refine And.intro ?_ ?_|(apply hKK;clear hKK KK)));all_goals first|refine Hold.mk ?_|omega|with_reducible assumption|(simp only [InR] at *;omega)|skip))
          (refine awp_ret ?_; simp [go_sem])
          have := all_at hx (p := exOk t.regs) (by simp [exOk]; omega)
          simp [trOk, this]
        · refine awp_skip ?_
          refine hK10 _ ?_; clear hK10
          (refine awp_sr fun KK hKK => ?_; simp [go_sem]; ((repeat' (first|(refine ag_x ?_;simp [go_sem])|intro _|refine And.intro ?_ ?_|(apply hKK;clear hKK KK)));all_goals first|refine Hold.mk ?_|omega|with_reducible assumption|(simp only [InR] at *;omega)|skip))
          refine awp_block ?_
          refine awp_loop (σ := Nat) (fun j => ⟨[(1, .rd [dI t.regs, .sl 6 (t.code.map cIns), .sl 2 (t.exits.map cExi)]), (6, dI k), (7, dIs x.slots), (8, dI j)], []⟩) (fun j => j ≤ x.slots.length ∧ (x.slots.take j).any (slotBad t.regs) = false) (fun j => x.slots.length - j) 0 ?_ ?_ ?_
          · (refine cov_of ?_ ?_ <;> simp [go_sem])
          · simp
          rintro j ⟨hj, hany⟩
          refine awp_seq_k fun K11 hK11 => ?_
          (refine awp_sr fun KK hKK => ?_; simp [go_sem]; ((repeat' (first|(refine ag_x ?_;simp [go_sem])|intro _|refine And.intro ?_ ?_|(apply hKK;clear hKK KK)));all_goals first|refine Hold.mk ?_|omega|with_reducible assumption|(simp only [InR] at *;omega)|skip))
          (refine awp_if fun T F hT hF => ?_; simp [go_sem]; refine BR.intro (fun h10 => hT ?_) (fun h10 => hF ?_); all_goals clear hT hF T F; try simp at h10)
          · refine awp_skip ?_
            refine hK11 _ ?_; clear hK11
            obtain ⟨y, hy⟩ : ∃ y, x.slots[j]? = some y := ⟨_, List.getElem?_eq_getElem (by omega)⟩
            refine awp_seq_k fun K12 hK12 => ?_
            refine awp_block ?_
            ((refine awp_dr (.qs [0, 1, 2, 4, 3, 5, 6] (.one 7 (.qs [8] (.nil)))) (by kernel_rfl) ?_ ?_ ?_ ?_); (kernel_rfl); (exact (by decide +kernel)); (kernel_rfl); intro KK hKK; ((repeat' (first|(refine ag_x ?_;simp [go_sem, hy])|refine adr_nil ?_|refine adr_two ?_ ?_|refine adr_kp2 ?_ ?_|((first|refine adr_qs fun KK hKK=>?_|refine adr_y fun KK hKK=>?_);simp [go_sem, hy])|intro _|refine And.intro ?_ ?_|(apply hKK;clear hKK KK)));all_goals first|refine Hold.mk ?_|omega|with_reducible assumption|(simp only [InR] at *;omega)|skip))
            ((try refine CallT.toA ?_); refine callT_m (by first | exact .inl ⟨rfl, rfl⟩ | exact .inr rfl) (by simp [go_sem]) ?_; intro args ha; simp [go_sem] at ha; subst ha; refine ⟨_, (in_spec _ _ _), ?_⟩; rintro _ rfl; simp [go_sem]; ((repeat' (first|(refine ag_x ?_;simp [go_sem])|refine adr_nil ?_|refine adr_two ?_ ?_|refine adr_kp2 ?_ ?_|((first|refine adr_qs fun KK hKK=>?_|refine adr_y fun KK hKK=>?_);simp [go_sem])|intro _|refine And.intro ?_ ?_|(apply hKK;clear hKK KK)));all_goals first|refine Hold.mk ?_|omega|with_reducible assumption|(simp only [InR] at *;omega)|skip))
            have hyb : slotBad t.regs y = !(decide (0 ≤ y) && decide (y ≤ t.regs - 1)) := by
              rw [Bool.eq_iff_iff]; simp [slotBad]; omega
            (refine awp_if fun T F hT hF => ?_; simp [go_sem]; refine BR.intro (fun h11 => hT ?_) (fun h11 => hF ?_); all_goals clear hT hF T F; try simp at h11)
            · (refine awp_sr fun KK hKK => ?_; simp [go_sem]; ((repeat' (first|(refine ag_x ?_;simp [go_sem])|intro _|refine And.intro ?_ ?_|(apply hKK;clear hKK KK)));all_goals first|refine Hold.mk ?_|omega|with_reducible assumption|(simp only [InR] at *;omega)|skip))
              (refine awp_ret ?_; simp [go_sem])
              have := all_at hx (p := exOk t.regs) (by
                have : x.slots.any (slotBad t.regs) = true := List.any_eq_true.2 ⟨y, List.mem_of_getElem? hy, by rw [hyb]; simp; omega⟩
                simp [exOk, this])
              simp [trOk, this]
            · refine awp_skip ?_
              simp only [go_sem]
              refine hK12 _ ?_; clear hK12
              (refine awp_r fun KK hKK => ?_; simp [go_sem]; ((repeat' (first|(refine ag_x ?_;simp [go_sem])|intro _|refine And.intro ?_ ?_|(apply hKK;clear hKK KK)));all_goals first|refine Hold.mk ?_|omega|with_reducible assumption|(simp only [InR] at *;omega)|skip))
              refine ⟨j + 1, ?_, ⟨by omega, take_any hany hy (by rw [hyb]; simp; omega)⟩, by omega⟩
              (refine cov_of ?_ ?_ <;> simp [go_sem])
          · refine awp_exit ?_
            simp only [go_sem]
            refine hK9 _ ?_; clear hK9
            have : j = x.slots.length := by omega
            subst this
            rw [List.take_length] at hany
            (refine awp_r fun KK hKK => ?_; simp [go_sem]; ((repeat' (first|(refine ag_x ?_;simp [go_sem])|intro _|refine And.intro ?_ ?_|(apply hKK;clear hKK KK)));all_goals first|refine Hold.mk ?_|omega|with_reducible assumption|(simp only [InR] at *;omega)|skip))
            refine ⟨k + 1, ?_, ⟨by omega, take_all hall' hx (by simp only [exOk, hany]; simp; omega)⟩, by omega⟩
            (refine cov_of ?_ ?_ <;> simp [go_sem])
      · refine awp_exit ?_
        simp only [go_sem]
        refine hK7 _ ?_; clear hK7
        have : k = t.exits.length := by omega
        subst this
        rw [List.take_length] at hall'
        (refine awp_sr fun KK hKK => ?_; simp [go_sem]; ((repeat' (first|(refine ag_x ?_;simp [go_sem])|intro _|refine And.intro ?_ ?_|(apply hKK;clear hKK KK)));all_goals first|refine Hold.mk ?_|omega|with_reducible assumption|(simp only [InR] at *;omega)|skip))
        (refine awp_ret ?_; simp [go_sem])
        have : trOk t = true := by simp only [trOk, hall, hall', Bool.and_true, Bool.and_eq_true, decide_eq_true_eq]; omega
        simp [this]
end Go.Proofs.YtmgbaegdkjcagaaDoor

namespace Go.Proofs.YtmgbaegdkjcagaaDoor
open Go.Eng
set_option maxRecDepth 20000
attribute [local irreducible] AG CallA CallT AWp PCall ACall AgC

/-- words and fuel that fit -/
def fitOk (t : Tr) (ws : List Int) (fuel : Int) : Bool := trOk t && decide ((ws.length : Int) = t.regs) && (decide (0 ≤ fuel) && decide (fuel ≤ 10000)) && ws.all isW
theorem trOk_regs {t : Tr} (h : trOk t = true) : 1 ≤ t.regs ∧ t.regs ≤ 20 ∧ t.code.length ≤ 60 ∧ t.exits.length ≤ 10 := by
  simp only [trOk, Bool.and_eq_true, decide_eq_true_eq] at h
  omega
end Go.Proofs.YtmgbaegdkjcagaaDoor

namespace Go.Proofs.YtmgbaegdkjcagaaDoor
open Go.Eng

/-- the code once: words, told, and by which exit it is left -/
def goCode : List Ins → List Int → List Int → List Int × List Int × Option Int
  | [], ws, told => (ws, told, none)
  | i :: is, ws, told =>
    let s := stepV i ws
    let told' := if s.2.1 && decide (told.length < 2000) then told ++ [s.1] else told
    if s.2.2.1 then (s.2.2.2, told', some i.x) else goCode is s.2.2.2 told'
def leave (t : Tr) (x : Int) (rounds : Int) (ws told : List Int) : Res :=
  match t.exits[x.toNat]? with
  | some e => ⟨x, e.back, rounds, pickW ws e.slots, told⟩
  | none => ⟨x, 0, rounds, [], told⟩
def goRounds (t : Tr) : Nat → Nat → List Int → List Int → Res
  | 0, r, ws, told => ⟨-1, -1, r, ws, told⟩
  | n + 1, r, ws, told =>
    match goCode t.code ws told with
    | (ws', told', some x) => leave t x (r + 1) ws' told'
    | (ws', told', none) => goRounds t n (r + 1) ws' told'
def runV (t : Tr) (ws : List Int) (fuel : Int) : Res := if fitOk t ws fuel then goRounds t fuel.toNat 0 ws [] else ⟨0, 0, 0, [], []⟩

/-- an instruction of a valid trace reads and writes registers that are there -/
theorem insOk_regs {regs nex : Int} {i : Ins} (h : insOk regs nex i = true) (hr : 1 ≤ regs) : 0 ≤ i.op ∧ i.op ≤ 10 ∧ (0 ≤ i.a ∧ i.a < regs) ∧ (0 ≤ i.b ∧ i.b < regs) ∧ (0 ≤ i.d ∧ i.d < regs) ∧ isW i.n = true := by
  rw [← insR_eq] at h
  simp only [insR, fldOk, Bool.and_eq_true, decide_eq_true_eq] at h
  obtain ⟨⟨h1, h2⟩, ⟨⟨⟨hd, ha⟩, hb⟩, hn⟩, hx⟩ := h
  refine ⟨h1, h2, ?_, ?_, ?_, ?_⟩
  · split at ha <;> simp at ha <;> omega
  · split at hb <;> simp at hb <;> omega
  · split at hd <;> simp at hd <;> omega
  · rw [isW_iff]
    split at hn
    · simp at hn; omega
    · simp at hn; omega
theorem insOk_exit {regs nex : Int} {i : Ins} (h : insOk regs nex i = true) (hx : (2 ≤ i.op ∧ i.op ≤ 6) ∨ i.op = 9) : 0 ≤ i.x ∧ i.x < nex := by
  rw [← insR_eq] at h
  simp only [insR, fldOk, Bool.and_eq_true, decide_eq_true_eq] at h
  obtain ⟨⟨h1, h2⟩, ⟨⟨⟨hd, ha⟩, hb⟩, hn⟩, hx'⟩ := h
  have : (flds i.op).contains 88 = true := by
    have hk : i.op = 2 ∨ i.op = 3 ∨ i.op = 4 ∨ i.op = 5 ∨ i.op = 6 ∨ i.op = 9 := by omega
    rcases hk with h | h | h | h | h | h <;> simp [flds, h]
  rw [if_pos this] at hx'
  simp at hx'
  omega
theorem val_word {op a b : Int} (ha : isW a = true) (hb : isW b = true) (h : (valR op a b).2 = true) : isW (valR op a b).1 = true := by
  unfold valR at h ⊢
  by_cases h2 : op = 2
  · simp [h2] at h ⊢; exact h
  by_cases h3 : op = 3
  · simp [h3] at h ⊢; exact h
  by_cases h4 : op = 4
  · simp [h4] at h ⊢; simp [prodV, h, mulOk_word h]
  by_cases h5 : op = 5 ∨ op = 6
  · simp only [h2, h3, h4, h5, if_true, if_false] at h ⊢
    by_cases hb0 : b = 0
    · simp [hb0] at h
    · have := floor_bounds hb0 ha hb
      by_cases h6 : op = 6
      · simp [hb0, h6, isW_iff]; omega
      · simp [hb0, h6] at h ⊢; exact h
  have w01 : ∀ c : Prop, ∀ _ : Decidable c, isW (if c then 1 else 0) = true := fun c _ => by split <;> decide
  by_cases h7 : op = 7
  · simp [h7, w01]
  by_cases h8 : op = 8
  · simp [h8, w01]
  · simp [h2, h3, h4, h5, h7, h8]; decide
theorem step_words {i : Ins} {ws : List Int} {regs nex : Int} (h : insOk regs nex i = true) (hr : 1 ≤ regs) (hl : (ws.length : Int) = regs) (hw : ∀ x ∈ ws, isW x = true) :
    (stepV i ws).2.2.2.length = ws.length ∧ ∀ x ∈ (stepV i ws).2.2.2, isW x = true := by
  obtain ⟨_, _, ha, hb, hd, hn⟩ := insOk_regs h hr
  have get : ∀ a : Int, 0 ≤ a → a < regs → isW (wAt ws a) = true := fun a h1 h2 => by
    have hlt : a.toNat < ws.length := by omega
    have : wAt ws a = ws[a.toNat] := by simp [wAt, List.getD, List.getElem?_eq_getElem hlt]
    rw [this]
    exact hw _ (List.getElem_mem hlt)
  have setW : ∀ v, isW v = true → ∀ x ∈ ws.set i.d.toNat v, isW x = true := fun v hv x hx => by
    rcases List.mem_or_eq_of_mem_set hx with h | h
    · exact hw x h
    · rw [h]; exact hv
  unfold stepV
  repeat' split
  · exact ⟨by simp, setW _ hn⟩
  · exact ⟨by simp, setW _ (get _ ha.1 ha.2)⟩
  · exact ⟨rfl, hw⟩
  · exact ⟨rfl, hw⟩
  · rename_i hv
    exact ⟨by simp, setW _ (val_word (get _ ha.1 ha.2) (get _ hb.1 hb.2) hv)⟩
  · exact ⟨rfl, hw⟩
end Go.Proofs.YtmgbaegdkjcagaaDoor

namespace Go.Proofs.YtmgbaegdkjcagaaDoor
open Go.Eng
set_option maxRecDepth 20000
attribute [local irreducible] AG CallA CallT AWp PCall ACall AgC

theorem insOk_at {t : Tr} {k : Nat} {x : Ins} (h : trOk t = true) (hx : t.code[k]? = some x) : insOk t.regs t.exits.length x = true := by
  simp only [trOk, Bool.and_eq_true, List.all_eq_true] at h
  exact h.1.2 x (List.mem_of_getElem? hx)
theorem exOk_at {t : Tr} {k : Nat} {e : Exi} (h : trOk t = true) (hx : t.exits[k]? = some e) : (∀ s ∈ e.slots, 0 ≤ s ∧ s < t.regs) ∧ e.slots.length ≤ 20 := by
  simp only [trOk, Bool.and_eq_true, List.all_eq_true] at h
  have := h.2 e (List.mem_of_getElem? hx)
  simp [exOk, slotBad] at this
  exact ⟨fun s hs => by have := this.2 s hs; omega, by omega⟩
theorem drop_at {α : Type} {l : List α} {k : Nat} {x : α} (h : l[k]? = some x) : l.drop k = x :: l.drop (k + 1) := by
  obtain ⟨hk, rfl⟩ := List.getElem?_eq_some_iff.1 h
  exact List.drop_eq_getElem_cons hk
theorem goCode_at {l : List Ins} {k : Nat} {x : Ins} {ws told : List Int} (h : l[k]? = some x) :
    goCode (l.drop k) ws told = if (stepV x ws).2.2.1 then ((stepV x ws).2.2.2, if (stepV x ws).2.1 && decide (told.length < 2000) then told ++ [(stepV x ws).1] else told, some x.x)
      else goCode (l.drop (k + 1)) (stepV x ws).2.2.2 (if (stepV x ws).2.1 && decide (told.length < 2000) then told ++ [(stepV x ws).1] else told) := by
  rw [drop_at h]; rfl
theorem stepV_val {i : Ins} {ws : List Int} (h1 : 0 ≤ i.op) (h2 : i.op ≤ 10) (h : ¬ i.op = 0) (h9 : ¬ i.op = 9) (h10 : ¬ i.op = 10) :
    stepV i ws = if (valP i.op (wAt ws i.a) (wAt ws i.b)).2 then (0, false, false, ws.set i.d.toNat (valP i.op (wAt ws i.a) (wAt ws i.b)).1) else (0, false, true, ws) := by
  by_cases hm : i.op = 1
  · simp [stepV, hm, valP]
  · rw [val_eq (by omega) (by omega)]
    simp [stepV, h, h9, h10, hm]
theorem valP_exit {op a b : Int} (h1 : 0 ≤ op) (h2 : op ≤ 10) (h : ¬ op = 0) (h9 : ¬ op = 9) (h10 : ¬ op = 10) (hv : (valP op a b).2 = false) : 2 ≤ op ∧ op ≤ 6 := by
  refine Decidable.byContradiction fun hc => ?_
  have : op = 1 ∨ op = 7 ∨ op = 8 := by omega
  rcases this with e | e | e <;> subst e <;> simp [valP] at hv
def after (t : Tr) (N r : Nat) (x : List Int × List Int × Option Int) : Res :=
  match x with
  | (ws', told', some x) => leave t x r ws' told'
  | (ws', told', none) => goRounds t N r ws' told'
theorem rounds_succ (t : Tr) (n r : Nat) (ws told : List Int) : goRounds t (n + 1) r ws told = after t n (r + 1) (goCode t.code ws told) := rfl

theorem run_spec (t : Tr) (ws : List Int) (fuel : Int) : PCall Tryd.prog 13 [dTr t, dIs ws, dI fuel] fun r => r = .tup [dRes (runV t ws fuel), dI (if fitOk t ws fuel then 0 else 1)] := by 
  refine pcall_of Tryd.func13 rfl rfl Tryd.ntmps13 (rs := [.cell 6 47, .tmp 7]) (tys := [47, 28]) rfl rfl (by simp) ?_
  (refine awp_sr fun KK hKK => ?_; simp [go_sem]; ((repeat' (first|(refine ag_x ?_;simp [go_sem])|intro _|refine And.intro ?_ ?_|(apply hKK;clear hKK KK)));all_goals first|refine Hold.mk ?_|omega|with_reducible assumption|(simp only [InR] at *;omega)|skip))
  rename_i g1 g2
  refine awp_frzbox 3 rfl rfl ?_
  simp only [go_sem]
  refine awp_seq_k fun K1 hK1 => ?_
  (refine awp_sr fun KK hKK => ?_; simp [go_sem]; ((repeat' (first|(refine ag_x ?_;simp [go_sem])|intro _|refine And.intro ?_ ?_|(apply hKK;clear hKK KK)));all_goals first|refine Hold.mk ?_|omega|with_reducible assumption|(simp only [InR] at *;omega)|skip))
  ((try refine CallT.toA ?_); refine callT_m (by first | exact .inl ⟨rfl, rfl⟩ | exact .inr rfl) (by simp [go_sem]) ?_; intro args ha; simp [go_sem] at ha; subst ha; refine ⟨_, (check_spec _), ?_⟩; rintro _ rfl; simp [go_sem]; ((repeat' (first|(refine ag_x ?_;simp [go_sem])|intro _|refine And.intro ?_ ?_|(apply hKK;clear hKK KK)));all_goals first|refine Hold.mk ?_|omega|with_reducible assumption|(simp only [InR] at *;omega)|skip))
  (refine agc_f (dB (ws.any fun n => !isW n)) (by first | exact .inl ⟨rfl, rfl⟩ | exact .inr rfl) ?_ rfl ?_; (intro hc args ha; simp [go_sem] at ha; subst ha; exact (containsF_spec _ _ 33 [] (fun n => !isW n) (.inl ⟨rfl, rfl⟩) (fun n _ => run1_spec n) (by simp at hc; have := trOk_regs hc.1.1.1; omega))); simp [go_sem]; ((repeat' (first|(refine ag_x ?_;simp [go_sem])|intro _|refine And.intro ?_ ?_|(apply hKK;clear hKK KK)));all_goals first|refine Hold.mk ?_|omega|with_reducible assumption|(simp only [InR] at *;omega)|skip))
  (refine awp_if fun T F hT hF => ?_; simp [go_sem]; refine BR.intro (fun h2 => hT ?_) (fun h2 => hF ?_); all_goals clear hT hF T F; try simp at h2) 
  · (refine awp_sr fun KK hKK => ?_; simp [go_sem]; ((repeat' (first|(refine ag_x ?_;simp [go_sem])|intro _|refine And.intro ?_ ?_|(apply hKK;clear hKK KK)));all_goals first|refine Hold.mk ?_|omega|with_reducible assumption|(simp only [InR] at *;omega)|skip))
    (refine awp_ret ?_; simp [go_sem, h2])
    have : fitOk t ws fuel = false := by
      rcases h2 with (((h | h) | h) | h) | h <;> simp [fitOk, h] <;> intros <;> first | omega | simp_all
    simp [this, runV]
  · have hf : fitOk t ws fuel = true := by
      simp [fitOk]; refine ⟨⟨h2.1.1.1, ?_⟩, h2.2⟩; omega
    refine awp_skip ?_
    refine hK1 _ ?_; clear hK1
    have hreg := trOk_regs h2.1.1.1.1
    have hwl : (ws.length : Int) = t.regs := h2.1.1.1.2
    (refine awp_sr fun KK hKK => ?_; simp [go_sem]; ((repeat' (first|(refine ag_x ?_;simp [go_sem])|intro _|refine And.intro ?_ ?_|(apply hKK;clear hKK KK)));all_goals first|refine Hold.mk ?_|omega|with_reducible assumption|(simp only [InR] at *;omega)|skip))
    (refine callA_l [800000] (by first | exact .inl ⟨rfl, rfl⟩ | exact .inr rfl) (by simp [go_sem]) ?_; intro args ha; simp [go_sem] at ha; subst ha; refine ⟨_, _, (clone_spec ws (by omega) (by intro h; subst h; simp at hwl; omega)), (by simp [go_sem]), ?_⟩; rintro ps r hps ⟨gw, rfl, rfl⟩; simp [go_sem]; ((repeat' (first|(refine ag_x ?_;simp [go_sem])|intro _|refine And.intro ?_ ?_|(apply hKK;clear hKK KK)));all_goals first|refine Hold.mk ?_|omega|with_reducible assumption|(simp only [InR] at *;omega)|skip))
    (refine awp_sr fun KK hKK => ?_; simp [go_sem]; ((repeat' (first|(refine ag_x ?_;simp [go_sem])|intro _|refine And.intro ?_ ?_|(apply hKK;clear hKK KK)));all_goals first|refine Hold.mk ?_|omega|with_reducible assumption|(simp only [InR] at *;omega)|skip))
    rename_i gr
    refine awp_nilbox 123 3 1 4 (sb := 9) rfl rfl (by decide) fun gt => ?_
    simp only [go_sem, List.set]
    refine awp_seq_k fun K3 hK3 => ?_
    refine awp_block ?_
    refine awp_loop (σ := Nat × List Int × List Int × Nat × Nat) (fun x => ⟨[(2, dI fuel), (3, .rd [dI t.regs, .sl 6 (t.code.map cIns), .sl 2 (t.exits.map cExi)]), (6, .ptr 6 g2 0), (8, .own 800000 x.2.2.2.1), (9, .ptr 9 gr 0)],
      [(6, g2, .box [dI 0, dI 0, dI 0, .v (.slice none 0 0), .v (.slice none 0 0)]), (800000, x.2.2.2.1, .row 3 1 (x.2.1.map cI)), (9, gr, .box [dI 0, dI 0, dI x.1, .v (.slice none 0 0), .own 123 x.2.2.2.2]), (123, x.2.2.2.2, .row 3 1 (x.2.2.1.map cI))]⟩)
      (fun x => (x.1 : Int) ≤ fuel ∧ x.2.1.length = ws.length ∧ (∀ y ∈ x.2.1, isW y = true) ∧ x.2.2.1.length ≤ 2000 ∧ goRounds t (fuel.toNat - x.1) x.1 x.2.1 x.2.2.1 = runV t ws fuel) (fun x => fuel.toNat - x.1) (0, ws, [], gw, gt) ?_ ?_ ?_
    · (refine cov_of ?_ ?_ <;> simp [go_sem])
    · simp [runV, hf]; exact ⟨h2.1.1.2, h2.2⟩
    rintro ⟨r, w, told, gw, gt⟩ ⟨hr, hwl', hww, htl, hA⟩
    simp only at hr hwl' hww htl hA
    refine awp_seq_k fun K4 hK4 => ?_
    (refine awp_sr fun KK hKK => ?_; simp [go_sem]; ((repeat' (first|(refine ag_x ?_;simp [go_sem])|intro _|refine And.intro ?_ ?_|(apply hKK;clear hKK KK)));all_goals first|refine Hold.mk ?_|omega|with_reducible assumption|(simp only [InR] at *;omega)|skip))
    (refine awp_if fun T F hT hF => ?_; simp [go_sem]; refine BR.intro (fun h5 => hT ?_) (fun h5 => hF ?_); all_goals clear hT hF T F; try simp at h5) 
    · refine awp_skip ?_
      refine hK4 _ ?_; clear hK4
      refine awp_block ?_
      (refine awp_sr fun KK hKK => ?_; simp [go_sem]; ((repeat' (first|(refine ag_x ?_;simp [go_sem])|intro _|refine And.intro ?_ ?_|(apply hKK;clear hKK KK)));all_goals first|refine Hold.mk ?_|omega|with_reducible assumption|(simp only [InR] at *;omega)|skip))
      (refine awp_sr fun KK hKK => ?_; simp [go_sem]; ((repeat' (first|(refine ag_x ?_;simp [go_sem])|intro _|refine And.intro ?_ ?_|(apply hKK;clear hKK KK)));all_goals first|refine Hold.mk ?_|omega|with_reducible assumption|(simp only [InR] at *;omega)|skip))
      refine awp_block ?_
      obtain ⟨m, hm⟩ : ∃ m, fuel.toNat - r = m + 1 := ⟨fuel.toNat - r - 1, by omega⟩
      rw [hm, rounds_succ] at hA
      refine awp_loop (σ := Nat × List Int × List Int × Nat × Nat) (fun x => ⟨[(2, dI fuel), (3, .rd [dI t.regs, .sl 6 (t.code.map cIns), .sl 2 (t.exits.map cExi)]), (6, .ptr 6 g2 0), (8, .own 800000 x.2.2.2.1), (9, .ptr 9 gr 0), (48, .sl 6 (t.code.map cIns)), (49, dI t.code.length), (50, dI x.1)],
        [(6, g2, .box [dI 0, dI 0, dI 0, .v (.slice none 0 0), .v (.slice none 0 0)]), (800000, x.2.2.2.1, .row 3 1 (x.2.1.map cI)), (9, gr, .box [dI 0, dI 0, dI (r + 1 : Int), .v (.slice none 0 0), .own 123 x.2.2.2.2]), (123, x.2.2.2.2, .row 3 1 (x.2.2.1.map cI))]⟩)
        (fun x => x.1 ≤ t.code.length ∧ x.2.1.length = ws.length ∧ (∀ y ∈ x.2.1, isW y = true) ∧ x.2.2.1.length ≤ 2000 ∧ after t m (r + 1) (goCode (t.code.drop x.1) x.2.1 x.2.2.1) = runV t ws fuel) (fun x => t.code.length - x.1) (0, w, told, gw, gt) ?_ ?_ ?_
      · (refine cov_of ?_ ?_ <;> simp [go_sem])
      · simp; exact ⟨hwl', hww, htl, hA⟩
      clear hA hww htl hwl'
      rintro ⟨k, w, told, gw, gt⟩ ⟨hk, hwl', hww, htl, hA⟩
      simp only at hk hwl' hww htl hA
      (refine awp_sr fun KK hKK => ?_; simp [go_sem]; ((repeat' (first|(refine ag_x ?_;simp [go_sem])|intro _|refine And.intro ?_ ?_|(apply hKK;clear hKK KK)));all_goals first|refine Hold.mk ?_|omega|with_reducible assumption|(simp only [InR] at *;omega)|skip))
      refine awp_seq_k fun K6 hK6 => ?_
      (refine awp_if fun T F hT hF => ?_; simp [go_sem]; refine BR.intro (fun h7 => hT ?_) (fun h7 => hF ?_); all_goals clear hT hF T F; try simp at h7) 
      · refine awp_skip ?_
        refine hK6 _ ?_; clear hK6
        obtain ⟨x, hx⟩ : ∃ x, t.code[k]? = some x := ⟨_, List.getElem?_eq_getElem h7⟩
        have hins := insOk_at h2.1.1.1.1 hx
        obtain ⟨ho1, ho2, ha, hb, hd, hn⟩ := insOk_regs hins hreg.1
        obtain ⟨va, hva⟩ : ∃ v, w[x.a.toNat]? = some v := ⟨_, List.getElem?_eq_getElem (by omega)⟩
        obtain ⟨vb, hvb⟩ : ∃ v, w[x.b.toNat]? = some v := ⟨_, List.getElem?_eq_getElem (by omega)⟩
        obtain ⟨vd, hvd⟩ : ∃ v, w[x.d.toNat]? = some v := ⟨_, List.getElem?_eq_getElem (by omega)⟩
        have hwa := hww va (List.mem_of_getElem? hva)
        have hwb := hww vb (List.mem_of_getElem? hvb)
        have ea : wAt w x.a = va := by simp [wAt, List.getD, hva]
        have eb : wAt w x.b = vb := by simp [wAt, List.getD, hvb]
        obtain ⟨hsl, hsw⟩ := step_words hins hreg.1 (ws := w) (by omega) hww
        rw [goCode_at hx] at hA
        have hpw : ∀ e, x.x.toNat < t.exits.length → t.exits[x.x.toNat]? = some e → (∀ s ∈ e.slots, 0 ≤ s ∧ s < w.length) ∧ e.slots.length ≤ 20 := fun e h1 h2' => by
          have := exOk_at h2.1.1.1.1 h2'
          exact ⟨fun s hs => by have := this.1 s hs; omega, this.2⟩
        refine awp_seq_k fun K8 hK8 => ?_
        refine awp_block ?_
        (refine awp_sr fun KK hKK => ?_; simp [go_sem, hx]; ((repeat' (first|(refine ag_x ?_;simp [go_sem, hx])|intro _|refine And.intro ?_ ?_|(apply hKK;clear hKK KK)));all_goals first|refine Hold.mk ?_|omega|with_reducible assumption|(simp only [InR] at *;omega)|skip))
        (refine awp_sr fun KK hKK => ?_; simp [go_sem]; ((repeat' (first|(refine ag_x ?_;simp [go_sem])|intro _|refine And.intro ?_ ?_|(apply hKK;clear hKK KK)));all_goals first|refine Hold.mk ?_|omega|with_reducible assumption|(simp only [InR] at *;omega)|skip))
        refine awp_block ?_
        (refine awp_sr fun KK hKK => ?_; simp [go_sem]; ((repeat' (first|(refine ag_x ?_;simp [go_sem])|intro _|refine And.intro ?_ ?_|(apply hKK;clear hKK KK)));all_goals first|refine Hold.mk ?_|omega|with_reducible assumption|(simp only [InR] at *;omega)|skip))
        (refine awp_if fun T F hT hF => ?_; simp [go_sem]; refine BR.intro (fun h9 => hT ?_) (fun h9 => hF ?_); all_goals clear hT hF T F; try simp at h9) 
        · (refine awp_r fun KK hKK => ?_; simp [go_sem, hvd]; ((repeat' (first|(refine ag_x ?_;simp [go_sem, hvd])|intro _|refine And.intro ?_ ?_|(apply hKK;clear hKK KK)));all_goals first|refine Hold.mk ?_|omega|with_reducible assumption|(simp only [InR] at *;omega)|skip))
          refine hK8 _ ?_; clear hK8
          have es : stepV x w = (0, false, false, w.set x.d.toNat x.n) := by simp [stepV, h9]
          rw [es] at hA hsl hsw
          (refine awp_r fun KK hKK => ?_; simp [go_sem]; ((repeat' (first|(refine ag_x ?_;simp [go_sem])|intro _|refine And.intro ?_ ?_|(apply hKK;clear hKK KK)));all_goals first|refine Hold.mk ?_|omega|with_reducible assumption|(simp only [InR] at *;omega)|skip))
          refine ⟨(k + 1, w.set x.d.toNat x.n, told, gw, gt), ?_, ⟨h7, by simpa using hsl.trans hwl', hsw, htl, by simpa using hA⟩, by simp; omega⟩
          (refine cov_of ?_ ?_ <;> simp [go_sem])
        · (refine awp_sr fun KK hKK => ?_; simp [go_sem]; ((repeat' (first|(refine ag_x ?_;simp [go_sem])|intro _|refine And.intro ?_ ?_|(apply hKK;clear hKK KK)));all_goals first|refine Hold.mk ?_|omega|with_reducible assumption|(simp only [InR] at *;omega)|skip))
          (refine awp_if fun T F hT hF => ?_; simp [go_sem]; refine BR.intro (fun h10 => hT ?_) (fun h10 => hF ?_); all_goals clear hT hF T F; try simp at h10) 
          · have hxx := insOk_exit hins (.inr h10)
            obtain ⟨xn, hxn⟩ : ∃ n : Nat, x.x = n := ⟨x.x.toNat, by omega⟩
            obtain ⟨e, he⟩ : ∃ e, t.exits[xn]? = some e := ⟨_, List.getElem?_eq_getElem (by omega)⟩
            have hpe := hpw e (by omega) (by rw [hxn]; exact he)
            have es : stepV x w = (0, false, !decide (va = x.n), w) := by simp [stepV, h10, ea]
            rw [es] at hA
            ((refine awp_dr (.qs [0, 1, 5, 2, 3, 4, 6, 7] (.nil)) (by kernel_rfl) ?_ ?_ ?_ ?_); (kernel_rfl); (exact (by decide +kernel)); (kernel_rfl); intro KK hKK; ((repeat' (first|(refine ag_x ?_;simp [go_sem, hva])|refine adr_nil ?_|refine adr_two ?_ ?_|refine adr_kp2 ?_ ?_|((first|refine adr_qs fun KK hKK=>?_|refine adr_y fun KK hKK=>?_);simp [go_sem, hva])|intro _|refine And.intro ?_ ?_|(apply hKK;clear hKK KK)));all_goals first|refine Hold.mk ?_|omega|with_reducible assumption|(simp only [InR] at *;omega)|skip))
            (refine awp_if fun T F hT hF => ?_; simp [go_sem]; refine BR.intro (fun h11 => hT ?_) (fun h11 => hF ?_); all_goals clear hT hF T F; try simp at h11) 
            · (refine awp_sr fun KK hKK => ?_; simp [go_sem, hxn]; ((repeat' (first|(refine ag_x ?_;simp [go_sem, hxn])|intro _|refine And.intro ?_ ?_|(apply hKK;clear hKK KK)));all_goals first|refine Hold.mk ?_|omega|with_reducible assumption|(simp only [InR] at *;omega)|skip))
              refine CallT.toA (CallT.tys [25, 3, 3, 26] ?_)
              ((try refine CallT.toA ?_); refine callT_z (by first | exact .inl ⟨rfl, rfl⟩ | exact .inr rfl) rfl (by simp [go_sem]) (by simp [go_sem]) ?_; intro args ha; simp [go_sem] at ha; subst ha; refine ⟨_, (out_spec t (r + 1) told xn w e he hpe.1 hpe.2), ?_⟩; rintro _ rfl; simp [go_sem]; ((repeat' (first|(refine ag_x ?_;simp [go_sem])|intro _|refine And.intro ?_ ?_|(apply hKK;clear hKK KK)));all_goals first|refine Hold.mk ?_|omega|with_reducible assumption|(simp only [InR] at *;omega)|skip))
              (refine awp_ret ?_; simp [go_sem])
              simp [after, h11, leave, hxn, he] at hA
              rw [← hA]
              simp [hf]
            · refine awp_skip ?_
              refine hK8 _ ?_; clear hK8
              (refine awp_r fun KK hKK => ?_; simp [go_sem]; ((repeat' (first|(refine ag_x ?_;simp [go_sem])|intro _|refine And.intro ?_ ?_|(apply hKK;clear hKK KK)));all_goals first|refine Hold.mk ?_|omega|with_reducible assumption|(simp only [InR] at *;omega)|skip))
              refine ⟨(k + 1, w, told, gw, gt), ?_, ⟨h7, hwl', hww, htl, by simpa [h11] using hA⟩, by simp; omega⟩
              (refine cov_of ?_ ?_ <;> simp [go_sem])
          · (refine awp_sr fun KK hKK => ?_; simp [go_sem]; ((repeat' (first|(refine ag_x ?_;simp [go_sem])|intro _|refine And.intro ?_ ?_|(apply hKK;clear hKK KK)));all_goals first|refine Hold.mk ?_|omega|with_reducible assumption|(simp only [InR] at *;omega)|skip))
            (refine awp_if fun T F hT hF => ?_; simp [go_sem]; refine BR.intro (fun h12 => hT ?_) (fun h12 => hF ?_); all_goals clear hT hF T F; try simp at h12) 
            · have es : stepV x w = (va, true, false, w) := by simp [stepV, h12, ea]
              rw [es] at hA
              (refine awp_sr fun KK hKK => ?_; simp [go_sem]; ((repeat' (first|(refine ag_x ?_;simp [go_sem])|intro _|refine And.intro ?_ ?_|(apply hKK;clear hKK KK)));all_goals first|refine Hold.mk ?_|omega|with_reducible assumption|(simp only [InR] at *;omega)|skip))
              (refine awp_if fun T F hT hF => ?_; simp [go_sem]; refine BR.intro (fun h13 => hT ?_) (fun h13 => hF ?_); all_goals clear hT hF T F; try simp at h13) 
              · ((refine awp_d (.qs [0, 2, 3, 1, 4, 5, 6] (.kp 7 (.one 8 (.qs [9] (.one 10 (.nil)))))) (by kernel_rfl) ?_ ?_ ?_ ?_); (kernel_rfl); (exact (by decide +kernel)); (kernel_rfl); intro KK hKK; ((repeat' (first|(refine ag_x ?_;simp [go_sem, hva])|refine adr_nil ?_|refine adr_two ?_ ?_|refine adr_kp2 ?_ ?_|((first|refine adr_qs fun KK hKK=>?_|refine adr_y fun KK hKK=>?_);simp [go_sem, hva])|intro _|refine And.intro ?_ ?_|(apply hKK;clear hKK KK)));all_goals first|refine Hold.mk ?_|omega|with_reducible assumption|(simp only [InR] at *;omega)|skip))
                rename_i g7 g8
                refine hK8 _ ?_; clear hK8
                (refine awp_r fun KK hKK => ?_; simp [go_sem]; ((repeat' (first|(refine ag_x ?_;simp [go_sem])|intro _|refine And.intro ?_ ?_|(apply hKK;clear hKK KK)));all_goals first|refine Hold.mk ?_|omega|with_reducible assumption|(simp only [InR] at *;omega)|skip))
                refine ⟨(k + 1, w, told ++ [va], gw, g8), ?_, ⟨h7, hwl', hww, by simp; omega, by simpa [show told.length < 2000 by omega] using hA⟩, by simp; omega⟩
                (refine cov_of ?_ ?_ <;> simp [go_sem])
              · refine awp_skip ?_
                refine hK8 _ ?_; clear hK8
                (refine awp_r fun KK hKK => ?_; simp [go_sem]; ((repeat' (first|(refine ag_x ?_;simp [go_sem])|intro _|refine And.intro ?_ ?_|(apply hKK;clear hKK KK)));all_goals first|refine Hold.mk ?_|omega|with_reducible assumption|(simp only [InR] at *;omega)|skip))
                refine ⟨(k + 1, w, told, gw, gt), ?_, ⟨h7, hwl', hww, htl, by simpa [show ¬ told.length < 2000 by omega] using hA⟩, by simp; omega⟩
                (refine cov_of ?_ ?_ <;> simp [go_sem])
            · have es := stepV_val (i := x) (ws := w) ho1 ho2 h9 h10 h12
              rw [ea, eb] at es
              ((refine awp_dr (.qs [0, 2, 3, 7, 8, 1, 4, 5, 6, 9, 10, 11] (.one 12 (.qs [13, 14, 15, 16, 17] (.nil)))) (by kernel_rfl) ?_ ?_ ?_ ?_); (kernel_rfl); (exact (by decide +kernel)); (kernel_rfl); intro KK hKK; ((repeat' (first|(refine ag_x ?_;simp [go_sem, hva, hvb])|refine adr_nil ?_|refine adr_two ?_ ?_|refine adr_kp2 ?_ ?_|((first|refine adr_qs fun KK hKK=>?_|refine adr_y fun KK hKK=>?_);simp [go_sem, hva, hvb])|intro _|refine And.intro ?_ ?_|(apply hKK;clear hKK KK)));all_goals first|refine Hold.mk ?_|omega|with_reducible assumption|(simp only [InR] at *;omega)|skip))
              ((try refine CallT.toA ?_); refine callT_m (by first | exact .inl ⟨rfl, rfl⟩ | exact .inr rfl) (by simp [go_sem]) ?_; intro args ha; simp [go_sem] at ha; subst ha; refine ⟨_, (value_spec _ _ _ hwa hwb), ?_⟩; rintro _ rfl; simp [go_sem]; ((repeat' (first|(refine ag_x ?_;simp [go_sem])|refine adr_nil ?_|refine adr_two ?_ ?_|refine adr_kp2 ?_ ?_|((first|refine adr_qs fun KK hKK=>?_|refine adr_y fun KK hKK=>?_);simp [go_sem])|intro _|refine And.intro ?_ ?_|(apply hKK;clear hKK KK)));all_goals first|refine Hold.mk ?_|omega|with_reducible assumption|(simp only [InR] at *;omega)|skip))
              refine awp_seq_k fun K14 hK14 => ?_
              (refine awp_sr fun KK hKK => ?_; simp [go_sem]; ((repeat' (first|(refine ag_x ?_;simp [go_sem])|intro _|refine And.intro ?_ ?_|(apply hKK;clear hKK KK)));all_goals first|refine Hold.mk ?_|omega|with_reducible assumption|(simp only [InR] at *;omega)|skip))
              (refine awp_if fun T F hT hF => ?_; simp [go_sem]; refine BR.intro (fun h15 => hT ?_) (fun h15 => hF ?_); all_goals clear hT hF T F; try simp at h15) 
              · have hxx := insOk_exit hins (.inl (valP_exit ho1 ho2 h9 h10 h12 h15))
                obtain ⟨xn, hxn⟩ : ∃ n : Nat, x.x = n := ⟨x.x.toNat, by omega⟩
                obtain ⟨e, he⟩ : ∃ e, t.exits[xn]? = some e := ⟨_, List.getElem?_eq_getElem (by omega)⟩
                have hpe := hpw e (by omega) (by rw [hxn]; exact he)
                (refine awp_sr fun KK hKK => ?_; simp [go_sem, hxn]; ((repeat' (first|(refine ag_x ?_;simp [go_sem, hxn])|intro _|refine And.intro ?_ ?_|(apply hKK;clear hKK KK)));all_goals first|refine Hold.mk ?_|omega|with_reducible assumption|(simp only [InR] at *;omega)|skip))
                refine CallT.toA (CallT.tys [25, 3, 3, 26] ?_)
                ((try refine CallT.toA ?_); refine callT_z (by first | exact .inl ⟨rfl, rfl⟩ | exact .inr rfl) rfl (by simp [go_sem]) (by simp [go_sem]) ?_; intro args ha; simp [go_sem] at ha; subst ha; refine ⟨_, (out_spec t (r + 1) told xn w e he hpe.1 hpe.2), ?_⟩; rintro _ rfl; simp [go_sem]; ((repeat' (first|(refine ag_x ?_;simp [go_sem])|intro _|refine And.intro ?_ ?_|(apply hKK;clear hKK KK)));all_goals first|refine Hold.mk ?_|omega|with_reducible assumption|(simp only [InR] at *;omega)|skip))
                (refine awp_ret ?_; simp [go_sem])
                simp [after, es, h15, leave, hxn, he] at hA
                rw [← hA]
                simp [hf]
              · refine awp_skip ?_
                refine hK14 _ ?_; clear hK14
                (refine awp_r fun KK hKK => ?_; simp [go_sem, hvd]; ((repeat' (first|(refine ag_x ?_;simp [go_sem, hvd])|intro _|refine And.intro ?_ ?_|(apply hKK;clear hKK KK)));all_goals first|refine Hold.mk ?_|omega|with_reducible assumption|(simp only [InR] at *;omega)|skip))
                refine hK8 _ ?_; clear hK8
                rw [es] at hA hsl hsw
                simp only [h15, if_true] at hA hsl hsw
                (refine awp_r fun KK hKK => ?_; simp [go_sem]; ((repeat' (first|(refine ag_x ?_;simp [go_sem])|intro _|refine And.intro ?_ ?_|(apply hKK;clear hKK KK)));all_goals first|refine Hold.mk ?_|omega|with_reducible assumption|(simp only [InR] at *;omega)|skip))
                refine ⟨(k + 1, w.set x.d.toNat (valP x.op va vb).1, told, gw, gt), ?_, ⟨h7, by simpa using hsl.trans hwl', hsw, htl, by simpa using hA⟩, by simp; omega⟩
                (refine cov_of ?_ ?_ <;> simp [go_sem])
      · refine awp_exit ?_
        simp only [go_sem]
        have : k = t.code.length := by omega
        subst this
        simp [goCode, after] at hA
        refine ⟨(r + 1, w, told, gw, gt), ?_, ⟨by simp; omega, hwl', hww, htl, ?_⟩, by simp; omega⟩
        · (refine cov_of ?_ ?_ <;> simp [go_sem])
        · simp only; rw [show fuel.toNat - (r + 1) = m by omega]; exact hA
    · refine awp_exit ?_
      simp only [go_sem]
      refine hK3 _ ?_; clear hK3
      rw [show fuel.toNat - r = 0 by omega] at hA
      (refine awp_sr fun KK hKK => ?_; simp [go_sem]; ((repeat' (first|(refine ag_x ?_;simp [go_sem])|intro _|refine And.intro ?_ ?_|(apply hKK;clear hKK KK)));all_goals first|refine Hold.mk ?_|omega|with_reducible assumption|(simp only [InR] at *;omega)|skip))
      (refine awp_sr fun KK hKK => ?_; simp [go_sem]; ((repeat' (first|(refine ag_x ?_;simp [go_sem])|intro _|refine And.intro ?_ ?_|(apply hKK;clear hKK KK)));all_goals first|refine Hold.mk ?_|omega|with_reducible assumption|(simp only [InR] at *;omega)|skip))
      (refine awp_ret ?_; simp [go_sem])
      rw [← hA]
      simp [goRounds, hf]
end Go.Proofs.YtmgbaegdkjcagaaDoor

namespace Go.Proofs.YtmgbaegdkjcagaaDoor
open Go.Eng
set_option maxRecDepth 20000
attribute [local irreducible] AG CallA CallT AWp PCall ACall AgC

theorem step_exit {i : Ins} {ws : List Int} (h1 : 0 ≤ i.op) (h2 : i.op ≤ 10) (h : (stepV i ws).2.2.1 = true) : (2 ≤ i.op ∧ i.op ≤ 6) ∨ i.op = 9 := by
  by_cases h0 : i.op = 0
  · simp [stepV, h0] at h
  by_cases h9 : i.op = 9
  · exact .inr h9
  by_cases h10 : i.op = 10
  · simp [stepV, h10] at h
  rw [stepV_val h1 h2 h0 h9 h10] at h
  split at h
  · cases h
  · rename_i hv; exact .inl (valP_exit h1 h2 h0 h9 h10 (by simpa using hv))
end Go.Proofs.YtmgbaegdkjcagaaDoor

namespace Go.Proofs.YtmgbaegdkjcagaaDoor
open Go.Eng
set_option maxRecDepth 20000
attribute [local irreducible] AG CallA CallT AWp PCall ACall AgC

theorem take_step {α : Type} {l m : List α} {i : Nat} {x : α} (h : l.take i = m.take i) (hx : l[i]? = some x) (hy : m[i]? = some x) : l.take (i + 1) = m.take (i + 1) := by
  rw [List.take_add_one, List.take_add_one, h, hx, hy]
theorem take_full {α : Type} {l m : List α} (hl : l.length = m.length) (h : l.take l.length = m.take l.length) : l = m := by
  rwa [List.take_length, hl, List.take_length] at h

theorem ints_spec (l m : List Int) : PCall Tryd.prog 15 [dIs l, dIs m] fun r => r = dB (decide (l = m)) := by
  refine pcall_of Tryd.func15 rfl rfl Tryd.ntmps15 (rs := [.tmp 4]) (tys := [4]) rfl rfl (by simp) ?_
  refine awp_len 0 rfl fun hlen => ?_
  simp [lensD] at hlen
  (refine awp_sr fun KK hKK => ?_; simp [go_sem]; ((repeat' (first|(refine ag_x ?_;simp [go_sem])|intro _|refine And.intro ?_ ?_|(apply hKK;clear hKK KK)));all_goals first|refine Hold.mk ?_|omega|with_reducible assumption|(simp only [InR] at *;omega)|skip))
  refine awp_seq_k fun K hK => ?_
  (refine awp_sr fun KK hKK => ?_; simp [go_sem]; ((repeat' (first|(refine ag_x ?_;simp [go_sem])|intro _|refine And.intro ?_ ?_|(apply hKK;clear hKK KK)));all_goals first|refine Hold.mk ?_|omega|with_reducible assumption|(simp only [InR] at *;omega)|skip))
  (refine awp_if fun T F hT hF => ?_; simp [go_sem]; refine BR.intro (fun h => hT ?_) (fun h => hF ?_); all_goals clear hT hF T F; try simp at h)
  · (refine awp_sr fun KK hKK => ?_; simp [go_sem]; ((repeat' (first|(refine ag_x ?_;simp [go_sem])|intro _|refine And.intro ?_ ?_|(apply hKK;clear hKK KK)));all_goals first|refine Hold.mk ?_|omega|with_reducible assumption|(simp only [InR] at *;omega)|skip))
    (refine awp_ret ?_; simp [go_sem])
    intro e; subst e; simp at h
  refine awp_skip ?_
  refine hK _ ?_
  clear hK K
  have hlm : l.length = m.length := by omega
  refine awp_seq_k fun K hK => ?_
  (refine awp_sr fun KK hKK => ?_; simp [go_sem]; ((repeat' (first|(refine ag_x ?_;simp [go_sem])|intro _|refine And.intro ?_ ?_|(apply hKK;clear hKK KK)));all_goals first|refine Hold.mk ?_|omega|with_reducible assumption|(simp only [InR] at *;omega)|skip))
  refine awp_block ?_
  refine awp_loop (σ := Nat) (fun i => ⟨[(5, dI i), (0, dIs l), (1, dIs m)], []⟩) (fun i => i ≤ l.length ∧ l.take i = m.take i) (fun i => l.length - i) 0 ?_ ?_ ?_
  · (refine cov_of ?_ ?_ <;> simp [go_sem])
  · simp
  intro i ⟨hi, hlt⟩
  refine awp_seq_k fun K2 hK2 => ?_
  (refine awp_sr fun KK hKK => ?_; simp [go_sem]; ((repeat' (first|(refine ag_x ?_;simp [go_sem])|intro _|refine And.intro ?_ ?_|(apply hKK;clear hKK KK)));all_goals first|refine Hold.mk ?_|omega|with_reducible assumption|(simp only [InR] at *;omega)|skip))
  (refine awp_if fun T F hT hF => ?_; simp [go_sem]; refine BR.intro (fun h => hT ?_) (fun h => hF ?_); all_goals clear hT hF T F; try simp at h)
  · refine awp_skip ?_
    refine hK2 _ ?_
    have hi' : i < l.length := by simpa using h
    refine awp_seq_k fun K4 hK4 => ?_
    refine awp_block ?_
    obtain ⟨x, hx⟩ : ∃ x, l[i]? = some x := ⟨_, List.getElem?_eq_getElem hi'⟩
    obtain ⟨y, hy⟩ : ∃ x, m[i]? = some x := ⟨_, List.getElem?_eq_getElem (hlm ▸ hi')⟩
    ((refine awp_dr (.qs [0, 1, 2, 4, 5, 6, 3, 7, 8] (.nil)) (by kernel_rfl) ?_ ?_ ?_ ?_); (kernel_rfl); (exact (by decide +kernel)); (kernel_rfl); intro KK hKK; ((repeat' (first|(refine ag_x ?_;simp [go_sem, hx, hy])|refine adr_nil ?_|refine adr_two ?_ ?_|refine adr_kp2 ?_ ?_|((first|refine adr_qs fun KK hKK=>?_|refine adr_y fun KK hKK=>?_);simp [go_sem, hx, hy])|intro _|refine And.intro ?_ ?_|(apply hKK;clear hKK KK)));all_goals first|refine Hold.mk ?_|omega|with_reducible assumption|(simp only [InR] at *;omega)|skip))
    (refine awp_if fun T F hT hF => ?_; simp [go_sem]; refine BR.intro (fun h => hT ?_) (fun h => hF ?_); all_goals clear hT hF T F; try simp at h)
    · (refine awp_sr fun KK hKK => ?_; simp [go_sem]; ((repeat' (first|(refine ag_x ?_;simp [go_sem])|intro _|refine And.intro ?_ ?_|(apply hKK;clear hKK KK)));all_goals first|refine Hold.mk ?_|omega|with_reducible assumption|(simp only [InR] at *;omega)|skip))
      (refine awp_ret ?_; simp [go_sem])
      intro e; subst e
      rw [hx] at hy; simp at hy; subst hy; simp at h
    refine awp_skip ?_
    simp only [go_sem]
    refine hK4 _ ?_
    clear hK4 K4 hK2 K2
    subst h
    (refine awp_r fun KK hKK => ?_; simp [go_sem]; ((repeat' (first|(refine ag_x ?_;simp [go_sem])|intro _|refine And.intro ?_ ?_|(apply hKK;clear hKK KK)));all_goals first|refine Hold.mk ?_|omega|with_reducible assumption|(simp only [InR] at *;omega)|skip))
    refine ⟨i + 1, ?_, ⟨by omega, take_step hlt hx hy⟩, by omega⟩
    (refine cov_of ?_ ?_ <;> simp [go_sem])
  refine awp_exit ?_
  simp only [go_sem]
  refine hK _ ?_
  (refine awp_sr fun KK hKK => ?_; simp [go_sem]; ((repeat' (first|(refine ag_x ?_;simp [go_sem])|intro _|refine And.intro ?_ ?_|(apply hKK;clear hKK KK)));all_goals first|refine Hold.mk ?_|omega|with_reducible assumption|(simp only [InR] at *;omega)|skip))
  (refine awp_ret ?_; simp [go_sem])
  have : i = l.length := by omega
  subst this
  exact take_full hlm hlt

theorem as_spec (t : Tr) (hc : t.code.length ≤ 500) (he : t.exits.length ≤ 100) (hs : ∀ x ∈ t.exits, x.slots.length ≤ 2000) : PCall Tryd.prog 9 [dTr t] fun r => r = dTr t := by 
  refine pcall_of Tryd.func9 rfl rfl Tryd.ntmps9 (rs := [.cell 2 35]) (tys := [35]) rfl rfl (by simp) ?_
  (refine awp_sr fun KK hKK => ?_; simp [go_sem]; ((repeat' (first|(refine ag_x ?_;simp [go_sem])|intro _|refine And.intro ?_ ?_|(apply hKK;clear hKK KK)));all_goals first|refine Hold.mk ?_|omega|with_reducible assumption|(simp only [InR] at *;omega)|skip))
  rename_i g1 g2
  refine awp_frzbox 1 rfl rfl ?_
  simp only [go_sem]
  (refine awp_sr fun KK hKK => ?_; simp [go_sem]; ((repeat' (first|(refine ag_x ?_;simp [go_sem])|intro _|refine And.intro ?_ ?_|(apply hKK;clear hKK KK)));all_goals first|refine Hold.mk ?_|omega|with_reducible assumption|(simp only [InR] at *;omega)|skip))
  rename_i g3
  refine awp_nilbox 38 70 6 1 (sb := 3) rfl rfl (by decide) fun g4 => ?_
  refine awp_nilbox 65 71 2 2 (sb := 3) rfl rfl (by decide) fun g5 => ?_
  simp only [List.set, go_sem]
  refine awp_seq_k fun K1 hK1 => ?_
  (refine awp_sr fun KK hKK => ?_; simp [go_sem]; ((repeat' (first|(refine ag_x ?_;simp [go_sem])|intro _|refine And.intro ?_ ?_|(apply hKK;clear hKK KK)));all_goals first|refine Hold.mk ?_|omega|with_reducible assumption|(simp only [InR] at *;omega)|skip))
  refine awp_block ?_
  refine awp_loop (σ := Nat × Nat) (fun x => ⟨[(1, .rd [dI t.regs, .sl 6 (t.code.map cIns), .sl 2 (t.exits.map cExi)]), (2, .ptr 2 g2 0), (3, .ptr 3 g3 0), (4, dI x.1)], [(2, g2, .box [dI 0, .v (.slice none 0 0), .v (.slice none 0 0)]),
    (3, g3, .box [dI t.regs, .own 38 x.2, .own 65 g5]), (38, x.2, .row 70 6 ((t.code.take x.1).map cIns)), (65, g5, .row 71 2 [])]⟩) (fun x => x.1 ≤ t.code.length) (fun x => t.code.length - x.1) (0, g4) ?_ ?_ ?_
  · (refine cov_of ?_ ?_ <;> simp [go_sem])
  · simp
  rintro ⟨i, g⟩ hx
  simp at hx
  refine awp_seq_k fun K2 hK2 => ?_
  (refine awp_sr fun KK hKK => ?_; simp [go_sem]; ((repeat' (first|(refine ag_x ?_;simp [go_sem])|intro _|refine And.intro ?_ ?_|(apply hKK;clear hKK KK)));all_goals first|refine Hold.mk ?_|omega|with_reducible assumption|(simp only [InR] at *;omega)|skip))
  (refine awp_if fun T F hT hF => ?_; simp [go_sem]; refine BR.intro (fun h3 => hT ?_) (fun h3 => hF ?_); all_goals clear hT hF T F; try simp at h3) 
  · refine awp_skip ?_
    refine hK2 _ ?_; clear hK2
    have hi : i < t.code.length := by simpa using h3
    obtain ⟨x, hx⟩ : ∃ x, t.code[i]? = some x := ⟨_, List.getElem?_eq_getElem hi⟩
    refine awp_seq_k fun K4 hK4 => ?_
    refine awp_block ?_
    (refine awp_sr fun KK hKK => ?_; simp [go_sem, hx]; ((repeat' (first|(refine ag_x ?_;simp [go_sem, hx])|intro _|refine And.intro ?_ ?_|(apply hKK;clear hKK KK)));all_goals first|refine Hold.mk ?_|omega|with_reducible assumption|(simp only [InR] at *;omega)|skip))
    (refine awp_r fun KK hKK => ?_; simp [go_sem]; ((repeat' (first|(refine ag_x ?_;simp [go_sem])|intro _|refine And.intro ?_ ?_|(apply hKK;clear hKK KK)));all_goals first|refine Hold.mk ?_|omega|with_reducible assumption|(simp only [InR] at *;omega)|skip))
    refine hK4 _ ?_; clear hK4
    (refine awp_r fun KK hKK => ?_; simp [go_sem]; ((repeat' (first|(refine ag_x ?_;simp [go_sem])|intro _|refine And.intro ?_ ?_|(apply hKK;clear hKK KK)));all_goals first|refine Hold.mk ?_|omega|with_reducible assumption|(simp only [InR] at *;omega)|skip))
    have ht : t.code.take (i + 1) = t.code.take i ++ [x] := by rw [List.take_add_one, hx]; rfl
    refine ⟨(i + 1, ‹_›), ?_, ?_, ?_⟩
    · (refine cov_of ?_ ?_ <;> simp [go_sem, ht, hx])
    · exact hi
    · simp; omega
  · refine awp_exit ?_
    simp only [go_sem]
    refine hK1 _ ?_; clear hK1
    have hil : i = t.code.length := by omega
    subst hil
    simp only [← List.map_take, List.take_length]
    refine awp_seq_k fun K5 hK5 => ?_
    (refine awp_sr fun KK hKK => ?_; simp [go_sem]; ((repeat' (first|(refine ag_x ?_;simp [go_sem])|intro _|refine And.intro ?_ ?_|(apply hKK;clear hKK KK)));all_goals first|refine Hold.mk ?_|omega|with_reducible assumption|(simp only [InR] at *;omega)|skip))
    refine awp_block ?_
    refine awp_loop (σ := Nat × Nat) (fun x => ⟨[(1, .rd [dI t.regs, .sl 6 (t.code.map cIns), .sl 2 (t.exits.map cExi)]), (2, .ptr 2 g2 0), (3, .ptr 3 g3 0), (6, dI x.1)], [(2, g2, .box [dI 0, .v (.slice none 0 0), .v (.slice none 0 0)]),
      (3, g3, .box [dI t.regs, .own 38 g, .own 65 x.2]), (38, g, .row 70 6 (t.code.map cIns)), (65, x.2, .row 71 2 ((t.exits.take x.1).map cExi))]⟩) (fun x => x.1 ≤ t.exits.length) (fun x => t.exits.length - x.1) (0, g5) ?_ ?_ ?_
    · (refine cov_of ?_ ?_ <;> simp [go_sem])
    · simp
    rintro ⟨i, gg⟩ hx'
    simp at hx'
    refine awp_seq_k fun K6 hK6 => ?_
    (refine awp_sr fun KK hKK => ?_; simp [go_sem]; ((repeat' (first|(refine ag_x ?_;simp [go_sem])|intro _|refine And.intro ?_ ?_|(apply hKK;clear hKK KK)));all_goals first|refine Hold.mk ?_|omega|with_reducible assumption|(simp only [InR] at *;omega)|skip))
    (refine awp_if fun T F hT hF => ?_; simp [go_sem]; refine BR.intro (fun h7 => hT ?_) (fun h7 => hF ?_); all_goals clear hT hF T F; try simp at h7) 
    · refine awp_skip ?_
      refine hK6 _ ?_; clear hK6
      have hi : i < t.exits.length := by simpa using h7
      obtain ⟨x, hx⟩ : ∃ x, t.exits[i]? = some x := ⟨_, List.getElem?_eq_getElem hi⟩
      have hxs := hs x (List.mem_of_getElem? hx)
      refine awp_seq_k fun K8 hK8 => ?_
      refine awp_block ?_
      ((refine awp_d (.qs [0, 2, 4, 9, 11, 1, 3, 5, 6, 7, 10, 12, 13, 14] (.kp 8 (.kp 15 (.qs [16] (.kp 17 (.one 18 (.qs [19] (.one 20 (.nil)))))))) ) (by kernel_rfl) ?_ ?_ ?_ ?_); (kernel_rfl); (exact (by decide +kernel)); (kernel_rfl); intro KK hKK; ((repeat' (first|(refine ag_x ?_;simp [go_sem, hx])|refine adr_nil ?_|refine adr_two ?_ ?_|refine adr_kp2 ?_ ?_|((first|refine adr_qs fun KK hKK=>?_|refine adr_y fun KK hKK=>?_);simp [go_sem, hx])|intro _|refine And.intro ?_ ?_|(apply hKK;clear hKK KK)));all_goals first|refine Hold.mk ?_|omega|with_reducible assumption|(simp only [InR] at *;omega)|skip))
      refine hK8 _ ?_; clear hK8
      (refine awp_r fun KK hKK => ?_; simp [go_sem]; ((repeat' (first|(refine ag_x ?_;simp [go_sem])|intro _|refine And.intro ?_ ?_|(apply hKK;clear hKK KK)));all_goals first|refine Hold.mk ?_|omega|with_reducible assumption|(simp only [InR] at *;omega)|skip))
      have ht : t.exits.take (i + 1) = t.exits.take i ++ [x] := by rw [List.take_add_one, hx]; rfl
      refine ⟨(i + 1, ‹_›), ?_, ?_, ?_⟩
      · (refine cov_of ?_ ?_ <;> simp [go_sem, ht, hx])
      · exact hi
      · simp; omega
    · refine awp_exit ?_
      simp only [go_sem]
      refine hK5 _ ?_; clear hK5
      have hil : i = t.exits.length := by omega
      subst hil
      simp only [← List.map_take, List.take_length]
      (refine awp_sr fun KK hKK => ?_; simp [go_sem]; ((repeat' (first|(refine ag_x ?_;simp [go_sem])|intro _|refine And.intro ?_ ?_|(apply hKK;clear hKK KK)));all_goals first|refine Hold.mk ?_|omega|with_reducible assumption|(simp only [InR] at *;omega)|skip))
      (refine awp_ret ?_; simp [go_sem])

def exSum (l : List Exi) : Nat := (l.map fun x => min x.slots.length 2000).sum
theorem sum_le (l : List Exi) : exSum l ≤ 2000 * l.length := by
  unfold exSum
  induction l with
  | nil => simp
  | cons x l ih => simp only [List.map_cons, List.sum_cons, List.length_cons]; omega
theorem exSum_at {l : List Exi} {k : Nat} {x : Exi} (h : l[k]? = some x) : (exSum (l.take (k + 1)) : Int) = exSum (l.take k) + if 2000 < (x.slots.length : Int) then 2000 else (x.slots.length : Int) := by
  unfold exSum
  rw [List.take_add_one, h, List.map_append, List.sum_append]
  simp only [Option.toList, List.map_cons, List.map_nil, List.sum_cons, List.sum_nil]
  split <;> omega
/-- is a trace larger than is looked at -/
def largeV (t : Tr) : Bool := decide (500 < t.code.length) || decide (100 < t.exits.length) || decide (2000 ≤ exSum t.exits)
theorem large_spec (t : Tr) : PCall Tryd.prog 5 [dTr t] fun r => r = dB (largeV t) := by 
  refine pcall_of Tryd.func5 rfl rfl Tryd.ntmps5 (rs := [.tmp 2]) (tys := [4]) rfl rfl (by simp) ?_
  (refine awp_sr fun KK hKK => ?_; simp [go_sem]; ((repeat' (first|(refine ag_x ?_;simp [go_sem])|intro _|refine And.intro ?_ ?_|(apply hKK;clear hKK KK)));all_goals first|refine Hold.mk ?_|omega|with_reducible assumption|(simp only [InR] at *;omega)|skip))
  refine awp_frzbox 1 rfl rfl ?_
  simp only [go_sem]
  refine awp_seq_k fun K1 hK1 => ?_
  (refine awp_sr fun KK hKK => ?_; simp [go_sem]; ((repeat' (first|(refine ag_x ?_;simp [go_sem])|intro _|refine And.intro ?_ ?_|(apply hKK;clear hKK KK)));all_goals first|refine Hold.mk ?_|omega|with_reducible assumption|(simp only [InR] at *;omega)|skip))
  (refine awp_if fun T F hT hF => ?_; simp [go_sem]; refine BR.intro (fun h2 => hT ?_) (fun h2 => hF ?_); all_goals clear hT hF T F; try simp at h2) 
  · (refine awp_sr fun KK hKK => ?_; simp [go_sem]; ((repeat' (first|(refine ag_x ?_;simp [go_sem])|intro _|refine And.intro ?_ ?_|(apply hKK;clear hKK KK)));all_goals first|refine Hold.mk ?_|omega|with_reducible assumption|(simp only [InR] at *;omega)|skip))
    (refine awp_ret ?_; simp [go_sem])
    simp [largeV]
    omega
  · refine awp_skip ?_
    refine hK1 _ ?_; clear hK1
    have hb : t.code.length ≤ 500 ∧ t.exits.length ≤ 100 := by omega
    (refine awp_sr fun KK hKK => ?_; simp [go_sem]; ((repeat' (first|(refine ag_x ?_;simp [go_sem])|intro _|refine And.intro ?_ ?_|(apply hKK;clear hKK KK)));all_goals first|refine Hold.mk ?_|omega|with_reducible assumption|(simp only [InR] at *;omega)|skip))
    refine awp_seq_k fun K3 hK3 => ?_
    (refine awp_sr fun KK hKK => ?_; simp [go_sem]; ((repeat' (first|(refine ag_x ?_;simp [go_sem])|intro _|refine And.intro ?_ ?_|(apply hKK;clear hKK KK)));all_goals first|refine Hold.mk ?_|omega|with_reducible assumption|(simp only [InR] at *;omega)|skip))
    refine awp_block ?_
    refine awp_loop (σ := Nat) (fun k => ⟨[(1, .rd [dI t.regs, .sl 6 (t.code.map cIns), .sl 2 (t.exits.map cExi)]), (3, dI (exSum (t.exits.take k))), (4, dI k)], []⟩) (fun k => k ≤ t.exits.length) (fun k => t.exits.length - k) 0 ?_ ?_ ?_
    · (refine cov_of ?_ ?_ <;> simp [go_sem, exSum])
    · simp
    rintro k hk
    refine awp_seq_k fun K4 hK4 => ?_
    (refine awp_sr fun KK hKK => ?_; simp [go_sem]; ((repeat' (first|(refine ag_x ?_;simp [go_sem])|intro _|refine And.intro ?_ ?_|(apply hKK;clear hKK KK)));all_goals first|refine Hold.mk ?_|omega|with_reducible assumption|(simp only [InR] at *;omega)|skip))
    (refine awp_if fun T F hT hF => ?_; simp [go_sem]; refine BR.intro (fun h5 => hT ?_) (fun h5 => hF ?_); all_goals clear hT hF T F; try simp at h5) 
    · refine awp_skip ?_
      refine hK4 _ ?_; clear hK4
      obtain ⟨x, hx⟩ : ∃ x, t.exits[k]? = some x := ⟨_, List.getElem?_eq_getElem (by omega)⟩
      have hsum := sum_le (t.exits.take k)
      have hk2 : (t.exits.take k).length ≤ 100 := by simp; omega
      have ht := exSum_at hx
      refine awp_seq_k fun K6 hK6 => ?_
      refine awp_block ?_
      have q1 : -9223372036854775808 ≤ (exSum (t.exits.take k) : Int) + if 2000 < (x.slots.length : Int) then 2000 else (x.slots.length : Int) := by split <;> omega
      have q2 : (exSum (t.exits.take k) : Int) + (if 2000 < (x.slots.length : Int) then 2000 else (x.slots.length : Int)) ≤ 9223372036854775807 := by split <;> omega
      (refine awp_r fun KK hKK => ?_; simp [go_sem, hx]; ((repeat' (first|(refine ag_x ?_;simp [go_sem, hx])|intro _|refine And.intro ?_ ?_|(apply hKK;clear hKK KK)));all_goals first|refine Hold.mk ?_|omega|with_reducible assumption|(simp only [InR] at *;omega)|skip))
      refine hK6 _ ?_; clear hK6
      (refine awp_r fun KK hKK => ?_; simp [go_sem]; ((repeat' (first|(refine ag_x ?_;simp [go_sem])|intro _|refine And.intro ?_ ?_|(apply hKK;clear hKK KK)));all_goals first|refine Hold.mk ?_|omega|with_reducible assumption|(simp only [InR] at *;omega)|skip))
      refine ⟨k + 1, ?_, by omega, by omega⟩
      (refine cov_of ?_ ?_ <;> simp [go_sem, ht])
    · refine awp_exit ?_
      simp only [go_sem]
      refine hK3 _ ?_; clear hK3
      have : k = t.exits.length := by omega
      subst this
      (refine awp_sr fun KK hKK => ?_; simp [go_sem]; ((repeat' (first|(refine ag_x ?_;simp [go_sem])|intro _|refine And.intro ?_ ?_|(apply hKK;clear hKK KK)));all_goals first|refine Hold.mk ?_|omega|with_reducible assumption|(simp only [InR] at *;omega)|skip))
      (refine awp_ret ?_; simp [go_sem, List.take_length])
      have e1 : decide (500 < t.code.length) = false := by simp; omega
      have e2 : decide (100 < t.exits.length) = false := by simp; omega
      simp [largeV, e1, e2]
      omega
end Go.Proofs.YtmgbaegdkjcagaaDoor

namespace Go.Proofs.YtmgbaegdkjcagaaDoor
open Go.Eng
set_option maxRecDepth 20000
attribute [local irreducible] AG CallA CallT AWp PCall ACall AgC

theorem rsame_spec (t u : Tr) : PCall Tryd.prog 11 [dTr t, dTr u] fun r => r = dB (decide (t = u)) := by 
  refine pcall_of Tryd.func11 rfl rfl Tryd.ntmps11 (rs := [.tmp 4]) (tys := [4]) rfl rfl (by simp) ?_
  refine awp_len 0 rfl fun hlen => ?_
  simp [lensD, lensC] at hlen
  (refine awp_sr fun KK hKK => ?_; simp [go_sem]; ((repeat' (first|(refine ag_x ?_;simp [go_sem])|intro _|refine And.intro ?_ ?_|(apply hKK;clear hKK KK)));all_goals first|refine Hold.mk ?_|omega|with_reducible assumption|(simp only [InR] at *;omega)|skip))
  refine awp_frzbox 2 rfl rfl ?_
  refine awp_frzbox 3 rfl rfl ?_
  simp only [go_sem]
  refine awp_seq_k fun K1 hK1 => ?_
  (refine awp_sr fun KK hKK => ?_; simp [go_sem]; ((repeat' (first|(refine ag_x ?_;simp [go_sem])|intro _|refine And.intro ?_ ?_|(apply hKK;clear hKK KK)));all_goals first|refine Hold.mk ?_|omega|with_reducible assumption|(simp only [InR] at *;omega)|skip))
  (refine awp_if fun T F hT hF => ?_; simp [go_sem]; refine BR.intro (fun h2 => hT ?_) (fun h2 => hF ?_); all_goals clear hT hF T F; try simp at h2) 
  · (refine awp_sr fun KK hKK => ?_; simp [go_sem]; ((repeat' (first|(refine ag_x ?_;simp [go_sem])|intro _|refine And.intro ?_ ?_|(apply hKK;clear hKK KK)));all_goals first|refine Hold.mk ?_|omega|with_reducible assumption|(simp only [InR] at *;omega)|skip))
    (refine awp_ret ?_; simp [go_sem])
    rintro rfl
    simp at h2
  · refine awp_skip ?_
    refine hK1 _ ?_; clear hK1
    obtain ⟨⟨hr, hcl⟩, hel⟩ := h2
    have hcl : t.code.length = u.code.length := by omega
    have hel : t.exits.length = u.exits.length := by omega
    refine awp_seq_k fun K3 hK3 => ?_
    (refine awp_sr fun KK hKK => ?_; simp [go_sem]; ((repeat' (first|(refine ag_x ?_;simp [go_sem])|intro _|refine And.intro ?_ ?_|(apply hKK;clear hKK KK)));all_goals first|refine Hold.mk ?_|omega|with_reducible assumption|(simp only [InR] at *;omega)|skip))
    refine awp_block ?_
    refine awp_loop (σ := Nat) (fun k => ⟨[(2, .rd [dI t.regs, .sl 6 (t.code.map cIns), .sl 2 (t.exits.map cExi)]), (3, .rd [dI u.regs, .sl 6 (u.code.map cIns), .sl 2 (u.exits.map cExi)]), (5, dI k)], []⟩) (fun k => k ≤ t.code.length ∧ t.code.take k = u.code.take k) (fun k => t.code.length - k) 0 ?_ ?_ ?_
    · (refine cov_of ?_ ?_ <;> simp [go_sem])
    · simp
    rintro k ⟨hk, hall⟩
    refine awp_seq_k fun K4 hK4 => ?_
    (refine awp_sr fun KK hKK => ?_; simp [go_sem]; ((repeat' (first|(refine ag_x ?_;simp [go_sem])|intro _|refine And.intro ?_ ?_|(apply hKK;clear hKK KK)));all_goals first|refine Hold.mk ?_|omega|with_reducible assumption|(simp only [InR] at *;omega)|skip))
    (refine awp_if fun T F hT hF => ?_; simp [go_sem]; refine BR.intro (fun h5 => hT ?_) (fun h5 => hF ?_); all_goals clear hT hF T F; try simp at h5) 
    · refine awp_skip ?_
      refine hK4 _ ?_; clear hK4
      obtain ⟨x, hx⟩ : ∃ x, t.code[k]? = some x := ⟨_, List.getElem?_eq_getElem (by omega)⟩
      obtain ⟨y, hy⟩ : ∃ x, u.code[k]? = some x := ⟨_, List.getElem?_eq_getElem (by omega)⟩
      refine awp_seq_k fun K6 hK6 => ?_
      refine awp_block ?_
      ((refine awp_dr (.qs [0, 2, 5, 7, 1, 3, 4, 6, 8, 9, 10] (.nil)) (by kernel_rfl) ?_ ?_ ?_ ?_); (kernel_rfl); (exact (by decide +kernel)); (kernel_rfl); intro KK hKK; ((repeat' (first|(refine ag_x ?_;simp [go_sem, hx, hy])|refine adr_nil ?_|refine adr_two ?_ ?_|refine adr_kp2 ?_ ?_|((first|refine adr_qs fun KK hKK=>?_|refine adr_y fun KK hKK=>?_);simp [go_sem, hx, hy])|intro _|refine And.intro ?_ ?_|(apply hKK;clear hKK KK)));all_goals first|refine Hold.mk ?_|omega|with_reducible assumption|(simp only [InR] at *;omega)|skip))
      (refine awp_if fun T F hT hF => ?_; simp [go_sem]; refine BR.intro (fun h7 => hT ?_) (fun h7 => hF ?_); all_goals clear hT hF T F; try simp at h7) 
      · (refine awp_sr fun KK hKK => ?_; simp [go_sem]; ((repeat' (first|(refine ag_x ?_;simp [go_sem])|intro _|refine And.intro ?_ ?_|(apply hKK;clear hKK KK)));all_goals first|refine Hold.mk ?_|omega|with_reducible assumption|(simp only [InR] at *;omega)|skip))
        (refine awp_ret ?_; simp [go_sem])
        rintro rfl
        rw [hx] at hy
        simp at hy
        subst hy
        simp at h7
      · refine awp_skip ?_
        refine hK6 _ ?_; clear hK6
        have hxy : x = y := by
          obtain ⟨a1, a2, a3, a4, a5, a6⟩ := x
          obtain ⟨b1, b2, b3, b4, b5, b6⟩ := y
          simp at h7
          simp [h7]
        subst hxy
        (refine awp_r fun KK hKK => ?_; simp [go_sem]; ((repeat' (first|(refine ag_x ?_;simp [go_sem])|intro _|refine And.intro ?_ ?_|(apply hKK;clear hKK KK)));all_goals first|refine Hold.mk ?_|omega|with_reducible assumption|(simp only [InR] at *;omega)|skip))
        refine ⟨k + 1, ?_, ⟨by omega, take_step hall hx hy⟩, by omega⟩
        (refine cov_of ?_ ?_ <;> simp [go_sem])
    · refine awp_exit ?_
      simp only [go_sem]
      refine hK3 _ ?_; clear hK3
      have : k = t.code.length := by omega
      subst this
      have hcode : t.code = u.code := take_full hcl hall
      refine awp_seq_k fun K8 hK8 => ?_
      (refine awp_sr fun KK hKK => ?_; simp [go_sem]; ((repeat' (first|(refine ag_x ?_;simp [go_sem])|intro _|refine And.intro ?_ ?_|(apply hKK;clear hKK KK)));all_goals first|refine Hold.mk ?_|omega|with_reducible assumption|(simp only [InR] at *;omega)|skip))
      refine awp_block ?_
      refine awp_loop (σ := Nat) (fun k => ⟨[(2, .rd [dI t.regs, .sl 6 (t.code.map cIns), .sl 2 (t.exits.map cExi)]), (3, .rd [dI u.regs, .sl 6 (u.code.map cIns), .sl 2 (u.exits.map cExi)]), (6, dI k)], []⟩) (fun k => k ≤ t.exits.length ∧ t.exits.take k = u.exits.take k) (fun k => t.exits.length - k) 0 ?_ ?_ ?_
      · (refine cov_of ?_ ?_ <;> simp [go_sem])
      · simp
      clear hall hk
      rintro k ⟨hk, hall⟩
      refine awp_seq_k fun K9 hK9 => ?_
      (refine awp_sr fun KK hKK => ?_; simp [go_sem]; ((repeat' (first|(refine ag_x ?_;simp [go_sem])|intro _|refine And.intro ?_ ?_|(apply hKK;clear hKK KK)));all_goals first|refine Hold.mk ?_|omega|with_reducible assumption|(simp only [InR] at *;omega)|skip))
      (refine awp_if fun T F hT hF => ?_; simp [go_sem]; refine BR.intro (fun h10 => hT ?_) (fun h10 => hF ?_); all_goals clear hT hF T F; try simp at h10) 
      · refine awp_skip ?_
        refine hK9 _ ?_; clear hK9
        obtain ⟨x, hx⟩ : ∃ x, t.exits[k]? = some x := ⟨_, List.getElem?_eq_getElem (by omega)⟩
        obtain ⟨y, hy⟩ : ∃ x, u.exits[k]? = some x := ⟨_, List.getElem?_eq_getElem (by omega)⟩
        have hne : t = u → x = y := fun e => by subst e; rw [hx] at hy; simpa using hy
        refine awp_seq_k fun K11 hK11 => ?_
        refine awp_block ?_
        (refine awp_sr fun KK hKK => ?_; simp [go_sem, hx]; ((repeat' (first|(refine ag_x ?_;simp [go_sem, hx])|intro _|refine And.intro ?_ ?_|(apply hKK;clear hKK KK)));all_goals first|refine Hold.mk ?_|omega|with_reducible assumption|(simp only [InR] at *;omega)|skip))
        (refine awp_sr fun KK hKK => ?_; simp [go_sem, hy]; ((repeat' (first|(refine ag_x ?_;simp [go_sem, hy])|intro _|refine And.intro ?_ ?_|(apply hKK;clear hKK KK)));all_goals first|refine Hold.mk ?_|omega|with_reducible assumption|(simp only [InR] at *;omega)|skip))
        refine awp_seq_k fun K12 hK12 => ?_
        (refine awp_sr fun KK hKK => ?_; simp [go_sem]; ((repeat' (first|(refine ag_x ?_;simp [go_sem])|intro _|refine And.intro ?_ ?_|(apply hKK;clear hKK KK)));all_goals first|refine Hold.mk ?_|omega|with_reducible assumption|(simp only [InR] at *;omega)|skip))
        (refine awp_if fun T F hT hF => ?_; simp [go_sem]; refine BR.intro (fun h13 => hT ?_) (fun h13 => hF ?_); all_goals clear hT hF T F; try simp at h13) 
        · (refine awp_sr fun KK hKK => ?_; simp [go_sem]; ((repeat' (first|(refine ag_x ?_;simp [go_sem])|intro _|refine And.intro ?_ ?_|(apply hKK;clear hKK KK)));all_goals first|refine Hold.mk ?_|omega|with_reducible assumption|(simp only [InR] at *;omega)|skip))
          (refine awp_ret ?_; simp [go_sem])
          intro e
          have := hne e
          subst this
          simp at h13
        · refine awp_skip ?_
          refine hK12 _ ?_; clear hK12
          have hsl : x.slots.length = y.slots.length := by omega
          (refine awp_sr fun KK hKK => ?_; simp [go_sem]; ((repeat' (first|(refine ag_x ?_;simp [go_sem])|intro _|refine And.intro ?_ ?_|(apply hKK;clear hKK KK)));all_goals first|refine Hold.mk ?_|omega|with_reducible assumption|(simp only [InR] at *;omega)|skip))
          refine awp_frzbox 7 rfl rfl ?_
          refine awp_frzbox 8 rfl rfl ?_
          simp only [go_sem]
          refine awp_len 7 rfl fun hlen2 => ?_
          simp [lensD, lensC] at hlen2
          refine awp_block ?_
          refine awp_loop (σ := Nat) (fun j => ⟨[(2, .rd [dI t.regs, .sl 6 (t.code.map cIns), .sl 2 (t.exits.map cExi)]), (3, .rd [dI u.regs, .sl 6 (u.code.map cIns), .sl 2 (u.exits.map cExi)]), (6, dI k), (7, .rd (cExi x)), (8, .rd (cExi y)), (9, dI j)], []⟩) (fun j => j ≤ x.slots.length ∧ x.slots.take j = y.slots.take j) (fun j => x.slots.length - j) 0 ?_ ?_ ?_
          · (refine cov_of ?_ ?_ <;> simp [go_sem])
          · simp
          rintro j ⟨hj, hallj⟩
          refine awp_seq_k fun K14 hK14 => ?_
          (refine awp_sr fun KK hKK => ?_; simp [go_sem]; ((repeat' (first|(refine ag_x ?_;simp [go_sem])|intro _|refine And.intro ?_ ?_|(apply hKK;clear hKK KK)));all_goals first|refine Hold.mk ?_|omega|with_reducible assumption|(simp only [InR] at *;omega)|skip))
          (refine awp_if fun T F hT hF => ?_; simp [go_sem]; refine BR.intro (fun h15 => hT ?_) (fun h15 => hF ?_); all_goals clear hT hF T F; try simp at h15) 
          · refine awp_skip ?_
            refine hK14 _ ?_; clear hK14
            obtain ⟨p, hp⟩ : ∃ v, x.slots[j]? = some v := ⟨_, List.getElem?_eq_getElem (by omega)⟩
            obtain ⟨q, hq⟩ : ∃ v, y.slots[j]? = some v := ⟨_, List.getElem?_eq_getElem (by omega)⟩
            refine awp_seq_k fun K16 hK16 => ?_
            refine awp_block ?_
            ((refine awp_dr (.qs [0, 2, 5, 7, 1, 3, 4, 6, 8, 9, 10] (.nil)) (by kernel_rfl) ?_ ?_ ?_ ?_); (kernel_rfl); (exact (by decide +kernel)); (kernel_rfl); intro KK hKK; ((repeat' (first|(refine ag_x ?_;simp [go_sem, hp, hq])|refine adr_nil ?_|refine adr_two ?_ ?_|refine adr_kp2 ?_ ?_|((first|refine adr_qs fun KK hKK=>?_|refine adr_y fun KK hKK=>?_);simp [go_sem, hp, hq])|intro _|refine And.intro ?_ ?_|(apply hKK;clear hKK KK)));all_goals first|refine Hold.mk ?_|omega|with_reducible assumption|(simp only [InR] at *;omega)|skip))
            (refine awp_if fun T F hT hF => ?_; simp [go_sem]; refine BR.intro (fun h17 => hT ?_) (fun h17 => hF ?_); all_goals clear hT hF T F; try simp at h17) 
            · (refine awp_sr fun KK hKK => ?_; simp [go_sem]; ((repeat' (first|(refine ag_x ?_;simp [go_sem])|intro _|refine And.intro ?_ ?_|(apply hKK;clear hKK KK)));all_goals first|refine Hold.mk ?_|omega|with_reducible assumption|(simp only [InR] at *;omega)|skip))
              (refine awp_ret ?_; simp [go_sem])
              intro e
              have := hne e
              subst this
              rw [hp] at hq
              simp at hq
              exact h17 hq
            · refine awp_skip ?_
              refine hK16 _ ?_; clear hK16
              subst h17
              (refine awp_r fun KK hKK => ?_; simp [go_sem]; ((repeat' (first|(refine ag_x ?_;simp [go_sem])|intro _|refine And.intro ?_ ?_|(apply hKK;clear hKK KK)));all_goals first|refine Hold.mk ?_|omega|with_reducible assumption|(simp only [InR] at *;omega)|skip))
              refine ⟨j + 1, ?_, ⟨by omega, take_step hallj hp hq⟩, by omega⟩
              (refine cov_of ?_ ?_ <;> simp [go_sem])
          · refine awp_exit ?_
            simp only [go_sem]
            refine hK11 _ ?_; clear hK11
            have : j = x.slots.length := by omega
            subst this
            have hse : x.slots = y.slots := take_full hsl hallj
            have hxy : x = y := by
              obtain ⟨xb, xs⟩ := x
              obtain ⟨yb, ys⟩ := y
              simp at hse h13
              simp [hse, h13.1]
            subst hxy
            (refine awp_r fun KK hKK => ?_; simp [go_sem]; ((repeat' (first|(refine ag_x ?_;simp [go_sem])|intro _|refine And.intro ?_ ?_|(apply hKK;clear hKK KK)));all_goals first|refine Hold.mk ?_|omega|with_reducible assumption|(simp only [InR] at *;omega)|skip))
            refine ⟨k + 1, ?_, ⟨by omega, take_step hall hx hy⟩, by omega⟩
            (refine cov_of ?_ ?_ <;> simp [go_sem])
      · refine awp_exit ?_
        simp only [go_sem]
        refine hK8 _ ?_; clear hK8
        have : k = t.exits.length := by omega
        subst this
        have hexits : t.exits = u.exits := take_full hel hall
        (refine awp_sr fun KK hKK => ?_; simp [go_sem]; ((repeat' (first|(refine ag_x ?_;simp [go_sem])|intro _|refine And.intro ?_ ?_|(apply hKK;clear hKK KK)));all_goals first|refine Hold.mk ?_|omega|with_reducible assumption|(simp only [InR] at *;omega)|skip))
        (refine awp_ret ?_; simp [go_sem])
        obtain ⟨a1, a2, a3⟩ := t
        obtain ⟨b1, b2, b3⟩ := u
        simp_all

def ctrTr : Tr := ⟨4, [⟨2, 0, 0, 1, 0, 0⟩, ⟨7, 2, 0, 3, 0, 0⟩, ⟨9, 0, 2, 0, 1, 1⟩], [⟨7, []⟩, ⟨8, [0]⟩]⟩
theorem counter_spec : PCall Tryd.prog 14 [] fun r => r = dTr ctrTr := by 
  refine PCall.weak (d := .agg [dI 4, .sl 6 (ctrTr.code.map cIns), .sl 2 [[dI 7, .v (.slice none 0 0)], [dI 8, dIs [0]]]]) ?_ ?_
  · refine pcall_of Tryd.func14 rfl rfl Tryd.ntmps14 (rs := [.cell 0 25]) (tys := [25]) rfl rfl (by simp) ?_
    (refine awp_sr fun KK hKK => ?_; simp [go_sem]; ((repeat' (first|(refine ag_x ?_;simp [go_sem])|intro _|refine And.intro ?_ ?_|(apply hKK;clear hKK KK)));all_goals first|refine Hold.mk ?_|omega|with_reducible assumption|(simp only [InR] at *;omega)|skip))
    (refine awp_sr fun KK hKK => ?_; simp [go_sem]; ((repeat' (first|(refine ag_x ?_;simp [go_sem])|intro _|refine And.intro ?_ ?_|(apply hKK;clear hKK KK)));all_goals first|refine Hold.mk ?_|omega|with_reducible assumption|(simp only [InR] at *;omega)|skip))
    (refine awp_ret ?_; simp [go_sem, ctrTr])
  · exact Weak.agg ⟨Weak.refl _, Weak.refl _, Weak.sl ⟨⟨Weak.refl _, Weak.nil _, trivial⟩, ⟨Weak.refl _, Weak.refl _, trivial⟩, trivial⟩, trivial⟩
theorem ctr_run : runV ctrTr [0, 1, 0, 3] 10 = ⟨1, 8, 3, [3], []⟩ := by decide +kernel
theorem ctr_fit : fitOk ctrTr [0, 1, 0, 3] 10 = true := by decide +kernel
theorem sane_spec : PCall Tryd.prog 6 [] fun r => r = dB true := by 
  refine pcall_of Tryd.func6 rfl rfl Tryd.ntmps6 (rs := [.tmp 0]) (tys := [4]) rfl rfl (by simp) ?_
  (refine awp_sr fun KK hKK => ?_; simp [go_sem]; ((repeat' (first|(refine ag_x ?_;simp [go_sem])|intro _|refine And.intro ?_ ?_|(apply hKK;clear hKK KK)));all_goals first|refine Hold.mk ?_|omega|with_reducible assumption|(simp only [InR] at *;omega)|skip))
  (refine awp_sr fun KK hKK => ?_; simp [go_sem]; ((repeat' (first|(refine ag_x ?_;simp [go_sem])|intro _|refine And.intro ?_ ?_|(apply hKK;clear hKK KK)));all_goals first|refine Hold.mk ?_|omega|with_reducible assumption|(simp only [InR] at *;omega)|skip))
  ((try refine CallT.toA ?_); refine callT_m (by first | exact .inl ⟨rfl, rfl⟩ | exact .inr rfl) (by simp [go_sem]) ?_; intro args ha; simp [go_sem] at ha; subst ha; refine ⟨_, counter_spec, ?_⟩; rintro _ rfl; simp [go_sem]; ((repeat' (first|(refine ag_x ?_;simp [go_sem])|intro _|refine And.intro ?_ ?_|(apply hKK;clear hKK KK)));all_goals first|refine Hold.mk ?_|omega|with_reducible assumption|(simp only [InR] at *;omega)|skip))
  ((try refine CallT.toA ?_); refine callT_z (by first | exact .inl ⟨rfl, rfl⟩ | exact .inr rfl) rfl (by simp [go_sem]) (by simp [go_sem]) ?_; intro args ha; simp [go_sem] at ha; subst ha; refine ⟨_, (run_spec ctrTr [0, 1, 0, 3] 10), ?_⟩; rintro _ rfl; simp [go_sem, ctr_run, ctr_fit]; ((repeat' (first|(refine ag_x ?_;simp [go_sem, ctr_run, ctr_fit])|intro _|refine And.intro ?_ ?_|(apply hKK;clear hKK KK)));all_goals first|refine Hold.mk ?_|omega|with_reducible assumption|(simp only [InR] at *;omega)|skip))
  (refine awp_sr fun KK hKK => ?_; simp [go_sem]; ((repeat' (first|(refine ag_x ?_;simp [go_sem])|intro _|refine And.intro ?_ ?_|(apply hKK;clear hKK KK)));all_goals first|refine Hold.mk ?_|omega|with_reducible assumption|(simp only [InR] at *;omega)|skip))
  (refine agc_f (dB true) (by first | exact .inl ⟨rfl, rfl⟩ | exact .inr rfl) ?_ rfl ?_; (intro hc args ha; simp [go_sem] at ha; subst ha; exact (ints_spec [3] [3])); simp [go_sem]; ((repeat' (first|(refine ag_x ?_;simp [go_sem])|intro _|refine And.intro ?_ ?_|(apply hKK;clear hKK KK)));all_goals first|refine Hold.mk ?_|omega|with_reducible assumption|(simp only [InR] at *;omega)|skip))
  (refine awp_ret ?_; simp [go_sem])
end Go.Proofs.YtmgbaegdkjcagaaDoor

set_option linter.unusedVariables false
namespace Go.Proofs.YtmgbaegdkjcagaaDoor
open Go.RowKit

theorem bX : Builder.Extra Tryd.prog Tryd.lays169_ren := Tryd.Builder_Extra_169
set_option maxHeartbeats 1000000 in
set_option maxRecDepth 100000 in
theorem cc_used (b : Nat) (w : World) (h0 : w.cell? ⟨b, 0, none⟩ = some (.pointer (some ⟨b, 0, none⟩))) :
    Calls Tryd.prog 40 #[.pointer (some ⟨b, 0, none⟩)] w fun e w' => e = .returned (.tuple #[]) ∧ w' = w := by
  obtain ⟨j, hj, _⟩ := Option.map_eq_some_iff.1 bX.sizeBuilder
  go_enter Tryd.func40, Tryd.ntmps40
  go_wp2
  rw [Lib.run_neq_ptr_same w _ Tryd.underlying53 hj]
  go_wp2
  go_end0
  exact ⟨rfl, rfl⟩
set_option maxHeartbeats 1000000 in
set_option maxRecDepth 100000 in
theorem cc_fresh (b : Nat) (w : World) (h0 : w.cell? ⟨b, 0, none⟩ = some (.pointer none)) (hsh : w.shape? b = some (56, 2)) (hfz : w.frozen? ⟨b, 0, none⟩ = false) :
    Calls Tryd.prog 40 #[.pointer (some ⟨b, 0, none⟩)] w fun e w' => e = .returned (.tuple #[]) ∧ w' = w.setCell ⟨b, 0, none⟩ (.pointer (some ⟨b, 0, none⟩)) := by
  obtain ⟨j, hj, hjs⟩ := Option.map_eq_some_iff.1 bX.sizeBuilder
  go_enter Tryd.func40, Tryd.ntmps40
  go_wp2
  rw [Lib.run_to_unsafe w ⟨b, 0, none⟩ Tryd.underlying53 Tryd.underlying100 hj (by rw [hjs]; decide) hsh (Nat.zero_lt_succ 1)]
  simp only [Result.andThen]
  rw [Oper.upon_value]
  go_wp2
  rw [run_callFunc_extern Tryd.func55 (by kernel_rfl) (by kernel_rfl) (by kernel_rfl) (e := Extern.AbiNoEscape.same) (by kernel_rfl)]
  rw [Lib.run_noEscape]
  simp only [Result.andThen]
  rw [Oper.upon_value]
  go_wp2
  rw [Lib.run_from_unsafe w ⟨b, 0, none⟩ Tryd.underlying100 Tryd.underlying53 hj hsh bX.liesBuilder]
  simp only [Result.andThen]
  rw [Oper.upon_value]
  go_wp2
  go_end0
  exact ⟨rfl, rfl⟩

section
variable {P : Program} {w : World}
/-- the append of a string to the row of a builder: the row stays where it was, or is new -/
theorem app_exact (t u e : TypeId) (i : TypeInfo) (ht : P.underlying t = some (.slice e)) (hu : P.underlying u = some .string) (hi : P.info? e = some i) (hz : i.zero = some (.int .u8 0))
    (hsize : i.size = 1) (hby : i.bytes = 1) (v : Value) (n : Nat) (xs : List Value) (hown : w.ownsRowF 0 e 1 v n xs) (s : ByteArray) (h63 : n + s.size ≤ maxLen) (hbytes : n + s.size ≤ 140737488355328) :
    ∃ v' w', (∀ ty, (Builtin.append_ #[t, u] ty #[v, .string s]).run P w = .ok v' w') ∧ w'.ownsRowF 0 e 1 v' (n + s.size) (xs ++ Lib.strCells s) ∧ w.grownBy w' v.ownBlock ∧
      (v'.ownBlock = v.ownBlock ∨ ∀ k, v'.ownBlock = some k → w.heap.size ≤ k) := by
  obtain ⟨v', w', h1, h2, h3, _⟩ := Lib.run_append_own_stringF (P := P) w 0 t u t e i ht hu hi hz hsize hby v n xs hown s h63 hbytes (Nat.zero_le _)
  refine ⟨v', w', fun _ => h1, h2, h3, ?_⟩
  have hsmall : n + s.size ≤ 9223372036854775807 := by simp only [maxLen] at h63; omega
  rcases hown.2 with ⟨rfl, rfl⟩ | ⟨g, cap, cur, fz, rfl, hbg, hg, hfz, hnc, hcm, hcs, htake⟩
  · obtain ⟨v2, w2, q1, q2, _, _⟩ := Lib.run_append_own_string (P := P) w w.heap.size t u t e i ht hu hi hz hsize hby (.slice none 0 0) 0 xs ⟨hown.1, .inl ⟨rfl, rfl⟩⟩ s h63 hbytes (Nat.le_refl _)
    rw [h1] at q1
    injection q1 with q1 q1'
    subst q1 q1'
    refine .inr fun k hk => ?_
    rcases q2.2 with ⟨hv, _⟩ | ⟨g, cap, cur, hv, hb, _⟩
    · rw [hv] at hk; cases hk
    · rw [hv] at hk
      simp only [Value.ownBlock, Option.some.injEq] at hk
      omega
  · have hxl : xs.length = n := by simpa using hown.1
    by_cases hroom : n + s.size ≤ cap
    · have hr := Lib.run_append_room_stringF (P := P) w t u t e i ht hu hi hsize g n cap cur fz hg (by simpa using hfz) s hroom (by omega)
      rw [h1] at hr
      injection hr with q1 q1'
      subst q1
      exact .inl rfl
    · have holds : ∀ j u, xs[j]? = some u → w.cell? ((⟨g, 0, none⟩ : Addr).add j) = some u := hown.cells (g := g) rfl
      have hr := Lib.run_append_grow_string (P := P) w t u t e i (.int .u8 0) ht hu hi hz ⟨g, 0, none⟩ n cap xs (by rw [hsize]; simpa using hxl) holds s (by omega) (by omega) (by rw [hby]; exact growslice_fits (by omega) (by omega))
      rw [h1] at hr
      injection hr with q1 q1'
      subst q1
      refine .inr fun k hk => ?_
      simp [Value.ownBlock] at hk
      omega
theorem wpList_app {ops : Array Oper} {rest : List Oper} {o : Oper} {a : Act} {Q : Exit → Act → World → Prop} (hgd : o.guard = none) (sl x : Operand) (t u : TypeId)
    (ho : o.op = .call { callee := .builtin .append, args := #[sl, x], argTypes := #[t, u] }) (v : Value) (hs : a.eval sl = v) (s : ByteArray) (hx : a.eval x = .string s)
    {v' : Value} {w' : World} (hr : ∀ ty, (Builtin.append_ #[t, u] ty #[v, .string s]).run P w = .ok v' w') (h : wpList P ops Q rest (a.put o.dst v') w') : wpList P ops Q (o :: rest) a w := by
  refine wpList_plain hgd fun K hK => ?_
  unfold Oper.wp execOp
  simp only [ho, resolve, invoke, builtin, Sem.run_bind, Sem.run_pure, Result.andThen_ok, List.map_toArray, List.map_cons, List.map_nil, hs, hx, hr]
  exact hK _ _ h
end
set_option maxHeartbeats 2000000 in
set_option maxRecDepth 100000 in
/-- WriteString turns nothing but the builder and its row -/
theorem ws_calls (b : Nat) (p v : Value) (l : List UInt8) (s : ByteArray) (w : World) (hb : w.heap[b]? = some (.cells #[p, v] 56 (0, 0))) (hp : p = .pointer none ∨ p = .pointer (some ⟨b, 0, none⟩))
    (hown : w.ownsRowF 0 5 1 v l.length (Lib.byteCells l)) (hne : v.ownBlock ≠ some b) (hlen : l.length + s.size ≤ 140737488355328) :
    Calls Tryd.prog 17 #[.pointer (some ⟨b, 0, none⟩), .string s] w fun e w' => e = .returned (.tuple #[.int .i64 s.size, .nilIface]) ∧
      ∃ v', w'.heap[b]? = some (.cells #[.pointer (some ⟨b, 0, none⟩), v'] 56 (0, 0)) ∧ w'.ownsRowF 0 5 1 v' (l.length + s.size) (Lib.byteCells l ++ Lib.strCells s) ∧
        (v'.ownBlock = v.ownBlock ∨ ∀ k, v'.ownBlock = some k → w.heap.size ≤ k) ∧ v'.ownBlock ≠ some b ∧
        w'.os = w.os ∧ w'.tape = w.tape ∧ w'.output = w.output ∧ w.heap.size ≤ w'.heap.size ∧ ∀ k, k < w.heap.size → k ≠ b → v.ownBlock ≠ some k → w'.heap[k]? = w.heap[k]? := by
  obtain ⟨i0, hi, hz0, hz1, hz2⟩ := info_parts bX.infoByte
  have hlt : b < w.heap.size := by
    rcases Nat.lt_or_ge b w.heap.size with h' | h'
    · exact h'
    · simp [Array.getElem?_eq_none h'] at hb
  have hcc : Calls Tryd.prog 40 #[.pointer (some ⟨b, 0, none⟩)] w fun e w' => e = .returned (.tuple #[]) ∧ w'.heap[b]? = some (.cells #[.pointer (some ⟨b, 0, none⟩), v] 56 (0, 0)) ∧ w'.os = w.os ∧ w'.tape = w.tape ∧ w'.output = w.output ∧ w'.heap.size = w.heap.size ∧
      ∀ k, k ≠ b → w'.heap[k]? = w.heap[k]? := by
    rcases hp with rfl | rfl
    · refine (cc_fresh b w (by rw [Lib.cell_of_heap hb]; rfl) (by simp [World.shape?, hb]) (Lib.frozen_of_heap hb 0)).mono ?_
      rintro e w' ⟨rfl, rfl⟩
      exact ⟨rfl, heap_setCell_same _ _ _ _ _ _ hb, rfl, rfl, rfl, by simp, fun k hk => heap_setCell_other _ _ _ _ hk⟩
    · refine (cc_used b w (by rw [Lib.cell_of_heap hb]; rfl)).mono ?_
      rintro e w' ⟨rfl, rfl⟩
      exact ⟨rfl, hb, rfl, rfl, rfl, rfl, fun _ _ => rfl⟩
  go_enter Tryd.func17, Tryd.ntmps17
  go_wp2_with (go_at_call 40; refine hcc.mono ?_)
  rintro e w1 ⟨rfl, hbk, ho1, ho2, ho3, hs1, hk1⟩
  have hown1 : w1.ownsRowF 0 5 1 v l.length (Lib.byteCells l) :=
    hown.kept (row := some b) ⟨ho1, ho2, ho3, by omega, fun k _ hk => hk1 k (fun e => hk (by simp [e]))⟩ (Or.inr hne)
  have c0 : w1.cell? ⟨b, 0, none⟩ = some (.pointer (some ⟨b, 0, none⟩)) := by rw [Lib.cell_of_heap hbk]; rfl
  have c1 : w1.cell? ⟨b, 1, none⟩ = some v := by rw [Lib.cell_of_heap hbk]; rfl
  obtain ⟨v', w2, hrun, hown', hgrow, hat⟩ := app_exact (P := Tryd.prog) (w := w1) 54 9 5 i0 Tryd.underlying54 Tryd.underlying9 hi hz0 hz1 hz2 v l.length _ hown1 s (by unfold maxLen; omega) hlen
  have hlt1 : b < w1.heap.size := by omega
  have hb2 : w2.heap[b]? = some (.cells #[.pointer (some ⟨b, 0, none⟩), v] 56 (0, 0)) := by
    rw [hgrow.block b hlt1 (fun e => hne e.symm)]
    exact hbk
  have d0 : w2.cell? ⟨b, 0, none⟩ = some (.pointer (some ⟨b, 0, none⟩)) := by rw [Lib.cell_of_heap hb2]; rfl
  have d1 : w2.cell? ⟨b, 1, none⟩ = some v := by rw [Lib.cell_of_heap hb2]; rfl
  have f1 : w2.frozen? ⟨b, 1, none⟩ = false := Lib.frozen_of_heap hb2 1
  have hne' : v'.ownBlock ≠ some b := by
    rcases hat with h | h
    · rw [h]; exact hne
    · intro e; have := h b e; omega
  obtain ⟨ao, n', cap, rfl⟩ : ∃ ao n' cap, v' = .slice ao n' cap := by
    rcases hown'.2 with ⟨hv, _⟩ | ⟨g, cap, cur, fz, hv, _⟩
    · exact ⟨_, _, _, hv⟩
    · exact ⟨_, _, _, hv⟩
  go_wp2_with (at_builtin; refine wpList_app rfl _ _ 54 9 rfl _ rfl s rfl hrun ?_)
  go_ret2
  refine ⟨rfl, _, heap_setCell_same _ _ _ _ _ _ hb2, ?_, ?_, hne', hgrow.os.trans ho1, hgrow.tape.trans ho2, hgrow.output.trans ho3, ?_, ?_⟩
  · exact hown'.kept (row := some b) ⟨rfl, rfl, rfl, by simp, fun k _ hk => heap_setCell_other _ _ _ _ (fun e => hk (by simp [e]))⟩ (Or.inr hne')
  · rcases hat with h | h
    · exact .inl h
    · exact .inr fun k hk => by have := h k hk; omega
  · have := hgrow.size; simp; omega
  · intro k hk hkb hkv
    rw [heap_setCell_other _ _ _ _ hkb, hgrow.block k (by omega) (fun e => hkv e.symm), hk1 k hkb]

theorem freeze_other (w : World) (ad : Addr) (m k : Nat) (h : k ≠ ad.block) : (w.freeze ad m).heap[k]? = w.heap[k]? := by
  unfold World.freeze
  by_cases hm : m = 0
  · simp [hm]
  · rw [if_neg hm]
    simp only [Array.getElem?_modify]
    rw [if_neg (fun e => h e.symm)]
theorem freeze_rest (w : World) (ad : Addr) (m : Nat) : (w.freeze ad m).heap.size = w.heap.size ∧ (w.freeze ad m).os = w.os ∧ (w.freeze ad m).tape = w.tape ∧ (w.freeze ad m).output = w.output := by
  unfold World.freeze
  by_cases hm : m = 0
  · simp [hm]
  · rw [if_neg hm]
    exact ⟨by simp, rfl, rfl, rfl⟩
set_option maxHeartbeats 2000000 in
set_option maxRecDepth 100000 in
/-- String of a Builder that holds a byte: its row's head is frozen, no more -/
theorem str_calls (b : Nat) (p v : Value) (l : List UInt8) (w : World) (hbk : w.heap[b]? = some (.cells #[p, v] 56 (0, 0))) (hown : w.ownsRowF 0 5 1 v l.length (Lib.byteCells l)) (hne : v.ownBlock ≠ some b) (h0 : l ≠ []) :
    Calls Tryd.prog 22 #[.pointer (some ⟨b, 0, none⟩)] w fun e w' => e = .returned (.string ⟨l.toArray⟩) ∧ w'.heap[b]? = some (.cells #[p, v] 56 (0, 0)) ∧ w'.ownsRowF 0 5 1 v l.length (Lib.byteCells l) ∧
      w'.os = w.os ∧ w'.tape = w.tape ∧ w'.output = w.output ∧ w.heap.size ≤ w'.heap.size ∧ ∀ k, k ≠ b → v.ownBlock ≠ some k → w'.heap[k]? = w.heap[k]? := by
  have hl0 : l.length ≠ 0 := by simpa using h0
  obtain ⟨g, cap, cur, fz, rfl, hbg, hg, hfz, hnc, hcm, hcs, htake⟩ : ∃ g cap cur fz, v = .slice (some ⟨g, 0, none⟩) l.length cap ∧ 0 ≤ g ∧ w.heap[g]? = some (.cells cur 5 fz) ∧ fz.2 ≤ l.length * 1 ∧ l.length ≤ cap ∧ cap ≤ maxLen ∧ cur.size = cap * 1 ∧ cur.toList.take (l.length * 1) = Lib.byteCells l := by
    rcases hown.2 with ⟨_, hz⟩ | ⟨g, cap, cur, fz, hv, r⟩
    · exact absurd hz hl0
    · exact ⟨g, cap, cur, fz, hv, r⟩
  have hgb : g ≠ b := fun e => hne (by simp [Value.ownBlock, e])
  have c1 : w.drew.cell? ⟨b, 1, none⟩ = some (.slice (some ⟨g, 0, none⟩) l.length cap) := by
    have : w.drew.heap[b]? = some (.cells #[p, .slice (some ⟨g, 0, none⟩) l.length cap] 56 (0, 0)) := hbk
    rw [Lib.cell_of_heap this]; rfl
  have hSD : (Builtin.unsafeSliceData_ #[54] 87 #[.slice (some ⟨g, 0, none⟩) l.length cap]).run Tryd.prog w.drew = .ok (.pointer (some ⟨g, 0, none⟩)) w.drew :=
    Lib.run_unsafeSliceData_row _ _ _ _ _ _ (by omega)
  have hUS : (Builtin.unsafeString_ #[87, 3] 9 #[.pointer (some ⟨g, 0, none⟩), .int .i64 l.length]).run Tryd.prog w.drew = .ok (.string ⟨l.toArray⟩) (w.drew.freeze ⟨g, 0, none⟩ l.length) := by
    refine Lib.run_unsafeString_row w.drew 87 3 9 5 Tryd.underlying87 bX.cellsByte g cur.size (by have hg' : w.drew.heap[g]? = some (.cells cur 5 fz) := hg; simp [World.shape?, hg']) l h0 (by omega) (by unfold maxLen at hcm; omega) ?_
    intro j x hx
    have := hown.cells (g := g) rfl j (.int .u8 x.toNat) (by simp [Lib.byteCells, hx])
    exact this
  have hA : Lib.BuilderAtF 56 5 0 b p (Lib.byteCells l) w.drew := ⟨Nat.zero_le _, _, hbk, by rw [Lib.byteCells_length]; exact hown, hne⟩
  have hF := hA.froze (g := g) (cap := cap) (by rw [Lib.byteCells_length]; exact c1)
  rw [Lib.byteCells_length] at hF
  obtain ⟨_, v', hb', hown', _⟩ := hF
  rw [Lib.byteCells_length] at hown'
  have hb2 : (w.drew.freeze ⟨g, 0, none⟩ l.length).heap[b]? = some (.cells #[p, .slice (some ⟨g, 0, none⟩) l.length cap] 56 (0, 0)) := (freeze_other _ _ _ _ (fun e => hgb e.symm)).trans hbk
  have hv : v' = .slice (some ⟨g, 0, none⟩) l.length cap := by
    rw [hb2] at hb'
    simp at hb'
    exact hb'.symm
  subst hv
  obtain ⟨f1, f2, f3, f4⟩ := freeze_rest w.drew ⟨g, 0, none⟩ l.length
  have hend : ∀ k, k ≠ b → (Value.slice (some ⟨g, 0, none⟩) l.length cap).ownBlock ≠ some k → (w.drew.freeze ⟨g, 0, none⟩ l.length).heap[k]? = w.heap[k]? :=
    fun k _ hk => freeze_other _ _ _ _ (fun e => hk (by simp [Value.ownBlock, e]))
  have mixed := Tryd.lays169.mixed
  go_enter Tryd.func22, Tryd.ntmps22
  go_wp2
  go_region_o
  all_goals (go_wp2; go_ret; exact ⟨rfl, hb2, hown', f2, f3, f4, Nat.le_of_eq f1.symm, hend⟩)
end Go.Proofs.YtmgbaegdkjcagaaDoor

set_option linter.unusedVariables false
namespace Go.Proofs.YtmgbaegdkjcagaaDoor
open Go.Eng
set_option maxRecDepth 20000

theorem strCells_eq (s : List UInt8) : Lib.strCells ⟨s.toArray⟩ = Lib.byteCells s := by
  simp [Lib.strCells, Lib.byteCells]
/-- WriteString -/
theorem ws_spec (nb nr gb gr : Nat) (l s : List UInt8) (h1 : 900000 ≤ nb) (h2 : 900000 ≤ nr) (hd : nb ≠ nr) (hlen : l.length + s.length ≤ 140737488355328) :
    ACall Tryd.prog 17 [.ptr nb gb 0, dS s] [(nb, (gb, .bld 56 nr gr)), (nr, (gr, .brow 5 l))] [nb, nr] fun ps r => ∃ gr', ps = [(gb, .bld 56 nr gr'), (gr', .brow 5 (l ++ s))] ∧ r = .tup [dI s.length, .v .nilIface] := by
  refine acall_bld (xs := [.string ⟨s.toArray⟩]) (x := .tuple #[.int .i64 s.length, .nilIface]) ⟨_, Tryd.func17, rfl, rfl⟩ h1 h2 hd (fun C w => ?_) fun b p v w _ hb hp hown hne => ?_
  · refine .tup _ _ rfl fun j c u hc hu => ?_
    match j, hc, hu with
    | 0, hc, hu => simp at hc hu; subst hc hu; exact .v _
    | 1, hc, hu => simp at hc hu; subst hc hu; exact .v _
    | j + 2, hc, hu => simp at hc
  · refine (ws_calls b p v l ⟨s.toArray⟩ w hb hp hown hne (by simpa [ByteArray.size] using hlen)).mono ?_
    rintro e w' ⟨he, v', q1, q2, q3, q4, q5, q6, q7, q8, q9⟩
    refine ⟨by simpa [ByteArray.size] using he, _, v', q1, .inr rfl, ?_, q3, q4, q5, q6, q7, q8, q9⟩
    rw [strCells_eq] at q2
    simpa [ByteArray.size, Lib.byteCells] using q2
/-- String, of a Builder that holds a byte -/
theorem str_spec (nb nr gb gr : Nat) (l : List UInt8) (h1 : 900000 ≤ nb) (h2 : 900000 ≤ nr) (hd : nb ≠ nr) (h0 : l ≠ []) :
    ACall Tryd.prog 22 [.ptr nb gb 0] [(nb, (gb, .bld 56 nr gr)), (nr, (gr, .brow 5 l))] [nb, nr] fun ps r => ∃ gr', ps = [(gb, .bld 56 nr gr'), (gr', .brow 5 l)] ∧ r = dS l := by
  refine acall_bld (xs := []) (x := .string ⟨l.toArray⟩) ⟨_, Tryd.func22, rfl, rfl⟩ h1 h2 hd (fun C w => .v _) fun b p v w _ hb hp hown hne => ?_
  refine (str_calls b p v l w hb hown hne h0).mono ?_
  rintro e w' ⟨he, q1, q2, q3, q4, q5, q6, q7⟩
  exact ⟨he, p, v, q1, hp, q2, .inl rfl, hne, q3, q4, q5, q6, fun k _ => q7 k⟩
end Go.Proofs.YtmgbaegdkjcagaaDoor

namespace Go.Proofs.YtmgbaegdkjcagaaDoor
open Go.Eng
set_option maxRecDepth 20000
set_option linter.unusedSimpArgs false

@[go_sem] abbrev cS (l : List UInt8) : List D := [dS l]
@[go_sem] abbrev dSs (l : List (List UInt8)) : D := .sl 1 (l.map cS)
def namesL : List (List UInt8) := [[115, 101, 116], [109, 111, 118, 101], [97, 100, 100], [115, 117, 98], [109, 117, 108], [100, 105, 118], [109, 111, 100], [108, 101, 115, 115], [115, 97, 109, 101], [103, 117, 97, 114, 100], [116, 101, 108, 108]]
def nmAt (op : Int) : List UInt8 := namesL.getD op.toNat []
def fldB (i : Ins) (l : List UInt8) : List UInt8 := l.flatMap fun c => 32 :: Lib.itoa (fVal i c.toNat)
def slB (l : List Int) : List UInt8 := l.flatMap fun s => 32 :: Lib.itoa s
def insL (i : Ins) : List UInt8 := nmAt i.op ++ fldB i (flds i.op)
def exiL (x : Exi) : List UInt8 := [101, 120, 105, 116, 32] ++ Lib.itoa x.back ++ slB x.slots
def regL (t : Tr) : List UInt8 := [114, 101, 103, 115, 32] ++ Lib.itoa t.regs
def codeB (l : List Ins) : List UInt8 := l.flatMap fun i => insL i ++ [10]
def exitsB (l : List Exi) : List UInt8 := l.flatMap fun x => exiL x ++ [10]
def textV (t : Tr) : List UInt8 := regL t ++ [10] ++ codeB t.code ++ exitsB t.exits
def lineS (t : Tr) : List (List UInt8) := regL t :: (t.code.map insL ++ t.exits.map exiL)
/-- all places where the plain evaluator goes on are ints -/
def bkOk (t : Tr) : Prop := ∀ x ∈ t.exits, InR x.back

/-! the text's lines -/
theorem nm_no (op : Int) (h0 : 0 ≤ op) (h1 : op ≤ 10) : (10 : UInt8) ∉ nmAt op ∧ (32 : UInt8) ∉ nmAt op ∧ nmAt op ≠ [101, 120, 105, 116] ∧ nmAt op ≠ [114, 101, 103, 115] := by
  have hk : op = 0 ∨ op = 1 ∨ op = 2 ∨ op = 3 ∨ op = 4 ∨ op = 5 ∨ op = 6 ∨ op = 7 ∨ op = 8 ∨ op = 9 ∨ op = 10 := by omega
  rcases hk with h | h | h | h | h | h | h | h | h | h | h <;> subst h <;> decide
theorem fldB_no (i : Ins) (l : List UInt8) : (10 : UInt8) ∉ fldB i l := by
  unfold fldB
  intro h
  rw [List.mem_flatMap] at h
  obtain ⟨c, _, h⟩ := h
  rw [List.mem_cons] at h
  rcases h with h | h
  · cases h
  · exact itoa_no _ 10 (by decide) h
theorem slB_no (l : List Int) : (10 : UInt8) ∉ slB l := by
  unfold slB
  intro h
  rw [List.mem_flatMap] at h
  obtain ⟨c, _, h⟩ := h
  rw [List.mem_cons] at h
  rcases h with h | h
  · cases h
  · exact itoa_no _ 10 (by decide) h
theorem insL_no (i : Ins) (h0 : 0 ≤ i.op) (h1 : i.op ≤ 10) : (10 : UInt8) ∉ insL i := by
  unfold insL
  rw [List.mem_append]
  rintro (h | h)
  · exact (nm_no _ h0 h1).1 h
  · exact fldB_no _ _ h
theorem exiL_no (x : Exi) : (10 : UInt8) ∉ exiL x := by
  unfold exiL
  rw [List.mem_append, List.mem_append]
  rintro ((h | h) | h)
  · revert h; decide
  · exact itoa_no _ 10 (by decide) h
  · exact slB_no _ h
theorem regL_no (t : Tr) : (10 : UInt8) ∉ regL t := by
  unfold regL
  rw [List.mem_append]
  rintro (h | h)
  · revert h; decide
  · exact itoa_no _ 10 (by decide) h
theorem spl_exits : ∀ (l : List Exi), spl 10 (exitsB l) = l.map exiL ++ [[]]
  | [] => rfl
  | x :: l => by
    show spl 10 ((exiL x ++ [10]) ++ exitsB l) = _
    rw [List.append_assoc, List.cons_append, List.nil_append, spl_app 10 _ (exiL_no x), spl_exits l]
    rfl
theorem spl_code (e : List Exi) : ∀ (l : List Ins), (∀ i ∈ l, 0 ≤ i.op ∧ i.op ≤ 10) → spl 10 (codeB l ++ exitsB e) = l.map insL ++ (e.map exiL ++ [[]])
  | [], _ => by simpa [codeB] using spl_exits e
  | i :: l, h => by
    show spl 10 (((insL i ++ [10]) ++ codeB l) ++ exitsB e) = _
    have hi := h i (by simp)
    rw [List.append_assoc, List.append_assoc, List.cons_append, List.nil_append, spl_app 10 _ (insL_no i hi.1 hi.2), spl_code e l (fun j hj => h j (by simp [hj]))]
    rfl
theorem insOk_op {regs nex : Int} {i : Ins} (h : insOk regs nex i = true) : 0 ≤ i.op ∧ i.op ≤ 10 := by
  rw [← insR_eq] at h
  simp [insR] at h
  exact h.1
theorem trOk_code {t : Tr} (h : trOk t = true) : ∀ i ∈ t.code, insOk t.regs t.exits.length i = true := by
  simp only [trOk, Bool.and_eq_true, List.all_eq_true] at h
  exact h.1.2
theorem trOk_exits {t : Tr} (h : trOk t = true) : ∀ x ∈ t.exits, exOk t.regs x = true := by
  simp only [trOk, Bool.and_eq_true, List.all_eq_true] at h
  exact h.2
theorem trOk_sizes {t : Tr} (h : trOk t = true) : 1 ≤ t.regs ∧ t.regs ≤ 20 ∧ t.code.length ≤ 60 ∧ t.exits.length ≤ 10 := by
  simp only [trOk, Bool.and_eq_true, decide_eq_true_eq] at h
  omega
theorem spl_text {t : Tr} (h : trOk t = true) : (spl 10 (textV t)).dropLast = lineS t := by
  unfold textV
  rw [List.append_assoc, List.append_assoc, List.cons_append, List.nil_append, spl_app 10 _ (regL_no t), spl_code _ _ (fun i hi => insOk_op (trOk_code h i hi)), ← List.append_assoc, ← List.cons_append, List.dropLast_concat]
  rfl

/-! the words of a line -/
theorem spl_sl : ∀ (l : List Int) (x : List UInt8), (32 : UInt8) ∉ x → spl 32 (x ++ slB l) = x :: l.map Lib.itoa
  | [], x, h => by simpa [slB] using spl_one 32 h
  | s :: l, x, h => by
    show spl 32 (x ++ ((32 :: Lib.itoa s) ++ slB l)) = _
    rw [List.cons_append, spl_app 32 _ h, spl_sl l _ (itoa_no s 32 (by decide))]
    rfl
theorem fldB_eq (i : Ins) (l : List UInt8) : fldB i l = slB (l.map fun c => fVal i c.toNat) := by
  unfold fldB slB
  rw [List.flatMap_map]
theorem spl_ins {i : Ins} (h0 : 0 ≤ i.op) (h1 : i.op ≤ 10) : spl 32 (insL i) = nmAt i.op :: ((flds i.op).map fun c => fVal i c.toNat).map Lib.itoa := by
  unfold insL
  rw [fldB_eq, spl_sl _ _ (nm_no _ h0 h1).2.1]
theorem spl_exi (x : Exi) : spl 32 (exiL x) = [101, 120, 105, 116] :: (x.back :: x.slots).map Lib.itoa := by
  have : exiL x = [101, 120, 105, 116] ++ slB (x.back :: x.slots) := by simp [exiL, slB]
  rw [this, spl_sl _ _ (by decide)]
theorem spl_reg (t : Tr) : spl 32 (regL t) = [114, 101, 103, 115] :: [t.regs].map Lib.itoa := by
  have : regL t = [114, 101, 103, 115] ++ slB [t.regs] := by simp [regL, slB]
  rw [this, spl_sl _ _ (by decide)]

/-! numbers -/
def numsV : List (List UInt8) → Option (List Int)
  | [] => some []
  | s :: r => match Lib.atoiAll s with
    | .ok v => (numsV r).map (v :: ·)
    | _ => none
theorem numsV_app : ∀ (a b : List (List UInt8)), numsV (a ++ b) = (numsV a).bind fun x => (numsV b).map (x ++ ·)
  | [], b => by simp [numsV]
  | s :: a, b => by
    simp only [List.cons_append, numsV]
    cases Lib.atoiAll s with
    | ok v => simp only [numsV_app a b]; cases numsV a <;> simp; cases numsV b <;> simp
    | range => rfl
    | _ => rfl
theorem numsV_step {l : List (List UInt8)} {k : Nat} {n : List Int} {s : List UInt8} {v : Int} (h : numsV (l.take k) = some n) (hs : l[k]? = some s) (hv : Lib.atoiAll s = .ok v) : numsV (l.take (k + 1)) = some (n ++ [v]) := by
  rw [List.take_add_one, hs, numsV_app, h]
  simp [numsV, hv]
theorem numsV_none {l : List (List UInt8)} {k : Nat} {s : List UInt8} (hs : l[k]? = some s) (hv : ∀ v, Lib.atoiAll s ≠ .ok v) : numsV l = none := by
  obtain ⟨hk, rfl⟩ := List.getElem?_eq_some_iff.1 hs
  have e : l = l.take k ++ (l[k] :: l.drop (k + 1)) := by rw [← List.drop_eq_getElem_cons hk, List.take_append_drop]
  rw [e, numsV_app]
  have : numsV (l[k] :: l.drop (k + 1)) = none := by
    cases hc : Lib.atoiAll l[k] with
    | ok v => exact absurd hc (hv v)
    | range => simp [numsV, hc]
    | _ => simp [numsV, hc]
  rw [this]
  cases numsV (l.take k) <;> rfl
theorem numsV_itoa : ∀ (l : List Int), (∀ x ∈ l, InR x) → numsV (l.map Lib.itoa) = some l
  | [], _ => rfl
  | x :: l, h => by
    simp only [List.map_cons, numsV]
    rw [atoi_itoa (h x (by simp)), numsV_itoa l (fun y hy => h y (by simp [hy]))]
    rfl
theorem atoi_inr {s : List UInt8} {v : Int} (h : Lib.atoiAll s = .ok v) : InR v := by
  unfold Lib.atoiAll at h
  cases s with
  | nil => cases h
  | cons c r =>
    simp only at h
    cases hp : Lib.parseMag (if c.toNat = 43 ∨ c.toNat = 45 then r else c :: r) with
    | ok u =>
      rw [hp] at h
      simp only at h
      split at h
      · cases h
      · split at h
        · cases h
        · simp only [Lib.NumEnd.ok.injEq] at h
          simp only [InR]
          split at h <;> omega
    | _ => rw [hp] at h; cases h
theorem numsV_inr : ∀ {l : List (List UInt8)} {n : List Int}, numsV l = some n → ∀ x ∈ n, InR x
  | [], n, h, x, hx => by simp [numsV] at h; subst h; simp at hx
  | s :: l, n, h, x, hx => by
    simp only [numsV] at h
    cases hv : Lib.atoiAll s with
    | ok v =>
      rw [hv] at h
      simp only [Option.map_eq_some_iff] at h
      obtain ⟨m, hm, rfl⟩ := h
      simp at hx
      rcases hx with rfl | hx
      · exact atoi_inr hv
      · exact numsV_inr hm x hx
    | _ => rw [hv] at h; cases h

/-! an instruction out of its numbers -/
def setF (i : Ins) (c v : Int) : Ins := if c = 68 then { i with d := v } else if c = 65 then { i with a := v } else if c = 66 then { i with b := v } else if c = 78 then { i with n := v } else { i with x := v }
def setFs (i : Ins) (l : List (UInt8 × Int)) : Ins := l.foldl (fun i p => setF i p.1.toNat p.2) i
def mkIns (op : Int) (n : List Int) : Ins := setFs ⟨op, 0, 0, 0, 0, 0⟩ ((flds op).zip n)
theorem mkIns_back {regs nex : Int} {i : Ins} (h : insOk regs nex i = true) : mkIns i.op ((flds i.op).map fun c => fVal i c.toNat) = i := by
  obtain ⟨op, d, a, b, n, x⟩ := i
  obtain ⟨h0, h1⟩ := insOk_op h
  simp only at h0 h1
  have hk : op = 0 ∨ op = 1 ∨ op = 2 ∨ op = 3 ∨ op = 4 ∨ op = 5 ∨ op = 6 ∨ op = 7 ∨ op = 8 ∨ op = 9 ∨ op = 10 := by omega
  rcases hk with e | e | e | e | e | e | e | e | e | e | e <;> subst e <;> simp [insOk, ltr, fOk, fVal, flds, isB] at h <;> simp [mkIns, setFs, setF, flds, fVal] <;> omega
theorem fVal_inr {regs nex : Int} {i : Ins} (h : insOk regs nex i = true) (hr : regs ≤ 20) (hn : nex ≤ 10) : ∀ x ∈ (flds i.op).map (fun c => fVal i c.toNat), InR x := by
  obtain ⟨op, d, a, b, n, x⟩ := i
  obtain ⟨h0, h1⟩ := insOk_op h
  simp only at h0 h1
  have hk : op = 0 ∨ op = 1 ∨ op = 2 ∨ op = 3 ∨ op = 4 ∨ op = 5 ∨ op = 6 ∨ op = 7 ∨ op = 8 ∨ op = 9 ∨ op = 10 := by omega
  rcases hk with e | e | e | e | e | e | e | e | e | e | e <;> subst e <;> simp [insOk, ltr, fOk, fVal, flds, isB, isW] at h <;> simp [flds, fVal, InR] <;> omega

/-! the program's parse -/
def opV (w : List UInt8) : Int := fidx (fun x => decide (x = w)) namesL
def lineN (t : Tr) (w : List UInt8) (n : List Int) : Option Tr :=
  if w = [101, 120, 105, 116] then (match n with
    | [] => none
    | b :: sl => some { t with exits := t.exits ++ [⟨b, sl⟩] })
  else if opV w < 0 ∨ n.length ≠ (flds (opV w)).length then none
  else some { t with code := t.code ++ [mkIns (opV w) n] }
def lineV (t : Tr) (ws : List (List UInt8)) : Option Tr :=
  match numsV ws.tail with
  | none => none
  | some n => lineN t (ws.headD []) n
def goP : Bool → List (List UInt8) → Tr → Option Tr
  | _, [], t => some t
  | true, l :: r, t => match Lib.atoiAll (Lib.trimPrefix l [114, 101, 103, 115, 32]) with
    | .ok v => goP false r { t with regs := v }
    | _ => none
  | false, l :: r, t => match lineV t (spl 32 l) with
    | some t' => goP false r t'
    | none => none
theorem opV_nm (op : Int) (h0 : 0 ≤ op) (h1 : op ≤ 10) : opV (nmAt op) = op := by
  have hk : op = 0 ∨ op = 1 ∨ op = 2 ∨ op = 3 ∨ op = 4 ∨ op = 5 ∨ op = 6 ∨ op = 7 ∨ op = 8 ∨ op = 9 ∨ op = 10 := by omega
  rcases hk with h | h | h | h | h | h | h | h | h | h | h <;> subst h <;> decide
theorem lineV_ins {regs nex : Int} {i : Ins} (h : insOk regs nex i = true) (hr : regs ≤ 20) (hn : nex ≤ 10) (t : Tr) : lineV t (spl 32 (insL i)) = some { t with code := t.code ++ [i] } := by
  obtain ⟨h0, h1⟩ := insOk_op h
  unfold lineV
  rw [spl_ins h0 h1]
  simp only [List.tail_cons, List.headD_cons]
  rw [numsV_itoa _ (fVal_inr h hr hn)]
  simp only [lineN]
  rw [if_neg (nm_no _ h0 h1).2.2.1, opV_nm _ h0 h1, if_neg (by simp; omega), mkIns_back h]
theorem lineV_exi {x : Exi} {regs : Int} (h : exOk regs x = true) (hr : regs ≤ 20) (hb : InR x.back) (t : Tr) : lineV t (spl 32 (exiL x)) = some { t with exits := t.exits ++ [x] } := by
  unfold lineV
  rw [spl_exi]
  simp only [List.tail_cons, List.headD_cons]
  rw [numsV_itoa _ (by
    intro y hy
    simp at hy
    rcases hy with rfl | hy
    · exact hb
    · simp [exOk, slotBad] at h
      have := h.2 y hy
      simp [InR]; omega)]
  simp [lineN]
theorem goP_exits {regs : Int} (hr : regs ≤ 20) : ∀ (l : List Exi) (t : Tr), (∀ x ∈ l, exOk regs x = true ∧ InR x.back) → goP false (l.map exiL) t = some { t with exits := t.exits ++ l }
  | [], t, _ => by simp [goP]
  | x :: l, t, h => by
    simp only [List.map_cons, goP]
    rw [lineV_exi (h x (by simp)).1 hr (h x (by simp)).2]
    simp only
    rw [goP_exits hr l _ (fun y hy => h y (by simp [hy]))]
    simp
theorem goP_code {regs nex : Int} (hr : regs ≤ 20) (hn : nex ≤ 10) (r : List (List UInt8)) : ∀ (l : List Ins) (t : Tr), (∀ i ∈ l, insOk regs nex i = true) → goP false (l.map insL ++ r) t = goP false r { t with code := t.code ++ l }
  | [], t, _ => by simp
  | i :: l, t, h => by
    simp only [List.map_cons, List.cons_append, goP]
    rw [lineV_ins (h i (by simp)) hr hn]
    simp only
    rw [goP_code hr hn r l _ (fun y hy => h y (by simp [hy]))]
    simp
theorem goP_text {t : Tr} (h : trOk t = true) (hb : bkOk t) : goP true (lineS t) ⟨0, [], []⟩ = some t := by
  have hs := trOk_sizes h
  unfold lineS
  simp only [goP]
  have e : Lib.trimPrefix (regL t) [114, 101, 103, 115, 32] = Lib.itoa t.regs := by
    unfold Lib.trimPrefix Lib.hasPrefix regL
    rw [if_pos (by simp [List.isPrefixOf])]
    simp
  rw [e, atoi_itoa (by simp [InR]; omega)]
  simp only
  rw [goP_code (regs := t.regs) (nex := t.exits.length) hs.2.1 (by omega) _ _ _ (trOk_code h), goP_exits hs.2.1 _ _ (fun x hx => ⟨trOk_exits h x hx, hb x hx⟩)]
  simp
/-- what Parse answers -/
def parseR (g : Option Tr) (s : List UInt8) : Tr × Int := match g with
  | some t => if trOk t && decide (textV t = s) then (t, 0) else (⟨0, [], []⟩, 1)
  | none => (⟨0, [], []⟩, 1)
def parseV (s : List UInt8) : Tr × Int := parseR (goP true (spl 10 s).dropLast ⟨0, [], []⟩) s
theorem lineV_bk {t t' : Tr} {ws : List (List UInt8)} (h : lineV t ws = some t') (hb : bkOk t) : bkOk t' := by
  unfold lineV at h
  cases hn : numsV ws.tail with
  | none => rw [hn] at h; cases h
  | some n =>
    rw [hn] at h
    simp only [lineN] at h
    split at h
    · cases n with
      | nil => cases h
      | cons b sl =>
        simp only [Option.some.injEq] at h
        subst h
        intro x hx
        simp at hx
        rcases hx with hx | hx
        · exact hb x hx
        · subst hx; exact numsV_inr hn b (by simp)
    · split at h
      · cases h
      · simp only [Option.some.injEq] at h
        subst h
        exact hb
theorem lineV_len {t t' : Tr} {ws : List (List UInt8)} (h : lineV t ws = some t') : t'.code.length ≤ t.code.length + 1 ∧ t'.exits.length ≤ t.exits.length + 1 := by
  unfold lineV at h
  cases hn : numsV ws.tail with
  | none => rw [hn] at h; cases h
  | some n =>
    rw [hn] at h
    simp only [lineN] at h
    split at h
    · cases n with
      | nil => cases h
      | cons b sl =>
        simp only [Option.some.injEq] at h
        subst h
        simp
    · split at h
      · cases h
      · simp only [Option.some.injEq] at h
        subst h
        simp
theorem goP_bk : ∀ {l : List (List UInt8)} {f : Bool} {t t' : Tr}, goP f l t = some t' → bkOk t → bkOk t'
  | [], f, t, t', h, hb => by simp [goP] at h; subst h; exact hb
  | l :: r, true, t, t', h, hb => by
    simp only [goP] at h
    split at h
    · exact goP_bk h hb
    · cases h
  | l :: r, false, t, t', h, hb => by
    simp only [goP] at h
    split at h
    · rename_i t1 h1
      exact goP_bk h (lineV_bk h1 hb)
    · cases h
theorem parseV_text {t : Tr} (h : trOk t = true) (hb : bkOk t) : parseV (textV t) = (t, 0) := by
  unfold parseV
  rw [spl_text h, goP_text h hb]
  simp [parseR, h]
end Go.Proofs.YtmgbaegdkjcagaaDoor

namespace Go.Proofs.YtmgbaegdkjcagaaDoor
open Go.Eng
set_option maxRecDepth 20000
set_option linter.unusedSimpArgs false

/-! the reference's numbers -/
def numLoop : List UInt8 → Int → Option Int
  | [], n => some n
  | c :: r, n => if (c.toNat : Int) - 48 < 0 ∨ 9 < (c.toNat : Int) - 48 ∨ n < (-9223372036854775808 + ((c.toNat : Int) - 48)).tdiv 10 then none else numLoop r (n * 10 - ((c.toNat : Int) - 48))
def negV (n : Int) : Int := if n = -9223372036854775808 then n else -n
def numR (s : List UInt8) : Option Int :=
  if Lib.trimPrefix s [45] = [] ∨ 19 < (Lib.trimPrefix s [45]).length then none else match numLoop (Lib.trimPrefix s [45]) 0 with
    | none => none
    | some n => if Lib.itoa (if Lib.trimPrefix s [45] = s then negV n else n) = s then some (if Lib.trimPrefix s [45] = s then negV n else n) else none
theorem numLoop_app : ∀ (l r : List UInt8) (n : Int), numLoop (l ++ r) n = (numLoop l n).bind (numLoop r)
  | [], r, n => rfl
  | c :: l, r, n => by
    simp only [List.cons_append, numLoop]
    split
    · rfl
    · exact numLoop_app l r _
theorem numLoop_dec (u : Nat) : u ≤ 9223372036854775808 → numLoop (Lib.decDigits u) 0 = some (-(u : Int)) := by
  induction u using Nat.strongRecOn with
  | _ u ih =>
    intro hu
    rw [Lib.decDigits]
    by_cases h : u < 10
    · rw [dif_pos h]
      simp only [numLoop]
      rw [ofNat_toNat (by omega)]
      have e : ((48 + u : Nat) : Int) - 48 = u := by omega
      rw [e, if_neg]
      · congr 1; omega
      · have : ((-9223372036854775808 + (u : Int)).tdiv 10) ≤ -922337203685477579 := by
          have := Int.tmod_add_mul_tdiv (-9223372036854775808 + (u : Int)) 10
          have := tmod_bound (-9223372036854775808 + (u : Int)) 10 (by omega)
          simp [ab] at this
          omega
        omega
    · rw [dif_neg h, numLoop_app, ih (u / 10) (by omega) (by omega)]
      simp only [Option.bind_some, numLoop]
      rw [ofNat_toNat (by omega)]
      have e : ((48 + u % 10 : Nat) : Int) - 48 = (u % 10 : Nat) := by omega
      rw [e, if_neg]
      · congr 1; omega
      · have h1 := Int.tmod_add_mul_tdiv (-9223372036854775808 + ((u % 10 : Nat) : Int)) 10
        have h2 := tmod_bound (-9223372036854775808 + ((u % 10 : Nat) : Int)) 10 (by omega)
        rw [show ab 10 = 10 from rfl] at h2
        omega
theorem trim_minus (n : Int) (h : InR n) : Lib.trimPrefix (Lib.itoa n) [45] = Lib.decDigits n.natAbs ∧ ((Lib.trimPrefix (Lib.itoa n) [45] = Lib.itoa n) ↔ 0 ≤ n) := by
  have hm := dec_mem n.natAbs
  have hne := dec_ne n.natAbs
  unfold Lib.trimPrefix Lib.hasPrefix Lib.itoa
  by_cases hn : n < 0
  · rw [if_pos hn, if_pos (by simp [List.isPrefixOf])]
    refine ⟨rfl, ?_⟩
    simp only [List.length_singleton, List.drop_succ_cons, List.drop_zero]
    constructor
    · intro he
      have := congrArg List.length he
      simp at this
    · intro h0; omega
  · have e : n.toNat = n.natAbs := by omega
    rw [if_neg hn, e]
    have hp : ([45] : List UInt8).isPrefixOf (Lib.decDigits n.natAbs) = false := by
      cases hd : Lib.decDigits n.natAbs with
      | nil => exact absurd hd hne
      | cons c r =>
        have := hm c (by rw [hd]; simp)
        simp only [List.isPrefixOf, Bool.and_true, beq_eq_false_iff_ne]
        intro h45
        rw [← h45] at this
        revert this; decide
    rw [hp]
    simp
    omega
theorem dec_len (u : Nat) (h : u ≤ 9223372036854775808) : (Lib.decDigits u).length ≤ 19 := by
  rw [Lib.decDigits_length]
  have : ∀ k, ∀ u, u < 10 ^ (k + 1) → Lib.nDigits u ≤ k + 1 := by
    intro k
    induction k with
    | zero => intro u hu; rw [Lib.nDigits_small (by simpa using hu)]; omega
    | succ k ih =>
      intro u hu
      by_cases h : u < 10
      · rw [Lib.nDigits_small h]; omega
      · rw [Lib.nDigits_big h]
        have := ih (u / 10) (by rw [Nat.div_lt_iff_lt_mul (by omega)]; rw [Nat.pow_succ] at hu; exact hu)
        omega
  exact this 18 u (by simp; omega)
theorem numR_itoa {n : Int} (h : InR n) : numR (Lib.itoa n) = some n := by
  obtain ⟨h1, h2⟩ := trim_minus n h
  unfold numR
  have hu : n.natAbs ≤ 9223372036854775808 := by simp [InR] at h; omega
  have hl := dec_len _ hu
  rw [if_neg (by rw [h1]; rintro (h | h); exact dec_ne _ h; omega)]
  rw [h1, numLoop_dec _ hu]
  simp only
  rw [← h1]
  by_cases h0 : 0 ≤ n
  · have e : negV (-(n.natAbs : Int)) = n := by unfold negV; simp [InR] at h; split <;> omega
    rw [if_pos (h2.2 h0), e, if_pos rfl]
  · rw [if_neg (fun he => h0 (h2.1 he)), if_pos (by congr 1; omega)]
    congr 1; omega
def numsR : List (List UInt8) → Option (List Int)
  | [] => some []
  | s :: r => match numR s with
    | some v => (numsR r).map (v :: ·)
    | none => none
theorem numsR_app : ∀ (a b : List (List UInt8)), numsR (a ++ b) = (numsR a).bind fun x => (numsR b).map (x ++ ·)
  | [], b => by simp [numsR]
  | s :: a, b => by
    simp only [List.cons_append, numsR]
    cases numR s with
    | some v => simp only [numsR_app a b]; cases numsR a <;> simp; cases numsR b <;> simp
    | none => rfl
theorem numsR_step {l : List (List UInt8)} {k : Nat} {n : List Int} {s : List UInt8} {v : Int} (h : numsR (l.take k) = some n) (hs : l[k]? = some s) (hv : numR s = some v) : numsR (l.take (k + 1)) = some (n ++ [v]) := by
  rw [List.take_add_one, hs, numsR_app, h]
  simp [numsR, hv]
theorem numsR_none {l : List (List UInt8)} {k : Nat} {s : List UInt8} (hs : l[k]? = some s) (hv : numR s = none) : numsR l = none := by
  obtain ⟨hk, rfl⟩ := List.getElem?_eq_some_iff.1 hs
  have e : l = l.take k ++ (l[k] :: l.drop (k + 1)) := by rw [← List.drop_eq_getElem_cons hk, List.take_append_drop]
  rw [e, numsR_app]
  have : numsR (l[k] :: l.drop (k + 1)) = none := by simp only [numsR, hv]
  rw [this]
  cases numsR (l.take k) <;> rfl
theorem numsR_itoa : ∀ (l : List Int), (∀ x ∈ l, InR x) → numsR (l.map Lib.itoa) = some l
  | [], _ => rfl
  | x :: l, h => by
    simp only [List.map_cons, numsR]
    rw [numR_itoa (h x (by simp)), numsR_itoa l (fun y hy => h y (by simp [hy]))]
    rfl
theorem itoa_inj {a b : Int} (ha : InR a) (hb : InR b) (h : Lib.itoa a = Lib.itoa b) : a = b := by
  have h1 := atoi_itoa ha
  rw [h, atoi_itoa hb] at h1
  simpa using h1.symm
theorem numLoop_inr : ∀ {l : List UInt8} {n m : Int}, numLoop l n = some m → -9223372036854775808 ≤ n → n ≤ 0 → -9223372036854775808 ≤ m ∧ m ≤ 0
  | [], n, m, h, h1, h2 => by simp [numLoop] at h; omega
  | c :: r, n, m, h, h1, h2 => by
    simp only [numLoop] at h
    split at h
    · cases h
    · rename_i hc
      have e1 := Int.tmod_add_mul_tdiv (-9223372036854775808 + ((c.toNat : Int) - 48)) 10
      have e2 := tmod_bound (-9223372036854775808 + ((c.toNat : Int) - 48)) 10 (by omega)
      simp [ab] at e2
      exact numLoop_inr h (by omega) (by omega)
theorem numR_inr {s : List UInt8} {v : Int} (h : numR s = some v) : InR v := by
  unfold numR at h
  by_cases hc : Lib.trimPrefix s [45] = [] ∨ 19 < (Lib.trimPrefix s [45]).length
  · rw [if_pos hc] at h; cases h
  · rw [if_neg hc] at h
    cases hn : numLoop (Lib.trimPrefix s [45]) 0 with
    | none => rw [hn] at h; cases h
    | some n =>
      rw [hn] at h
      have := numLoop_inr hn (by omega) (by omega)
      simp only at h
      by_cases hi : Lib.itoa (if Lib.trimPrefix s [45] = s then negV n else n) = s
      · rw [if_pos hi] at h
        simp only [Option.some.injEq] at h
        subst h
        simp only [InR, negV]
        split
        · split <;> omega
        · omega
      · rw [if_neg hi] at h; cases h
theorem numsR_inr : ∀ {l : List (List UInt8)} {n : List Int}, numsR l = some n → ∀ x ∈ n, InR x
  | [], n, h, x, hx => by simp [numsR] at h; subst h; simp at hx
  | s :: l, n, h, x, hx => by
    simp only [numsR] at h
    cases hv : numR s with
    | none => rw [hv] at h; cases h
    | some v =>
      rw [hv] at h
      simp only [Option.map_eq_some_iff] at h
      obtain ⟨m, hm, rfl⟩ := h
      simp at hx
      rcases hx with rfl | hx
      · exact numR_inr hv
      · exact numsR_inr hm x hx

/-! the reference's parse -/
def instrAt (w : List UInt8) (n : List Int) (op : Int) : Option Ins := if nmAt op = w ∧ n.length = (flds op).length then some (mkIns op n) else none
/-- the first operation from op on that fits -/
def instrFrom (w : List UInt8) (n : List Int) : Nat → Int → Option Ins
  | 0, _ => none
  | f + 1, op => match instrAt w n op with
    | some i => some i
    | none => instrFrom w n f (op + 1)
def instrV (w : List UInt8) (n : List Int) : Option Ins := instrFrom w n 11 0
def addR (f : Bool) (w : List UInt8) (n : List Int) (t : Tr) : Option Tr :=
  if f = true ∧ w = [114, 101, 103, 115] ∧ n.length = 1 then some { t with regs := n.headD 0 }
  else if w = [101, 120, 105, 116] ∧ n ≠ [] then some { t with exits := t.exits ++ [⟨n.headD 0, n.tail⟩] }
  else (instrV w n).map fun c => { t with code := t.code ++ [c] }
def goR : Bool → List (List UInt8) → Tr → Option Tr
  | _, [], t => some t
  | f, l :: r, t => match numsR (spl 32 l).tail with
    | none => none
    | some n => match addR f ((spl 32 l).headD []) n t with
      | none => none
      | some t' => goR false r t'
theorem instrV_nm {op : Int} (h0 : 0 ≤ op) (h1 : op ≤ 10) {n : List Int} (hn : n.length = (flds op).length) : instrV (nmAt op) n = some (mkIns op n) := by
  have hk : op = 0 ∨ op = 1 ∨ op = 2 ∨ op = 3 ∨ op = 4 ∨ op = 5 ∨ op = 6 ∨ op = 7 ∨ op = 8 ∨ op = 9 ∨ op = 10 := by omega
  rcases hk with h | h | h | h | h | h | h | h | h | h | h <;> subst h <;> simp [flds] at hn <;> simp [instrV, instrFrom, instrAt, nmAt, namesL, hn, flds]
theorem addR_ins {regs nex : Int} {i : Ins} (h : insOk regs nex i = true) (t : Tr) : addR false (nmAt i.op) ((flds i.op).map fun c => fVal i c.toNat) t = some { t with code := t.code ++ [i] } := by
  obtain ⟨h0, h1⟩ := insOk_op h
  unfold addR
  rw [if_neg (by simp), if_neg (fun e => (nm_no _ h0 h1).2.2.1 e.1), instrV_nm h0 h1 (by simp), mkIns_back h]
  rfl
theorem goR_exits {regs : Int} (hr : regs ≤ 20) : ∀ (l : List Exi) (t : Tr), (∀ x ∈ l, exOk regs x = true ∧ InR x.back) → goR false (l.map exiL) t = some { t with exits := t.exits ++ l }
  | [], t, _ => by simp [goR]
  | x :: l, t, h => by
    simp only [List.map_cons, goR]
    rw [spl_exi]
    simp only [List.tail_cons, List.headD_cons]
    rw [numsR_itoa _ (by
      intro y hy
      simp at hy
      rcases hy with rfl | hy
      · exact (h _ (by simp)).2
      · have := (h x (by simp)).1
        simp [exOk, slotBad] at this
        have := this.2 y hy
        simp [InR]; omega)]
    have e : addR false [101, 120, 105, 116] (x.back :: x.slots) t = some { t with exits := t.exits ++ [x] } := by
      unfold addR
      rw [if_neg (by simp), if_pos (by simp)]
      rfl
    simp only [e]
    rw [goR_exits hr l _ (fun y hy => h y (by simp [hy]))]
    simp
theorem goR_code {regs nex : Int} (hr : regs ≤ 20) (hn : nex ≤ 10) (r : List (List UInt8)) : ∀ (l : List Ins) (t : Tr), (∀ i ∈ l, insOk regs nex i = true) → goR false (l.map insL ++ r) t = goR false r { t with code := t.code ++ l }
  | [], t, _ => by simp
  | i :: l, t, h => by
    have hi := h i (by simp)
    obtain ⟨h0, h1⟩ := insOk_op hi
    simp only [List.map_cons, List.cons_append, goR]
    rw [spl_ins h0 h1]
    simp only [List.tail_cons, List.headD_cons]
    rw [numsR_itoa _ (fVal_inr hi hr hn)]
    simp only [addR_ins hi]
    rw [goR_code hr hn r l _ (fun y hy => h y (by simp [hy]))]
    simp
theorem goR_text {t : Tr} (h : trOk t = true) (hb : bkOk t) : goR true (lineS t) ⟨0, [], []⟩ = some t := by
  have hs := trOk_sizes h
  unfold lineS
  simp only [goR]
  rw [spl_reg]
  simp only [List.tail_cons, List.headD_cons]
  rw [numsR_itoa _ (by intro y hy; simp at hy; subst hy; simp [InR]; omega)]
  have e : addR true [114, 101, 103, 115] [t.regs] ⟨0, [], []⟩ = some ⟨t.regs, [], []⟩ := by simp [addR]
  simp only [e]
  rw [goR_code (regs := t.regs) (nex := t.exits.length) hs.2.1 (by omega) _ _ _ (trOk_code h), goR_exits hs.2.1 _ _ (fun x hx => ⟨trOk_exits h x hx, hb x hx⟩)]
  simp
theorem addR_bk {f : Bool} {w : List UInt8} {n : List Int} {t t' : Tr} (h : addR f w n t = some t') (hn : ∀ x ∈ n, InR x) (hb : bkOk t) : bkOk t' := by
  unfold addR at h
  split at h
  · simp only [Option.some.injEq] at h
    subst h; exact hb
  · split at h
    · rename_i hc
      simp only [Option.some.injEq] at h
      subst h
      intro x hx
      simp at hx
      rcases hx with hx | hx
      · exact hb x hx
      · subst hx
        obtain ⟨a, r, rfl⟩ := List.exists_cons_of_ne_nil hc.2
        exact hn a (by simp)
    · simp only [Option.map_eq_some_iff] at h
      obtain ⟨c, _, rfl⟩ := h
      exact hb
theorem goR_bk : ∀ {l : List (List UInt8)} {f : Bool} {t t' : Tr}, goR f l t = some t' → bkOk t → bkOk t'
  | [], f, t, t', h, hb => by simp [goR] at h; subst h; exact hb
  | l :: r, f, t, t', h, hb => by
    simp only [goR] at h
    split at h
    · cases h
    · rename_i n hn
      split at h
      · cases h
      · rename_i t1 h1
        exact goR_bk h (addR_bk h1 (numsR_inr hn) hb)
/-- both parses answer alike -/
theorem parse_same (s : List UInt8) : parseR (goR true (spl 10 s).dropLast ⟨0, [], []⟩) s = parseV s := by
  have nil : bkOk ⟨0, [], []⟩ := fun x hx => by simp at hx
  unfold parseV
  have key : ∀ (g h : Option Tr), (∀ t, g = some t → bkOk t) → (∀ t, h = some t → bkOk t) → (∀ t, trOk t = true → bkOk t → textV t = s → g = some t ∧ h = some t) → parseR g s = parseR h s := fun g h hg hh hgh => by
    have one : ∀ (g : Option Tr), parseR g s = (⟨0, [], []⟩, 1) ∨ ∃ t, g = some t ∧ trOk t = true ∧ textV t = s := fun g => by
      cases g with
      | none => exact .inl rfl
      | some t =>
        by_cases hc : (trOk t && decide (textV t = s)) = true
        · simp at hc; exact .inr ⟨t, rfl, hc⟩
        · exact .inl (by simp only [parseR]; rw [if_neg hc])
    rcases one g with h1 | ⟨t, e1, e2, e3⟩
    · rcases one h with h2 | ⟨t, e1, e2, e3⟩
      · rw [h1, h2]
      · obtain ⟨q1, q2⟩ := hgh t e2 (hh t e1) e3
        rw [q1, q2]
    · obtain ⟨q1, q2⟩ := hgh t e2 (hg t e1) e3
      rw [q1, q2]
  refine key _ _ (fun t h => goR_bk h nil) (fun t h => goP_bk h nil) (fun t h1 h2 h3 => ?_)
  rw [← h3, spl_text h1]
  exact ⟨goR_text h1 h2, goP_text h1 h2⟩
end Go.Proofs.YtmgbaegdkjcagaaDoor

set_option linter.unusedVariables false
namespace Go.Proofs.YtmgbaegdkjcagaaDoor
open Go.Eng Go.RowKit Go.Sort
set_option maxRecDepth 20000
attribute [local irreducible] AG CallA CallT AWp PCall ACall AgC

theorem below_gd (w : World) (k : Nat) (os : Array Obj) : Below w.heap.size w (grow (w.drewN k) os) := by
  have e : (w.drewN k).heap = w.heap := rfl
  refine ⟨rfl, rfl, rfl, by simp [grow, e], fun j hj => ?_⟩
  simp only [grow, e]
  rw [Array.getElem?_append_left hj]
theorem itoa_spec (n : Int) (h : InR n) : PCall Tryd.prog 18 [dI n] fun r => r = dS (Lib.itoa n) := by
  refine pcall_below ⟨_, Tryd.func18, rfl, rfl⟩ fun C w us hc hg hr => ?_
  have hg : glOk w := hg
  obtain rfl := repL_v (us := [.int .i64 n]) hr
  refine (Tryd.strconv_Itoa n h.1 h.2 w hg.1).mono ?_
  rintro e w' ⟨rfl, k, os, rfl⟩
  exact ⟨_, _, rfl, rfl, .v _, below_gd w k os⟩
theorem atoi_ok (s : List UInt8) (hl : s.length ≤ 281474976710656) (v : Int) (h : Lib.atoiAll s = .ok v) : PCall Tryd.prog 27 [dS s] fun r => r = .tup [dI v, .v .nilIface] := by
  refine pcall_below ⟨_, Tryd.func27, rfl, rfl⟩ fun C w us hc hg hr => ?_
  obtain rfl := repL_v (us := [.string ⟨s.toArray⟩]) hr
  refine (Tryd.strconv_Atoi_ok ⟨s.toArray⟩ (by simp [ByteArray.size]; omega) v (by simpa using h) w).mono ?_
  rintro e w' ⟨rfl, hw⟩
  refine ⟨_, _, rfl, rfl, rep_tup2 (.v _) (.v _), ?_⟩
  rcases hw with rfl | ⟨t, rfl⟩
  · exact Below.refl _ _
  · exact ⟨rfl, rfl, rfl, by rw [Lib.bytesWorld_size]; omega, fun k hk => Lib.bytesWorld_at_old w _ _ k (by omega)⟩
theorem atoi_bad (s : List UInt8) (hl : s.length ≤ 281474976710656) (h : ∀ v, Lib.atoiAll s ≠ .ok v) : PCall Tryd.prog 27 [dS s] fun r => ∃ v N, r = .tup [dI v, .v (.iface 109 (.pointer (some ⟨N, 0, none⟩)))] := by
  refine pcall_below ⟨_, Tryd.func27, rfl, rfl⟩ fun C w us hc hg hr => ?_
  have hg : glOk w := hg
  obtain rfl := repL_v (us := [.string ⟨s.toArray⟩]) hr
  cases ha : Lib.atoiAll s with
  | ok v => exact absurd ha (h v)
  | range =>
    obtain ⟨ev, q1, q2⟩ := hg.2.2.2
    refine (Tryd.strconv_Atoi_range ⟨s.toArray⟩ (by simp [ByteArray.size]; omega) (by simpa using ha) ev w q1 q2).mono ?_
    rintro e w' ⟨N, rfl, h1, h2, h3⟩
    exact ⟨_, _, rfl, ⟨_, N, rfl⟩, rep_tup2 (.v _) (.v _), h3⟩
  | _ =>
    obtain ⟨ev, q1, q2⟩ := hg.2.2.1
    refine (Any.strconv_Atoi_syntax Tryd.laysC172 ⟨s.toArray⟩ (by simp [ByteArray.size]; omega) (by simpa using ha) ev w q1 q2).mono ?_
    rintro e w' ⟨N, rfl, h1, h2, h3⟩
    exact ⟨_, _, rfl, ⟨_, N, rfl⟩, rep_tup2 (.v _) (.v _), h3⟩
theorem trim_spec (s p : List UInt8) : PCall Tryd.prog 28 [dS s, dS p] fun r => r = dS (Lib.trimPrefix s p) :=
  pcall_ext (P := Tryd.prog) (f := 28) (us := [.string ⟨s.toArray⟩, .string ⟨p.toArray⟩]) (x := .string ⟨(Lib.trimPrefix s p).toArray⟩) ⟨_, Tryd.func28, rfl, rfl⟩ (fun w => by
    simpa using Tryd.strings_TrimPrefix ⟨s.toArray⟩ ⟨p.toArray⟩ w)
theorem split_spec (s : List UInt8) (c : UInt8) (hl : s.length < 4294967281) : PCall Tryd.prog 26 [dS s, dS [c]] fun r => r = dSs (spl c s) := by
  refine pcall_below ⟨_, Tryd.func26, rfl, rfl⟩ fun C w us hc hg hr => ?_
  have hg : glOk w := hg
  obtain rfl := repL_v (us := [.string ⟨s.toArray⟩, .string ⟨#[c]⟩]) hr
  obtain ⟨m, hm⟩ := hg.2.1
  refine (Tryd.strings_Split ⟨s.toArray⟩ ⟨#[c]⟩ m w (by simpa [ByteArray.size] using hl) hm (Nat.le_refl 1)).mono ?_
  rintro e w' ⟨rfl, rfl⟩
  have e1 := splitB_spl c ⟨s.toArray⟩
  have e2 := countB_spl c ⟨s.toArray⟩
  simp only at e1 e2
  generalize hL : Lib.splitB ⟨#[c]⟩ 0 (Lib.countB ⟨s.toArray⟩ ⟨#[c]⟩) ⟨s.toArray⟩ = L at e1
  have hlen : L.length = (spl c s).length := by rw [← e1]; simp
  have h4 := spl_len c s
  refine ⟨_, _, rfl, rfl, ?_, ⟨rfl, rfl, rfl, by simp, fun k hk => Below.heap_alloc w _ k hk⟩⟩
  have := rep_newrow (w := w) (w1 := w) (t := 9) (cap := Lib.countB ⟨s.toArray⟩ ⟨#[c]⟩ + 1) (xs := L.map Value.string) hc (Nat.le_refl _) (by simp; omega) (by rw [e2]; simp only [maxLen]; omega)
  have e3 : (L.map Value.string).length = Lib.countB ⟨s.toArray⟩ ⟨#[c]⟩ + 1 := by rw [e2]; simpa using hlen
  rw [e3] at this
  have e4 : ((L.map Value.string).map fun x => [D.v x]) = (spl c s).map cS := by
    rw [← e1]
    simp
  rw [e4] at this
  exact this
theorem idxS_eq (x : List UInt8) : ∀ (l : List (List UInt8)) (i : Nat), Lib.idxFromS (l.map fun y => (⟨y.toArray⟩ : ByteArray)) ⟨x.toArray⟩ i = if fidx (fun y => decide (y = x)) l = -1 then -1 else fidx (fun y => decide (y = x)) l + i
  | [], i => by simp [Lib.idxFromS, fidx]
  | y :: l, i => by
    have ih := idxS_eq x l (i + 1)
    have hg := fidx_ge (fun y => decide (y = x)) l
    simp only [List.map_cons, Lib.idxFromS]
    by_cases h : y = x
    · subst h; simp [fidx]
    · have h2 : ¬ ((⟨y.toArray⟩ : ByteArray) = ⟨x.toArray⟩) := fun e => h (by
        have := congrArg (fun b : ByteArray => b.data.toList) e
        simpa using this)
      rw [if_neg h2, ih]
      simp only [fidx, h, decide_false, Bool.false_eq_true, if_false]
      by_cases h3 : fidx (fun y => decide (y = x)) l = -1
      · simp [h3]
      · rw [if_neg h3, if_neg h3]
        split
        · omega
        · omega
theorem sl_cells {C : Ctx} {w : World} {k : Nat} {es : List (List D)} {u : Value} (hr : Rep C w (.sl k es) u) (hne : es ≠ []) : ∃ (b o cap : Nat) (us : Nat → Nat → Value), u = .slice (some ⟨b, o, none⟩) es.length cap ∧ es.length ≤ cap ∧ cap ≤ maxLen ∧
    (∀ (i j : Nat) e c, es[i]? = some e → e[j]? = some c → ¬ C.owns b ∧ w.cell? ⟨b, o + (i * k + j), none⟩ = some (us i j)) ∧ ∀ (i j : Nat) e c, es[i]? = some e → e[j]? = some c → Rep C w c (us i j) := by
  cases hr with
  | slE => exact absurd rfl hne
  | sl _ _ b o cap us hl hm hk hcc hh => exact ⟨b, o, cap, us, rfl, hl, hm, hcc, hh⟩
theorem indexS_spec (l : List (List UInt8)) (x : List UInt8) : PCall Tryd.prog 48 [dSs l, dS x] fun r => r = dI (fidx (fun y => decide (y = x)) l) := by
  refine pcall_below ⟨_, Tryd.func48, rfl, rfl⟩ fun C w us hc hg hr => ?_
  have hg := fidx_ge (fun y => decide (y = x)) l
  match us, hr with
  | [u1, u2], hr =>
    have r1 := hr.2 0 _ _ rfl rfl
    have r2 := (hr.2 1 _ _ rfl rfl).v_inv
    subst r2
    have fin9 : ∀ e w', (e = .returned (.int .i64 (Lib.idxOfS (l.map fun y => (⟨y.toArray⟩ : ByteArray)) ⟨x.toArray⟩)) ∧ w' = w) → ∃ u r, e = Ending.returned u ∧ r = dI (fidx (fun y => decide (y = x)) l) ∧ Rep C w' r u ∧ Below w.heap.size w w' := by
      rintro e w' ⟨rfl, rfl⟩
      refine ⟨_, _, rfl, rfl, ?_, Below.refl _ _⟩
      unfold Lib.idxOfS
      rw [idxS_eq]
      by_cases h3 : fidx (fun y => decide (y = x)) l = -1
      · rw [if_pos h3, h3]; exact .v _
      · rw [if_neg h3]; simp only [Int.ofNat_zero, Int.add_zero]; exact .v _
    by_cases h0 : l = []
    · subst h0
      obtain ⟨ao, cap, rfl, h1, h2⟩ := len_sl r1
      exact (Tryd.slices_Index_string_empty ao cap ⟨x.toArray⟩ w).mono fun e w' h => fin9 e w' (by simpa using h)
    · obtain ⟨b, o, cap, us, rfl, hl, hm, hcc, hh⟩ := sl_cells (es := l.map cS) r1 (by simpa using h0)
      have hcell : ∀ j, j < (l.map fun y => (⟨y.toArray⟩ : ByteArray)).length → w.cell? ⟨b, o + j, none⟩ = some (.string ((l.map fun y => (⟨y.toArray⟩ : ByteArray)).getD j ByteArray.empty)) := fun j hj => by
        have hj' : j < l.length := by simpa using hj
        have q1 := (hcc j 0 (cS l[j]) (dS l[j]) (by simp [hj']) rfl).2
        have q2 := (hh j 0 (cS l[j]) (dS l[j]) (by simp [hj']) rfl).v_inv
        rw [q2] at q1
        simpa [hj', List.getD] using q1
      have := Tryd.slices_Index_string b o (l.map cS).length cap (l.map fun y => (⟨y.toArray⟩ : ByteArray)) ⟨x.toArray⟩ w (by simp) (by unfold maxLen at hm; omega) hcell
      refine this.mono fun e w' h => fin9 e w' ?_
      rw [show (l.map cS).length = (l.map fun y => (⟨y.toArray⟩ : ByteArray)).length by simp, List.take_length] at h
      exact h
theorem names_spec : PCall Tryd.prog 19 [] fun r => r = dSs namesL := by
  refine pcall_of Tryd.func19 rfl rfl Tryd.ntmps19 (rs := [.tmp 0]) (tys := [64]) rfl rfl (by simp) ?_
  (refine awp_sr fun KK hKK => ?_; simp [go_sem]; ((repeat' (first|(refine ag_x ?_;simp [go_sem])|intro _|refine And.intro ?_ ?_|(apply hKK;clear hKK KK)));all_goals first|refine Hold.mk ?_|omega|with_reducible assumption|(simp only [InR] at *;omega)|skip))
  (refine awp_sr fun KK hKK => ?_; simp [go_sem]; ((repeat' (first|(refine ag_x ?_;simp [go_sem])|intro _|refine And.intro ?_ ?_|(apply hKK;clear hKK KK)));all_goals first|refine Hold.mk ?_|omega|with_reducible assumption|(simp only [InR] at *;omega)|skip))
  (refine awp_ret ?_; simp [go_sem, namesL])
theorem rnames_spec : PCall Tryd.prog 24 [] fun r => r = dSs namesL := by
  refine pcall_of Tryd.func24 rfl rfl Tryd.ntmps24 (rs := [.tmp 0]) (tys := [64]) rfl rfl (by simp) ?_
  (refine awp_sr fun KK hKK => ?_; simp [go_sem]; ((repeat' (first|(refine ag_x ?_;simp [go_sem])|intro _|refine And.intro ?_ ?_|(apply hKK;clear hKK KK)));all_goals first|refine Hold.mk ?_|omega|with_reducible assumption|(simp only [InR] at *;omega)|skip))
  (refine awp_sr fun KK hKK => ?_; simp [go_sem]; ((repeat' (first|(refine ag_x ?_;simp [go_sem])|intro _|refine And.intro ?_ ?_|(apply hKK;clear hKK KK)));all_goals first|refine Hold.mk ?_|omega|with_reducible assumption|(simp only [InR] at *;omega)|skip))
  (refine awp_ret ?_; simp [go_sem, namesL])
/-- a field's place, of an instruction wherever it lies -/
theorem fieldP_spec (c : Int) (b : Nat) : PCall Tryd.prog 21 [.v (.pointer (some ⟨b, 0, none⟩)), .v (.int .u8 c)] fun r => r = .v (.pointer (some ⟨b, 0 + fldAt c, none⟩)) := by
  refine pcall_of Tryd.func21 rfl rfl Tryd.ntmps21 (rs := [.tmp 4]) (tys := [66]) rfl rfl (by simp) ?_
  (repeat' (first | ((first|refine awp_sr fun KK hKK => ?_|refine awp_r fun KK hKK => ?_);simp [go_sem, fldAt];((repeat' (first|(refine ag_x ?_;simp [go_sem, fldAt])|intro _|refine And.intro ?_ ?_|(apply hKK;clear hKK KK)));all_goals first|refine Hold.mk ?_|omega|with_reducible assumption|(simp only [InR] at *;omega)|skip)) | refine awp_block ?_ | ((refine awp_if fun T F hT hF => ?_); simp [go_sem, fldAt, *]; (first | refine BR.intro (fun hb => hT ?_) (fun hb => hF ?_) | refine hT ?_ | refine hF ?_); all_goals ((try clear hT); (try clear hF); (try clear T F); (try simp at hb); (try (exfalso; omega)))) | refine awp_skip ?_ | (refine awp_exit ?_; simp only [go_sem]) | refine awp_seq ?_ | (refine awp_ret ?_; simp [go_sem, fldAt]))) <;> simp_all
end Go.Proofs.YtmgbaegdkjcagaaDoor
