/- Part of a proof: see the last text. -/
import Derived.Test.YtmgbaegdkjcagaaWD
import Derived.Test.YtmgbaegdkjcagaaWB
set_option linter.unusedVariables false
set_option linter.unusedSimpArgs false
namespace Go.Proofs.Ytmgbaegdkjcagaa
open Go.Eng
set_option maxRecDepth 20000
attribute [local irreducible] AG CallA CallT AWp PCall ACall AgC

theorem back_spec (t : Tr) (hc : t.code.length ≤ 500) (he : t.exits.length ≤ 100) (hs : ∀ x ∈ t.exits, x.slots.length ≤ 2000) : PCall Try.prog 24 [dTr t] fun r => r = dTr t := by 
  refine pcall_of Try.func24 rfl rfl Try.ntmps24 (rs := [.cell 2 25]) (tys := [25]) rfl rfl (by simp) ?_
  (refine awp_sr fun KK hKK => ?_; simp [go_sem]; ((repeat' (first|(refine ag_x ?_;simp [go_sem])|intro _|refine And.intro ?_ ?_|(apply hKK;clear hKK KK)));all_goals first|refine Hold.mk ?_|omega|with_reducible assumption|(simp only [InR] at *;omega)|skip))
  rename_i g1 g2
  refine awp_frzbox 1 rfl rfl ?_
  simp only [go_sem]
  (refine awp_sr fun KK hKK => ?_; simp [go_sem]; ((repeat' (first|(refine ag_x ?_;simp [go_sem])|intro _|refine And.intro ?_ ?_|(apply hKK;clear hKK KK)));all_goals first|refine Hold.mk ?_|omega|with_reducible assumption|(simp only [InR] at *;omega)|skip))
  rename_i g3
  refine awp_nilbox 38 71 6 1 (sb := 3) rfl rfl (by decide) fun g4 => ?_
  refine awp_nilbox 65 69 2 2 (sb := 3) rfl rfl (by decide) fun g5 => ?_
  simp only [List.set, go_sem]
  refine awp_seq_k fun K1 hK1 => ?_
  (refine awp_sr fun KK hKK => ?_; simp [go_sem]; ((repeat' (first|(refine ag_x ?_;simp [go_sem])|intro _|refine And.intro ?_ ?_|(apply hKK;clear hKK KK)));all_goals first|refine Hold.mk ?_|omega|with_reducible assumption|(simp only [InR] at *;omega)|skip))
  refine awp_block ?_
  refine awp_loop (σ := Nat × Nat) (fun x => ⟨[(1, .rd [dI t.regs, .sl 6 (t.code.map cIns), .sl 2 (t.exits.map cExi)]), (2, .ptr 2 g2 0), (3, .ptr 3 g3 0), (4, dI x.1)], [(2, g2, .box [dI 0, .v (.slice none 0 0), .v (.slice none 0 0)]),
    (3, g3, .box [dI t.regs, .own 38 x.2, .own 65 g5]), (38, x.2, .row 71 6 ((t.code.take x.1).map cIns)), (65, g5, .row 69 2 [])]⟩) (fun x => x.1 ≤ t.code.length) (fun x => t.code.length - x.1) (0, g4) ?_ ?_ ?_
  · (refine cov_of ?_ ?_ <;> simp [go_sem])
  · simp
  rintro ⟨i, g⟩ hx
  simp at hx
  refine awp_seq_k fun K2 hK2 => ?_
  (refine awp_sr fun KK hKK => ?_; simp [go_sem]; ((repeat' (first|(refine ag_x ?_;simp [go_sem])|intro _|refine And.intro ?_ ?_|(apply hKK;clear hKK KK)));all_goals first|refine Hold.mk ?_|omega|with_reducible assumption|(simp only [InR] at *;omega)|skip))
  (refine awp_if fun T F hT hF => ?_; simp [go_sem]; refine BR.intro (fun h3 => hT ?_) (fun h3 => hF ?_); all_goals clear hT hF T F; try simp at h3) 
  · refine awp_skip ?_
    refine hK2 _ ?_; clear hK2
    have hi : i < t.code.length := by simpa using h3
    obtain ⟨x, hx⟩ : ∃ x, t.code[i]? = some x := ⟨_, List.getElem?_eq_getElem hi⟩
    refine awp_seq_k fun K4 hK4 => ?_
    refine awp_block ?_
    (refine awp_sr fun KK hKK => ?_; simp [go_sem, hx]; ((repeat' (first|(refine ag_x ?_;simp [go_sem, hx])|intro _|refine And.intro ?_ ?_|(apply hKK;clear hKK KK)));all_goals first|refine Hold.mk ?_|omega|with_reducible assumption|(simp only [InR] at *;omega)|skip))
    (refine awp_r fun KK hKK => ?_; simp [go_sem]; ((repeat' (first|(refine ag_x ?_;simp [go_sem])|intro _|refine And.intro ?_ ?_|(apply hKK;clear hKK KK)));all_goals first|refine Hold.mk ?_|omega|with_reducible assumption|(simp only [InR] at *;omega)|skip))
    refine hK4 _ ?_; clear hK4
    (refine awp_r fun KK hKK => ?_; simp [go_sem]; ((repeat' (first|(refine ag_x ?_;simp [go_sem])|intro _|refine And.intro ?_ ?_|(apply hKK;clear hKK KK)));all_goals first|refine Hold.mk ?_|omega|with_reducible assumption|(simp only [InR] at *;omega)|skip))
    have ht : t.code.take (i + 1) = t.code.take i ++ [x] := by rw [List.take_add_one, hx]; rfl
    refine ⟨(i + 1, ‹_›), ?_, ?_, ?_⟩
    · (refine cov_of ?_ ?_ <;> simp [go_sem, ht, hx])
    · exact hi
    · simp; omega
  · refine awp_exit ?_
    simp only [go_sem]
    refine hK1 _ ?_; clear hK1
    have hil : i = t.code.length := by omega
    subst hil
    simp only [← List.map_take, List.take_length]
    refine awp_seq_k fun K5 hK5 => ?_
    (refine awp_sr fun KK hKK => ?_; simp [go_sem]; ((repeat' (first|(refine ag_x ?_;simp [go_sem])|intro _|refine And.intro ?_ ?_|(apply hKK;clear hKK KK)));all_goals first|refine Hold.mk ?_|omega|with_reducible assumption|(simp only [InR] at *;omega)|skip))
    refine awp_block ?_
    refine awp_loop (σ := Nat × Nat) (fun x => ⟨[(1, .rd [dI t.regs, .sl 6 (t.code.map cIns), .sl 2 (t.exits.map cExi)]), (2, .ptr 2 g2 0), (3, .ptr 3 g3 0), (6, dI x.1)], [(2, g2, .box [dI 0, .v (.slice none 0 0), .v (.slice none 0 0)]),
      (3, g3, .box [dI t.regs, .own 38 g, .own 65 x.2]), (38, g, .row 71 6 (t.code.map cIns)), (65, x.2, .row 69 2 ((t.exits.take x.1).map cExi))]⟩) (fun x => x.1 ≤ t.exits.length) (fun x => t.exits.length - x.1) (0, g5) ?_ ?_ ?_
    · (refine cov_of ?_ ?_ <;> simp [go_sem])
    · simp
    rintro ⟨i, gg⟩ hx'
    simp at hx'
    refine awp_seq_k fun K6 hK6 => ?_
    (refine awp_sr fun KK hKK => ?_; simp [go_sem]; ((repeat' (first|(refine ag_x ?_;simp [go_sem])|intro _|refine And.intro ?_ ?_|(apply hKK;clear hKK KK)));all_goals first|refine Hold.mk ?_|omega|with_reducible assumption|(simp only [InR] at *;omega)|skip))
    (refine awp_if fun T F hT hF => ?_; simp [go_sem]; refine BR.intro (fun h7 => hT ?_) (fun h7 => hF ?_); all_goals clear hT hF T F; try simp at h7) 
    · refine awp_skip ?_
      refine hK6 _ ?_; clear hK6
      have hi : i < t.exits.length := by simpa using h7
      obtain ⟨x, hx⟩ : ∃ x, t.exits[i]? = some x := ⟨_, List.getElem?_eq_getElem hi⟩
      have hxs := hs x (List.mem_of_getElem? hx)
      refine awp_seq_k fun K8 hK8 => ?_
      refine awp_block ?_
      ((refine awp_d (.qs [0, 2, 4, 9, 11, 1, 3, 5, 6, 7, 10, 12, 13, 14] (.kp 8 (.kp 15 (.qs [16] (.kp 17 (.one 18 (.qs [19] (.one 20 (.nil)))))))) ) (by kernel_rfl) ?_ ?_ ?_ ?_); (kernel_rfl); (exact (by decide +kernel)); (kernel_rfl); intro KK hKK; ((repeat' (first|(refine ag_x ?_;simp [go_sem, hx])|refine adr_nil ?_|refine adr_two ?_ ?_|refine adr_kp2 ?_ ?_|((first|refine adr_qs fun KK hKK=>?_|refine adr_y fun KK hKK=>?_);simp [go_sem, hx])|intro _|refine And.intro ?_ ?_|(apply hKK;clear hKK KK)));all_goals first|refine Hold.mk ?_|omega|with_reducible assumption|(simp only [InR] at *;omega)|skip))
      refine hK8 _ ?_; clear hK8
      (refine awp_r fun KK hKK => ?_; simp [go_sem]; ((repeat' (first|(refine ag_x ?_;simp [go_sem])|intro _|refine And.intro ?_ ?_|(apply hKK;clear hKK KK)));all_goals first|refine Hold.mk ?_|omega|with_reducible assumption|(simp only [InR] at *;omega)|skip))
      have ht : t.exits.take (i + 1) = t.exits.take i ++ [x] := by rw [List.take_add_one, hx]; rfl
      refine ⟨(i + 1, ‹_›), ?_, ?_, ?_⟩
      · (refine cov_of ?_ ?_ <;> simp [go_sem, ht, hx])
      · exact hi
      · simp; omega
    · refine awp_exit ?_
      simp only [go_sem]
      refine hK5 _ ?_; clear hK5
      have hil : i = t.exits.length := by omega
      subst hil
      simp only [← List.map_take, List.take_length]
      (refine awp_sr fun KK hKK => ?_; simp [go_sem]; ((repeat' (first|(refine ag_x ?_;simp [go_sem])|intro _|refine And.intro ?_ ?_|(apply hKK;clear hKK KK)));all_goals first|refine Hold.mk ?_|omega|with_reducible assumption|(simp only [InR] at *;omega)|skip))
      (refine awp_ret ?_; simp [go_sem])

theorem u64_wrap_bounds (n : Int) : 0 ≤ IntKind.u64.wrap n ∧ IntKind.u64.wrap n ≤ 18446744073709551615 := by
  simp [IntKind.wrap, IntKind.signed, IntKind.bits]; omega
theorem u64_wrap_id {n : Int} (h : 0 ≤ n) (h' : n ≤ 18446744073709551615) : IntKind.u64.wrap n = n := by
  simp [IntKind.wrap, IntKind.signed, IntKind.bits]; omega
/-- the next number, modulo n -/
theorem pick_spec (g : Nat) (l : List Int) (at_ : Nat) (m : Int) (ha : at_ ≤ l.length) (h1 : 1 ≤ m) (h2 : m ≤ 1000) (hlen : l.length ≤ 9223372036854775807) :
    ACall Try.prog 48 [.ptr 900000 g 0, dI m] [(900000, (g, .box [dIs l, dI at_]))] [900000] fun ps r => ∃ (b : Nat) (v : Int), b ≤ l.length ∧ 0 ≤ v ∧ v < m ∧ ps = [(g, .box [dIs l, dI b])] ∧ r = dI v := by 
  refine acall_of Try.func48 rfl rfl Try.ntmps48 (rs := [.tmp 4]) (tys := [3]) rfl rfl (by simp) (by simp [notFroz]) ?_
  have hw2 := u64_wrap_id (n := m) (by omega) (by omega)
  (refine awp_sr fun KK hKK => ?_; simp [go_sem]; ((repeat' (first|(refine ag_x ?_;simp [go_sem])|intro _|refine And.intro ?_ ?_|(apply hKK;clear hKK KK)));all_goals first|refine Hold.mk ?_|omega|with_reducible assumption|(simp only [InR] at *;omega)|skip))
  refine awp_seq_k fun K1 hK1 => ?_
  ((refine awp_dr (.qs [0, 1, 2, 4, 5, 6, 3, 7, 8, 9] (.nil)) (by kernel_rfl) ?_ ?_ ?_ ?_); (kernel_rfl); (exact (by decide +kernel)); (kernel_rfl); intro KK hKK; ((repeat' (first|(refine ag_x ?_;simp [go_sem])|refine adr_nil ?_|refine adr_two ?_ ?_|refine adr_kp2 ?_ ?_|((first|refine adr_qs fun KK hKK=>?_|refine adr_y fun KK hKK=>?_);simp [go_sem])|intro _|refine And.intro ?_ ?_|(apply hKK;clear hKK KK)));all_goals first|refine Hold.mk ?_|omega|with_reducible assumption|(simp only [InR] at *;omega)|skip))
  (refine awp_if fun T F hT hF => ?_; simp [go_sem]; refine BR.intro (fun h3 => hT ?_) (fun h3 => hF ?_); all_goals clear hT hF T F; try simp at h3) 
  · (refine awp_sr fun KK hKK => ?_; simp [go_sem]; ((repeat' (first|(refine ag_x ?_;simp [go_sem])|intro _|refine And.intro ?_ ?_|(apply hKK;clear hKK KK)));all_goals first|refine Hold.mk ?_|omega|with_reducible assumption|(simp only [InR] at *;omega)|skip))
    (refine awp_ret ?_; simp [go_sem])
    exact ⟨at_, ha, 0, by omega, by omega, rfl, rfl⟩
  · refine awp_skip ?_
    refine hK1 _ ?_; clear hK1
    obtain ⟨x, hx⟩ : ∃ x, l[at_]? = some x := ⟨_, List.getElem?_eq_getElem (by omega)⟩
    have hw := u64_wrap_bounds x
    have hq : 0 ≤ (IntKind.u64.wrap x).tmod m ∧ (IntKind.u64.wrap x).tmod m < m := ⟨Int.tmod_nonneg _ hw.1, by have := Int.tmod_lt_of_pos (IntKind.u64.wrap x) (show 0 < m by omega); exact this⟩
    (refine awp_sr fun KK hKK => ?_; simp [go_sem]; ((repeat' (first|(refine ag_x ?_;simp [go_sem])|intro _|refine And.intro ?_ ?_|(apply hKK;clear hKK KK)));all_goals first|refine Hold.mk ?_|omega|with_reducible assumption|(simp only [InR] at *;omega)|skip))
    ((refine awp_dr (.qs [0, 1, 2, 4, 5, 6, 12, 13, 3, 7, 8, 9, 10, 11, 14, 15, 16] (.nil)) (by kernel_rfl) ?_ ?_ ?_ ?_); (kernel_rfl); (exact (by decide +kernel)); (kernel_rfl); intro KK hKK; ((repeat' (first|(refine ag_x ?_;simp [go_sem, hx, hw2])|refine adr_nil ?_|refine adr_two ?_ ?_|refine adr_kp2 ?_ ?_|((first|refine adr_qs fun KK hKK=>?_|refine adr_y fun KK hKK=>?_);simp [go_sem, hx, hw2])|intro _|refine And.intro ?_ ?_|(apply hKK;clear hKK KK)));all_goals first|refine Hold.mk ?_|omega|with_reducible assumption|(simp only [InR] at *;omega)|skip))
    (refine awp_ret ?_; simp [go_sem])
    exact ⟨at_ + 1, by omega, _, hq.1, hq.2, by simp, rfl⟩

def slotOk (regs : Int) (s : Int) : Prop := 0 ≤ s ∧ s < regs
/-- what Grown gives -/
structure Fit (t : Tr) (ws : List Int) : Prop where
  ok : trOk t = true
  len : (ws.length : Int) = t.regs
  words : ws.all isW = true
  code : t.code.length ≤ 25
  exits : 1 ≤ t.exits.length ∧ t.exits.length ≤ 3
  slots : ∀ x ∈ t.exits, x.slots.length ≤ 3
  backs : ∀ x ∈ t.exits, 0 ≤ x.back

def smallL : List Int := [0, 1, -1, 2, 3, 10, 1000000000000000, -1000000000000000]
theorem smallL_at {v : Int} (h : 0 ≤ v) (h' : v < 8) : ∃ x, smallL[v.toNat]? = some x ∧ isW x = true := by
  have : v = 0 ∨ v = 1 ∨ v = 2 ∨ v = 3 ∨ v = 4 ∨ v = 5 ∨ v = 6 ∨ v = 7 := by omega
  rcases this with h | h | h | h | h | h | h | h <;> subst h <;> exact ⟨_, rfl, by decide⟩
structure ExOk (regs : Int) (e : Exi) : Prop where
  slots : ∀ s ∈ e.slots, slotOk regs s
  len : e.slots.length ≤ 3
  back : 0 ≤ e.back
set_option maxHeartbeats 8000000 in
theorem grown_spec (l : List Int) : PCall Try.prog 23 [dIs l] fun r => ∃ t ws, Fit t ws ∧ r = .tup [dTr t, dIs ws] := by 
  refine pcall_of Try.func23 rfl rfl Try.ntmps23 (rs := [.cell 2 32, .tmp 3]) (tys := [32, 26]) rfl rfl (by simp) ?_
  refine awp_len 0 rfl fun hlen => ?_
  simp [lensD, lensC] at hlen
  (refine awp_sr fun KK hKK => ?_; simp [go_sem]; ((repeat' (first|(refine ag_x ?_;simp [go_sem])|intro _|refine And.intro ?_ ?_|(apply hKK;clear hKK KK)));all_goals first|refine Hold.mk ?_|omega|with_reducible assumption|(simp only [InR] at *;omega)|skip))
  rename_i g2
  (refine awp_sr fun KK hKK => ?_; simp [go_sem]; ((repeat' (first|(refine ag_x ?_;simp [go_sem])|intro _|refine And.intro ?_ ?_|(apply hKK;clear hKK KK)));all_goals first|refine Hold.mk ?_|omega|with_reducible assumption|(simp only [InR] at *;omega)|skip))
  rename_i gg
  refine awp_renbox 4 900000 rfl rfl (by decide) fun gg => ?_
  simp only [go_sem]
  (refine awp_sr fun KK hKK => ?_; simp [go_sem]; ((repeat' (first|(refine ag_x ?_;simp [go_sem])|intro _|refine And.intro ?_ ?_|(apply hKK;clear hKK KK)));all_goals first|refine Hold.mk ?_|omega|with_reducible assumption|(simp only [InR] at *;omega)|skip))
  (refine callA_l [900000] (by first | exact .inl ⟨rfl, rfl⟩ | exact .inr rfl) (by simp [go_sem]) ?_; intro args ha; simp [go_sem] at ha; subst ha; refine ⟨_, _, (pick_spec gg l 0 5 (by omega) (by omega) (by omega) (by omega)), (by simp [go_sem]), ?_⟩; rintro ps r hps ⟨b, v, hb, hv, hv2, rfl, rfl⟩; simp [go_sem]; ((repeat' (first|(refine ag_x ?_;simp [go_sem])|intro _|refine And.intro ?_ ?_|(apply hKK;clear hKK KK)));all_goals first|refine Hold.mk ?_|omega|with_reducible assumption|(simp only [InR] at *;omega)|skip))
  rename_i g5
  generalize hregs : 2 + v = regs
  have hr : 2 ≤ regs ∧ regs ≤ 6 := by omega
  refine awp_nilbox 50 72 2 2 (sb := 5) rfl rfl (by decide) fun gx => ?_
  refine awp_nilbox 130 57 6 1 (sb := 5) rfl rfl (by decide) fun gc => ?_
  simp only [List.set, go_sem]
  refine awp_seq_k fun K1 hK1 => ?_
  (refine awp_sr fun KK hKK => ?_; simp [go_sem]; ((repeat' (first|(refine ag_x ?_;simp [go_sem])|intro _|refine And.intro ?_ ?_|(apply hKK;clear hKK KK)));all_goals first|refine Hold.mk ?_|omega|with_reducible assumption|(simp only [InR] at *;omega)|skip))
  (refine callA_l [900000] (by first | exact .inl ⟨rfl, rfl⟩ | exact .inr rfl) (by simp [go_sem]) ?_; intro args ha; simp [go_sem] at ha; subst ha; refine ⟨_, _, (pick_spec gg l b 3 hb (by omega) (by omega) (by omega)), (by simp [go_sem]), ?_⟩; rintro ps r hps ⟨b1, v1, hb1, hv1, hv12, rfl, rfl⟩; simp [go_sem]; ((repeat' (first|(refine ag_x ?_;simp [go_sem])|intro _|refine And.intro ?_ ?_|(apply hKK;clear hKK KK)));all_goals first|refine Hold.mk ?_|omega|with_reducible assumption|(simp only [InR] at *;omega)|skip))
  generalize hi1 : 1 + v1 = i1
  refine awp_block ?_
  refine awp_loop (σ := Int × Nat × List Exi × Nat) (fun x => ⟨[(0, dIs l), (2, .ptr 2 g2 0), (4, .ptr 900000 gg 0), (5, .ptr 5 g5 0), (6, dI x.1)], [(2, g2, .box [dI 0, .v (.slice none 0 0), .v (.slice none 0 0)]), (900000, gg, .box [dIs l, dI x.2.1]), (5, g5, .box [dI regs, .own 130 gc, .own 50 x.2.2.2]), (130, gc, .row 57 6 (([] : List Ins).map cIns)), (50, x.2.2.2, .row 72 2 (x.2.2.1.map cExi))]⟩)
    (fun x => 0 ≤ x.1 ∧ x.2.1 ≤ l.length ∧ (x.2.2.1.length : Int) + x.1 = i1 ∧ ∀ e ∈ x.2.2.1, ExOk regs e) (fun x => x.1.toNat) (i1, b1, [], gx) ?_ ?_ ?_
  · (refine cov_of ?_ ?_ <;> simp [go_sem])
  · simp; omega
  rintro ⟨i, at_, exs, gx⟩ ⟨hi0, hat, hil, hex⟩
  simp only at hi0 hat hil hex
  refine awp_seq_k fun K2 hK2 => ?_
  (refine awp_sr fun KK hKK => ?_; simp [go_sem]; ((repeat' (first|(refine ag_x ?_;simp [go_sem])|intro _|refine And.intro ?_ ?_|(apply hKK;clear hKK KK)));all_goals first|refine Hold.mk ?_|omega|with_reducible assumption|(simp only [InR] at *;omega)|skip))
  (refine awp_if fun T F hT hF => ?_; simp [go_sem]; refine BR.intro (fun h3 => hT ?_) (fun h3 => hF ?_); all_goals clear hT hF T F; try simp at h3) 
  · refine awp_skip ?_
    refine hK2 _ ?_; clear hK2
    refine awp_seq_k fun K4 hK4 => ?_
    refine awp_block ?_
    (refine awp_sr fun KK hKK => ?_; simp [go_sem]; ((repeat' (first|(refine ag_x ?_;simp [go_sem])|intro _|refine And.intro ?_ ?_|(apply hKK;clear hKK KK)));all_goals first|refine Hold.mk ?_|omega|with_reducible assumption|(simp only [InR] at *;omega)|skip))
    (refine callA_l [900000] (by first | exact .inl ⟨rfl, rfl⟩ | exact .inr rfl) (by simp [go_sem]) ?_; intro args ha; simp [go_sem] at ha; subst ha; refine ⟨_, _, (pick_spec gg l at_ 100 hat (by omega) (by omega) (by omega)), (by simp [go_sem]), ?_⟩; rintro ps r hps ⟨b2, bk, hb2, hbk, hbk2, rfl, rfl⟩; simp [go_sem]; ((repeat' (first|(refine ag_x ?_;simp [go_sem])|intro _|refine And.intro ?_ ?_|(apply hKK;clear hKK KK)));all_goals first|refine Hold.mk ?_|omega|with_reducible assumption|(simp only [InR] at *;omega)|skip))
    rename_i g7
    refine awp_nilbox 44 3 1 1 (sb := 7) rfl rfl (by decide) fun gs => ?_
    simp only [List.set, go_sem]
    refine awp_seq_k fun K5 hK5 => ?_
    (refine awp_sr fun KK hKK => ?_; simp [go_sem]; ((repeat' (first|(refine ag_x ?_;simp [go_sem])|intro _|refine And.intro ?_ ?_|(apply hKK;clear hKK KK)));all_goals first|refine Hold.mk ?_|omega|with_reducible assumption|(simp only [InR] at *;omega)|skip))
    (refine callA_l [900000] (by first | exact .inl ⟨rfl, rfl⟩ | exact .inr rfl) (by simp [go_sem]) ?_; intro args ha; simp [go_sem] at ha; subst ha; refine ⟨_, _, (pick_spec gg l b2 4 hb2 (by omega) (by omega) (by omega)), (by simp [go_sem]), ?_⟩; rintro ps r hps ⟨b3, v3, hb3, hv3, hv32, rfl, rfl⟩; simp [go_sem]; ((repeat' (first|(refine ag_x ?_;simp [go_sem])|intro _|refine And.intro ?_ ?_|(apply hKK;clear hKK KK)));all_goals first|refine Hold.mk ?_|omega|with_reducible assumption|(simp only [InR] at *;omega)|skip))
    refine awp_block ?_
    refine awp_loop (σ := Int × Nat × List Int × Nat) (fun x => ⟨[(0, dIs l), (2, .ptr 2 g2 0), (4, .ptr 900000 gg 0), (5, .ptr 5 g5 0), (6, dI i), (7, .ptr 7 g7 0), (8, dI x.1)], [(2, g2, .box [dI 0, .v (.slice none 0 0), .v (.slice none 0 0)]), (900000, gg, .box [dIs l, dI x.2.1]), (5, g5, .box [dI regs, .own 130 gc, .own 50 gx]), (130, gc, .row 57 6 (([] : List Ins).map cIns)), (50, gx, .row 72 2 (exs.map cExi)), (7, g7, .box [dI bk, .own 44 x.2.2.2]), (44, x.2.2.2, .row 3 1 (x.2.2.1.map cI))]⟩)
      (fun x => 0 ≤ x.1 ∧ x.2.1 ≤ l.length ∧ (x.2.2.1.length : Int) + x.1 ≤ 3 ∧ ∀ s ∈ x.2.2.1, slotOk regs s) (fun x => x.1.toNat) (v3, b3, [], gs) ?_ ?_ ?_
    · (refine cov_of ?_ ?_ <;> simp [go_sem])
    · simp; omega
    rintro ⟨k, at2, sl, gs⟩ ⟨hk0, hat2, hkl, hsl⟩
    simp only at hk0 hat2 hkl hsl
    refine awp_seq_k fun K6 hK6 => ?_
    (refine awp_sr fun KK hKK => ?_; simp [go_sem]; ((repeat' (first|(refine ag_x ?_;simp [go_sem])|intro _|refine And.intro ?_ ?_|(apply hKK;clear hKK KK)));all_goals first|refine Hold.mk ?_|omega|with_reducible assumption|(simp only [InR] at *;omega)|skip))
    (refine awp_if fun T F hT hF => ?_; simp [go_sem]; refine BR.intro (fun h7 => hT ?_) (fun h7 => hF ?_); all_goals clear hT hF T F; try simp at h7) 
    · refine awp_skip ?_
      refine hK6 _ ?_; clear hK6
      refine awp_seq_k fun K8 hK8 => ?_
      refine awp_block ?_
      have fin8 : ∀ S' b4 v4 gs', b4 ≤ l.length → 0 ≤ v4 → v4 < regs → Cov S' ⟨[(0, dIs l), (2, .ptr 2 g2 0), (4, .ptr 900000 gg 0), (5, .ptr 5 g5 0), (6, dI i), (7, .ptr 7 g7 0), (8, dI k)], [(2, g2, .box [dI 0, .v (.slice none 0 0), .v (.slice none 0 0)]), (900000, gg, .box [dIs l, dI b4]), (5, g5, .box [dI regs, .own 130 gc, .own 50 gx]), (130, gc, .row 57 6 (([] : List Ins).map cIns)), (50, gx, .row 72 2 (exs.map cExi)), (7, g7, .box [dI bk, .own 44 gs']), (44, gs', .row 3 1 ((sl ++ [v4]).map cI))]⟩ → K8 S' := fun S' b4 v4 gs' hb4 hv4 hv42 hS => by
        refine hK8 _ ?_; clear hK8
        refine awp_cov hS ?_; clear hS
        (refine awp_r fun KK hKK => ?_; simp [go_sem]; ((repeat' (first|(refine ag_x ?_;simp [go_sem])|intro _|refine And.intro ?_ ?_|(apply hKK;clear hKK KK)));all_goals first|refine Hold.mk ?_|omega|with_reducible assumption|(simp only [InR] at *;omega)|skip))
        refine ⟨(k - 1, b4, sl ++ [v4], gs'), ?_, ⟨by simp; omega, hb4, by simp; omega, ?_⟩, by simp; omega⟩
        · (refine cov_of ?_ ?_ <;> simp [go_sem])
        · intro s hs
          rcases List.mem_append.1 hs with h | h
          · exact hsl s h
          · rw [List.mem_singleton.1 h]; exact ⟨hv4, hv42⟩
      ((refine awp_d (.qs [0, 2, 3] (.two 1 (.qs [4] (.one 5 (.kp 6 (.one 7 (.qs [8] (.one 9 (.nil))))))) 4 (.two 1 (.one 5 (.kp 6 (.one 7 (.qs [8] (.one 9 (.nil)))))) 5 (.qs [1] (.kp 6 (.one 7 (.qs [8] (.one 9 (.nil))))))))) (by kernel_rfl) ?_ ?_ ?_ ?_); (kernel_rfl); (exact (by decide +kernel)); (kernel_rfl); intro KK hKK; ((repeat' (first|(refine ag_x ?_;simp [go_sem])|refine adr_nil ?_|refine adr_two ?_ ?_|refine adr_kp2 ?_ ?_|((first|refine adr_qs fun KK hKK=>?_|refine adr_y fun KK hKK=>?_);simp [go_sem])|intro _|refine And.intro ?_ ?_|(apply hKK;clear hKK KK)));all_goals first|refine Hold.mk ?_|omega|with_reducible assumption|(simp only [InR] at *;omega)|skip))
      all_goals
        (refine callA_l [900000] (by first | exact .inl ⟨rfl, rfl⟩ | exact .inr rfl) (by simp [go_sem]) ?_; intro args ha; simp [go_sem] at ha; subst ha; refine ⟨_, _, (pick_spec gg l at2 regs hat2 (by omega) (by omega) (by omega)), (by simp [go_sem]), ?_⟩; rintro ps r hps ⟨b4, v4, hb4, hv4, hv42, rfl, rfl⟩; simp [go_sem]; ((repeat' (first|(refine ag_x ?_;simp [go_sem])|refine adr_nil ?_|refine adr_two ?_ ?_|refine adr_kp2 ?_ ?_|((first|refine adr_qs fun KK hKK=>?_|refine adr_y fun KK hKK=>?_);simp [go_sem])|intro _|refine And.intro ?_ ?_|(apply hKK;clear hKK KK)));all_goals first|refine Hold.mk ?_|omega|with_reducible assumption|(simp only [InR] at *;omega)|skip))
        rename_i gs2
        refine fin8 _ b4 v4 gs2 hb4 hv4 hv42 ?_
        (refine cov_of ?_ ?_ <;> simp [go_sem])
    · refine awp_exit ?_
      simp only [go_sem]
      refine hK5 _ ?_; clear hK5
      (refine awp_r fun KK hKK => ?_; simp [go_sem]; ((repeat' (first|(refine ag_x ?_;simp [go_sem])|intro _|refine And.intro ?_ ?_|(apply hKK;clear hKK KK)));all_goals first|refine Hold.mk ?_|omega|with_reducible assumption|(simp only [InR] at *;omega)|skip))
      rename_i gr gx2
      refine hK4 _ ?_; clear hK4
      (refine awp_r fun KK hKK => ?_; simp [go_sem]; ((repeat' (first|(refine ag_x ?_;simp [go_sem])|intro _|refine And.intro ?_ ?_|(apply hKK;clear hKK KK)));all_goals first|refine Hold.mk ?_|omega|with_reducible assumption|(simp only [InR] at *;omega)|skip))
      have hxe : ExOk regs ⟨bk, sl⟩ := ⟨hsl, by simp; omega, hbk⟩
      refine ⟨(i - 1, at2, exs ++ [⟨bk, sl⟩], gx2), ?_, ⟨by simp; omega, hat2, by simp; omega, ?_⟩, by simp; omega⟩
      · (refine cov_of ?_ ?_ <;> simp [go_sem])
      · intro e he
        rcases List.mem_append.1 he with h | h
        · exact hex e h
        · rw [List.mem_singleton.1 h]; exact hxe
  · refine awp_exit ?_
    simp only [go_sem]
    refine hK1 _ ?_; clear hK1
    have hexl : 1 ≤ exs.length ∧ exs.length ≤ 3 := by omega
    (refine awp_sr fun KK hKK => ?_; simp [go_sem]; ((repeat' (first|(refine ag_x ?_;simp [go_sem])|intro _|refine And.intro ?_ ?_|(apply hKK;clear hKK KK)));all_goals first|refine Hold.mk ?_|omega|with_reducible assumption|(simp only [InR] at *;omega)|skip))
    rename_i gsm
    refine awp_frzrow 9 rfl rfl ?_
    simp only [go_sem]
    (refine awp_sr fun KK hKK => ?_; simp [go_sem]; ((repeat' (first|(refine ag_x ?_;simp [go_sem])|intro _|refine And.intro ?_ ?_|(apply hKK;clear hKK KK)));all_goals first|refine Hold.mk ?_|omega|with_reducible assumption|(simp only [InR] at *;omega)|skip))
    refine awp_nilslot 10 66 3 1 rfl fun gw => ?_
    simp only [go_sem]
    refine awp_seq_k fun K9 hK9 => ?_
    (refine awp_sr fun KK hKK => ?_; simp [go_sem]; ((repeat' (first|(refine ag_x ?_;simp [go_sem])|intro _|refine And.intro ?_ ?_|(apply hKK;clear hKK KK)));all_goals first|refine Hold.mk ?_|omega|with_reducible assumption|(simp only [InR] at *;omega)|skip))
    refine awp_block ?_
    refine awp_loop (σ := Nat × Nat × List Int × Nat) (fun x => ⟨[(0, dIs l), (2, .ptr 2 g2 0), (4, .ptr 900000 gg 0), (5, .ptr 5 g5 0), (9, dIs smallL), (10, .own 66 x.2.2.2), (11, dI x.1)], [(2, g2, .box [dI 0, .v (.slice none 0 0), .v (.slice none 0 0)]), (900000, gg, .box [dIs l, dI x.2.1]), (5, g5, .box [dI regs, .own 130 gc, .own 50 gx]), (130, gc, .row 57 6 (([] : List Ins).map cIns)), (50, gx, .row 72 2 (exs.map cExi)), (66, x.2.2.2, .row 3 1 (x.2.2.1.map cI))]⟩)
      (fun x => (x.1 : Int) ≤ regs ∧ x.2.1 ≤ l.length ∧ x.2.2.1.length = x.1 ∧ x.2.2.1.all isW = true) (fun x => (regs - x.1).toNat) (0, at_, [], gw) ?_ ?_ ?_
    · (refine cov_of ?_ ?_ <;> simp [go_sem, smallL])
    · simp; omega
    rintro ⟨j, at2, ws, gw⟩ ⟨hj, hat2, hwl, hwa⟩
    simp only at hj hat2 hwl hwa
    refine awp_seq_k fun K10 hK10 => ?_
    (refine awp_sr fun KK hKK => ?_; simp [go_sem]; ((repeat' (first|(refine ag_x ?_;simp [go_sem])|intro _|refine And.intro ?_ ?_|(apply hKK;clear hKK KK)));all_goals first|refine Hold.mk ?_|omega|with_reducible assumption|(simp only [InR] at *;omega)|skip))
    (refine awp_if fun T F hT hF => ?_; simp [go_sem]; refine BR.intro (fun h11 => hT ?_) (fun h11 => hF ?_); all_goals clear hT hF T F; try simp at h11) 
    · refine awp_skip ?_
      refine hK10 _ ?_; clear hK10
      refine awp_seq_k fun K12 hK12 => ?_
      refine awp_block ?_
      (refine awp_r fun KK hKK => ?_; simp [go_sem]; ((repeat' (first|(refine ag_x ?_;simp [go_sem])|intro _|refine And.intro ?_ ?_|(apply hKK;clear hKK KK)));all_goals first|refine Hold.mk ?_|omega|with_reducible assumption|(simp only [InR] at *;omega)|skip))
      (refine callA_l [900000] (by first | exact .inl ⟨rfl, rfl⟩ | exact .inr rfl) (by simp [go_sem]) ?_; intro args ha; simp [go_sem] at ha; subst ha; refine ⟨_, _, (pick_spec gg l at2 8 hat2 (by omega) (by omega) (by omega)), (by simp [go_sem]), ?_⟩; rintro ps r hps ⟨b4, v4, hb4, hv4, hv42, rfl, rfl⟩; simp [go_sem]; ((repeat' (first|(refine ag_x ?_;simp [go_sem])|intro _|refine And.intro ?_ ?_|(apply hKK;clear hKK KK)));all_goals first|refine Hold.mk ?_|omega|with_reducible assumption|(simp only [InR] at *;omega)|skip))
      obtain ⟨w, hw, hww⟩ := smallL_at hv4 hv42
      simp [go_sem, hw]
      ((repeat' (first|(refine ag_x ?_;simp [go_sem])|refine adr_nil ?_|refine adr_two ?_ ?_|refine adr_kp2 ?_ ?_|((first|refine adr_qs fun KK hKK=>?_|refine adr_y fun KK hKK=>?_);simp [go_sem])|intro _|refine And.intro ?_ ?_|(apply hKK;clear hKK KK)));all_goals first|refine Hold.mk ?_|omega|with_reducible assumption|(simp only [InR] at *;omega)|skip)
      rename_i gr gw2
      refine hK12 _ ?_; clear hK12
      (refine awp_r fun KK hKK => ?_; simp [go_sem]; ((repeat' (first|(refine ag_x ?_;simp [go_sem])|intro _|refine And.intro ?_ ?_|(apply hKK;clear hKK KK)));all_goals first|refine Hold.mk ?_|omega|with_reducible assumption|(simp only [InR] at *;omega)|skip))
      refine ⟨(j + 1, b4, ws ++ [w], gw2), ?_, ⟨by simp; omega, hb4, by simp; omega, by simp [hww]; simpa using hwa⟩, by simp; omega⟩
      (refine cov_of ?_ ?_ <;> simp [go_sem])
    · refine awp_exit ?_
      simp only [go_sem]
      refine hK9 _ ?_; clear hK9
      refine awp_seq_k fun K13 hK13 => ?_
      (refine awp_sr fun KK hKK => ?_; simp [go_sem]; ((repeat' (first|(refine ag_x ?_;simp [go_sem])|intro _|refine And.intro ?_ ?_|(apply hKK;clear hKK KK)));all_goals first|refine Hold.mk ?_|omega|with_reducible assumption|(simp only [InR] at *;omega)|skip))
      refine awp_block ?_
      refine awp_loop (σ := Nat × Nat × List Ins × Nat) (fun x => ⟨[(0, dIs l), (2, .ptr 2 g2 0), (4, .ptr 900000 gg 0), (5, .ptr 5 g5 0), (9, dIs smallL), (10, .own 66 gw), (12, dI x.1)], [(2, g2, .box [dI 0, .v (.slice none 0 0), .v (.slice none 0 0)]), (900000, gg, .box [dIs l, dI x.2.1]), (5, g5, .box [dI regs, .own 130 x.2.2.2, .own 50 gx]), (130, x.2.2.2, .row 57 6 (x.2.2.1.map cIns)), (50, gx, .row 72 2 (exs.map cExi)), (66, gw, .row 3 1 (ws.map cI))]⟩)
        (fun x => x.1 ≤ 25 ∧ x.2.1 ≤ l.length ∧ x.2.2.1.length = x.1 ∧ x.2.2.1.all (insOk regs exs.length) = true) (fun x => 25 - x.1) (0, at2, [], gc) ?_ ?_ ?_
      · (refine cov_of ?_ ?_ <;> simp [go_sem])
      · simp; omega
      rintro ⟨i, at3, code, gc⟩ ⟨hi, hat3, hcl, hca⟩
      simp only at hi hat3 hcl hca
      refine awp_seq_k fun K14 hK14 => ?_
      (refine awp_sr fun KK hKK => ?_; simp [go_sem]; ((repeat' (first|(refine ag_x ?_;simp [go_sem])|intro _|refine And.intro ?_ ?_|(apply hKK;clear hKK KK)));all_goals first|refine Hold.mk ?_|omega|with_reducible assumption|(simp only [InR] at *;omega)|skip))
      (refine awp_if fun T F hT hF => ?_; simp [go_sem]; refine BR.intro (fun h15 => hT ?_) (fun h15 => hF ?_); all_goals clear hT hF T F; try simp at h15) 
      · refine awp_skip ?_
        refine hK14 _ ?_; clear hK14
        refine awp_seq_k fun K16 hK16 => ?_
        refine awp_block ?_
        (refine awp_sr fun KK hKK => ?_; simp [go_sem]; ((repeat' (first|(refine ag_x ?_;simp [go_sem])|intro _|refine And.intro ?_ ?_|(apply hKK;clear hKK KK)));all_goals first|refine Hold.mk ?_|omega|with_reducible assumption|(simp only [InR] at *;omega)|skip))
        (refine callA_l [900000] (by first | exact .inl ⟨rfl, rfl⟩ | exact .inr rfl) (by simp [go_sem]) ?_; intro args ha; simp [go_sem] at ha; subst ha; refine ⟨_, _, (pick_spec gg l at3 13 hat3 (by omega) (by omega) (by omega)), (by simp [go_sem]), ?_⟩; rintro ps r hps ⟨b5, v5, hb5, hv5, hv52, rfl, rfl⟩; simp [go_sem]; ((repeat' (first|(refine ag_x ?_;simp [go_sem])|intro _|refine And.intro ?_ ?_|(apply hKK;clear hKK KK)));all_goals first|refine Hold.mk ?_|omega|with_reducible assumption|(simp only [InR] at *;omega)|skip))
        rename_i g13
        have hop : 0 ≤ v5.tmod 11 ∧ v5.tmod 11 ≤ 10 := ⟨Int.tmod_nonneg _ hv5, by have := Int.tmod_lt_of_pos v5 (show (0 : Int) < 11 by decide); omega⟩
        generalize v5.tmod 11 = op at hop
        refine awp_seq_k fun K17 hK17 => ?_
        have tl0 : ∀ S' atn d, atn ≤ l.length → fldOk op 68 d 0 (regs - 1) = true → Cov S' ⟨[(0, dIs l), (2, .ptr 2 g2 0), (4, .ptr 900000 gg 0), (5, .ptr 5 g5 0), (9, dIs smallL), (10, .own 66 gw), (12, dI i), (13, .ptr 13 g13 0)], [(2, g2, .box [dI 0, .v (.slice none 0 0), .v (.slice none 0 0)]), (900000, gg, .box [dIs l, dI atn]), (5, g5, .box [dI regs, .own 130 gc, .own 50 gx]), (130, gc, .row 57 6 (code.map cIns)), (50, gx, .row 72 2 (exs.map cExi)), (66, gw, .row 3 1 (ws.map cI)), (13, g13, .box [dI op, dI d, dI 0, dI 0, dI 0, dI 0])]⟩ → K17 S' := fun S' atn d hat9 hf0 hS => by
          refine hK17 _ ?_; clear hK17
          refine awp_cov hS ?_; clear hS
          refine awp_seq_k fun K18 hK18 => ?_
          have tl1 : ∀ S' atn a, atn ≤ l.length → fldOk op 65 a 0 (regs - 1) = true → Cov S' ⟨[(0, dIs l), (2, .ptr 2 g2 0), (4, .ptr 900000 gg 0), (5, .ptr 5 g5 0), (9, dIs smallL), (10, .own 66 gw), (12, dI i), (13, .ptr 13 g13 0)], [(2, g2, .box [dI 0, .v (.slice none 0 0), .v (.slice none 0 0)]), (900000, gg, .box [dIs l, dI atn]), (5, g5, .box [dI regs, .own 130 gc, .own 50 gx]), (130, gc, .row 57 6 (code.map cIns)), (50, gx, .row 72 2 (exs.map cExi)), (66, gw, .row 3 1 (ws.map cI)), (13, g13, .box [dI op, dI d, dI a, dI 0, dI 0, dI 0])]⟩ → K18 S' := fun S' atn a hat9 hf1 hS => by
            refine hK18 _ ?_; clear hK18
            refine awp_cov hS ?_; clear hS
            refine awp_seq_k fun K19 hK19 => ?_
            have tl2 : ∀ S' atn b, atn ≤ l.length → fldOk op 66 b 0 (regs - 1) = true → Cov S' ⟨[(0, dIs l), (2, .ptr 2 g2 0), (4, .ptr 900000 gg 0), (5, .ptr 5 g5 0), (9, dIs smallL), (10, .own 66 gw), (12, dI i), (13, .ptr 13 g13 0)], [(2, g2, .box [dI 0, .v (.slice none 0 0), .v (.slice none 0 0)]), (900000, gg, .box [dIs l, dI atn]), (5, g5, .box [dI regs, .own 130 gc, .own 50 gx]), (130, gc, .row 57 6 (code.map cIns)), (50, gx, .row 72 2 (exs.map cExi)), (66, gw, .row 3 1 (ws.map cI)), (13, g13, .box [dI op, dI d, dI a, dI b, dI 0, dI 0])]⟩ → K19 S' := fun S' atn b hat9 hf2 hS => by
              refine hK19 _ ?_; clear hK19
              refine awp_cov hS ?_; clear hS
              refine awp_seq_k fun K20 hK20 => ?_
              have tl3 : ∀ S' atn n, atn ≤ l.length → fldOk op 78 n (-1000000000000000) 1000000000000000 = true → Cov S' ⟨[(0, dIs l), (2, .ptr 2 g2 0), (4, .ptr 900000 gg 0), (5, .ptr 5 g5 0), (9, dIs smallL), (10, .own 66 gw), (12, dI i), (13, .ptr 13 g13 0)], [(2, g2, .box [dI 0, .v (.slice none 0 0), .v (.slice none 0 0)]), (900000, gg, .box [dIs l, dI atn]), (5, g5, .box [dI regs, .own 130 gc, .own 50 gx]), (130, gc, .row 57 6 (code.map cIns)), (50, gx, .row 72 2 (exs.map cExi)), (66, gw, .row 3 1 (ws.map cI)), (13, g13, .box [dI op, dI d, dI a, dI b, dI n, dI 0])]⟩ → K20 S' := fun S' atn n hat9 hf3 hS => by
                refine hK20 _ ?_; clear hK20
                refine awp_cov hS ?_; clear hS
                refine awp_seq_k fun K21 hK21 => ?_
                have tl4 : ∀ S' atn x, atn ≤ l.length → fldOk op 88 x 0 (exs.length - 1) = true → Cov S' ⟨[(0, dIs l), (2, .ptr 2 g2 0), (4, .ptr 900000 gg 0), (5, .ptr 5 g5 0), (9, dIs smallL), (10, .own 66 gw), (12, dI i), (13, .ptr 13 g13 0)], [(2, g2, .box [dI 0, .v (.slice none 0 0), .v (.slice none 0 0)]), (900000, gg, .box [dIs l, dI atn]), (5, g5, .box [dI regs, .own 130 gc, .own 50 gx]), (130, gc, .row 57 6 (code.map cIns)), (50, gx, .row 72 2 (exs.map cExi)), (66, gw, .row 3 1 (ws.map cI)), (13, g13, .box [dI op, dI d, dI a, dI b, dI n, dI x])]⟩ → K21 S' := fun S' atn x hat9 hf4 hS => by
                  refine hK21 _ ?_; clear hK21
                  refine awp_cov hS ?_; clear hS
                  (refine awp_r fun KK hKK => ?_; simp [go_sem]; ((repeat' (first|(refine ag_x ?_;simp [go_sem])|intro _|refine And.intro ?_ ?_|(apply hKK;clear hKK KK)));all_goals first|refine Hold.mk ?_|omega|with_reducible assumption|(simp only [InR] at *;omega)|skip))
                  rename_i gr gc2
                  refine hK16 _ ?_; clear hK16
                  (refine awp_r fun KK hKK => ?_; simp [go_sem]; ((repeat' (first|(refine ag_x ?_;simp [go_sem])|intro _|refine And.intro ?_ ?_|(apply hKK;clear hKK KK)));all_goals first|refine Hold.mk ?_|omega|with_reducible assumption|(simp only [InR] at *;omega)|skip))
                  have hins : insOk regs exs.length ⟨op, d, a, b, n, x⟩ = true := by rw [← insR_eq]; simp [insR, hop, hf0, hf1, hf2, hf3, hf4]
                  refine ⟨(i + 1, atn, code ++ [⟨op, d, a, b, n, x⟩], gc2), ?_, ⟨by simp; omega, hat9, by simp; omega, by simp [hins]; simpa using hca⟩, by simp; omega⟩
                  (refine cov_of ?_ ?_ <;> simp [go_sem])
                clear hK21
                (refine awp_sr fun KK hKK => ?_; simp [go_sem]; ((repeat' (first|(refine ag_x ?_;simp [go_sem])|intro _|refine And.intro ?_ ?_|(apply hKK;clear hKK KK)));all_goals first|refine Hold.mk ?_|omega|with_reducible assumption|(simp only [InR] at *;omega)|skip))
                ((try refine CallT.toA ?_); refine callT_m (by first | exact .inl ⟨rfl, rfl⟩ | exact .inr rfl) (by simp [go_sem]) ?_; intro args ha; simp [go_sem] at ha; subst ha; refine ⟨_, (has_spec op 88 hop.1 hop.2), ?_⟩; rintro _ rfl; simp [go_sem]; ((repeat' (first|(refine ag_x ?_;simp [go_sem])|intro _|refine And.intro ?_ ?_|(apply hKK;clear hKK KK)));all_goals first|refine Hold.mk ?_|omega|with_reducible assumption|(simp only [InR] at *;omega)|skip))
                (refine awp_if fun T F hT hF => ?_; simp [go_sem]; refine BR.intro (fun hh4 => hT ?_) (fun hh4 => hF ?_); all_goals clear hT hF T F; try simp at hh4)
                · (refine awp_r fun KK hKK => ?_; simp [go_sem]; ((repeat' (first|(refine ag_x ?_;simp [go_sem])|intro _|refine And.intro ?_ ?_|(apply hKK;clear hKK KK)));all_goals first|refine Hold.mk ?_|omega|with_reducible assumption|(simp only [InR] at *;omega)|skip))
                  (refine callA_l [900000] (by first | exact .inl ⟨rfl, rfl⟩ | exact .inr rfl) (by simp [go_sem]) ?_; intro args ha; simp [go_sem] at ha; subst ha; refine ⟨_, _, (pick_spec gg l atn exs.length hat9 (by omega) (by omega) (by omega)), (by simp [go_sem]), ?_⟩; rintro ps r hps ⟨bq, vq, hbq, hvq, hvq2, rfl, rfl⟩; simp [go_sem]; ((repeat' (first|(refine ag_x ?_;simp [go_sem])|intro _|refine And.intro ?_ ?_|(apply hKK;clear hKK KK)));all_goals first|refine Hold.mk ?_|omega|with_reducible assumption|(simp only [InR] at *;omega)|skip))
                  refine tl4 _ bq vq hbq (by simp [fldOk, hh4]; omega) ?_
                  (refine cov_of ?_ ?_ <;> simp [go_sem])
                · refine awp_skip ?_
                  refine tl4 _ atn 0 hat9 (by simp [fldOk, hh4]) ?_
                  (refine cov_of ?_ ?_ <;> simp [go_sem])
              clear hK20
              (refine awp_sr fun KK hKK => ?_; simp [go_sem]; ((repeat' (first|(refine ag_x ?_;simp [go_sem])|intro _|refine And.intro ?_ ?_|(apply hKK;clear hKK KK)));all_goals first|refine Hold.mk ?_|omega|with_reducible assumption|(simp only [InR] at *;omega)|skip))
              ((try refine CallT.toA ?_); refine callT_m (by first | exact .inl ⟨rfl, rfl⟩ | exact .inr rfl) (by simp [go_sem]) ?_; intro args ha; simp [go_sem] at ha; subst ha; refine ⟨_, (has_spec op 78 hop.1 hop.2), ?_⟩; rintro _ rfl; simp [go_sem]; ((repeat' (first|(refine ag_x ?_;simp [go_sem])|intro _|refine And.intro ?_ ?_|(apply hKK;clear hKK KK)));all_goals first|refine Hold.mk ?_|omega|with_reducible assumption|(simp only [InR] at *;omega)|skip))
              (refine awp_if fun T F hT hF => ?_; simp [go_sem]; refine BR.intro (fun hh3 => hT ?_) (fun hh3 => hF ?_); all_goals clear hT hF T F; try simp at hh3)
              · (refine awp_r fun KK hKK => ?_; simp [go_sem]; ((repeat' (first|(refine ag_x ?_;simp [go_sem])|intro _|refine And.intro ?_ ?_|(apply hKK;clear hKK KK)));all_goals first|refine Hold.mk ?_|omega|with_reducible assumption|(simp only [InR] at *;omega)|skip))
                (refine callA_l [900000] (by first | exact .inl ⟨rfl, rfl⟩ | exact .inr rfl) (by simp [go_sem]) ?_; intro args ha; simp [go_sem] at ha; subst ha; refine ⟨_, _, (pick_spec gg l atn 8 hat9 (by omega) (by omega) (by omega)), (by simp [go_sem]), ?_⟩; rintro ps r hps ⟨bq, vq, hbq, hvq, hvq2, rfl, rfl⟩; simp [go_sem]; ((repeat' (first|(refine ag_x ?_;simp [go_sem])|intro _|refine And.intro ?_ ?_|(apply hKK;clear hKK KK)));all_goals first|refine Hold.mk ?_|omega|with_reducible assumption|(simp only [InR] at *;omega)|skip))
                obtain ⟨w, hw, hww⟩ := smallL_at hvq hvq2
                simp [go_sem, hw]
                ((repeat' (first|(refine ag_x ?_;simp [go_sem])|refine adr_nil ?_|refine adr_two ?_ ?_|refine adr_kp2 ?_ ?_|((first|refine adr_qs fun KK hKK=>?_|refine adr_y fun KK hKK=>?_);simp [go_sem])|intro _|refine And.intro ?_ ?_|(apply hKK;clear hKK KK)));all_goals first|refine Hold.mk ?_|omega|with_reducible assumption|(simp only [InR] at *;omega)|skip)
                refine tl3 _ bq w hbq (by have := isW_iff.1 hww; simp [fldOk, hh3]; omega) ?_
                (refine cov_of ?_ ?_ <;> simp [go_sem])
              · refine awp_skip ?_
                refine tl3 _ atn 0 hat9 (by simp [fldOk, hh3]) ?_
                (refine cov_of ?_ ?_ <;> simp [go_sem])
            clear hK19
            (refine awp_sr fun KK hKK => ?_; simp [go_sem]; ((repeat' (first|(refine ag_x ?_;simp [go_sem])|intro _|refine And.intro ?_ ?_|(apply hKK;clear hKK KK)));all_goals first|refine Hold.mk ?_|omega|with_reducible assumption|(simp only [InR] at *;omega)|skip))
            ((try refine CallT.toA ?_); refine callT_m (by first | exact .inl ⟨rfl, rfl⟩ | exact .inr rfl) (by simp [go_sem]) ?_; intro args ha; simp [go_sem] at ha; subst ha; refine ⟨_, (has_spec op 66 hop.1 hop.2), ?_⟩; rintro _ rfl; simp [go_sem]; ((repeat' (first|(refine ag_x ?_;simp [go_sem])|intro _|refine And.intro ?_ ?_|(apply hKK;clear hKK KK)));all_goals first|refine Hold.mk ?_|omega|with_reducible assumption|(simp only [InR] at *;omega)|skip))
            (refine awp_if fun T F hT hF => ?_; simp [go_sem]; refine BR.intro (fun hh2 => hT ?_) (fun hh2 => hF ?_); all_goals clear hT hF T F; try simp at hh2)
            · (refine awp_r fun KK hKK => ?_; simp [go_sem]; ((repeat' (first|(refine ag_x ?_;simp [go_sem])|intro _|refine And.intro ?_ ?_|(apply hKK;clear hKK KK)));all_goals first|refine Hold.mk ?_|omega|with_reducible assumption|(simp only [InR] at *;omega)|skip))
              (refine callA_l [900000] (by first | exact .inl ⟨rfl, rfl⟩ | exact .inr rfl) (by simp [go_sem]) ?_; intro args ha; simp [go_sem] at ha; subst ha; refine ⟨_, _, (pick_spec gg l atn regs hat9 (by omega) (by omega) (by omega)), (by simp [go_sem]), ?_⟩; rintro ps r hps ⟨bq, vq, hbq, hvq, hvq2, rfl, rfl⟩; simp [go_sem]; ((repeat' (first|(refine ag_x ?_;simp [go_sem])|intro _|refine And.intro ?_ ?_|(apply hKK;clear hKK KK)));all_goals first|refine Hold.mk ?_|omega|with_reducible assumption|(simp only [InR] at *;omega)|skip))
              refine tl2 _ bq vq hbq (by simp [fldOk, hh2]; omega) ?_
              (refine cov_of ?_ ?_ <;> simp [go_sem])
            · refine awp_skip ?_
              refine tl2 _ atn 0 hat9 (by simp [fldOk, hh2]) ?_
              (refine cov_of ?_ ?_ <;> simp [go_sem])
          clear hK18
          (refine awp_sr fun KK hKK => ?_; simp [go_sem]; ((repeat' (first|(refine ag_x ?_;simp [go_sem])|intro _|refine And.intro ?_ ?_|(apply hKK;clear hKK KK)));all_goals first|refine Hold.mk ?_|omega|with_reducible assumption|(simp only [InR] at *;omega)|skip))
          ((try refine CallT.toA ?_); refine callT_m (by first | exact .inl ⟨rfl, rfl⟩ | exact .inr rfl) (by simp [go_sem]) ?_; intro args ha; simp [go_sem] at ha; subst ha; refine ⟨_, (has_spec op 65 hop.1 hop.2), ?_⟩; rintro _ rfl; simp [go_sem]; ((repeat' (first|(refine ag_x ?_;simp [go_sem])|intro _|refine And.intro ?_ ?_|(apply hKK;clear hKK KK)));all_goals first|refine Hold.mk ?_|omega|with_reducible assumption|(simp only [InR] at *;omega)|skip))
          (refine awp_if fun T F hT hF => ?_; simp [go_sem]; refine BR.intro (fun hh1 => hT ?_) (fun hh1 => hF ?_); all_goals clear hT hF T F; try simp at hh1)
          · (refine awp_r fun KK hKK => ?_; simp [go_sem]; ((repeat' (first|(refine ag_x ?_;simp [go_sem])|intro _|refine And.intro ?_ ?_|(apply hKK;clear hKK KK)));all_goals first|refine Hold.mk ?_|omega|with_reducible assumption|(simp only [InR] at *;omega)|skip))
            (refine callA_l [900000] (by first | exact .inl ⟨rfl, rfl⟩ | exact .inr rfl) (by simp [go_sem]) ?_; intro args ha; simp [go_sem] at ha; subst ha; refine ⟨_, _, (pick_spec gg l atn regs hat9 (by omega) (by omega) (by omega)), (by simp [go_sem]), ?_⟩; rintro ps r hps ⟨bq, vq, hbq, hvq, hvq2, rfl, rfl⟩; simp [go_sem]; ((repeat' (first|(refine ag_x ?_;simp [go_sem])|intro _|refine And.intro ?_ ?_|(apply hKK;clear hKK KK)));all_goals first|refine Hold.mk ?_|omega|with_reducible assumption|(simp only [InR] at *;omega)|skip))
            refine tl1 _ bq vq hbq (by simp [fldOk, hh1]; omega) ?_
            (refine cov_of ?_ ?_ <;> simp [go_sem])
          · refine awp_skip ?_
            refine tl1 _ atn 0 hat9 (by simp [fldOk, hh1]) ?_
            (refine cov_of ?_ ?_ <;> simp [go_sem])
        clear hK17
        (refine awp_sr fun KK hKK => ?_; simp [go_sem]; ((repeat' (first|(refine ag_x ?_;simp [go_sem])|intro _|refine And.intro ?_ ?_|(apply hKK;clear hKK KK)));all_goals first|refine Hold.mk ?_|omega|with_reducible assumption|(simp only [InR] at *;omega)|skip))
        ((try refine CallT.toA ?_); refine callT_m (by first | exact .inl ⟨rfl, rfl⟩ | exact .inr rfl) (by simp [go_sem]) ?_; intro args ha; simp [go_sem] at ha; subst ha; refine ⟨_, (has_spec op 68 hop.1 hop.2), ?_⟩; rintro _ rfl; simp [go_sem]; ((repeat' (first|(refine ag_x ?_;simp [go_sem])|intro _|refine And.intro ?_ ?_|(apply hKK;clear hKK KK)));all_goals first|refine Hold.mk ?_|omega|with_reducible assumption|(simp only [InR] at *;omega)|skip))
        (refine awp_if fun T F hT hF => ?_; simp [go_sem]; refine BR.intro (fun hh0 => hT ?_) (fun hh0 => hF ?_); all_goals clear hT hF T F; try simp at hh0)
        · (refine awp_r fun KK hKK => ?_; simp [go_sem]; ((repeat' (first|(refine ag_x ?_;simp [go_sem])|intro _|refine And.intro ?_ ?_|(apply hKK;clear hKK KK)));all_goals first|refine Hold.mk ?_|omega|with_reducible assumption|(simp only [InR] at *;omega)|skip))
          (refine callA_l [900000] (by first | exact .inl ⟨rfl, rfl⟩ | exact .inr rfl) (by simp [go_sem]) ?_; intro args ha; simp [go_sem] at ha; subst ha; refine ⟨_, _, (pick_spec gg l b5 regs hb5 (by omega) (by omega) (by omega)), (by simp [go_sem]), ?_⟩; rintro ps r hps ⟨bq, vq, hbq, hvq, hvq2, rfl, rfl⟩; simp [go_sem]; ((repeat' (first|(refine ag_x ?_;simp [go_sem])|intro _|refine And.intro ?_ ?_|(apply hKK;clear hKK KK)));all_goals first|refine Hold.mk ?_|omega|with_reducible assumption|(simp only [InR] at *;omega)|skip))
          refine tl0 _ bq vq hbq (by simp [fldOk, hh0]; omega) ?_
          (refine cov_of ?_ ?_ <;> simp [go_sem])
        · refine awp_skip ?_
          refine tl0 _ b5 0 hb5 (by simp [fldOk, hh0]) ?_
          (refine cov_of ?_ ?_ <;> simp [go_sem])
      · refine awp_exit ?_
        simp only [go_sem]
        refine hK13 _ ?_; clear hK13
        (refine awp_sr fun KK hKK => ?_; simp [go_sem]; ((repeat' (first|(refine ag_x ?_;simp [go_sem])|intro _|refine And.intro ?_ ?_|(apply hKK;clear hKK KK)));all_goals first|refine Hold.mk ?_|omega|with_reducible assumption|(simp only [InR] at *;omega)|skip))
        (refine awp_ret ?_; simp [go_sem])
        have hjr : (j : Int) = regs := by omega
        refine ⟨⟨regs, code, exs⟩, ws, ⟨?_, by simp; omega, hwa, by simp; omega, by simp; omega, fun e he => (hex e he).len, fun e he => (hex e he).back⟩, ⟨rfl, rfl, rfl⟩, rfl⟩
        simp only [trOk, Bool.and_eq_true, decide_eq_true_eq]
        refine ⟨⟨⟨⟨⟨by omega, by omega⟩, by omega⟩, by omega⟩, hca⟩, ?_⟩
        rw [List.all_eq_true]
        intro e he
        have := hex e he
        simp [exOk]
        refine ⟨by have := this.len; omega, fun s hs => ?_⟩
        have := this.slots s hs
        simp [slotBad]
        exact ⟨this.1, this.2⟩
end Go.Proofs.Ytmgbaegdkjcagaa

namespace Go.Proofs.Ytmgbaegdkjcagaa
open Go.Eng

theorem goCode_told : ∀ (l : List Ins) (ws told : List Int), told <+: (goCode l ws told).2.1
  | [], ws, told => List.prefix_rfl
  | i :: is, ws, told => by
    have h1 : told <+: (if (stepV i ws).2.1 && decide (told.length < 2000) then told ++ [(stepV i ws).1] else told) := by
      split
      · exact List.prefix_append _ _
      · exact List.prefix_rfl
    simp only [goCode]
    split
    · exact h1
    · exact h1.trans (goCode_told is _ _)
theorem leave_told (t : Tr) (x r : Int) (ws told : List Int) : (leave t x r ws told).told = told ∧ (leave t x r ws told).rounds = r ∧ (leave t x r ws told).exit = x := by
  unfold leave
  split <;> simp
theorem goRounds_mono (t : Tr) : ∀ (n r : Nat) (ws told : List Int), told <+: (goRounds t n r ws told).told ∧ (r : Int) ≤ (goRounds t n r ws told).rounds
  | 0, r, ws, told => ⟨List.prefix_rfl, by simp [goRounds]⟩
  | n + 1, r, ws, told => by
    have h := goCode_told t.code ws told
    simp only [goRounds]
    split
    · rename_i ws' told' x he
      rw [he] at h
      obtain ⟨h1, h2, _⟩ := leave_told t x (r + 1) ws' told'
      rw [h1, h2]
      exact ⟨h, by omega⟩
    · rename_i ws' told' he
      rw [he] at h
      obtain ⟨h1, h2⟩ := goRounds_mono t n (r + 1) ws' told'
      exact ⟨h.trans h1, by omega⟩
/-- more fuel: what is told goes on, and what has left stays -/
theorem goRounds_more (t : Tr) (k : Nat) : ∀ (n r : Nat) (ws told : List Int), (goRounds t n r ws told).told <+: (goRounds t (n + k) r ws told).told ∧ (goRounds t n r ws told).rounds ≤ (goRounds t (n + k) r ws told).rounds ∧
    (goRounds t n r ws told).rounds ≤ r + n ∧ (0 ≤ (goRounds t n r ws told).exit → goRounds t n r ws told = goRounds t (n + k) r ws told)
  | 0, r, ws, told => by
    obtain ⟨h1, h2⟩ := goRounds_mono t k r ws told
    rw [Nat.zero_add]
    exact ⟨h1, h2, by simp [goRounds], fun h => by simp [goRounds] at h⟩
  | n + 1, r, ws, told => by
    rw [show n + 1 + k = n + k + 1 by omega]
    simp only [goRounds]
    split
    · rename_i ws' told' x he
      obtain ⟨h1, h2, _⟩ := leave_told t x (r + 1) ws' told'
      exact ⟨List.prefix_rfl, Int.le_refl _, by rw [h2]; simp; omega, fun _ => rfl⟩
    · rename_i ws' told' he
      obtain ⟨h1, h2, h3, h4⟩ := goRounds_more t k n (r + 1) ws' told'
      exact ⟨h1, h2, by simp at h3 ⊢; omega, h4⟩
end Go.Proofs.Ytmgbaegdkjcagaa

namespace Go.Proofs.Ytmgbaegdkjcagaa
open Go.Eng
set_option maxRecDepth 20000
attribute [local irreducible] AG CallA CallT AWp PCall ACall AgC

/-- a number modulo m, taken without its sign -/
def umod (x m : Int) : Int := (IntKind.u64.wrap x).tmod m
theorem umod_bounds (x : Int) {m : Int} (h : 0 < m) : 0 ≤ umod x m ∧ umod x m < m :=
  ⟨Int.tmod_nonneg _ (u64_wrap_bounds x).1, Int.tmod_lt_of_pos _ h⟩
theorem Fit.fit {t : Tr} {ws : List Int} (h : Fit t ws) {n : Int} (h0 : 0 ≤ n) (h1 : n ≤ 10000) : fitOk t ws n = true := by
  simp [fitOk, h.ok, h.len, h0, h1, h.words]
theorem Fit.bounds {t : Tr} {ws : List Int} (h : Fit t ws) : t.code.length ≤ 500 ∧ t.exits.length ≤ 100 ∧ (∀ x ∈ t.exits, x.slots.length ≤ 2000) ∧ ws.length ≤ 20 := by
  have := trOk_regs h.ok
  have := h.len
  refine ⟨by have := h.code; omega, by have := h.exits; omega, fun x hx => by have := h.slots x hx; omega, by omega⟩

set_option maxHeartbeats 8000000 in
theorem traceFuel_spec (l : List Int) (fuel more : Int) : PCall Try.prog 4 [dIs l, dI fuel, dI more] fun r => r = dB true := by 
  refine pcall_of Try.func4 rfl rfl Try.ntmps4 (rs := [.tmp 6]) (tys := [4]) rfl rfl (by simp) ?_
  have hn := umod_bounds fuel (show (0 : Int) < 100 by decide)
  have hm := umod_bounds more (show (0 : Int) < 100 by decide)
  have en : (IntKind.u64.wrap fuel).tmod 100 = umod fuel 100 := rfl
  have em : (IntKind.u64.wrap more).tmod 100 = umod more 100 := rfl
  generalize umod fuel 100 = n at hn en
  generalize umod more 100 = m at hm em
  (refine awp_sr fun KK hKK => ?_; simp [go_sem]; ((repeat' (first|(refine ag_x ?_;simp [go_sem])|intro _|refine And.intro ?_ ?_|(apply hKK;clear hKK KK)));all_goals first|refine Hold.mk ?_|omega|with_reducible assumption|(simp only [InR] at *;omega)|skip))
  (refine awp_sr fun KK hKK => ?_; simp [go_sem]; ((repeat' (first|(refine ag_x ?_;simp [go_sem])|intro _|refine And.intro ?_ ?_|(apply hKK;clear hKK KK)));all_goals first|refine Hold.mk ?_|omega|with_reducible assumption|(simp only [InR] at *;omega)|skip))
  ((try refine CallT.toA ?_); refine callT_m (by first | exact .inl ⟨rfl, rfl⟩ | exact .inr rfl) (by simp [go_sem]) ?_; intro args ha; simp [go_sem] at ha; subst ha; refine ⟨_, (grown_spec l), ?_⟩; rintro _ ⟨t, ws, hF, rfl⟩; simp [go_sem]; ((repeat' (first|(refine ag_x ?_;simp [go_sem])|intro _|refine And.intro ?_ ?_|(apply hKK;clear hKK KK)));all_goals first|refine Hold.mk ?_|omega|with_reducible assumption|(simp only [InR] at *;omega)|skip))
  rename_i go
  refine awp_frzbox 7 rfl rfl ?_
  simp only [go_sem]
  obtain ⟨b1, b2, b3, b4⟩ := hF.bounds
  (refine awp_sr fun KK hKK => ?_; simp [go_sem]; ((repeat' (first|(refine ag_x ?_;simp [go_sem])|intro _|refine And.intro ?_ ?_|(apply hKK;clear hKK KK)));all_goals first|refine Hold.mk ?_|omega|with_reducible assumption|(simp only [InR] at *;omega)|skip))
  ((try refine CallT.toA ?_); refine callT_m (by first | exact .inl ⟨rfl, rfl⟩ | exact .inr rfl) (by simp [go_sem]) ?_; intro args ha; simp [go_sem] at ha; subst ha; refine ⟨_, (back_spec t b1 b2 b3), ?_⟩; rintro _ rfl; simp [go_sem]; ((repeat' (first|(refine ag_x ?_;simp [go_sem])|intro _|refine And.intro ?_ ?_|(apply hKK;clear hKK KK)));all_goals first|refine Hold.mk ?_|omega|with_reducible assumption|(simp only [InR] at *;omega)|skip))
  rename_i gt
  refine awp_frzbox 9 rfl rfl ?_
  simp only [go_sem]
  (refine awp_sr fun KK hKK => ?_; simp [go_sem, en]; ((repeat' (first|(refine ag_x ?_;simp [go_sem, en])|intro _|refine And.intro ?_ ?_|(apply hKK;clear hKK KK)));all_goals first|refine Hold.mk ?_|omega|with_reducible assumption|(simp only [InR] at *;omega)|skip))
  (refine awp_sr fun KK hKK => ?_; simp [go_sem, em]; ((repeat' (first|(refine ag_x ?_;simp [go_sem, em])|intro _|refine And.intro ?_ ?_|(apply hKK;clear hKK KK)));all_goals first|refine Hold.mk ?_|omega|with_reducible assumption|(simp only [InR] at *;omega)|skip))
  have hfn := hF.fit (n := n) (by omega) (by omega)
  have hfm := hF.fit (n := n + m) (by omega) (by omega)
  obtain ⟨ra, hra⟩ : ∃ r, runV t ws n = r := ⟨_, rfl⟩
  obtain ⟨rb, hrb⟩ : ∃ r, runV t ws (n + m) = r := ⟨_, rfl⟩
  obtain ⟨h1, h2, h3, h4⟩ : ra.told <+: rb.told ∧ ra.rounds ≤ rb.rounds ∧ ra.rounds ≤ n ∧ (0 ≤ ra.exit → ra = rb) := by
    rw [← hra, ← hrb]
    simp only [runV, hfn, hfm, if_true]
    rw [show (n + m).toNat = n.toNat + m.toNat by omega]
    obtain ⟨q1, q2, q3, q4⟩ := goRounds_more t m.toNat n.toNat 0 ws []
    exact ⟨q1, q2, by simp at q3; omega, q4⟩
  have h1l := h1.length_le
  have h1t : ra.told = rb.told.take ra.told.length := List.prefix_iff_eq_take.1 h1
  (refine awp_sr fun KK hKK => ?_; simp [go_sem]; ((repeat' (first|(refine ag_x ?_;simp [go_sem])|intro _|refine And.intro ?_ ?_|(apply hKK;clear hKK KK)));all_goals first|refine Hold.mk ?_|omega|with_reducible assumption|(simp only [InR] at *;omega)|skip))
  ((try refine CallT.toA ?_); refine callT_m (by first | exact .inl ⟨rfl, rfl⟩ | exact .inr rfl) (by simp [go_sem]) ?_; intro args ha; simp [go_sem] at ha; subst ha; refine ⟨_, (run_spec t ws n), ?_⟩; rintro _ rfl; simp [go_sem, hra, hfn]; ((repeat' (first|(refine ag_x ?_;simp [go_sem, hra, hfn])|intro _|refine And.intro ?_ ?_|(apply hKK;clear hKK KK)));all_goals first|refine Hold.mk ?_|omega|with_reducible assumption|(simp only [InR] at *;omega)|skip))
  rename_i ga
  refine awp_frzbox 12 rfl rfl ?_
  simp only [go_sem]
  (refine awp_sr fun KK hKK => ?_; simp [go_sem]; ((repeat' (first|(refine ag_x ?_;simp [go_sem])|intro _|refine And.intro ?_ ?_|(apply hKK;clear hKK KK)));all_goals first|refine Hold.mk ?_|omega|with_reducible assumption|(simp only [InR] at *;omega)|skip))
  ((try refine CallT.toA ?_); refine callT_m (by first | exact .inl ⟨rfl, rfl⟩ | exact .inr rfl) (by simp [go_sem]) ?_; intro args ha; simp [go_sem] at ha; subst ha; refine ⟨_, (run_spec t ws (n + m)), ?_⟩; rintro _ rfl; simp [go_sem, hrb, hfm]; ((repeat' (first|(refine ag_x ?_;simp [go_sem, hrb, hfm])|intro _|refine And.intro ?_ ?_|(apply hKK;clear hKK KK)));all_goals first|refine Hold.mk ?_|omega|with_reducible assumption|(simp only [InR] at *;omega)|skip))
  rename_i gb
  refine awp_frzbox 14 rfl rfl ?_
  simp only [go_sem]
  refine awp_seq_k fun K1 hK1 => ?_
  ((refine awp_dr (.qs [0, 1, 2, 3, 4, 5, 6, 7, 10, 8, 9, 11, 12, 13, 14, 15, 16, 18, 20, 17, 19, 21, 22, 23] (.one 24 (.qs [25, 26, 27, 28, 30, 29, 31, 32, 33, 34, 35, 37, 36, 38, 39] (.nil)))) (by kernel_rfl) ?_ ?_ ?_ ?_); (kernel_rfl); (exact (by decide +kernel)); (kernel_rfl); intro KK hKK; ((repeat' (first|(refine ag_x ?_;simp [go_sem])|refine adr_nil ?_|refine adr_two ?_ ?_|refine adr_kp2 ?_ ?_|((first|refine adr_qs fun KK hKK=>?_|refine adr_y fun KK hKK=>?_);simp [go_sem])|intro _|refine And.intro ?_ ?_|(apply hKK;clear hKK KK)));all_goals first|refine Hold.mk ?_|omega|with_reducible assumption|(simp only [InR] at *;omega)|skip))
  (refine agc_f (dB true) (by first | exact .inl ⟨rfl, rfl⟩ | exact .inr rfl) ?_ rfl ?_; (intro hc args ha; simp [go_sem] at ha; subst ha; exact (by have h := ints_spec ra.told (rb.told.take ra.told.length); rw [decide_eq_true h1t] at h; simpa only [dIs, List.map_take] using h)); simp [go_sem]; ((repeat' (first|(refine ag_x ?_;simp [go_sem])|refine adr_nil ?_|refine adr_two ?_ ?_|refine adr_kp2 ?_ ?_|((first|refine adr_qs fun KK hKK=>?_|refine adr_y fun KK hKK=>?_);simp [go_sem])|intro _|refine And.intro ?_ ?_|(apply hKK;clear hKK KK)));all_goals first|refine Hold.mk ?_|omega|with_reducible assumption|(simp only [InR] at *;omega)|skip))
  (refine awp_if fun T F hT hF => ?_; simp [go_sem]; refine BR.intro (fun h5 => hT ?_) (fun h5 => hF ?_); all_goals clear hT hF T F; try simp at h5) 
  · omega
  · refine awp_skip ?_
    refine hK1 _ ?_; clear hK1
    refine awp_seq_k fun K3 hK3 => ?_
    (refine awp_sr fun KK hKK => ?_; simp [go_sem]; ((repeat' (first|(refine ag_x ?_;simp [go_sem])|intro _|refine And.intro ?_ ?_|(apply hKK;clear hKK KK)));all_goals first|refine Hold.mk ?_|omega|with_reducible assumption|(simp only [InR] at *;omega)|skip))
    (refine agc_f (dB (decide (ra.slots = rb.slots))) (by first | exact .inl ⟨rfl, rfl⟩ | exact .inr rfl) ?_ rfl ?_; (intro hc args ha; simp [go_sem] at ha; subst ha; exact (ints_spec _ _)); simp [go_sem]; ((repeat' (first|(refine ag_x ?_;simp [go_sem])|intro _|refine And.intro ?_ ?_|(apply hKK;clear hKK KK)));all_goals first|refine Hold.mk ?_|omega|with_reducible assumption|(simp only [InR] at *;omega)|skip))
    (refine agc_f (dB (decide (ra.told = rb.told))) (by first | exact .inl ⟨rfl, rfl⟩ | exact .inr rfl) ?_ rfl ?_; (intro hc args ha; simp [go_sem] at ha; subst ha; exact (ints_spec _ _)); simp [go_sem]; ((repeat' (first|(refine ag_x ?_;simp [go_sem])|intro _|refine And.intro ?_ ?_|(apply hKK;clear hKK KK)));all_goals first|refine Hold.mk ?_|omega|with_reducible assumption|(simp only [InR] at *;omega)|skip))
    (refine awp_if fun T F hT hF => ?_; simp [go_sem]; refine BR.intro (fun h6 => hT ?_) (fun h6 => hF ?_); all_goals clear hT hF T F; try simp at h6) 
    · exfalso
      have := h4 h6.1
      subst this
      simp at h6
    · refine awp_skip ?_
      refine hK3 _ ?_; clear hK3
      (refine awp_sr fun KK hKK => ?_; simp [go_sem]; ((repeat' (first|(refine ag_x ?_;simp [go_sem])|intro _|refine And.intro ?_ ?_|(apply hKK;clear hKK KK)));all_goals first|refine Hold.mk ?_|omega|with_reducible assumption|(simp only [InR] at *;omega)|skip))
      ((try refine CallT.toA ?_); refine callT_f (by first | exact .inl ⟨rfl, rfl⟩ | exact .inr rfl) ?_; intro args ha; simp [go_sem] at ha; subst ha; refine ⟨_, sane_spec, ?_⟩; rintro _ rfl; refine ⟨rfl, ?_⟩; simp [go_sem]; ((repeat' (first|(refine ag_x ?_;simp [go_sem])|intro _|refine And.intro ?_ ?_|(apply hKK;clear hKK KK)));all_goals first|refine Hold.mk ?_|omega|with_reducible assumption|(simp only [InR] at *;omega)|skip))
      (refine awp_ret ?_; simp [go_sem])
end Go.Proofs.Ytmgbaegdkjcagaa
