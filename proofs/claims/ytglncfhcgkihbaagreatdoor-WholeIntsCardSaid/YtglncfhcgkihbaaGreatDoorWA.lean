/- Part of a proof: see the last text. -/
import Derived.Test.YtglncfhcgkihbaaGreatDoorSA
import Derived.Test.YtglncfhcgkihbaaGreatDoorMA
import Derived.Test.YtglncfhcgkihbaaGreatDoorED
import Derived.Lib.LaidTab
import Derived.Lib.ItoaNum
set_option linter.unusedVariables false
set_option linter.unusedSimpArgs false
namespace Go.Proofs.YtglncfhcgkihbaaGreatDoor
open Go.Eng Go.Wh
set_option maxRecDepth 20000
set_option linter.unusedSimpArgs false
set_option linter.unusedVariables false
theorem gn_pow : Tryz.prog.globalNamed "internal/strconv.uint64pow10" = some 2 := by kernel_rfl
/-- the package-level variables that the library's functions read: the powers of ten 2, MaxLen 3 -/
def glOk (w : World) : Prop := Lib.TabIs Tryz.prog w "internal/strconv.uint64pow10" .u64 Lib.pow10Tab ∧ ∃ m, w.cell? ⟨3, 0, none⟩ = some (.int .i64 m)
theorem glOk_stab (w w' : World) (h : ∀ b ∈ [2, 3], w'.heap[b]? = w.heap[b]?) (hk : glOk w) : glOk w' := by
  refine ⟨?_, ?_⟩
  · have hk1 := hk.1
    unfold Lib.TabIs World.var? at hk1 ⊢
    rw [gn_pow] at hk1 ⊢
    simp only [Option.bind_some] at hk1 ⊢
    rw [h 2 (by simp)]
    exact hk1
  · have e : w'.cell? ⟨3, 0, none⟩ = w.cell? ⟨3, 0, none⟩ := by unfold World.cell?; rw [h 3 (by simp)]
    rw [e]; exact hk.2
instance trydGlob : HasGlob Tryz.prog := ⟨[2, 3], glOk, glOk_stab⟩
@[go_sem] abbrev cI (n : Int) : List D := [.v (.int .i64 n)]
@[go_sem] abbrev dI (n : Int) : D := .v (.int .i64 n)
@[go_sem] abbrev dB (n : Bool) : D := .v (.bool n)
@[go_sem] abbrev dIs (l : List Int) : D := .sl 1 (l.map cI)
@[go_sem] abbrev dS (l : List UInt8) : D := .v (.string ⟨l.toArray⟩)
@[go_sem] abbrev dBig (n : Int) : D := .agg [dB (decide (n < 0)), dIs (dg U n.natAbs)]
end Go.Proofs.YtglncfhcgkihbaaGreatDoor

namespace Go.Proofs.YtglncfhcgkihbaaGreatDoor
open Go.Eng Go.Wh
set_option maxRecDepth 20000
set_option linter.unusedSimpArgs false
set_option linter.unusedVariables false
attribute [local irreducible] AG CallA CallT AWp PCall ACall AgC

theorem trim_spec (l : List Int) : PCall Tryz.prog 95 [dIs l] fun r => r = dIs (trimL l) := by 
  refine pcall_of Tryz.func95 rfl rfl Tryz.ntmps95 (rs := [.tmp 2]) (tys := [22]) rfl rfl (by simp) ?_
  refine awp_len 0 rfl fun hlen => ?_
  simp [lensD] at hlen
  (refine awp_sr fun KK hKK => ?_; simp [go_sem]; ((repeat' (first|(refine ag_x ?_;simp [go_sem])|intro _|refine And.intro ?_ ?_|(apply hKK;clear hKK KK)));all_goals first|refine Hold.mk ?_|omega|with_reducible assumption|(simp only [InR] at *;omega)|skip))
  refine awp_seq_k fun K1 hK1 => ?_
  refine awp_block ?_
  refine awp_loop (σ := List Int) (fun m => ⟨[(0, dIs m)], []⟩) (fun m => m.length ≤ l.length ∧ trimL m = trimL l) (fun m => m.length) l ?_ ?_ ?_
  · (refine cov_of ?_ ?_ <;> simp [go_sem])
  · simp
  rintro m ⟨hk, ht⟩
  refine awp_seq_k fun K2 hK2 => ?_
  rcases List.eq_nil_or_concat m with rfl | ⟨p, x, rfl⟩
  · (refine awp_sr fun KK hKK => ?_; simp [go_sem]; ((repeat' (first|(refine ag_false (by simp [go_sem, undef]) (by simp [go_sem]) ?_;simp [go_sem])|intro _|refine And.intro ?_ ?_|(apply hKK;clear hKK KK)));all_goals first|refine Hold.mk ?_|omega|with_reducible assumption|(simp only [InR] at *;omega)|skip))
    (refine awp_if fun T F hT hF => ?_; simp [go_sem]; refine hF ?_; clear hT hF T F)
    refine awp_exit ?_
    simp only [go_sem]
    refine hK1 _ ?_; clear hK1
    have e : trimL l = [] := by rw [← ht]; rfl
    (refine awp_sr fun KK hKK => ?_; simp [go_sem]; ((repeat' (first|(refine ag_x ?_;simp [go_sem])|intro _|refine And.intro ?_ ?_|(apply hKK;clear hKK KK)));all_goals first|refine Hold.mk ?_|omega|with_reducible assumption|(simp only [InR] at *;omega)|skip))
    (refine awp_ret ?_; simp [go_sem, e])
  · simp only [List.concat_eq_append] at hk ht ⊢
    simp at hk
    have hx : ((p ++ [x]).map cI)[p.length]? = some (cI x) := by simp
    (refine awp_sr fun KK hKK => ?_; simp [go_sem, hx]; ((repeat' (first|(refine ag_x ?_;simp [go_sem, hx])|intro _|refine And.intro ?_ ?_|(apply hKK;clear hKK KK)));all_goals first|refine Hold.mk ?_|omega|with_reducible assumption|(simp only [InR] at *;omega)|skip))
    refine awp_if fun T F hT hF => ?_
    simp [go_sem]
    refine BR.intro (fun hx0 => hT ?_) (fun hx0 => hF ?_)
    all_goals clear hT hF T F
    · simp at hx0; subst hx0
      refine awp_skip ?_
      simp only [go_sem]
      refine hK2 _ ?_; clear hK2
      refine awp_block ?_
      (refine awp_r fun KK hKK => ?_; simp [go_sem]; ((repeat' (first|(refine ag_x ?_;simp [go_sem])|intro _|refine And.intro ?_ ?_|(apply hKK;clear hKK KK)));all_goals first|refine Hold.mk ?_|omega|with_reducible assumption|(simp only [InR] at *;omega)|skip))
      refine ⟨p, ?_, ⟨by omega, by rw [← ht, trim_snoc0]⟩, by simp⟩
      (refine cov_of ?_ ?_ <;> simp [go_sem])
    · refine awp_exit ?_
      simp only [go_sem]
      refine hK1 _ ?_; clear hK1
      simp at hx0
      have e : trimL l = p ++ [x] := by rw [← ht]; exact trim_snoc hx0 p
      (refine awp_sr fun KK hKK => ?_; simp [go_sem]; ((repeat' (first|(refine ag_x ?_;simp [go_sem])|intro _|refine And.intro ?_ ?_|(apply hKK;clear hKK KK)));all_goals first|refine Hold.mk ?_|omega|with_reducible assumption|(simp only [InR] at *;omega)|skip))
      (refine awp_ret ?_; simp [go_sem, e])
theorem sign_spec (n : Int) : PCall Tryz.prog 136 [dI n] fun r => r = dI (sgn n) := by 
  refine pcall_of Tryz.func136 rfl rfl Tryz.ntmps136 (rs := [.tmp 2]) (tys := [3]) rfl rfl (by simp) ?_
  unfold sgn
  (refine awp_sr fun KK hKK => ?_; simp [go_sem]; ((repeat' (first|(refine ag_x ?_;simp [go_sem])|intro _|refine And.intro ?_ ?_|(apply hKK;clear hKK KK)));all_goals first|refine Hold.mk ?_|omega|with_reducible assumption|(simp only [InR] at *;omega)|skip))
  refine awp_seq_k fun K1 hK1 => ?_
  refine awp_block ?_
  (refine awp_sr fun KK hKK => ?_; simp [go_sem]; ((repeat' (first|(refine ag_x ?_;simp [go_sem])|intro _|refine And.intro ?_ ?_|(apply hKK;clear hKK KK)));all_goals first|refine Hold.mk ?_|omega|with_reducible assumption|(simp only [InR] at *;omega)|skip))
  (refine awp_if fun T F hT hF => ?_; simp [go_sem]; refine BR.intro (fun h2 => hT ?_) (fun h2 => hF ?_); all_goals clear hT hF T F; try simp at h2) 
  · (refine awp_sr fun KK hKK => ?_; simp [go_sem]; ((repeat' (first|(refine ag_x ?_;simp [go_sem])|intro _|refine And.intro ?_ ?_|(apply hKK;clear hKK KK)));all_goals first|refine Hold.mk ?_|omega|with_reducible assumption|(simp only [InR] at *;omega)|skip))
    (refine awp_ret ?_; simp [go_sem, h2])
  · (refine awp_sr fun KK hKK => ?_; simp [go_sem]; ((repeat' (first|(refine ag_x ?_;simp [go_sem])|intro _|refine And.intro ?_ ?_|(apply hKK;clear hKK KK)));all_goals first|refine Hold.mk ?_|omega|with_reducible assumption|(simp only [InR] at *;omega)|skip))
    (refine awp_if fun T F hT hF => ?_; simp [go_sem]; refine BR.intro (fun h3 => hT ?_) (fun h3 => hF ?_); all_goals clear hT hF T F; try simp at h3) 
    · (refine awp_sr fun KK hKK => ?_; simp [go_sem]; ((repeat' (first|(refine ag_x ?_;simp [go_sem])|intro _|refine And.intro ?_ ?_|(apply hKK;clear hKK KK)));all_goals first|refine Hold.mk ?_|omega|with_reducible assumption|(simp only [InR] at *;omega)|skip))
      (refine awp_ret ?_; simp [go_sem, h2, h3])
      first | done | (rw [if_neg (by omega), if_pos (by omega)]) | omega
    · refine awp_skip ?_
      refine hK1 _ ?_; clear hK1
      (refine awp_sr fun KK hKK => ?_; simp [go_sem]; ((repeat' (first|(refine ag_x ?_;simp [go_sem])|intro _|refine And.intro ?_ ?_|(apply hKK;clear hKK KK)));all_goals first|refine Hold.mk ?_|omega|with_reducible assumption|(simp only [InR] at *;omega)|skip))
      (refine awp_ret ?_; simp [go_sem, h2, h3])
      rw [if_neg (by omega), if_neg (by omega)]
theorem dU {l : List Int} (h : digs (U : Int) l) {i : Nat} {d : Int} (hd : l[i]? = some d) : 0 ≤ d ∧ d < 1000000000 := digs_at h hd
theorem size_spec (a b : Nat) : PCall Tryz.prog 112 [dIs (dg U a), dIs (dg U b)] fun r => r = dI (sgn (a - b)) := by 
  refine pcall_of Tryz.func112 rfl rfl Tryz.ntmps112 (rs := [.tmp 4]) (tys := [3]) rfl rfl (by simp) ?_
  refine awp_len 0 rfl fun hlen0 => ?_
  refine awp_len 1 rfl fun hlen1 => ?_
  simp [lensD] at hlen0 hlen1
  have da := dg_digs (B := U) (by decide) a
  have db := dg_digs (B := U) (by decide) b
  (refine awp_sr fun KK hKK => ?_; simp [go_sem]; ((repeat' (first|(refine ag_x ?_;simp [go_sem])|intro _|refine And.intro ?_ ?_|(apply hKK;clear hKK KK)));all_goals first|refine Hold.mk ?_|omega|with_reducible assumption|(simp only [InR] at *;omega)|skip))
  refine awp_seq_k fun K1 hK1 => ?_
  (refine awp_sr fun KK hKK => ?_; simp [go_sem]; ((repeat' (first|(refine ag_x ?_;simp [go_sem])|intro _|refine And.intro ?_ ?_|(apply hKK;clear hKK KK)));all_goals first|refine Hold.mk ?_|omega|with_reducible assumption|(simp only [InR] at *;omega)|skip))
  (refine awp_if fun T F hT hF => ?_; simp [go_sem]; refine BR.intro (fun h2 => hT ?_) (fun h2 => hF ?_); all_goals clear hT hF T F; try simp at h2) 
  · (refine awp_sr fun KK hKK => ?_; simp [go_sem]; ((repeat' (first|(refine ag_x ?_;simp [go_sem])|intro _|refine And.intro ?_ ?_|(apply hKK;clear hKK KK)));all_goals first|refine Hold.mk ?_|omega|with_reducible assumption|(simp only [InR] at *;omega)|skip))
    ((try refine CallT.toA ?_); refine callT_m (by first | exact .inl ⟨rfl, rfl⟩ | exact .inr rfl) (by simp [go_sem]) ?_; intro args ha; simp [go_sem] at ha; subst ha; refine ⟨_, (sign_spec ..), ?_⟩; rintro _ rfl; simp [go_sem]; ((repeat' (first|(refine ag_x ?_;simp [go_sem])|intro _|refine And.intro ?_ ?_|(apply hKK;clear hKK KK)));all_goals first|refine Hold.mk ?_|omega|with_reducible assumption|(simp only [InR] at *;omega)|skip))
    (refine awp_ret ?_; simp [go_sem, h2])
    rw [sgn_len (by decide) h2]
  · refine awp_skip ?_
    refine hK1 _ ?_; clear hK1
    refine awp_seq_k fun K3 hK3 => ?_
    (refine awp_sr fun KK hKK => ?_; simp [go_sem]; ((repeat' (first|(refine ag_x ?_;simp [go_sem])|intro _|refine And.intro ?_ ?_|(apply hKK;clear hKK KK)));all_goals first|refine Hold.mk ?_|omega|with_reducible assumption|(simp only [InR] at *;omega)|skip))
    refine awp_block ?_
    refine awp_loop (σ := Nat) (fun j => ⟨[(0, dIs (dg U a)), (1, dIs (dg U b)), (5, dI ((j : Int) - 1))], []⟩) (fun j => j ≤ (dg U a).length ∧ (dg U a).drop j = (dg U b).drop j) (fun j => j) (dg U a).length ?_ ?_ ?_
    · (refine cov_of ?_ ?_ <;> simp [go_sem])
    · refine ⟨Nat.le_refl _, ?_⟩
      rw [List.drop_length, h2, List.drop_length]
    rintro j ⟨hj, he⟩
    refine awp_seq_k fun K4 hK4 => ?_
    (refine awp_sr fun KK hKK => ?_; simp [go_sem]; ((repeat' (first|(refine ag_x ?_;simp [go_sem])|intro _|refine And.intro ?_ ?_|(apply hKK;clear hKK KK)));all_goals first|refine Hold.mk ?_|omega|with_reducible assumption|(simp only [InR] at *;omega)|skip))
    (refine awp_if fun T F hT hF => ?_; simp [go_sem]; refine BR.intro (fun h5 => hT ?_) (fun h5 => hF ?_); all_goals clear hT hF T F; try simp at h5) 
    · refine awp_skip ?_
      refine hK4 _ ?_; clear hK4
      obtain ⟨i, rfl⟩ : ∃ i, j = i + 1 := ⟨j - 1, by omega⟩
      obtain ⟨x, hx⟩ : ∃ x, (dg U a)[i]? = some x := ⟨_, List.getElem?_eq_getElem (by omega)⟩
      obtain ⟨y, hy⟩ : ∃ y, (dg U b)[i]? = some y := ⟨_, List.getElem?_eq_getElem (by omega)⟩
      have bx := dU da hx
      have by' := dU db hy
      refine awp_seq_k fun K6 hK6 => ?_
      refine awp_block ?_
      ((refine awp_dr (.qs [0, 1, 2, 4, 5, 6, 3, 7, 8] (.nil)) (by kernel_rfl) ?_ ?_ ?_ ?_); (kernel_rfl); (exact (by decide +kernel)); (kernel_rfl); intro KK hKK; ((repeat' (first|(refine ag_x ?_;simp [go_sem, hx, hy])|refine adr_nil ?_|refine adr_two ?_ ?_|refine adr_kq ?_ ?_|refine adr_three ?_ ?_ ?_|refine adr_four ?_ ?_ ?_ ?_|refine adr_kp2 ?_ ?_|refine adr_kp3 ?_ ?_ ?_|((first|refine adr_qs fun KK hKK=>?_|refine adr_y fun KK hKK=>?_);simp [go_sem, hx, hy])|intro _|refine And.intro ?_ ?_|(apply hKK;clear hKK KK)));all_goals first|refine Hold.mk ?_|omega|with_reducible assumption|(simp only [InR] at *;omega)|skip))
      (refine awp_if fun T F hT hF => ?_; simp [go_sem]; refine BR.intro (fun h7 => hT ?_) (fun h7 => hF ?_); all_goals clear hT hF T F; try simp at h7) 
      · ((refine awp_dr (.qs [0, 1, 2, 4, 5, 6, 3, 7, 8] (.one 9 (.qs [10] (.nil)))) (by kernel_rfl) ?_ ?_ ?_ ?_); (kernel_rfl); (exact (by decide +kernel)); (kernel_rfl); intro KK hKK; ((repeat' (first|(refine ag_x ?_;simp [go_sem, hx, hy])|refine adr_nil ?_|refine adr_two ?_ ?_|refine adr_kq ?_ ?_|refine adr_three ?_ ?_ ?_|refine adr_four ?_ ?_ ?_ ?_|refine adr_kp2 ?_ ?_|refine adr_kp3 ?_ ?_ ?_|((first|refine adr_qs fun KK hKK=>?_|refine adr_y fun KK hKK=>?_);simp [go_sem, hx, hy])|intro _|refine And.intro ?_ ?_|(apply hKK;clear hKK KK)));all_goals first|refine Hold.mk ?_|omega|with_reducible assumption|(simp only [InR] at *;omega)|skip))
        ((try refine CallT.toA ?_); refine callT_m (by first | exact .inl ⟨rfl, rfl⟩ | exact .inr rfl) (by simp [go_sem]) ?_; intro args ha; simp [go_sem] at ha; subst ha; refine ⟨_, (sign_spec ..), ?_⟩; rintro _ rfl; simp [go_sem]; ((repeat' (first|(refine ag_x ?_;simp [go_sem])|refine adr_nil ?_|refine adr_two ?_ ?_|refine adr_kq ?_ ?_|refine adr_three ?_ ?_ ?_|refine adr_four ?_ ?_ ?_ ?_|refine adr_kp2 ?_ ?_|refine adr_kp3 ?_ ?_ ?_|((first|refine adr_qs fun KK hKK=>?_|refine adr_y fun KK hKK=>?_);simp [go_sem])|intro _|refine And.intro ?_ ?_|(apply hKK;clear hKK KK)));all_goals first|refine Hold.mk ?_|omega|with_reducible assumption|(simp only [InR] at *;omega)|skip))
        (refine awp_ret ?_; simp [go_sem])
        rw [sgn_top (by decide) hx hy he h7]
      · refine awp_skip ?_
        refine hK6 _ ?_; clear hK6
        (refine awp_r fun KK hKK => ?_; simp [go_sem]; ((repeat' (first|(refine ag_x ?_;simp [go_sem])|intro _|refine And.intro ?_ ?_|(apply hKK;clear hKK KK)));all_goals first|refine Hold.mk ?_|omega|with_reducible assumption|(simp only [InR] at *;omega)|skip))
        refine ⟨i, ?_, ⟨by omega, ?_⟩, by omega⟩
        · (refine cov_of ?_ ?_ <;> simp [go_sem])
        · subst h7
          obtain ⟨ha, rfl⟩ := List.getElem?_eq_some_iff.1 hx
          obtain ⟨hb, e⟩ := List.getElem?_eq_some_iff.1 hy
          rw [List.drop_eq_getElem_cons ha, List.drop_eq_getElem_cons hb, he, e]
    · refine awp_exit ?_
      simp only [go_sem]
      refine hK3 _ ?_; clear hK3
      have hj0 : j = 0 := by omega
      subst hj0
      (refine awp_sr fun KK hKK => ?_; simp [go_sem]; ((repeat' (first|(refine ag_x ?_;simp [go_sem])|intro _|refine And.intro ?_ ?_|(apply hKK;clear hKK KK)));all_goals first|refine Hold.mk ?_|omega|with_reducible assumption|(simp only [InR] at *;omega)|skip))
      (refine awp_ret ?_; simp [go_sem, h2, h5])
      have e := dg_inj (B := U) (by decide) (by simpa using he)
      subst e
      simp [sgn]
end Go.Proofs.YtglncfhcgkihbaaGreatDoor

namespace Go.Proofs.YtglncfhcgkihbaaGreatDoor
open Go.Eng Go.Wh
set_option maxRecDepth 20000
set_option linter.unusedSimpArgs false
set_option linter.unusedVariables false
attribute [local irreducible] AG CallA CallT AWp PCall ACall AgC

theorem fit_spec (b : Bool) {l : List Int} (hl : digs (U : Int) l) : PCall Tryz.prog 83 [dB b, dIs l] fun r => r = dBig (sg b (val U l)) := by 
  refine pcall_of Tryz.func83 rfl rfl Tryz.ntmps83 (rs := [.cell 4 58]) (tys := [58]) rfl rfl (by simp) ?_
  have hv := val_nonneg (B := (U : Int)) (by decide) hl
  have e1 : trimL l = dg U (sg b (val U l)).natAbs := by rw [trim_eq (by decide) hl, sg_abs b hv]
  have E : dBig (sg b (val U l)) = .agg [dB (b && decide (0 < (trimL l).length)), dIs (trimL l)] := by
    have e2 : decide (sg b (val U l) < 0) = (b && decide (0 < (trimL l).length)) := by
      rw [sg_neg b hv, e1, sg_abs b hv]
      congr 1
      refine decide_eq_decide.2 ?_
      rw [List.length_pos_iff, ne_eq, ne_eq, dg_nil (B := U) (by decide)]
      omega
    simp only [dBig, e2, e1]
  rw [E]
  (refine awp_sr fun KK hKK => ?_; simp [go_sem]; ((repeat' (first|(refine ag_x ?_;simp [go_sem])|intro _|refine And.intro ?_ ?_|(apply hKK;clear hKK KK)));all_goals first|refine Hold.mk ?_|omega|with_reducible assumption|(simp only [InR] at *;omega)|skip))
  (refine awp_sr fun KK hKK => ?_; simp [go_sem]; ((repeat' (first|(refine ag_x ?_;simp [go_sem])|intro _|refine And.intro ?_ ?_|(apply hKK;clear hKK KK)));all_goals first|refine Hold.mk ?_|omega|with_reducible assumption|(simp only [InR] at *;omega)|skip))
  ((try refine CallT.toA ?_); refine callT_m (by first | exact .inl ⟨rfl, rfl⟩ | exact .inr rfl) (by simp [go_sem]) ?_; intro args ha; simp [go_sem] at ha; subst ha; refine ⟨_, (trim_spec _), ?_⟩; rintro _ rfl; simp [go_sem]; ((repeat' (first|(refine ag_x ?_;simp [go_sem])|intro _|refine And.intro ?_ ?_|(apply hKK;clear hKK KK)));all_goals first|refine Hold.mk ?_|omega|with_reducible assumption|(simp only [InR] at *;omega)|skip))
  refine awp_len 1 rfl fun hlen => ?_
  simp [lensD] at hlen
  cases b
  · (refine awp_sr fun KK hKK => ?_; simp [go_sem]; ((repeat' (first|(refine ag_false (by simp [go_sem, undef]) (by simp [go_sem]) ?_;simp [go_sem])|intro _|refine And.intro ?_ ?_|(apply hKK;clear hKK KK)));all_goals first|refine Hold.mk ?_|omega|with_reducible assumption|(simp only [InR] at *;omega)|skip))
    (refine awp_ret ?_; simp [go_sem])
  · (refine awp_sr fun KK hKK => ?_; simp [go_sem]; ((repeat' (first|(refine ag_x ?_;simp [go_sem])|intro _|refine And.intro ?_ ?_|(apply hKK;clear hKK KK)));all_goals first|refine Hold.mk ?_|omega|with_reducible assumption|(simp only [InR] at *;omega)|skip))
    (refine awp_ret ?_; simp [go_sem])
theorem plus_spec {a b : List Int} (ha : digs (U : Int) a) (hb : digs (U : Int) b) (hla : a.length ≤ 1000000) (hlb : b.length ≤ 1000000) : PCall Tryz.prog 111 [dIs a, dIs b] fun r => ∃ l, r = dIs l ∧ digs (U : Int) l ∧ val U l = val U a + val U b := by 
  refine pcall_of Tryz.func111 rfl rfl Tryz.ntmps111 (rs := [.tmp 4]) (tys := [22]) rfl rfl (by simp) ?_
  (refine awp_sr fun KK hKK => ?_; simp [go_sem]; ((repeat' (first|(refine ag_x ?_;simp [go_sem])|intro _|refine And.intro ?_ ?_|(apply hKK;clear hKK KK)));all_goals first|refine Hold.mk ?_|omega|with_reducible assumption|(simp only [InR] at *;omega)|skip))
  (refine awp_sr fun KK hKK => ?_; simp [go_sem]; ((repeat' (first|(refine ag_x ?_;simp [go_sem])|intro _|refine And.intro ?_ ?_|(apply hKK;clear hKK KK)));all_goals first|refine Hold.mk ?_|omega|with_reducible assumption|(simp only [InR] at *;omega)|skip))
  refine awp_nilslot 5 22 3 1 rfl fun g5 => ?_
  simp only [go_sem]
  (refine awp_sr fun KK hKK => ?_; simp [go_sem]; ((repeat' (first|(refine ag_x ?_;simp [go_sem])|intro _|refine And.intro ?_ ?_|(apply hKK;clear hKK KK)));all_goals first|refine Hold.mk ?_|omega|with_reducible assumption|(simp only [InR] at *;omega)|skip))
  refine awp_seq_k fun K1 hK1 => ?_
  (refine awp_sr fun KK hKK => ?_; simp [go_sem]; ((repeat' (first|(refine ag_x ?_;simp [go_sem])|intro _|refine And.intro ?_ ?_|(apply hKK;clear hKK KK)));all_goals first|refine Hold.mk ?_|omega|with_reducible assumption|(simp only [InR] at *;omega)|skip))
  refine awp_block ?_
  refine awp_loop (σ := Nat × List Int × Int × Nat) (fun x => ⟨[(0, dIs a), (1, dIs b), (5, .own 22 x.2.2.2), (6, dI x.2.2.1), (7, dI x.1)], [(22, x.2.2.2, .row 3 1 (x.2.1.map cI))]⟩) (fun x => x.1 ≤ max a.length b.length + 1 ∧ (x.1 = max a.length b.length + 1 → x.2.2.1 = 0) ∧ PlusI U a b x.1 x.2.1 x.2.2.1) (fun x => max a.length b.length + 1 - x.1) (0, [], 0, g5) ?_ ?_ ?_
  · (refine cov_of ?_ ?_ <;> simp [go_sem])
  · exact ⟨by simp, fun h => rfl, plus_init _ _ _⟩
  rintro ⟨i, out, c, g⟩ ⟨hi, hc0, hp⟩
  simp only at hi hc0 hp
  have hc := hp.2.2.1
  have hol := hp.1
  have hst := plus_step (B := (U : Int)) (by decide) ha hb hp
  have qa := getD_digs (B := (U : Int)) (by decide) ha i
  have qb := getD_digs (B := (U : Int)) (by decide) hb i
  generalize hx : a.getD i 0 = x at hst qa
  generalize hy : b.getD i 0 = y at hst qb
  have qa : 0 ≤ x ∧ x < 1000000000 := qa
  have qb : 0 ≤ y ∧ y < 1000000000 := qb
  refine awp_seq_k fun K2 hK2 => ?_
  (refine awp_sr fun KK hKK => ?_; simp [go_sem]; ((repeat' (first|(refine ag_x ?_;simp [go_sem])|intro _|refine And.intro ?_ ?_|(apply hKK;clear hKK KK)));all_goals first|refine Hold.mk ?_|omega|with_reducible assumption|(simp only [InR] at *;omega)|skip))
  (refine awp_if fun T F hT hF => ?_; simp [go_sem]; refine BR.intro (fun h3 => hT ?_) (fun h3 => hF ?_); all_goals clear hT hF T F; try simp at h3) 
  · refine awp_skip ?_
    refine hK2 _ ?_; clear hK2
    have hi2 : i ≤ max a.length b.length := by
      rcases Nat.lt_or_ge (max a.length b.length) i with h | h
      · have := hc0 (by omega)
        rcases h3 with h3 | h3
        · split at h3 <;> omega
        · omega
      · exact h
    have ecx : ∀ x' : Int, a[i]? = some x' → x' = x := fun x' h => by rw [← hx, getD_in h]
    have ecy : ∀ y' : Int, b[i]? = some y' → y' = y := fun y' h => by rw [← hy, getD_in h]
    refine awp_seq_k fun K4 hK4 => ?_
    refine awp_block ?_
    (refine awp_sr fun KK hKK => ?_; simp [go_sem]; ((repeat' (first|(refine ag_x ?_;simp [go_sem])|intro _|refine And.intro ?_ ?_|(apply hKK;clear hKK KK)));all_goals first|refine Hold.mk ?_|omega|with_reducible assumption|(simp only [InR] at *;omega)|skip))
    refine awp_seq_k fun K5 hK5 => ?_
    have tl5 : ∀ S', Cov S' ⟨[(0, dIs a), (1, dIs b), (5, .own 22 g), (7, dI i), (8, dI (c + x))], [(22, g, .row 3 1 (out.map cI))]⟩ → K5 S' := fun S' hS => by
      refine hK5 _ ?_; clear hK5
      refine awp_cov hS ?_; clear hS
      refine awp_seq_k fun K6 hK6 => ?_
      have tl6 : ∀ S', Cov S' ⟨[(0, dIs a), (1, dIs b), (5, .own 22 g), (7, dI i), (8, dI (c + x + y))], [(22, g, .row 3 1 (out.map cI))]⟩ → K6 S' := fun S' hS => by
        refine hK6 _ ?_; clear hK6
        refine awp_cov hS ?_; clear hS
        obtain ⟨m1, m2, _⟩ := div_mod_of (B := 1000000000) (n := c + x + y) (by decide) (by omega)
        (refine awp_sr fun KK hKK => ?_; simp [go_sem]; ((repeat' (first|(refine ag_x ?_;simp [go_sem])|intro _|refine And.intro ?_ ?_|(apply hKK;clear hKK KK)));all_goals first|refine Hold.mk ?_|omega|with_reducible assumption|(simp only [InR] at *;omega)|skip))
        (refine awp_r fun KK hKK => ?_; simp [go_sem, m1, m2]; ((repeat' (first|(refine ag_x ?_;simp [go_sem, m1, m2])|intro _|refine And.intro ?_ ?_|(apply hKK;clear hKK KK)));all_goals first|refine Hold.mk ?_|omega|with_reducible assumption|(simp only [InR] at *;omega)|skip))
        rename_i g7
        refine hK4 _ ?_; clear hK4
        (refine awp_r fun KK hKK => ?_; simp [go_sem]; ((repeat' (first|(refine ag_x ?_;simp [go_sem])|intro _|refine And.intro ?_ ?_|(apply hKK;clear hKK KK)));all_goals first|refine Hold.mk ?_|omega|with_reducible assumption|(simp only [InR] at *;omega)|skip))
        refine ⟨(i + 1, out ++ [(c + x + y) % (U : Int)], (c + x + y) / (U : Int), g7), ?_, ⟨by simp only; omega, ?_, hst⟩, by simp only; omega⟩
        · (refine cov_of ?_ ?_ <;> simp [go_sem, m1, m2])
        · simp only
          intro h
          have hia : a.length ≤ i := by omega
          have hib : b.length ≤ i := by omega
          rw [getD_out hia] at hx
          rw [getD_out hib] at hy
          subst hx hy
          exact Int.ediv_eq_zero_of_lt (by omega) (by show _ < (1000000000 : Int); omega)
      clear hK6
      (refine awp_sr fun KK hKK => ?_; simp [go_sem]; ((repeat' (first|(refine ag_x ?_;simp [go_sem])|intro _|refine And.intro ?_ ?_|(apply hKK;clear hKK KK)));all_goals first|refine Hold.mk ?_|omega|with_reducible assumption|(simp only [InR] at *;omega)|skip))
      (refine awp_if fun T F hT hF => ?_; simp [go_sem]; refine BR.intro (fun h7 => hT ?_) (fun h7 => hF ?_); all_goals clear hT hF T F; try simp at h7) 
      · obtain ⟨y', hy'⟩ : ∃ y', b[i]? = some y' := ⟨_, List.getElem?_eq_getElem h7⟩
        obtain rfl := ecy _ hy'
        (refine awp_r fun KK hKK => ?_; simp [go_sem, hy']; ((repeat' (first|(refine ag_x ?_;simp [go_sem, hy'])|intro _|refine And.intro ?_ ?_|(apply hKK;clear hKK KK)));all_goals first|refine Hold.mk ?_|omega|with_reducible assumption|(simp only [InR] at *;omega)|skip))
        refine tl6 _ ?_
        (refine cov_of ?_ ?_ <;> simp [go_sem])
      · refine awp_skip ?_
        refine tl6 _ ?_
        rw [getD_out h7] at hy; subst hy
        (refine cov_of ?_ ?_ <;> simp [go_sem])
    clear hK5
    (refine awp_sr fun KK hKK => ?_; simp [go_sem]; ((repeat' (first|(refine ag_x ?_;simp [go_sem])|intro _|refine And.intro ?_ ?_|(apply hKK;clear hKK KK)));all_goals first|refine Hold.mk ?_|omega|with_reducible assumption|(simp only [InR] at *;omega)|skip))
    (refine awp_if fun T F hT hF => ?_; simp [go_sem]; refine BR.intro (fun h8 => hT ?_) (fun h8 => hF ?_); all_goals clear hT hF T F; try simp at h8) 
    · obtain ⟨x', hx'⟩ : ∃ x', a[i]? = some x' := ⟨_, List.getElem?_eq_getElem h8⟩
      obtain rfl := ecx _ hx'
      (refine awp_r fun KK hKK => ?_; simp [go_sem, hx']; ((repeat' (first|(refine ag_x ?_;simp [go_sem, hx'])|intro _|refine And.intro ?_ ?_|(apply hKK;clear hKK KK)));all_goals first|refine Hold.mk ?_|omega|with_reducible assumption|(simp only [InR] at *;omega)|skip))
      refine tl5 _ ?_
      (refine cov_of ?_ ?_ <;> simp [go_sem])
    · refine awp_skip ?_
      refine tl5 _ ?_
      rw [getD_out h8] at hx; subst hx
      (refine cov_of ?_ ?_ <;> simp [go_sem])
  · refine awp_exit ?_
    simp only [go_sem]
    refine hK1 _ ?_; clear hK1
    (refine awp_sr fun KK hKK => ?_; simp [go_sem]; ((repeat' (first|(refine ag_x ?_;simp [go_sem])|intro _|refine And.intro ?_ ?_|(apply hKK;clear hKK KK)));all_goals first|refine Hold.mk ?_|omega|with_reducible assumption|(simp only [InR] at *;omega)|skip))
    (refine awp_ret ?_; simp [go_sem, h3])
    have hc' : c = 0 := by omega
    subst hc'
    exact ⟨out, rfl, plus_done hp (by split at h3 <;> omega) (by split at h3 <;> omega)⟩
end Go.Proofs.YtglncfhcgkihbaaGreatDoor

namespace Go.Proofs.YtglncfhcgkihbaaGreatDoor
open Go.Eng Go.Wh
set_option maxRecDepth 20000
set_option linter.unusedSimpArgs false
set_option linter.unusedVariables false
attribute [local irreducible] AG CallA CallT AWp PCall ACall AgC

theorem less_spec {a b : List Int} (ha : digs (U : Int) a) (hb : digs (U : Int) b) (hla : a.length ≤ 1000000) (hlb : b.length ≤ a.length) (hv : val U b ≤ val U a) : PCall Tryz.prog 113 [dIs a, dIs b] fun r => ∃ l, r = dIs l ∧ digs (U : Int) l ∧ val U l = val U a - val U b := by 
  refine pcall_of Tryz.func113 rfl rfl Tryz.ntmps113 (rs := [.tmp 4]) (tys := [22]) rfl rfl (by simp) ?_
  (refine awp_sr fun KK hKK => ?_; simp [go_sem]; ((repeat' (first|(refine ag_x ?_;simp [go_sem])|intro _|refine And.intro ?_ ?_|(apply hKK;clear hKK KK)));all_goals first|refine Hold.mk ?_|omega|with_reducible assumption|(simp only [InR] at *;omega)|skip))
  (refine awp_sr fun KK hKK => ?_; simp [go_sem]; ((repeat' (first|(refine ag_x ?_;simp [go_sem])|intro _|refine And.intro ?_ ?_|(apply hKK;clear hKK KK)));all_goals first|refine Hold.mk ?_|omega|with_reducible assumption|(simp only [InR] at *;omega)|skip))
  refine awp_nilslot 5 22 3 1 rfl fun g5 => ?_
  simp only [go_sem]
  (refine awp_sr fun KK hKK => ?_; simp [go_sem]; ((repeat' (first|(refine ag_x ?_;simp [go_sem])|intro _|refine And.intro ?_ ?_|(apply hKK;clear hKK KK)));all_goals first|refine Hold.mk ?_|omega|with_reducible assumption|(simp only [InR] at *;omega)|skip))
  refine awp_seq_k fun K1 hK1 => ?_
  (refine awp_sr fun KK hKK => ?_; simp [go_sem]; ((repeat' (first|(refine ag_x ?_;simp [go_sem])|intro _|refine And.intro ?_ ?_|(apply hKK;clear hKK KK)));all_goals first|refine Hold.mk ?_|omega|with_reducible assumption|(simp only [InR] at *;omega)|skip))
  refine awp_block ?_
  refine awp_loop (σ := Nat × List Int × Int × Nat) (fun x => ⟨[(0, dIs a), (1, dIs b), (5, .own 22 x.2.2.2), (6, dI x.2.2.1), (10, dI a.length), (11, dI x.1)], [(22, x.2.2.2, .row 3 1 (x.2.1.map cI))]⟩) (fun x => x.1 ≤ a.length ∧ LessI U a b x.1 x.2.1 x.2.2.1) (fun x => a.length - x.1) (0, [], 0, g5) ?_ ?_ ?_
  · (refine cov_of ?_ ?_ <;> simp [go_sem])
  · exact ⟨Nat.zero_le _, less_init _ _ _⟩
  rintro ⟨i, out, c, g⟩ ⟨hi, hp⟩
  simp only at hi hp
  have hc := hp.2.2.1
  have hol := hp.1
  have hst := less_step (B := (U : Int)) (by decide) ha hb hp
  have qa := getD_digs (B := (U : Int)) (by decide) ha i
  have qb := getD_digs (B := (U : Int)) (by decide) hb i
  generalize hx : a.getD i 0 = x at hst qa
  generalize hy : b.getD i 0 = y at hst qb
  have qa : 0 ≤ x ∧ x < 1000000000 := qa
  have qb : 0 ≤ y ∧ y < 1000000000 := qb
  (refine awp_sr fun KK hKK => ?_; simp [go_sem]; ((repeat' (first|(refine ag_x ?_;simp [go_sem])|intro _|refine And.intro ?_ ?_|(apply hKK;clear hKK KK)));all_goals first|refine Hold.mk ?_|omega|with_reducible assumption|(simp only [InR] at *;omega)|skip))
  refine awp_seq_k fun K2 hK2 => ?_
  (refine awp_if fun T F hT hF => ?_; simp [go_sem]; refine BR.intro (fun h3 => hT ?_) (fun h3 => hF ?_); all_goals clear hT hF T F; try simp at h3) 
  · refine awp_skip ?_
    refine hK2 _ ?_; clear hK2
    have hax : a[i]? = some x := by rw [← hx]; exact at_of_lt h3
    have ecy : ∀ y' : Int, b[i]? = some y' → y' = y := fun y' h => by rw [← hy, getD_in h]
    refine awp_seq_k fun K4 hK4 => ?_
    refine awp_block ?_
    (refine awp_sr fun KK hKK => ?_; simp [go_sem]; ((repeat' (first|(refine ag_x ?_;simp [go_sem])|intro _|refine And.intro ?_ ?_|(apply hKK;clear hKK KK)));all_goals first|refine Hold.mk ?_|omega|with_reducible assumption|(simp only [InR] at *;omega)|skip))
    (refine awp_sr fun KK hKK => ?_; simp [go_sem, hax]; ((repeat' (first|(refine ag_x ?_;simp [go_sem, hax])|intro _|refine And.intro ?_ ?_|(apply hKK;clear hKK KK)));all_goals first|refine Hold.mk ?_|omega|with_reducible assumption|(simp only [InR] at *;omega)|skip))
    refine awp_seq_k fun K5 hK5 => ?_
    have tl5 : ∀ S', Cov S' ⟨[(0, dIs a), (1, dIs b), (5, .own 22 g), (8, dI (x - c - y)), (10, dI a.length), (11, dI i)], [(22, g, .row 3 1 (out.map cI))]⟩ → K5 S' := fun S' hS => by
      refine hK5 _ ?_; clear hK5
      refine awp_cov hS ?_; clear hS
      (refine awp_sr fun KK hKK => ?_; simp [go_sem]; ((repeat' (first|(refine ag_x ?_;simp [go_sem])|intro _|refine And.intro ?_ ?_|(apply hKK;clear hKK KK)));all_goals first|refine Hold.mk ?_|omega|with_reducible assumption|(simp only [InR] at *;omega)|skip))
      refine awp_seq_k fun K6 hK6 => ?_
      have tl6 : ∀ S' (c' n' : Int), c' = (if x - c - y < 0 then 1 else 0) → n' = (if x - c - y < 0 then x - c - y + (U : Int) else x - c - y) → Cov S' ⟨[(0, dIs a), (1, dIs b), (5, .own 22 g), (6, dI c'), (8, dI n'), (10, dI a.length), (11, dI i)], [(22, g, .row 3 1 (out.map cI))]⟩ → K6 S' := fun S' c' n' hc' hn' hS => by
        refine hK6 _ ?_; clear hK6
        refine awp_cov hS ?_; clear hS
        (refine awp_r fun KK hKK => ?_; simp [go_sem]; ((repeat' (first|(refine ag_x ?_;simp [go_sem])|intro _|refine And.intro ?_ ?_|(apply hKK;clear hKK KK)));all_goals first|refine Hold.mk ?_|omega|with_reducible assumption|(simp only [InR] at *;omega)|skip))
        rename_i g7
        refine hK4 _ ?_; clear hK4
        (refine awp_r fun KK hKK => ?_; simp [go_sem]; ((repeat' (first|(refine ag_x ?_;simp [go_sem])|intro _|refine And.intro ?_ ?_|(apply hKK;clear hKK KK)));all_goals first|refine Hold.mk ?_|omega|with_reducible assumption|(simp only [InR] at *;omega)|skip))
        refine ⟨(i + 1, out ++ [n'], c', g7), ?_, ⟨by simp only; omega, ?_⟩, by simp only; omega⟩
        · (refine cov_of ?_ ?_ <;> simp [go_sem])
        · simp only
          rw [hc', hn']; exact hst
      clear hK6
      (refine awp_sr fun KK hKK => ?_; simp [go_sem]; ((repeat' (first|(refine ag_x ?_;simp [go_sem])|intro _|refine And.intro ?_ ?_|(apply hKK;clear hKK KK)));all_goals first|refine Hold.mk ?_|omega|with_reducible assumption|(simp only [InR] at *;omega)|skip))
      (refine awp_if fun T F hT hF => ?_; simp [go_sem]; refine BR.intro (fun h7 => hT ?_) (fun h7 => hF ?_); all_goals clear hT hF T F; try simp at h7) 
      · (refine awp_sr fun KK hKK => ?_; simp [go_sem]; ((repeat' (first|(refine ag_x ?_;simp [go_sem])|intro _|refine And.intro ?_ ?_|(apply hKK;clear hKK KK)));all_goals first|refine Hold.mk ?_|omega|with_reducible assumption|(simp only [InR] at *;omega)|skip))
        (refine awp_r fun KK hKK => ?_; simp [go_sem]; ((repeat' (first|(refine ag_x ?_;simp [go_sem])|intro _|refine And.intro ?_ ?_|(apply hKK;clear hKK KK)));all_goals first|refine Hold.mk ?_|omega|with_reducible assumption|(simp only [InR] at *;omega)|skip))
        refine tl6 _ 1 (x - c - y + 1000000000) (by rw [if_pos (by omega)]) (by rw [if_pos (by omega)]; rfl) ?_
        (refine cov_of ?_ ?_ <;> simp [go_sem])
      · refine awp_skip ?_
        refine tl6 _ 0 (x - c - y) (by rw [if_neg (by omega)]) (by rw [if_neg (by omega)]) ?_
        (refine cov_of ?_ ?_ <;> simp [go_sem])
    clear hK5
    (refine awp_sr fun KK hKK => ?_; simp [go_sem]; ((repeat' (first|(refine ag_x ?_;simp [go_sem])|intro _|refine And.intro ?_ ?_|(apply hKK;clear hKK KK)));all_goals first|refine Hold.mk ?_|omega|with_reducible assumption|(simp only [InR] at *;omega)|skip))
    (refine awp_if fun T F hT hF => ?_; simp [go_sem]; refine BR.intro (fun h8 => hT ?_) (fun h8 => hF ?_); all_goals clear hT hF T F; try simp at h8) 
    · obtain ⟨y', hy'⟩ : ∃ y', b[i]? = some y' := ⟨_, List.getElem?_eq_getElem h8⟩
      obtain rfl := ecy _ hy'
      (refine awp_r fun KK hKK => ?_; simp [go_sem, hy']; ((repeat' (first|(refine ag_x ?_;simp [go_sem, hy'])|intro _|refine And.intro ?_ ?_|(apply hKK;clear hKK KK)));all_goals first|refine Hold.mk ?_|omega|with_reducible assumption|(simp only [InR] at *;omega)|skip))
      refine tl5 _ ?_
      (refine cov_of ?_ ?_ <;> simp [go_sem])
    · refine awp_skip ?_
      refine tl5 _ ?_
      rw [getD_out h8] at hy; subst hy
      (refine cov_of ?_ ?_ <;> simp [go_sem])
  · refine awp_exit ?_
    simp only [go_sem]
    refine hK1 _ ?_; clear hK1
    (refine awp_sr fun KK hKK => ?_; simp [go_sem]; ((repeat' (first|(refine ag_x ?_;simp [go_sem])|intro _|refine And.intro ?_ ?_|(apply hKK;clear hKK KK)));all_goals first|refine Hold.mk ?_|omega|with_reducible assumption|(simp only [InR] at *;omega)|skip))
    (refine awp_ret ?_; simp [go_sem, h3])
    have : i = a.length := by omega
    subst this
    exact ⟨out, rfl, less_done (by decide) hp hlb hv⟩
theorem nonneg_dec (n : Nat) : decide (((n : Nat) : Int) < 0) = false := by simp
end Go.Proofs.YtglncfhcgkihbaaGreatDoor

namespace Go.Proofs.YtglncfhcgkihbaaGreatDoor
open Go.Eng Go.Wh
set_option maxRecDepth 20000
set_option linter.unusedSimpArgs false
set_option linter.unusedVariables false
attribute [local irreducible] AG CallA CallT AWp PCall ACall AgC
theorem dgU (n : Nat) : digs (U : Int) (dg U n) := dg_digs (by decide) n
theorem vU (n : Nat) : val U (dg U n) = n := dg_val (by decide) n
theorem sg_flip (n : Int) : sg (!decide (n < 0)) n.natAbs = -n := by
  have := sg_self n
  unfold sg at *
  by_cases h : n < 0 <;> simp [h] at * <;> omega
theorem fit_as (b : Bool) {l : List Int} (hl : digs (U : Int) l) {n : Int} (h : sg b (val U l) = n) : PCall Tryz.prog 83 [dB b, dIs l] fun r => r = dBig n := by
  subst h; exact fit_spec b hl
theorem neg_spec (n : Int) : PCall Tryz.prog 102 [dBig n] fun r => r = dBig (-n) := by 
  refine pcall_of Tryz.func102 rfl rfl Tryz.ntmps102 (rs := [.cell 2 58]) (tys := [58]) rfl rfl (by simp) ?_
  (refine awp_sr fun KK hKK => ?_; simp [go_sem]; ((repeat' (first|(refine ag_x ?_;simp [go_sem])|intro _|refine And.intro ?_ ?_|(apply hKK;clear hKK KK)));all_goals first|refine Hold.mk ?_|omega|with_reducible assumption|(simp only [InR] at *;omega)|skip))
  (refine awp_sr fun KK hKK => ?_; simp [go_sem]; ((repeat' (first|(refine ag_x ?_;simp [go_sem])|intro _|refine And.intro ?_ ?_|(apply hKK;clear hKK KK)));all_goals first|refine Hold.mk ?_|omega|with_reducible assumption|(simp only [InR] at *;omega)|skip))
  ((try refine CallT.toA ?_); refine callT_m (by first | exact .inl ⟨rfl, rfl⟩ | exact .inr rfl) (by simp [go_sem]) ?_; intro args ha; simp [go_sem] at ha; subst ha; refine ⟨_, (fit_as _ (dgU _) (n := -n) (by rw [vU, sg_flip])), ?_⟩; rintro _ rfl; simp [go_sem]; ((repeat' (first|(refine ag_x ?_;simp [go_sem])|intro _|refine And.intro ?_ ?_|(apply hKK;clear hKK KK)));all_goals first|refine Hold.mk ?_|omega|with_reducible assumption|(simp only [InR] at *;omega)|skip))
  (refine awp_ret ?_; simp [go_sem])
theorem sgn_ge (a b : Nat) : (0 ≤ sgn ((a : Int) - b)) ↔ b ≤ a := by
  unfold sgn
  split
  · simp; omega
  · split <;> simp <;> omega
theorem dg_le {a b : Nat} (h : b ≤ a) : (dg U b).length ≤ (dg U a).length := len_of_val (B := (U : Int)) (by decide) (dgU a) (dgU b) (dg_trim (by decide) b) (by rw [vU, vU]; omega)
theorem add_spec (m n : Int) (hm : sz U m ≤ 1000000) (hn : sz U n ≤ 1000000) : PCall Tryz.prog 63 [dBig m, dBig n] fun r => r = dBig (m + n) := by 
  refine pcall_of Tryz.func63 rfl rfl Tryz.ntmps63 (rs := [.cell 4 58]) (tys := [58]) rfl rfl (by simp) ?_
  (refine awp_sr fun KK hKK => ?_; simp [go_sem]; ((repeat' (first|(refine ag_x ?_;simp [go_sem])|intro _|refine And.intro ?_ ?_|(apply hKK;clear hKK KK)));all_goals first|refine Hold.mk ?_|omega|with_reducible assumption|(simp only [InR] at *;omega)|skip))
  refine awp_seq_k fun K1 hK1 => ?_
  refine awp_block ?_
  (refine awp_sr fun KK hKK => ?_; simp [go_sem]; ((repeat' (first|(refine ag_x ?_;simp [go_sem])|intro _|refine And.intro ?_ ?_|(apply hKK;clear hKK KK)));all_goals first|refine Hold.mk ?_|omega|with_reducible assumption|(simp only [InR] at *;omega)|skip))
  (refine awp_if fun T F hT hF => ?_; simp [go_sem]; refine BR.intro (fun h3 => hT ?_) (fun h3 => hF ?_); all_goals clear hT hF T F; try simp at h3)
  · ((refine awp_dr (.qs [0, 2, 4, 1, 3, 5] (.kp 6 (.one 7 (.one 8 (.nil))))) (by kernel_rfl) ?_ ?_ ?_ ?_); (kernel_rfl); (exact (by decide +kernel)); (kernel_rfl); intro KK hKK; ((repeat' (first|(refine ag_x ?_;simp [go_sem])|refine adr_nil ?_|refine adr_two ?_ ?_|refine adr_kq ?_ ?_|refine adr_three ?_ ?_ ?_|refine adr_four ?_ ?_ ?_ ?_|refine adr_kp2 ?_ ?_|refine adr_kp3 ?_ ?_ ?_|((first|refine adr_qs fun KK hKK=>?_|refine adr_y fun KK hKK=>?_);simp [go_sem])|intro _|refine And.intro ?_ ?_|(apply hKK;clear hKK KK)));all_goals first|refine Hold.mk ?_|omega|with_reducible assumption|(simp only [InR] at *;omega)|skip))
    ((try refine CallT.toA ?_); refine callT_m (by first | exact .inl ⟨rfl, rfl⟩ | exact .inr rfl) (by simp [go_sem]) ?_; intro args ha; simp [go_sem] at ha; subst ha; refine ⟨_, (plus_spec (dgU _) (dgU _) hm hn), ?_⟩; rintro _ ⟨l, rfl, hl, hv⟩; simp [go_sem]; ((repeat' (first|(refine ag_x ?_;simp [go_sem])|refine adr_nil ?_|refine adr_two ?_ ?_|refine adr_kq ?_ ?_|refine adr_three ?_ ?_ ?_|refine adr_four ?_ ?_ ?_ ?_|refine adr_kp2 ?_ ?_|refine adr_kp3 ?_ ?_ ?_|((first|refine adr_qs fun KK hKK=>?_|refine adr_y fun KK hKK=>?_);simp [go_sem])|intro _|refine And.intro ?_ ?_|(apply hKK;clear hKK KK)));all_goals first|refine Hold.mk ?_|omega|with_reducible assumption|(simp only [InR] at *;omega)|skip))
    rw [vU, vU] at hv
    ((try refine CallT.toA ?_); refine callT_m (by first | exact .inl ⟨rfl, rfl⟩ | exact .inr rfl) (by simp [go_sem]) ?_; intro args ha; simp [go_sem] at ha; subst ha; refine ⟨_, (fit_as _ hl (n := m + n) (by rw [hv]; unfold sg; by_cases h : m < 0 <;> simp [h] <;> omega)), ?_⟩; rintro _ rfl; simp [go_sem]; ((repeat' (first|(refine ag_x ?_;simp [go_sem])|refine adr_nil ?_|refine adr_two ?_ ?_|refine adr_kq ?_ ?_|refine adr_three ?_ ?_ ?_|refine adr_four ?_ ?_ ?_ ?_|refine adr_kp2 ?_ ?_|refine adr_kp3 ?_ ?_ ?_|((first|refine adr_qs fun KK hKK=>?_|refine adr_y fun KK hKK=>?_);simp [go_sem])|intro _|refine And.intro ?_ ?_|(apply hKK;clear hKK KK)));all_goals first|refine Hold.mk ?_|omega|with_reducible assumption|(simp only [InR] at *;omega)|skip))
    (refine awp_ret ?_; simp [go_sem])
  · (refine awp_sr fun KK hKK => ?_; simp [go_sem]; ((repeat' (first|(refine ag_x ?_;simp [go_sem])|intro _|refine And.intro ?_ ?_|(apply hKK;clear hKK KK)));all_goals first|refine Hold.mk ?_|omega|with_reducible assumption|(simp only [InR] at *;omega)|skip))
    ((try refine CallT.toA ?_); refine callT_m (by first | exact .inl ⟨rfl, rfl⟩ | exact .inr rfl) (by simp [go_sem]) ?_; intro args ha; simp [go_sem] at ha; subst ha; refine ⟨_, (size_spec _ _), ?_⟩; rintro _ rfl; simp [go_sem]; ((repeat' (first|(refine ag_x ?_;simp [go_sem])|intro _|refine And.intro ?_ ?_|(apply hKK;clear hKK KK)));all_goals first|refine Hold.mk ?_|omega|with_reducible assumption|(simp only [InR] at *;omega)|skip))
    (refine awp_if fun T F hT hF => ?_; simp [go_sem]; refine BR.intro (fun h4 => hT ?_) (fun h4 => hF ?_); all_goals clear hT hF T F; try simp at h4)
    · rw [sgn_ge] at h4
      ((refine awp_dr (.qs [0, 2, 4, 1, 3, 5] (.kp 6 (.one 7 (.one 8 (.nil))))) (by kernel_rfl) ?_ ?_ ?_ ?_); (kernel_rfl); (exact (by decide +kernel)); (kernel_rfl); intro KK hKK; ((repeat' (first|(refine ag_x ?_;simp [go_sem])|refine adr_nil ?_|refine adr_two ?_ ?_|refine adr_kq ?_ ?_|refine adr_three ?_ ?_ ?_|refine adr_four ?_ ?_ ?_ ?_|refine adr_kp2 ?_ ?_|refine adr_kp3 ?_ ?_ ?_|((first|refine adr_qs fun KK hKK=>?_|refine adr_y fun KK hKK=>?_);simp [go_sem])|intro _|refine And.intro ?_ ?_|(apply hKK;clear hKK KK)));all_goals first|refine Hold.mk ?_|omega|with_reducible assumption|(simp only [InR] at *;omega)|skip))
      ((try refine CallT.toA ?_); refine callT_m (by first | exact .inl ⟨rfl, rfl⟩ | exact .inr rfl) (by simp [go_sem]) ?_; intro args ha; simp [go_sem] at ha; subst ha; refine ⟨_, (less_spec (dgU _) (dgU _) hm (dg_le h4) (by rw [vU, vU]; omega)), ?_⟩; rintro _ ⟨l, rfl, hl, hv⟩; simp [go_sem]; ((repeat' (first|(refine ag_x ?_;simp [go_sem])|refine adr_nil ?_|refine adr_two ?_ ?_|refine adr_kq ?_ ?_|refine adr_three ?_ ?_ ?_|refine adr_four ?_ ?_ ?_ ?_|refine adr_kp2 ?_ ?_|refine adr_kp3 ?_ ?_ ?_|((first|refine adr_qs fun KK hKK=>?_|refine adr_y fun KK hKK=>?_);simp [go_sem])|intro _|refine And.intro ?_ ?_|(apply hKK;clear hKK KK)));all_goals first|refine Hold.mk ?_|omega|with_reducible assumption|(simp only [InR] at *;omega)|skip))
      rw [vU, vU] at hv
      ((try refine CallT.toA ?_); refine callT_m (by first | exact .inl ⟨rfl, rfl⟩ | exact .inr rfl) (by simp [go_sem]) ?_; intro args ha; simp [go_sem] at ha; subst ha; refine ⟨_, (fit_as _ hl (n := m + n) (by rw [hv]; unfold sg; by_cases h : m < 0 <;> simp [h] <;> omega)), ?_⟩; rintro _ rfl; simp [go_sem]; ((repeat' (first|(refine ag_x ?_;simp [go_sem])|refine adr_nil ?_|refine adr_two ?_ ?_|refine adr_kq ?_ ?_|refine adr_three ?_ ?_ ?_|refine adr_four ?_ ?_ ?_ ?_|refine adr_kp2 ?_ ?_|refine adr_kp3 ?_ ?_ ?_|((first|refine adr_qs fun KK hKK=>?_|refine adr_y fun KK hKK=>?_);simp [go_sem])|intro _|refine And.intro ?_ ?_|(apply hKK;clear hKK KK)));all_goals first|refine Hold.mk ?_|omega|with_reducible assumption|(simp only [InR] at *;omega)|skip))
      (refine awp_ret ?_; simp [go_sem])
    · refine awp_skip ?_
      refine hK1 _ ?_; clear hK1
      have h5 : m.natAbs ≤ n.natAbs := by
        rcases Nat.lt_or_ge m.natAbs n.natAbs with h | h
        · omega
        · have := (sgn_ge _ _).2 h; omega
      ((refine awp_dr (.qs [0, 2, 4, 1, 3, 5] (.kp 6 (.one 7 (.one 8 (.nil))))) (by kernel_rfl) ?_ ?_ ?_ ?_); (kernel_rfl); (exact (by decide +kernel)); (kernel_rfl); intro KK hKK; ((repeat' (first|(refine ag_x ?_;simp [go_sem])|refine adr_nil ?_|refine adr_two ?_ ?_|refine adr_kq ?_ ?_|refine adr_three ?_ ?_ ?_|refine adr_four ?_ ?_ ?_ ?_|refine adr_kp2 ?_ ?_|refine adr_kp3 ?_ ?_ ?_|((first|refine adr_qs fun KK hKK=>?_|refine adr_y fun KK hKK=>?_);simp [go_sem])|intro _|refine And.intro ?_ ?_|(apply hKK;clear hKK KK)));all_goals first|refine Hold.mk ?_|omega|with_reducible assumption|(simp only [InR] at *;omega)|skip))
      ((try refine CallT.toA ?_); refine callT_m (by first | exact .inl ⟨rfl, rfl⟩ | exact .inr rfl) (by simp [go_sem]) ?_; intro args ha; simp [go_sem] at ha; subst ha; refine ⟨_, (less_spec (dgU _) (dgU _) hn (dg_le h5) (by rw [vU, vU]; omega)), ?_⟩; rintro _ ⟨l, rfl, hl, hv⟩; simp [go_sem]; ((repeat' (first|(refine ag_x ?_;simp [go_sem])|refine adr_nil ?_|refine adr_two ?_ ?_|refine adr_kq ?_ ?_|refine adr_three ?_ ?_ ?_|refine adr_four ?_ ?_ ?_ ?_|refine adr_kp2 ?_ ?_|refine adr_kp3 ?_ ?_ ?_|((first|refine adr_qs fun KK hKK=>?_|refine adr_y fun KK hKK=>?_);simp [go_sem])|intro _|refine And.intro ?_ ?_|(apply hKK;clear hKK KK)));all_goals first|refine Hold.mk ?_|omega|with_reducible assumption|(simp only [InR] at *;omega)|skip))
      rw [vU, vU] at hv
      ((try refine CallT.toA ?_); refine callT_m (by first | exact .inl ⟨rfl, rfl⟩ | exact .inr rfl) (by simp [go_sem]) ?_; intro args ha; simp [go_sem] at ha; subst ha; refine ⟨_, (fit_as _ hl (n := m + n) (by rw [hv]; unfold sg; by_cases h : n < 0 <;> simp [h] <;> omega)), ?_⟩; rintro _ rfl; simp [go_sem]; ((repeat' (first|(refine ag_x ?_;simp [go_sem])|refine adr_nil ?_|refine adr_two ?_ ?_|refine adr_kq ?_ ?_|refine adr_three ?_ ?_ ?_|refine adr_four ?_ ?_ ?_ ?_|refine adr_kp2 ?_ ?_|refine adr_kp3 ?_ ?_ ?_|((first|refine adr_qs fun KK hKK=>?_|refine adr_y fun KK hKK=>?_);simp [go_sem])|intro _|refine And.intro ?_ ?_|(apply hKK;clear hKK KK)));all_goals first|refine Hold.mk ?_|omega|with_reducible assumption|(simp only [InR] at *;omega)|skip))
      (refine awp_ret ?_; simp [go_sem])
end Go.Proofs.YtglncfhcgkihbaaGreatDoor

namespace Go.Proofs.YtglncfhcgkihbaaGreatDoor
open Go.Eng Go.Wh
set_option maxRecDepth 20000
set_option linter.unusedSimpArgs false
set_option linter.unusedVariables false
attribute [local irreducible] AG CallA CallT AWp PCall ACall AgC
set_option maxHeartbeats 4000000 in
theorem mulL_spec (sa sb : Bool) {a b : List Int} (ha : digs (U : Int) a) (hb : digs (U : Int) b) (hla : a.length ≤ 1000000) (hlb : b.length ≤ 1000000) :
    PCall Tryz.prog 41 [.agg [dB sa, dIs a], .agg [dB sb, dIs b]] fun r => r = dBig (sg (sa != sb) (val U a * val U b)) := by 
  refine pcall_of Tryz.func41 rfl rfl Tryz.ntmps41 (rs := [.cell 4 58]) (tys := [58]) rfl rfl (by simp) ?_
  (refine awp_sr fun KK hKK => ?_; simp [go_sem]; ((repeat' (first|(refine ag_x ?_;simp [go_sem])|intro _|refine And.intro ?_ ?_|(apply hKK;clear hKK KK)));all_goals first|refine Hold.mk ?_|omega|with_reducible assumption|(simp only [InR] at *;omega)|skip))
  rename_i g2 g3 g4
  (refine awp_sr fun KK hKK => ?_; simp [go_sem]; ((repeat' (first|(refine ag_x ?_;simp [go_sem])|intro _|refine And.intro ?_ ?_|(apply hKK;clear hKK KK)));all_goals first|refine Hold.mk ?_|omega|with_reducible assumption|(simp only [InR] at *;omega)|skip))
  refine awp_seq_k fun K1 hK1 => ?_
  rename_i g
  (refine awp_sr fun KK hKK => ?_; simp [go_sem]; ((repeat' (first|(refine ag_x ?_;simp [go_sem])|intro _|refine And.intro ?_ ?_|(apply hKK;clear hKK KK)));all_goals first|refine Hold.mk ?_|omega|with_reducible assumption|(simp only [InR] at *;omega)|skip))
  refine awp_block ?_
  refine awp_loop (σ := Nat × List Int) (fun x => ⟨[(2, .ptr 2 g2 0), (3, .ptr 3 g3 0), (4, .ptr 4 g4 0), (5, .own 19 g), (21, dIs a), (22, dI a.length), (23, dI x.1)], [(19, g, .row 3 1 (x.2.map cI)), (4, g4, .box [dB false, .v (.slice none 0 0)]), (3, g3, .box [dB sb, dIs b]), (2, g2, .box [dB sa, dIs a])]⟩)
    (fun x => x.1 ≤ a.length ∧ MulI U a b x.1 x.2) (fun x => a.length - x.1) (0, List.replicate (a.length + b.length) 0) ?_ ?_ ?_
  · have e : ((a.length : Int) + (b.length : Int)).toNat = a.length + b.length := by omega
    (refine cov_of ?_ ?_ <;> simp [go_sem, e])
  · exact ⟨Nat.zero_le _, mul_init (by decide) _ _⟩
  rintro ⟨i, out⟩ ⟨hi, hp⟩
  simp only at hi hp
  (refine awp_sr fun KK hKK => ?_; simp [go_sem]; ((repeat' (first|(refine ag_x ?_;simp [go_sem])|intro _|refine And.intro ?_ ?_|(apply hKK;clear hKK KK)));all_goals first|refine Hold.mk ?_|omega|with_reducible assumption|(simp only [InR] at *;omega)|skip))
  refine awp_seq_k fun K2 hK2 => ?_
  (refine awp_if fun T F hT hF => ?_; simp [go_sem]; refine BR.intro (fun h3 => hT ?_) (fun h3 => hF ?_); all_goals clear hT hF T F; try simp at h3) 
  · refine awp_skip ?_
    refine hK2 _ ?_; clear hK2
    obtain ⟨x, hax⟩ : ∃ x, a[i]? = some x := ⟨_, List.getElem?_eq_getElem h3⟩
    have hxg : a.getD i 0 = x := getD_in hax
    have qa := dU ha hax
    refine awp_seq_k fun K4 hK4 => ?_
    refine awp_block ?_
    (refine awp_sr fun KK hKK => ?_; simp [go_sem, hax]; ((repeat' (first|(refine ag_x ?_;simp [go_sem, hax])|intro _|refine And.intro ?_ ?_|(apply hKK;clear hKK KK)));all_goals first|refine Hold.mk ?_|omega|with_reducible assumption|(simp only [InR] at *;omega)|skip))
    (refine awp_sr fun KK hKK => ?_; simp [go_sem]; ((repeat' (first|(refine ag_x ?_;simp [go_sem])|intro _|refine And.intro ?_ ?_|(apply hKK;clear hKK KK)));all_goals first|refine Hold.mk ?_|omega|with_reducible assumption|(simp only [InR] at *;omega)|skip))
    refine awp_seq_k fun K5 hK5 => ?_
    (refine awp_sr fun KK hKK => ?_; simp [go_sem]; ((repeat' (first|(refine ag_x ?_;simp [go_sem])|intro _|refine And.intro ?_ ?_|(apply hKK;clear hKK KK)));all_goals first|refine Hold.mk ?_|omega|with_reducible assumption|(simp only [InR] at *;omega)|skip))
    refine awp_block ?_
    refine awp_loop (σ := Nat × List Int × Int) (fun s => ⟨[(2, .ptr 2 g2 0), (3, .ptr 3 g3 0), (4, .ptr 4 g4 0), (5, .own 19 g), (6, dI i), (7, dI x), (8, dI s.2.2), (21, dIs a), (22, dI a.length), (23, dI i), (29, dIs b), (30, dI b.length), (31, dI s.1)], [(19, g, .row 3 1 (s.2.1.map cI)), (4, g4, .box [dB false, .v (.slice none 0 0)]), (3, g3, .box [dB sb, dIs b]), (2, g2, .box [dB sa, dIs a])]⟩)
      (fun s => s.1 ≤ b.length ∧ MulK U a b i s.1 s.2.1 s.2.2) (fun x => b.length - x.1) (0, out, 0) ?_ ?_ ?_
    · (refine cov_of ?_ ?_ <;> simp [go_sem])
    · exact ⟨Nat.zero_le _, mul_row (by decide) hp⟩
    rintro ⟨k, o, c⟩ ⟨hk, hq⟩
    simp only at hk hq
    have hol := hq.1
    have hc : 0 ≤ c ∧ c < 1000000000 := hq.2.2.1
    (refine awp_sr fun KK hKK => ?_; simp [go_sem]; ((repeat' (first|(refine ag_x ?_;simp [go_sem])|intro _|refine And.intro ?_ ?_|(apply hKK;clear hKK KK)));all_goals first|refine Hold.mk ?_|omega|with_reducible assumption|(simp only [InR] at *;omega)|skip))
    refine awp_seq_k fun K6 hK6 => ?_
    (refine awp_if fun T F hT hF => ?_; simp [go_sem]; refine BR.intro (fun h7 => hT ?_) (fun h7 => hF ?_); all_goals clear hT hF T F; try simp at h7) 
    · refine awp_skip ?_
      refine hK6 _ ?_; clear hK6
      obtain ⟨y, hbx⟩ : ∃ y, b[k]? = some y := ⟨_, List.getElem?_eq_getElem h7⟩
      obtain ⟨z, hox⟩ : ∃ z, o[i + k]? = some z := ⟨_, List.getElem?_eq_getElem (by omega)⟩
      have qb := dU hb hbx
      have qo := dU hq.2.1 hox
      obtain ⟨hst, n1, n2⟩ := mul_step (B := (U : Int)) (by decide) ha hb h3 h7 hq
      rw [hxg, getD_in hbx, getD_in hox] at hst n1 n2
      have n2 : z + x * y + c < 1000000000000000000 := n2
      have p1 : 0 ≤ x * y := Int.mul_nonneg qa.1 qb.1
      generalize hxy : x * y = xy at *
      have e : ((i : Int) + (k : Int)).toNat = i + k := by omega
      refine awp_seq_k fun K8 hK8 => ?_
      refine awp_block ?_
      (refine awp_sr fun KK hKK => ?_; simp [go_sem, hbx]; ((repeat' (first|(refine ag_x ?_;simp [go_sem, hbx])|intro _|refine And.intro ?_ ?_|(apply hKK;clear hKK KK)));all_goals first|refine Hold.mk ?_|omega|with_reducible assumption|(simp only [InR] at *;omega)|skip))
      (refine awp_sr fun KK hKK => ?_; simp [go_sem, hox, e, hxy]; ((repeat' (first|(refine ag_x ?_;simp [go_sem, hox, e, hxy])|intro _|refine And.intro ?_ ?_|(apply hKK;clear hKK KK)));all_goals first|refine Hold.mk ?_|omega|with_reducible assumption|(simp only [InR] at *;omega)|skip))
      obtain ⟨m1, m2, _⟩ := div_mod_of (B := 1000000000) (n := z + xy + c) (by decide) n1
      (refine awp_sr fun KK hKK => ?_; simp [go_sem, hox, e, m1, m2]; ((repeat' (first|(refine ag_x ?_;simp [go_sem, hox, e, m1, m2])|intro _|refine And.intro ?_ ?_|(apply hKK;clear hKK KK)));all_goals first|refine Hold.mk ?_|omega|with_reducible assumption|(simp only [InR] at *;omega)|skip))
      (refine awp_r fun KK hKK => ?_; simp [go_sem, m1, m2]; ((repeat' (first|(refine ag_x ?_;simp [go_sem, m1, m2])|intro _|refine And.intro ?_ ?_|(apply hKK;clear hKK KK)));all_goals first|refine Hold.mk ?_|omega|with_reducible assumption|(simp only [InR] at *;omega)|skip))
      refine hK8 _ ?_; clear hK8
      (refine awp_r fun KK hKK => ?_; simp [go_sem]; ((repeat' (first|(refine ag_x ?_;simp [go_sem])|intro _|refine And.intro ?_ ?_|(apply hKK;clear hKK KK)));all_goals first|refine Hold.mk ?_|omega|with_reducible assumption|(simp only [InR] at *;omega)|skip))
      refine ⟨(k + 1, o.set (i + k) ((z + xy + c) % (U : Int)), (z + xy + c) / (U : Int)), ?_, ⟨h7, hst⟩, by simp only; omega⟩
      (refine cov_of ?_ ?_ <;> simp [go_sem, List.map_set])
    · refine awp_exit ?_
      simp only [go_sem]
      refine hK5 _ ?_; clear hK5
      have hkb : k = b.length := by omega
      subst hkb
      obtain ⟨hst, n1, n2⟩ := mul_end (B := (U : Int)) (by decide) h3 hq
      have n2 : o.getD (i + b.length) 0 + c < 1000000000 := n2
      obtain ⟨z, hox⟩ : ∃ z, o[i + b.length]? = some z := ⟨_, List.getElem?_eq_getElem (by omega)⟩
      rw [getD_in hox] at hst n1 n2
      have qo := dU hq.2.1 hox
      have e : ((i : Int) + (b.length : Int)).toNat = i + b.length := by omega
      (refine awp_r fun KK hKK => ?_; simp [go_sem, hox, e]; ((repeat' (first|(refine ag_x ?_;simp [go_sem, hox, e])|intro _|refine And.intro ?_ ?_|(apply hKK;clear hKK KK)));all_goals first|refine Hold.mk ?_|omega|with_reducible assumption|(simp only [InR] at *;omega)|skip))
      refine hK4 _ ?_; clear hK4
      (refine awp_r fun KK hKK => ?_; simp [go_sem]; ((repeat' (first|(refine ag_x ?_;simp [go_sem])|intro _|refine And.intro ?_ ?_|(apply hKK;clear hKK KK)));all_goals first|refine Hold.mk ?_|omega|with_reducible assumption|(simp only [InR] at *;omega)|skip))
      refine ⟨(i + 1, o.set (i + b.length) (z + c)), ?_, ⟨h3, hst⟩, by simp only; omega⟩
      (refine cov_of ?_ ?_ <;> simp [go_sem, List.map_set])
  · refine awp_exit ?_
    simp only [go_sem]
    refine hK1 _ ?_; clear hK1
    have hia : i = a.length := by omega
    subst hia
    obtain ⟨d1, d2⟩ := mul_done hp
    (refine awp_sr fun KK hKK => ?_; simp [go_sem]; ((repeat' (first|(refine ag_x ?_;simp [go_sem])|intro _|refine And.intro ?_ ?_|(apply hKK;clear hKK KK)));all_goals first|refine Hold.mk ?_|omega|with_reducible assumption|(simp only [InR] at *;omega)|skip))
    ((try refine CallT.toA ?_); refine callT_z (by first | exact .inl ⟨rfl, rfl⟩ | exact .inr rfl) rfl (by simp [go_sem]) (by simp [go_sem]) ?_; intro args ha; simp [go_sem] at ha; subst ha; refine ⟨_, (fit_as _ d1 (by rw [d2])), ?_⟩; rintro _ rfl; simp [go_sem]; ((repeat' (first|(refine ag_x ?_;simp [go_sem])|intro _|refine And.intro ?_ ?_|(apply hKK;clear hKK KK)));all_goals first|refine Hold.mk ?_|omega|with_reducible assumption|(simp only [InR] at *;omega)|skip))
    (refine awp_ret ?_; simp [go_sem])
theorem sg_mul (m n : Int) : sg (decide (m < 0) != decide (n < 0)) ((m.natAbs : Int) * (n.natAbs : Int)) = m * n := by
  by_cases hm : m < 0 <;> by_cases hn : n < 0 <;> simp only [sg, hm, hn, decide_true, decide_false, bne_self_eq_false, Bool.false_eq_true, if_false, if_true, Bool.true_bne, Bool.false_bne, Bool.not_false, Bool.not_true]
  · rw [show (m.natAbs : Int) = -m by omega, show (n.natAbs : Int) = -n by omega, Int.neg_mul_neg]
  · rw [show (m.natAbs : Int) = -m by omega, show (n.natAbs : Int) = n by omega, Int.neg_mul, Int.neg_neg]
  · rw [show (m.natAbs : Int) = m by omega, show (n.natAbs : Int) = -n by omega, Int.mul_neg, Int.neg_neg]
  · rw [show (m.natAbs : Int) = m by omega, show (n.natAbs : Int) = n by omega]
theorem mul_spec (m n : Int) (hm : sz U m ≤ 1000000) (hn : sz U n ≤ 1000000) : PCall Tryz.prog 41 [dBig m, dBig n] fun r => r = dBig (m * n) := by
  refine (mulL_spec _ _ (dgU _) (dgU _) hm hn).mono ?_
  rintro _ rfl
  rw [vU, vU, sg_mul]
end Go.Proofs.YtglncfhcgkihbaaGreatDoor

namespace Go.Proofs.YtglncfhcgkihbaaGreatDoor
open Go.Eng Go.Wh
set_option maxRecDepth 20000
set_option linter.unusedSimpArgs false
set_option linter.unusedVariables false
attribute [local irreducible] AG CallA CallT AWp PCall ACall AgC
theorem trimU {l : List Int} {n : Nat} (h : digs (U : Int) l) (hv : val U l = n) : trimL l = dg U n := by
  rw [trim_eq (by decide) h, hv]; rfl
theorem short_spec (a : List Int) (n : Int) (ha : digs (U : Int) a) (hla : a.length ≤ 1000000) (hn0 : 0 < n) (hn1 : n < 1000000000) : PCall Tryz.prog 94 [dIs a, dI n] fun r => r = .tup [dIs (dg U (val U a / n).toNat), dI (val U a % n)] := by 
  refine pcall_of Tryz.func94 rfl rfl Tryz.ntmps94 (rs := [.tmp 4, .tmp 5]) (tys := [22, 3]) rfl rfl (by simp) ?_
  (refine awp_sr fun KK hKK => ?_; simp [go_sem]; ((repeat' (first|(refine ag_x ?_;simp [go_sem])|intro _|refine And.intro ?_ ?_|(apply hKK;clear hKK KK)));all_goals first|refine Hold.mk ?_|omega|with_reducible assumption|(simp only [InR] at *;omega)|skip))
  (refine awp_sr fun KK hKK => ?_; simp [go_sem]; ((repeat' (first|(refine ag_x ?_;simp [go_sem])|intro _|refine And.intro ?_ ?_|(apply hKK;clear hKK KK)));all_goals first|refine Hold.mk ?_|omega|with_reducible assumption|(simp only [InR] at *;omega)|skip))
  rename_i g
  (refine awp_sr fun KK hKK => ?_; simp [go_sem]; ((repeat' (first|(refine ag_x ?_;simp [go_sem])|intro _|refine And.intro ?_ ?_|(apply hKK;clear hKK KK)));all_goals first|refine Hold.mk ?_|omega|with_reducible assumption|(simp only [InR] at *;omega)|skip))
  refine awp_seq_k fun K1 hK1 => ?_
  (refine awp_sr fun KK hKK => ?_; simp [go_sem]; ((repeat' (first|(refine ag_x ?_;simp [go_sem])|intro _|refine And.intro ?_ ?_|(apply hKK;clear hKK KK)));all_goals first|refine Hold.mk ?_|omega|with_reducible assumption|(simp only [InR] at *;omega)|skip))
  refine awp_block ?_
  refine awp_loop (σ := Nat × List Int × Int) (fun x => ⟨[(0, dIs a), (1, dI n), (6, .own 12 g), (7, dI x.2.2), (8, dI ((x.1 : Int) - 1))], [(12, g, .row 3 1 (x.2.1.map cI))]⟩) (fun x => x.1 ≤ a.length ∧ DivI U a n x.1 x.2.1 x.2.2) (fun x => x.1) (a.length, List.replicate a.length 0, 0) ?_ ?_ ?_
  · (refine cov_of ?_ ?_ <;> simp [go_sem])
  · exact ⟨Nat.le_refl _, div_init (by decide) a hn0⟩
  rintro ⟨j, q, r⟩ ⟨hj, hp⟩
  simp only at hj hp
  refine awp_seq_k fun K2 hK2 => ?_
  (refine awp_sr fun KK hKK => ?_; simp [go_sem]; ((repeat' (first|(refine ag_x ?_;simp [go_sem])|intro _|refine And.intro ?_ ?_|(apply hKK;clear hKK KK)));all_goals first|refine Hold.mk ?_|omega|with_reducible assumption|(simp only [InR] at *;omega)|skip))
  (refine awp_if fun T F hT hF => ?_; simp [go_sem]; refine BR.intro (fun h3 => hT ?_) (fun h3 => hF ?_); all_goals clear hT hF T F; try simp at h3) 
  · refine awp_skip ?_
    refine hK2 _ ?_; clear hK2
    obtain ⟨i, rfl⟩ : ∃ i, j = i + 1 := ⟨j - 1, by omega⟩
    obtain ⟨x, hax⟩ : ∃ x, a[i]? = some x := ⟨_, List.getElem?_eq_getElem (by omega)⟩
    have qx := dU ha hax
    have hrr := hp.2.2.1
    have hql := hp.1
    obtain ⟨hst, n12, n3, n4⟩ := div_step (B := (U : Int)) (by decide) hn0 ha (by omega) hp
    rw [getD_in hax] at hst n12 n3 n4
    have hst : DivI U a n i (q.set i ((r * 1000000000 + x) / n)) ((r * 1000000000 + x) % n) := hst
    have n1 : 0 ≤ r * 1000000000 + x := by omega
    have n2 : r * 1000000000 + x < 1000000000000000000 := by omega
    obtain ⟨m1, m2, m3, m4, m5, m6⟩ := div_mod_of (B := n) (n := r * 1000000000 + x) hn0 n1
    have m7 : (r * 1000000000 + x) / n < 1000000000 := n4
    obtain ⟨z, hqz⟩ : ∃ z, q[i]? = some z := ⟨_, List.getElem?_eq_getElem (by omega)⟩
    have hne : n ≠ 0 := by omega
    have hne1 : n ≠ -1 := by omega
    refine awp_seq_k fun K4 hK4 => ?_
    refine awp_block ?_
    (refine awp_sr fun KK hKK => ?_; simp [go_sem, hax]; ((repeat' (first|(refine ag_x ?_;simp [go_sem, hax])|intro _|refine And.intro ?_ ?_|(apply hKK;clear hKK KK)));all_goals first|refine Hold.mk ?_|omega|with_reducible assumption|(simp only [InR] at *;omega)|skip))
    (refine awp_sr fun KK hKK => ?_; simp [go_sem, m1, m2, hne, hne1, hqz]; ((repeat' (first|(refine ag_x ?_;simp [go_sem, m1, m2, hne, hne1, hqz])|intro _|refine And.intro ?_ ?_|(apply hKK;clear hKK KK)));all_goals first|refine Hold.mk ?_|omega|with_reducible assumption|(simp only [InR] at *;omega)|skip))
    (refine awp_r fun KK hKK => ?_; simp [go_sem, m1, m2, hne, hne1]; ((repeat' (first|(refine ag_x ?_;simp [go_sem, m1, m2, hne, hne1])|intro _|refine And.intro ?_ ?_|(apply hKK;clear hKK KK)));all_goals first|refine Hold.mk ?_|omega|with_reducible assumption|(simp only [InR] at *;omega)|skip))
    refine hK4 _ ?_; clear hK4
    (refine awp_r fun KK hKK => ?_; simp [go_sem]; ((repeat' (first|(refine ag_x ?_;simp [go_sem])|intro _|refine And.intro ?_ ?_|(apply hKK;clear hKK KK)));all_goals first|refine Hold.mk ?_|omega|with_reducible assumption|(simp only [InR] at *;omega)|skip))
    refine ⟨(i, q.set i ((r * 1000000000 + x) / n), (r * 1000000000 + x) % n), ?_, ⟨by simp only; omega, hst⟩, by simp only; omega⟩
    (refine cov_of ?_ ?_ <;> simp [go_sem, List.map_set])
  · refine awp_exit ?_
    simp only [go_sem]
    refine hK1 _ ?_; clear hK1
    have hj0 : j = 0 := by omega
    subst hj0
    obtain ⟨d1, d2, d3⟩ := div_done (by decide) hn0 hp
    (refine awp_sr fun KK hKK => ?_; simp [go_sem]; ((repeat' (first|(refine ag_x ?_;simp [go_sem])|intro _|refine And.intro ?_ ?_|(apply hKK;clear hKK KK)));all_goals first|refine Hold.mk ?_|omega|with_reducible assumption|(simp only [InR] at *;omega)|skip))
    ((try refine CallT.toA ?_); refine callT_z (by first | exact .inl ⟨rfl, rfl⟩ | exact .inr rfl) rfl (by simp [go_sem]) (by simp [go_sem]) ?_; intro args ha; simp [go_sem] at ha; subst ha; refine ⟨_, (trim_spec _), ?_⟩; rintro _ rfl; simp [go_sem]; ((repeat' (first|(refine ag_x ?_;simp [go_sem])|intro _|refine And.intro ?_ ?_|(apply hKK;clear hKK KK)));all_goals first|refine Hold.mk ?_|omega|with_reducible assumption|(simp only [InR] at *;omega)|skip))
    (refine awp_ret ?_; simp [go_sem])
    rw [trim_eq (by decide) d1, d2, d3]
    exact ⟨rfl, rfl⟩
end Go.Proofs.YtglncfhcgkihbaaGreatDoor
