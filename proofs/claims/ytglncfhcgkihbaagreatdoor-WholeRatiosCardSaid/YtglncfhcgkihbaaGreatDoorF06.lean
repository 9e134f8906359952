/- Part of a proof: see the last text. -/
import Derived.Test.YtglncfhcgkihbaaGreatDoorF00
import Derived.Test.YtglncfhcgkihbaaGreatDoorF01
import Derived.Test.YtglncfhcgkihbaaGreatDoorF02
import Derived.Test.YtglncfhcgkihbaaGreatDoorF03
import Derived.Test.YtglncfhcgkihbaaGreatDoorF05
set_option linter.unusedVariables false
set_option linter.unusedSimpArgs false
namespace Go.Proofs.YtglncfhcgkihbaaGreatDoor
open Go.Eng Go.Wh
set_option maxRecDepth 20000
set_option linter.unusedSimpArgs false
set_option linter.unusedVariables false
attribute [local irreducible] AG CallA CallT AWp PCall ACall AgC
@[go_sem] abbrev dNum (n : Int) : D := .agg [dB (decide (n < 0)), dIs (dg 10 n.natAbs)]
theorem dT {l : List Int} (h : digs 10 l) {i : Nat} {d : Int} (hd : l[i]? = some d) : 0 ≤ d ∧ d < 10 := digs_at h hd
theorem dgT (n : Nat) : digs 10 (dg 10 n) := dg_digs (by decide) n
theorem vT (n : Nat) : val 10 (dg 10 n) = n := dg_val (by decide) n
theorem trimT {l : List Int} {n : Nat} (h : digs 10 l) (hv : val 10 l = n) : trimL l = dg 10 n := by
  rw [trim_eq (B := 10) (by decide) h]
  congr 1
  have : val (10 : Nat) l = n := hv
  omega
theorem dgT_le {a b : Nat} (h : b ≤ a) : (dg 10 b).length ≤ (dg 10 a).length := len_of_val (B := 10) (by decide) (dgT a) (dgT b) (dg_trim (by decide) b) (by rw [vT, vT]; omega)
theorem trimmed_spec (l : List Int) : PCall Tryz.prog 88 [dIs l] fun r => r = dIs (trimL l) := by 
  refine pcall_of Tryz.func88 rfl rfl Tryz.ntmps88 (rs := [.tmp 2]) (tys := [22]) rfl rfl (by simp) ?_
  refine awp_len 0 rfl fun hlen => ?_
  simp [lensD] at hlen
  (refine awp_sr fun KK hKK => ?_; simp [go_sem]; ((repeat' (first|(refine ag_x ?_;simp [go_sem])|intro _|refine And.intro ?_ ?_|(apply hKK;clear hKK KK)));all_goals first|refine Hold.mk ?_|omega|with_reducible assumption|(simp only [InR] at *;omega)|skip))
  refine awp_seq_k fun K1 hK1 => ?_
  refine awp_block ?_
  refine awp_loop (σ := List Int) (fun m => ⟨[(0, dIs m)], []⟩) (fun m => m.length ≤ l.length ∧ trimL m = trimL l) (fun m => m.length) l ?_ ?_ ?_
  · (refine cov_of ?_ ?_ <;> simp [go_sem])
  · simp
  rintro m ⟨hk, ht⟩
  refine awp_seq_k fun K2 hK2 => ?_
  rcases List.eq_nil_or_concat m with rfl | ⟨p, x, rfl⟩
  · (refine awp_sr fun KK hKK => ?_; simp [go_sem]; ((repeat' (first|(refine ag_false (by simp [go_sem, undef]) (by simp [go_sem]) ?_;simp [go_sem])|intro _|refine And.intro ?_ ?_|(apply hKK;clear hKK KK)));all_goals first|refine Hold.mk ?_|omega|with_reducible assumption|(simp only [InR] at *;omega)|skip))
    (refine awp_if fun T F hT hF => ?_; simp [go_sem]; refine hF ?_; clear hT hF T F)
    refine awp_exit ?_
    simp only [go_sem]
    refine hK1 _ ?_; clear hK1
    have e : trimL l = [] := by rw [← ht]; rfl
    (refine awp_sr fun KK hKK => ?_; simp [go_sem]; ((repeat' (first|(refine ag_x ?_;simp [go_sem])|intro _|refine And.intro ?_ ?_|(apply hKK;clear hKK KK)));all_goals first|refine Hold.mk ?_|omega|with_reducible assumption|(simp only [InR] at *;omega)|skip))
    (refine awp_ret ?_; simp [go_sem, e])
  · simp only [List.concat_eq_append] at hk ht ⊢
    simp at hk
    have hx : ((p ++ [x]).map cI)[p.length]? = some (cI x) := by simp
    (refine awp_sr fun KK hKK => ?_; simp [go_sem, hx]; ((repeat' (first|(refine ag_x ?_;simp [go_sem, hx])|intro _|refine And.intro ?_ ?_|(apply hKK;clear hKK KK)));all_goals first|refine Hold.mk ?_|omega|with_reducible assumption|(simp only [InR] at *;omega)|skip))
    refine awp_if fun T F hT hF => ?_
    simp [go_sem]
    refine BR.intro (fun hx0 => hT ?_) (fun hx0 => hF ?_)
    all_goals clear hT hF T F
    · simp at hx0; subst hx0
      refine awp_skip ?_
      simp only [go_sem]
      refine hK2 _ ?_; clear hK2
      refine awp_block ?_
      (refine awp_r fun KK hKK => ?_; simp [go_sem]; ((repeat' (first|(refine ag_x ?_;simp [go_sem])|intro _|refine And.intro ?_ ?_|(apply hKK;clear hKK KK)));all_goals first|refine Hold.mk ?_|omega|with_reducible assumption|(simp only [InR] at *;omega)|skip))
      refine ⟨p, ?_, ⟨by omega, by rw [← ht, trim_snoc0]⟩, by simp⟩
      (refine cov_of ?_ ?_ <;> simp [go_sem])
    · refine awp_exit ?_
      simp only [go_sem]
      refine hK1 _ ?_; clear hK1
      simp at hx0
      have e : trimL l = p ++ [x] := by rw [← ht]; exact trim_snoc hx0 p
      (refine awp_sr fun KK hKK => ?_; simp [go_sem]; ((repeat' (first|(refine ag_x ?_;simp [go_sem])|intro _|refine And.intro ?_ ?_|(apply hKK;clear hKK KK)));all_goals first|refine Hold.mk ?_|omega|with_reducible assumption|(simp only [InR] at *;omega)|skip))
      (refine awp_ret ?_; simp [go_sem, e])
theorem sizes_spec (a b : Nat) : PCall Tryz.prog 105 [dIs (dg 10 a), dIs (dg 10 b)] fun r => r = dI (sgn (a - b)) := by 
  refine pcall_of Tryz.func105 rfl rfl Tryz.ntmps105 (rs := [.tmp 4]) (tys := [3]) rfl rfl (by simp) ?_
  refine awp_len 0 rfl fun hlen0 => ?_
  refine awp_len 1 rfl fun hlen1 => ?_
  simp [lensD] at hlen0 hlen1
  have da := dgT a
  have db := dgT b
  (refine awp_sr fun KK hKK => ?_; simp [go_sem]; ((repeat' (first|(refine ag_x ?_;simp [go_sem])|intro _|refine And.intro ?_ ?_|(apply hKK;clear hKK KK)));all_goals first|refine Hold.mk ?_|omega|with_reducible assumption|(simp only [InR] at *;omega)|skip))
  refine awp_seq_k fun K1 hK1 => ?_
  (refine awp_sr fun KK hKK => ?_; simp [go_sem]; ((repeat' (first|(refine ag_x ?_;simp [go_sem])|intro _|refine And.intro ?_ ?_|(apply hKK;clear hKK KK)));all_goals first|refine Hold.mk ?_|omega|with_reducible assumption|(simp only [InR] at *;omega)|skip))
  (refine awp_if fun T F hT hF => ?_; simp [go_sem]; refine BR.intro (fun h2 => hT ?_) (fun h2 => hF ?_); all_goals clear hT hF T F; try simp at h2) 
  · have hs := sgn_len (by decide) h2
    refine awp_seq_k fun K3 hK3 => ?_
    (refine awp_sr fun KK hKK => ?_; simp [go_sem]; ((repeat' (first|(refine ag_x ?_;simp [go_sem])|intro _|refine And.intro ?_ ?_|(apply hKK;clear hKK KK)));all_goals first|refine Hold.mk ?_|omega|with_reducible assumption|(simp only [InR] at *;omega)|skip))
    (refine awp_if fun T F hT hF => ?_; simp [go_sem]; refine BR.intro (fun h4 => hT ?_) (fun h4 => hF ?_); all_goals clear hT hF T F; try simp at h4) 
    · (refine awp_sr fun KK hKK => ?_; simp [go_sem]; ((repeat' (first|(refine ag_x ?_;simp [go_sem])|intro _|refine And.intro ?_ ?_|(apply hKK;clear hKK KK)));all_goals first|refine Hold.mk ?_|omega|with_reducible assumption|(simp only [InR] at *;omega)|skip))
      (refine awp_ret ?_; simp [go_sem, h2, h4])
      rw [← hs]; unfold sgn; rw [if_pos (by omega)]
    · refine awp_skip ?_
      refine hK3 _ ?_; clear hK3
      (refine awp_sr fun KK hKK => ?_; simp [go_sem]; ((repeat' (first|(refine ag_x ?_;simp [go_sem])|intro _|refine And.intro ?_ ?_|(apply hKK;clear hKK KK)));all_goals first|refine Hold.mk ?_|omega|with_reducible assumption|(simp only [InR] at *;omega)|skip))
      (refine awp_ret ?_; simp [go_sem, h2, h4])
      rw [← hs]; unfold sgn; rw [if_neg (by omega), if_pos (by omega)]
  · refine awp_skip ?_
    refine hK1 _ ?_; clear hK1
    refine awp_seq_k fun K5 hK5 => ?_
    (refine awp_sr fun KK hKK => ?_; simp [go_sem]; ((repeat' (first|(refine ag_x ?_;simp [go_sem])|intro _|refine And.intro ?_ ?_|(apply hKK;clear hKK KK)));all_goals first|refine Hold.mk ?_|omega|with_reducible assumption|(simp only [InR] at *;omega)|skip))
    refine awp_block ?_
    refine awp_loop (σ := Nat) (fun j => ⟨[(0, dIs (dg 10 a)), (1, dIs (dg 10 b)), (5, dI ((j : Int) - 1))], []⟩) (fun j => j ≤ (dg 10 a).length ∧ (dg 10 a).drop j = (dg 10 b).drop j) (fun j => j) (dg 10 a).length ?_ ?_ ?_
    · (refine cov_of ?_ ?_ <;> simp [go_sem])
    · refine ⟨Nat.le_refl _, ?_⟩
      rw [List.drop_length, h2, List.drop_length]
    rintro j ⟨hj, he⟩
    refine awp_seq_k fun K6 hK6 => ?_
    (refine awp_sr fun KK hKK => ?_; simp [go_sem]; ((repeat' (first|(refine ag_x ?_;simp [go_sem])|intro _|refine And.intro ?_ ?_|(apply hKK;clear hKK KK)));all_goals first|refine Hold.mk ?_|omega|with_reducible assumption|(simp only [InR] at *;omega)|skip))
    (refine awp_if fun T F hT hF => ?_; simp [go_sem]; refine BR.intro (fun h7 => hT ?_) (fun h7 => hF ?_); all_goals clear hT hF T F; try simp at h7) 
    · refine awp_skip ?_
      refine hK6 _ ?_; clear hK6
      obtain ⟨i, rfl⟩ : ∃ i, j = i + 1 := ⟨j - 1, by omega⟩
      obtain ⟨x, hx⟩ : ∃ x, (dg 10 a)[i]? = some x := ⟨_, List.getElem?_eq_getElem (by omega)⟩
      obtain ⟨y, hy⟩ : ∃ y, (dg 10 b)[i]? = some y := ⟨_, List.getElem?_eq_getElem (by omega)⟩
      have bx := dT da hx
      have by' := dT db hy
      refine awp_seq_k fun K8 hK8 => ?_
      refine awp_block ?_
      refine awp_seq_k fun K9 hK9 => ?_
      ((refine awp_dr (.qs [0, 1, 2, 4, 5, 6, 3, 7, 8] (.nil)) (by kernel_rfl) ?_ ?_ ?_ ?_); (kernel_rfl); (exact (by decide +kernel)); (kernel_rfl); intro KK hKK; ((repeat' (first|(refine ag_x ?_;simp [go_sem, hx, hy])|refine adr_nil ?_|refine adr_two ?_ ?_|refine adr_kq ?_ ?_|refine adr_three ?_ ?_ ?_|refine adr_four ?_ ?_ ?_ ?_|refine adr_kp2 ?_ ?_|refine adr_kp3 ?_ ?_ ?_|((first|refine adr_qs fun KK hKK=>?_|refine adr_y fun KK hKK=>?_);simp [go_sem, hx, hy])|intro _|refine And.intro ?_ ?_|(apply hKK;clear hKK KK)));all_goals first|refine Hold.mk ?_|omega|with_reducible assumption|(simp only [InR] at *;omega)|skip))
      (refine awp_if fun T F hT hF => ?_; simp [go_sem]; refine BR.intro (fun h10 => hT ?_) (fun h10 => hF ?_); all_goals clear hT hF T F; try simp at h10) 
      · have hs := sgn_top (by decide) hx hy he (by omega)
        (refine awp_sr fun KK hKK => ?_; simp [go_sem]; ((repeat' (first|(refine ag_x ?_;simp [go_sem])|intro _|refine And.intro ?_ ?_|(apply hKK;clear hKK KK)));all_goals first|refine Hold.mk ?_|omega|with_reducible assumption|(simp only [InR] at *;omega)|skip))
        (refine awp_ret ?_; simp [go_sem])
        rw [← hs]; unfold sgn; rw [if_pos (by omega)]
      · refine awp_skip ?_
        refine hK9 _ ?_; clear hK9
        ((refine awp_dr (.qs [0, 1, 2, 4, 5, 6, 3, 7, 8] (.nil)) (by kernel_rfl) ?_ ?_ ?_ ?_); (kernel_rfl); (exact (by decide +kernel)); (kernel_rfl); intro KK hKK; ((repeat' (first|(refine ag_x ?_;simp [go_sem, hx, hy])|refine adr_nil ?_|refine adr_two ?_ ?_|refine adr_kq ?_ ?_|refine adr_three ?_ ?_ ?_|refine adr_four ?_ ?_ ?_ ?_|refine adr_kp2 ?_ ?_|refine adr_kp3 ?_ ?_ ?_|((first|refine adr_qs fun KK hKK=>?_|refine adr_y fun KK hKK=>?_);simp [go_sem, hx, hy])|intro _|refine And.intro ?_ ?_|(apply hKK;clear hKK KK)));all_goals first|refine Hold.mk ?_|omega|with_reducible assumption|(simp only [InR] at *;omega)|skip))
        (refine awp_if fun T F hT hF => ?_; simp [go_sem]; refine BR.intro (fun h11 => hT ?_) (fun h11 => hF ?_); all_goals clear hT hF T F; try simp at h11) 
        · have hs := sgn_top (by decide) hx hy he (by omega)
          (refine awp_sr fun KK hKK => ?_; simp [go_sem]; ((repeat' (first|(refine ag_x ?_;simp [go_sem])|intro _|refine And.intro ?_ ?_|(apply hKK;clear hKK KK)));all_goals first|refine Hold.mk ?_|omega|with_reducible assumption|(simp only [InR] at *;omega)|skip))
          (refine awp_ret ?_; simp [go_sem])
          rw [← hs]; unfold sgn; rw [if_neg (by omega), if_pos (by omega)]
        · refine awp_skip ?_
          refine hK8 _ ?_; clear hK8
          (refine awp_r fun KK hKK => ?_; simp [go_sem]; ((repeat' (first|(refine ag_x ?_;simp [go_sem])|intro _|refine And.intro ?_ ?_|(apply hKK;clear hKK KK)));all_goals first|refine Hold.mk ?_|omega|with_reducible assumption|(simp only [InR] at *;omega)|skip))
          refine ⟨i, ?_, ⟨by omega, ?_⟩, by omega⟩
          · (refine cov_of ?_ ?_ <;> simp [go_sem])
          · have h7 : x = y := by omega
            subst h7
            obtain ⟨ha, rfl⟩ := List.getElem?_eq_some_iff.1 hx
            obtain ⟨hb, e⟩ := List.getElem?_eq_some_iff.1 hy
            rw [List.drop_eq_getElem_cons ha, List.drop_eq_getElem_cons hb, he, e]
    · refine awp_exit ?_
      simp only [go_sem]
      refine hK5 _ ?_; clear hK5
      have hj0 : j = 0 := by omega
      subst hj0
      (refine awp_sr fun KK hKK => ?_; simp [go_sem]; ((repeat' (first|(refine ag_x ?_;simp [go_sem])|intro _|refine And.intro ?_ ?_|(apply hKK;clear hKK KK)));all_goals first|refine Hold.mk ?_|omega|with_reducible assumption|(simp only [InR] at *;omega)|skip))
      (refine awp_ret ?_; simp [go_sem, h2, h7])
      have e := dg_inj (B := 10) (by decide) (by simpa using he)
      subst e
      simp [sgn]
theorem rplus_spec (X Y : Nat) (hla : (dg 10 X).length ≤ 1000000) (hlb : (dg 10 Y).length ≤ 1000000) : PCall Tryz.prog 98 [dIs (dg 10 X), dIs (dg 10 Y)] fun r => r = dIs (dg 10 (X + Y)) := by 
  refine pcall_of Tryz.func98 rfl rfl Tryz.ntmps98 (rs := [.tmp 4]) (tys := [22]) rfl rfl (by simp) ?_
  have hva := vT X
  have hvb := vT Y
  have ha := dgT X
  have hb := dgT Y
  generalize dg 10 X = a at *
  generalize dg 10 Y = b at *
  (refine awp_sr fun KK hKK => ?_; simp [go_sem]; ((repeat' (first|(refine ag_x ?_;simp [go_sem])|intro _|refine And.intro ?_ ?_|(apply hKK;clear hKK KK)));all_goals first|refine Hold.mk ?_|omega|with_reducible assumption|(simp only [InR] at *;omega)|skip))
  (refine awp_sr fun KK hKK => ?_; simp [go_sem]; ((repeat' (first|(refine ag_x ?_;simp [go_sem])|intro _|refine And.intro ?_ ?_|(apply hKK;clear hKK KK)));all_goals first|refine Hold.mk ?_|omega|with_reducible assumption|(simp only [InR] at *;omega)|skip))
  refine awp_nilslot 5 22 3 1 rfl fun g5 => ?_
  simp only [go_sem]
  (refine awp_sr fun KK hKK => ?_; simp [go_sem]; ((repeat' (first|(refine ag_x ?_;simp [go_sem])|intro _|refine And.intro ?_ ?_|(apply hKK;clear hKK KK)));all_goals first|refine Hold.mk ?_|omega|with_reducible assumption|(simp only [InR] at *;omega)|skip))
  refine awp_seq_k fun K1 hK1 => ?_
  (refine awp_sr fun KK hKK => ?_; simp [go_sem]; ((repeat' (first|(refine ag_x ?_;simp [go_sem])|intro _|refine And.intro ?_ ?_|(apply hKK;clear hKK KK)));all_goals first|refine Hold.mk ?_|omega|with_reducible assumption|(simp only [InR] at *;omega)|skip))
  refine awp_block ?_
  refine awp_loop (σ := Nat × List Int × Int × Nat) (fun x => ⟨[(0, dIs a), (1, dIs b), (5, .own 22 x.2.2.2), (6, dI x.2.2.1), (7, dI x.1)], [(22, x.2.2.2, .row 3 1 (x.2.1.map cI))]⟩) (fun x => x.1 ≤ max a.length b.length + 1 ∧ (x.1 = max a.length b.length + 1 → x.2.2.1 = 0) ∧ PlusI 10 a b x.1 x.2.1 x.2.2.1) (fun x => max a.length b.length + 1 - x.1) (0, [], 0, g5) ?_ ?_ ?_
  · (refine cov_of ?_ ?_ <;> simp [go_sem])
  · exact ⟨by simp, fun h => rfl, plus_init _ _ _⟩
  rintro ⟨i, out, c, g⟩ ⟨hi, hc0, hp⟩
  simp only at hi hc0 hp
  have hc := hp.2.2.1
  have hol := hp.1
  have hst := plus_step (B := 10) (by decide) ha hb hp
  have qa := getD_digs (B := 10) (by decide) ha i
  have qb := getD_digs (B := 10) (by decide) hb i
  generalize hx : a.getD i 0 = x at hst qa
  generalize hy : b.getD i 0 = y at hst qb
  refine awp_seq_k fun K2 hK2 => ?_
  (refine awp_sr fun KK hKK => ?_; simp [go_sem]; ((repeat' (first|(refine ag_x ?_;simp [go_sem])|intro _|refine And.intro ?_ ?_|(apply hKK;clear hKK KK)));all_goals first|refine Hold.mk ?_|omega|with_reducible assumption|(simp only [InR] at *;omega)|skip))
  (refine awp_if fun T F hT hF => ?_; simp [go_sem]; refine BR.intro (fun h3 => hT ?_) (fun h3 => hF ?_); all_goals clear hT hF T F; try simp at h3) 
  · refine awp_skip ?_
    refine hK2 _ ?_; clear hK2
    have hi2 : i ≤ max a.length b.length := by
      rcases Nat.lt_or_ge (max a.length b.length) i with h | h
      · have := hc0 (by omega)
        omega
      · exact h
    have ecx : ∀ x' : Int, a[i]? = some x' → x' = x := fun x' h => by rw [← hx, getD_in h]
    have ecy : ∀ y' : Int, b[i]? = some y' → y' = y := fun y' h => by rw [← hy, getD_in h]
    refine awp_seq_k fun K4 hK4 => ?_
    refine awp_block ?_
    (refine awp_sr fun KK hKK => ?_; simp [go_sem]; ((repeat' (first|(refine ag_x ?_;simp [go_sem])|intro _|refine And.intro ?_ ?_|(apply hKK;clear hKK KK)));all_goals first|refine Hold.mk ?_|omega|with_reducible assumption|(simp only [InR] at *;omega)|skip))
    refine awp_seq_k fun K5 hK5 => ?_
    have tl5 : ∀ S', Cov S' ⟨[(0, dIs a), (1, dIs b), (5, .own 22 g), (7, dI i), (8, dI (c + x))], [(22, g, .row 3 1 (out.map cI))]⟩ → K5 S' := fun S' hS => by
      refine hK5 _ ?_; clear hK5
      refine awp_cov hS ?_; clear hS
      refine awp_seq_k fun K6 hK6 => ?_
      have tl6 : ∀ S', Cov S' ⟨[(0, dIs a), (1, dIs b), (5, .own 22 g), (7, dI i), (8, dI (c + x + y))], [(22, g, .row 3 1 (out.map cI))]⟩ → K6 S' := fun S' hS => by
        refine hK6 _ ?_; clear hK6
        refine awp_cov hS ?_; clear hS
        obtain ⟨m1, m2, _⟩ := div_mod_of (B := 10) (n := c + x + y) (by decide) (by omega)
        (refine awp_sr fun KK hKK => ?_; simp [go_sem]; ((repeat' (first|(refine ag_x ?_;simp [go_sem])|intro _|refine And.intro ?_ ?_|(apply hKK;clear hKK KK)));all_goals first|refine Hold.mk ?_|omega|with_reducible assumption|(simp only [InR] at *;omega)|skip))
        (refine awp_r fun KK hKK => ?_; simp [go_sem, m1, m2]; ((repeat' (first|(refine ag_x ?_;simp [go_sem, m1, m2])|intro _|refine And.intro ?_ ?_|(apply hKK;clear hKK KK)));all_goals first|refine Hold.mk ?_|omega|with_reducible assumption|(simp only [InR] at *;omega)|skip))
        rename_i g7
        refine hK4 _ ?_; clear hK4
        (refine awp_r fun KK hKK => ?_; simp [go_sem]; ((repeat' (first|(refine ag_x ?_;simp [go_sem])|intro _|refine And.intro ?_ ?_|(apply hKK;clear hKK KK)));all_goals first|refine Hold.mk ?_|omega|with_reducible assumption|(simp only [InR] at *;omega)|skip))
        refine ⟨(i + 1, out ++ [(c + x + y) % 10], (c + x + y) / 10, g7), ?_, ⟨by simp only; omega, ?_, hst⟩, by simp only; omega⟩
        · (refine cov_of ?_ ?_ <;> simp [go_sem, m1, m2])
        · simp only
          intro h
          have hia : a.length ≤ i := by omega
          have hib : b.length ≤ i := by omega
          rw [getD_out hia] at hx
          rw [getD_out hib] at hy
          subst hx hy
          exact Int.ediv_eq_zero_of_lt (by omega) (by omega)
      clear hK6
      (refine awp_sr fun KK hKK => ?_; simp [go_sem]; ((repeat' (first|(refine ag_x ?_;simp [go_sem])|intro _|refine And.intro ?_ ?_|(apply hKK;clear hKK KK)));all_goals first|refine Hold.mk ?_|omega|with_reducible assumption|(simp only [InR] at *;omega)|skip))
      (refine awp_if fun T F hT hF => ?_; simp [go_sem]; refine BR.intro (fun h7 => hT ?_) (fun h7 => hF ?_); all_goals clear hT hF T F; try simp at h7) 
      · obtain ⟨y', hy'⟩ : ∃ y', b[i]? = some y' := ⟨_, List.getElem?_eq_getElem h7⟩
        obtain rfl := ecy _ hy'
        (refine awp_r fun KK hKK => ?_; simp [go_sem, hy']; ((repeat' (first|(refine ag_x ?_;simp [go_sem, hy'])|intro _|refine And.intro ?_ ?_|(apply hKK;clear hKK KK)));all_goals first|refine Hold.mk ?_|omega|with_reducible assumption|(simp only [InR] at *;omega)|skip))
        refine tl6 _ ?_
        (refine cov_of ?_ ?_ <;> simp [go_sem])
      · refine awp_skip ?_
        refine tl6 _ ?_
        rw [getD_out h7] at hy; subst hy
        (refine cov_of ?_ ?_ <;> simp [go_sem])
    clear hK5
    (refine awp_sr fun KK hKK => ?_; simp [go_sem]; ((repeat' (first|(refine ag_x ?_;simp [go_sem])|intro _|refine And.intro ?_ ?_|(apply hKK;clear hKK KK)));all_goals first|refine Hold.mk ?_|omega|with_reducible assumption|(simp only [InR] at *;omega)|skip))
    (refine awp_if fun T F hT hF => ?_; simp [go_sem]; refine BR.intro (fun h8 => hT ?_) (fun h8 => hF ?_); all_goals clear hT hF T F; try simp at h8) 
    · obtain ⟨x', hx'⟩ : ∃ x', a[i]? = some x' := ⟨_, List.getElem?_eq_getElem h8⟩
      obtain rfl := ecx _ hx'
      (refine awp_r fun KK hKK => ?_; simp [go_sem, hx']; ((repeat' (first|(refine ag_x ?_;simp [go_sem, hx'])|intro _|refine And.intro ?_ ?_|(apply hKK;clear hKK KK)));all_goals first|refine Hold.mk ?_|omega|with_reducible assumption|(simp only [InR] at *;omega)|skip))
      refine tl5 _ ?_
      (refine cov_of ?_ ?_ <;> simp [go_sem])
    · refine awp_skip ?_
      refine tl5 _ ?_
      rw [getD_out h8] at hx; subst hx
      (refine cov_of ?_ ?_ <;> simp [go_sem])
  · refine awp_exit ?_
    simp only [go_sem]
    refine hK1 _ ?_; clear hK1
    have hc' : c = 0 := by omega
    subst hc'
    obtain ⟨d1, d2⟩ := plus_done hp (by omega) (by omega)
    (refine awp_sr fun KK hKK => ?_; simp [go_sem]; ((repeat' (first|(refine ag_x ?_;simp [go_sem])|intro _|refine And.intro ?_ ?_|(apply hKK;clear hKK KK)));all_goals first|refine Hold.mk ?_|omega|with_reducible assumption|(simp only [InR] at *;omega)|skip))
    ((try refine CallT.toA ?_); refine callT_z (by first | exact .inl ⟨rfl, rfl⟩ | exact .inr rfl) rfl (by simp [go_sem]) (by simp [go_sem]) ?_; intro args ha; simp [go_sem] at ha; subst ha; refine ⟨_, (trimmed_spec out), ?_⟩; rintro _ rfl; simp [go_sem]; ((repeat' (first|(refine ag_x ?_;simp [go_sem])|intro _|refine And.intro ?_ ?_|(apply hKK;clear hKK KK)));all_goals first|refine Hold.mk ?_|omega|with_reducible assumption|(simp only [InR] at *;omega)|skip))
    (refine awp_ret ?_; simp [go_sem, h3])
    rw [trimT (n := X + Y) d1 (by rw [d2, hva, hvb]; simp)]
theorem rminus_spec (X Y : Nat) (hXY : Y ≤ X) (hla : (dg 10 X).length ≤ 1000000) : PCall Tryz.prog 99 [dIs (dg 10 X), dIs (dg 10 Y)] fun r => r = dIs (dg 10 (X - Y)) := by 
  refine pcall_of Tryz.func99 rfl rfl Tryz.ntmps99 (rs := [.tmp 4]) (tys := [22]) rfl rfl (by simp) ?_
  have hlb := dgT_le hXY
  have hva := vT X
  have hvb := vT Y
  have ha := dgT X
  have hb := dgT Y
  generalize dg 10 X = a at *
  generalize dg 10 Y = b at *
  (refine awp_sr fun KK hKK => ?_; simp [go_sem]; ((repeat' (first|(refine ag_x ?_;simp [go_sem])|intro _|refine And.intro ?_ ?_|(apply hKK;clear hKK KK)));all_goals first|refine Hold.mk ?_|omega|with_reducible assumption|(simp only [InR] at *;omega)|skip))
  (refine awp_sr fun KK hKK => ?_; simp [go_sem]; ((repeat' (first|(refine ag_x ?_;simp [go_sem])|intro _|refine And.intro ?_ ?_|(apply hKK;clear hKK KK)));all_goals first|refine Hold.mk ?_|omega|with_reducible assumption|(simp only [InR] at *;omega)|skip))
  refine awp_nilslot 5 22 3 1 rfl fun g5 => ?_
  simp only [go_sem]
  (refine awp_sr fun KK hKK => ?_; simp [go_sem]; ((repeat' (first|(refine ag_x ?_;simp [go_sem])|intro _|refine And.intro ?_ ?_|(apply hKK;clear hKK KK)));all_goals first|refine Hold.mk ?_|omega|with_reducible assumption|(simp only [InR] at *;omega)|skip))
  refine awp_seq_k fun K1 hK1 => ?_
  (refine awp_sr fun KK hKK => ?_; simp [go_sem]; ((repeat' (first|(refine ag_x ?_;simp [go_sem])|intro _|refine And.intro ?_ ?_|(apply hKK;clear hKK KK)));all_goals first|refine Hold.mk ?_|omega|with_reducible assumption|(simp only [InR] at *;omega)|skip))
  refine awp_block ?_
  refine awp_loop (σ := Nat × List Int × Int × Nat) (fun x => ⟨[(0, dIs a), (1, dIs b), (5, .own 22 x.2.2.2), (6, dI x.2.2.1), (7, dI x.1)], [(22, x.2.2.2, .row 3 1 (x.2.1.map cI))]⟩) (fun x => x.1 ≤ a.length ∧ LessI 10 a b x.1 x.2.1 x.2.2.1) (fun x => a.length - x.1) (0, [], 0, g5) ?_ ?_ ?_
  · (refine cov_of ?_ ?_ <;> simp [go_sem])
  · exact ⟨Nat.zero_le _, less_init _ _ _⟩
  rintro ⟨i, out, c, g⟩ ⟨hi, hp⟩
  simp only at hi hp
  have hc := hp.2.2.1
  have hol := hp.1
  have hst := less_step (B := 10) (by decide) ha hb hp
  have qa := getD_digs (B := 10) (by decide) ha i
  have qb := getD_digs (B := 10) (by decide) hb i
  generalize hx : a.getD i 0 = x at hst qa
  generalize hy : b.getD i 0 = y at hst qb
  refine awp_seq_k fun K2 hK2 => ?_
  (refine awp_sr fun KK hKK => ?_; simp [go_sem]; ((repeat' (first|(refine ag_x ?_;simp [go_sem])|intro _|refine And.intro ?_ ?_|(apply hKK;clear hKK KK)));all_goals first|refine Hold.mk ?_|omega|with_reducible assumption|(simp only [InR] at *;omega)|skip))
  (refine awp_if fun T F hT hF => ?_; simp [go_sem]; refine BR.intro (fun h3 => hT ?_) (fun h3 => hF ?_); all_goals clear hT hF T F; try simp at h3) 
  · refine awp_skip ?_
    refine hK2 _ ?_; clear hK2
    have hax : a[i]? = some x := by rw [← hx]; exact at_of_lt h3
    have ecy : ∀ y' : Int, b[i]? = some y' → y' = y := fun y' h => by rw [← hy, getD_in h]
    refine awp_seq_k fun K4 hK4 => ?_
    refine awp_block ?_
    (refine awp_sr fun KK hKK => ?_; simp [go_sem, hax]; ((repeat' (first|(refine ag_x ?_;simp [go_sem, hax])|intro _|refine And.intro ?_ ?_|(apply hKK;clear hKK KK)));all_goals first|refine Hold.mk ?_|omega|with_reducible assumption|(simp only [InR] at *;omega)|skip))
    refine awp_seq_k fun K5 hK5 => ?_
    have tl5 : ∀ S', Cov S' ⟨[(0, dIs a), (1, dIs b), (5, .own 22 g), (7, dI i), (8, dI (x - c - y))], [(22, g, .row 3 1 (out.map cI))]⟩ → K5 S' := fun S' hS => by
      refine hK5 _ ?_; clear hK5
      refine awp_cov hS ?_; clear hS
      (refine awp_sr fun KK hKK => ?_; simp [go_sem]; ((repeat' (first|(refine ag_x ?_;simp [go_sem])|intro _|refine And.intro ?_ ?_|(apply hKK;clear hKK KK)));all_goals first|refine Hold.mk ?_|omega|with_reducible assumption|(simp only [InR] at *;omega)|skip))
      refine awp_seq_k fun K6 hK6 => ?_
      have tl6 : ∀ S' (c' n' : Int), c' = (if x - c - y < 0 then 1 else 0) → n' = (if x - c - y < 0 then x - c - y + 10 else x - c - y) → Cov S' ⟨[(0, dIs a), (1, dIs b), (5, .own 22 g), (6, dI c'), (7, dI i), (8, dI n')], [(22, g, .row 3 1 (out.map cI))]⟩ → K6 S' := fun S' c' n' hc' hn' hS => by
        refine hK6 _ ?_; clear hK6
        refine awp_cov hS ?_; clear hS
        (refine awp_r fun KK hKK => ?_; simp [go_sem]; ((repeat' (first|(refine ag_x ?_;simp [go_sem])|intro _|refine And.intro ?_ ?_|(apply hKK;clear hKK KK)));all_goals first|refine Hold.mk ?_|omega|with_reducible assumption|(simp only [InR] at *;omega)|skip))
        rename_i g7
        refine hK4 _ ?_; clear hK4
        (refine awp_r fun KK hKK => ?_; simp [go_sem]; ((repeat' (first|(refine ag_x ?_;simp [go_sem])|intro _|refine And.intro ?_ ?_|(apply hKK;clear hKK KK)));all_goals first|refine Hold.mk ?_|omega|with_reducible assumption|(simp only [InR] at *;omega)|skip))
        refine ⟨(i + 1, out ++ [n'], c', g7), ?_, ⟨by simp only; omega, ?_⟩, by simp only; omega⟩
        · (refine cov_of ?_ ?_ <;> simp [go_sem])
        · simp only
          rw [hc', hn']; exact hst
      clear hK6
      (refine awp_sr fun KK hKK => ?_; simp [go_sem]; ((repeat' (first|(refine ag_x ?_;simp [go_sem])|intro _|refine And.intro ?_ ?_|(apply hKK;clear hKK KK)));all_goals first|refine Hold.mk ?_|omega|with_reducible assumption|(simp only [InR] at *;omega)|skip))
      (refine awp_if fun T F hT hF => ?_; simp [go_sem]; refine BR.intro (fun h7 => hT ?_) (fun h7 => hF ?_); all_goals clear hT hF T F; try simp at h7) 
      · (refine awp_sr fun KK hKK => ?_; simp [go_sem]; ((repeat' (first|(refine ag_x ?_;simp [go_sem])|intro _|refine And.intro ?_ ?_|(apply hKK;clear hKK KK)));all_goals first|refine Hold.mk ?_|omega|with_reducible assumption|(simp only [InR] at *;omega)|skip))
        (refine awp_r fun KK hKK => ?_; simp [go_sem]; ((repeat' (first|(refine ag_x ?_;simp [go_sem])|intro _|refine And.intro ?_ ?_|(apply hKK;clear hKK KK)));all_goals first|refine Hold.mk ?_|omega|with_reducible assumption|(simp only [InR] at *;omega)|skip))
        refine tl6 _ 1 (x - c - y + 10) (by rw [if_pos (by omega)]) (by rw [if_pos (by omega)]) ?_
        (refine cov_of ?_ ?_ <;> simp [go_sem])
      · refine awp_skip ?_
        refine tl6 _ 0 (x - c - y) (by rw [if_neg (by omega)]) (by rw [if_neg (by omega)]) ?_
        (refine cov_of ?_ ?_ <;> simp [go_sem])
    clear hK5
    (refine awp_sr fun KK hKK => ?_; simp [go_sem]; ((repeat' (first|(refine ag_x ?_;simp [go_sem])|intro _|refine And.intro ?_ ?_|(apply hKK;clear hKK KK)));all_goals first|refine Hold.mk ?_|omega|with_reducible assumption|(simp only [InR] at *;omega)|skip))
    (refine awp_if fun T F hT hF => ?_; simp [go_sem]; refine BR.intro (fun h8 => hT ?_) (fun h8 => hF ?_); all_goals clear hT hF T F; try simp at h8) 
    · obtain ⟨y', hy'⟩ : ∃ y', b[i]? = some y' := ⟨_, List.getElem?_eq_getElem h8⟩
      obtain rfl := ecy _ hy'
      (refine awp_r fun KK hKK => ?_; simp [go_sem, hy']; ((repeat' (first|(refine ag_x ?_;simp [go_sem, hy'])|intro _|refine And.intro ?_ ?_|(apply hKK;clear hKK KK)));all_goals first|refine Hold.mk ?_|omega|with_reducible assumption|(simp only [InR] at *;omega)|skip))
      refine tl5 _ ?_
      (refine cov_of ?_ ?_ <;> simp [go_sem])
    · refine awp_skip ?_
      refine tl5 _ ?_
      rw [getD_out h8] at hy; subst hy
      (refine cov_of ?_ ?_ <;> simp [go_sem])
  · refine awp_exit ?_
    simp only [go_sem]
    refine hK1 _ ?_; clear hK1
    have : i = a.length := by omega
    subst this
    obtain ⟨d1, d2⟩ := less_done (by decide) hp hlb (by omega)
    (refine awp_sr fun KK hKK => ?_; simp [go_sem]; ((repeat' (first|(refine ag_x ?_;simp [go_sem])|intro _|refine And.intro ?_ ?_|(apply hKK;clear hKK KK)));all_goals first|refine Hold.mk ?_|omega|with_reducible assumption|(simp only [InR] at *;omega)|skip))
    ((try refine CallT.toA ?_); refine callT_z (by first | exact .inl ⟨rfl, rfl⟩ | exact .inr rfl) rfl (by simp [go_sem]) (by simp [go_sem]) ?_; intro args ha; simp [go_sem] at ha; subst ha; refine ⟨_, (trimmed_spec out), ?_⟩; rintro _ rfl; simp [go_sem]; ((repeat' (first|(refine ag_x ?_;simp [go_sem])|intro _|refine And.intro ?_ ?_|(apply hKK;clear hKK KK)));all_goals first|refine Hold.mk ?_|omega|with_reducible assumption|(simp only [InR] at *;omega)|skip))
    (refine awp_ret ?_; simp [go_sem])
    rw [trimT (n := X - Y) d1 (by rw [d2, hva, hvb]; omega)]
set_option maxHeartbeats 4000000 in
theorem times_spec (X Y : Nat) (hla : (dg 10 X).length ≤ 1000000) (hlb : (dg 10 Y).length ≤ 1000000) : PCall Tryz.prog 90 [dIs (dg 10 X), dIs (dg 10 Y)] fun r => r = dIs (dg 10 (X * Y)) := by 
  refine pcall_of Tryz.func90 rfl rfl Tryz.ntmps90 (rs := [.tmp 4]) (tys := [22]) rfl rfl (by simp) ?_
  have hva := vT X
  have hvb := vT Y
  have ha := dgT X
  have hb := dgT Y
  generalize dg 10 X = a at *
  generalize dg 10 Y = b at *
  (refine awp_sr fun KK hKK => ?_; simp [go_sem]; ((repeat' (first|(refine ag_x ?_;simp [go_sem])|intro _|refine And.intro ?_ ?_|(apply hKK;clear hKK KK)));all_goals first|refine Hold.mk ?_|omega|with_reducible assumption|(simp only [InR] at *;omega)|skip))
  (refine awp_sr fun KK hKK => ?_; simp [go_sem]; ((repeat' (first|(refine ag_x ?_;simp [go_sem])|intro _|refine And.intro ?_ ?_|(apply hKK;clear hKK KK)));all_goals first|refine Hold.mk ?_|omega|with_reducible assumption|(simp only [InR] at *;omega)|skip))
  rename_i g
  refine awp_seq_k fun K1 hK1 => ?_
  have e0 : ((a.length : Int) + (b.length : Int) + 1).toNat = a.length + b.length + 1 := by omega
  (refine awp_sr fun KK hKK => ?_; simp [go_sem]; ((repeat' (first|(refine ag_x ?_;simp [go_sem])|intro _|refine And.intro ?_ ?_|(apply hKK;clear hKK KK)));all_goals first|refine Hold.mk ?_|omega|with_reducible assumption|(simp only [InR] at *;omega)|skip))
  refine awp_block ?_
  refine awp_loop (σ := Nat × List Int) (fun x => ⟨[(0, dIs a), (1, dIs b), (5, .own 15 g), (6, dI x.1)], [(15, g, .row 3 1 (x.2.map cI))]⟩) (fun x => x.1 ≤ a.length ∧ TimI a b x.1 x.2) (fun x => a.length - x.1) (0, List.replicate (a.length + b.length + 1) 0) ?_ ?_ ?_
  · (refine cov_of ?_ ?_ <;> simp [go_sem, e0])
  · exact ⟨Nat.zero_le _, tim_init _ _⟩
  rintro ⟨i, out⟩ ⟨hi, hp⟩
  simp only at hi hp
  refine awp_seq_k fun K2 hK2 => ?_
  (refine awp_sr fun KK hKK => ?_; simp [go_sem]; ((repeat' (first|(refine ag_x ?_;simp [go_sem])|intro _|refine And.intro ?_ ?_|(apply hKK;clear hKK KK)));all_goals first|refine Hold.mk ?_|omega|with_reducible assumption|(simp only [InR] at *;omega)|skip))
  (refine awp_if fun T F hT hF => ?_; simp [go_sem]; refine BR.intro (fun h3 => hT ?_) (fun h3 => hF ?_); all_goals clear hT hF T F; try simp at h3) 
  · refine awp_skip ?_
    refine hK2 _ ?_; clear hK2
    obtain ⟨x, hax⟩ : ∃ x, a[i]? = some x := ⟨_, List.getElem?_eq_getElem h3⟩
    have hxg : a.getD i 0 = x := getD_in hax
    refine awp_seq_k fun K4 hK4 => ?_
    refine awp_block ?_
    (refine awp_sr fun KK hKK => ?_; simp [go_sem]; ((repeat' (first|(refine ag_x ?_;simp [go_sem])|intro _|refine And.intro ?_ ?_|(apply hKK;clear hKK KK)));all_goals first|refine Hold.mk ?_|omega|with_reducible assumption|(simp only [InR] at *;omega)|skip))
    refine awp_block ?_
    refine awp_loop (σ := Nat × List Int) (fun s => ⟨[(0, dIs a), (1, dIs b), (5, .own 15 g), (6, dI i), (7, dI s.1)], [(15, g, .row 3 1 (s.2.map cI))]⟩) (fun s => s.1 ≤ b.length ∧ TimK a b i s.1 s.2) (fun s => b.length - s.1) (0, out) ?_ ?_ ?_
    · (refine cov_of ?_ ?_ <;> simp [go_sem])
    · exact ⟨Nat.zero_le _, tim_row hp⟩
    rintro ⟨k, o⟩ ⟨hk, hq⟩
    simp only at hk hq
    have hol := hq.1
    refine awp_seq_k fun K5 hK5 => ?_
    (refine awp_sr fun KK hKK => ?_; simp [go_sem]; ((repeat' (first|(refine ag_x ?_;simp [go_sem])|intro _|refine And.intro ?_ ?_|(apply hKK;clear hKK KK)));all_goals first|refine Hold.mk ?_|omega|with_reducible assumption|(simp only [InR] at *;omega)|skip))
    (refine awp_if fun T F hT hF => ?_; simp [go_sem]; refine BR.intro (fun h6 => hT ?_) (fun h6 => hF ?_); all_goals clear hT hF T F; try simp at h6) 
    · refine awp_skip ?_
      refine hK5 _ ?_; clear hK5
      obtain ⟨y, hbx⟩ : ∃ y, b[k]? = some y := ⟨_, List.getElem?_eq_getElem h6⟩
      obtain ⟨z, hox⟩ : ∃ z, o[i + k]? = some z := ⟨_, List.getElem?_eq_getElem (by omega)⟩
      obtain ⟨hst, n1, n2, n3, n4⟩ := tim_step ha hb h3 h6 hq
      rw [hxg, getD_in hbx] at hst n1 n2
      rw [getD_in hox] at hst n3 n4
      generalize hxy : x * y = xy at *
      have e : ((i : Int) + (k : Int)).toNat = i + k := by omega
      refine awp_seq_k fun K7 hK7 => ?_
      refine awp_block ?_
      ((refine awp_d (.qs [0, 1, 2, 3, 4, 5, 6, 7, 8, 10, 11, 12, 14, 15, 16, 9, 13, 17, 18, 19, 20] (.one 21 (.nil))) (by kernel_rfl) ?_ ?_ ?_ ?_); (kernel_rfl); (exact (by decide +kernel)); (kernel_rfl); intro KK hKK; ((repeat' (first|(refine ag_x ?_;simp [go_sem, hax, hbx, hox, e, hxy])|refine adr_nil ?_|refine adr_two ?_ ?_|refine adr_kq ?_ ?_|refine adr_three ?_ ?_ ?_|refine adr_four ?_ ?_ ?_ ?_|refine adr_kp2 ?_ ?_|refine adr_kp3 ?_ ?_ ?_|((first|refine adr_qs fun KK hKK=>?_|refine adr_y fun KK hKK=>?_);simp [go_sem, hax, hbx, hox, e, hxy])|intro _|refine And.intro ?_ ?_|(apply hKK;clear hKK KK)));all_goals first|refine Hold.mk ?_|omega|with_reducible assumption|(simp only [InR] at *;omega)|skip))
      refine hK7 _ ?_; clear hK7
      (refine awp_r fun KK hKK => ?_; simp [go_sem]; ((repeat' (first|(refine ag_x ?_;simp [go_sem])|intro _|refine And.intro ?_ ?_|(apply hKK;clear hKK KK)));all_goals first|refine Hold.mk ?_|omega|with_reducible assumption|(simp only [InR] at *;omega)|skip))
      refine ⟨(k + 1, o.set (i + k) (z + xy)), ?_, ⟨h6, hst⟩, by simp only; omega⟩
      (refine cov_of ?_ ?_ <;> simp [go_sem, List.map_set])
    · refine awp_exit ?_
      simp only [go_sem]
      refine hK4 _ ?_; clear hK4
      have hkb : k = b.length := by omega
      subst hkb
      (refine awp_r fun KK hKK => ?_; simp [go_sem]; ((repeat' (first|(refine ag_x ?_;simp [go_sem])|intro _|refine And.intro ?_ ?_|(apply hKK;clear hKK KK)));all_goals first|refine Hold.mk ?_|omega|with_reducible assumption|(simp only [InR] at *;omega)|skip))
      refine ⟨(i + 1, o), ?_, ⟨h3, tim_end hq⟩, by simp only; omega⟩
      (refine cov_of ?_ ?_ <;> simp [go_sem])
  · refine awp_exit ?_
    simp only [go_sem]
    refine hK1 _ ?_; clear hK1
    have hia : i = a.length := by omega
    subst hia
    have hc0 := car_init hp
    refine awp_seq_k fun K8 hK8 => ?_
    (refine awp_sr fun KK hKK => ?_; simp [go_sem]; ((repeat' (first|(refine ag_x ?_;simp [go_sem])|intro _|refine And.intro ?_ ?_|(apply hKK;clear hKK KK)));all_goals first|refine Hold.mk ?_|omega|with_reducible assumption|(simp only [InR] at *;omega)|skip))
    refine awp_block ?_
    refine awp_loop (σ := Nat × List Int) (fun s => ⟨[(5, .own 15 g), (8, dI s.1)], [(15, g, .row 3 1 (s.2.map cI))]⟩) (fun s => s.1 ≤ a.length + b.length ∧ CarI (81 * a.length) (val 10 a * val 10 b) (a.length + b.length + 1) s.1 s.2) (fun s => a.length + b.length - s.1) (0, out) ?_ ?_ ?_
    · (refine cov_of ?_ ?_ <;> simp [go_sem])
    · exact ⟨Nat.zero_le _, hc0⟩
    clear hc0 hp
    rintro ⟨j, o⟩ ⟨hj, hq⟩
    simp only at hj hq
    have hol := hq.1
    refine awp_seq_k fun K9 hK9 => ?_
    (refine awp_sr fun KK hKK => ?_; simp [go_sem, hol]; ((repeat' (first|(refine ag_x ?_;simp [go_sem, hol])|intro _|refine And.intro ?_ ?_|(apply hKK;clear hKK KK)));all_goals first|refine Hold.mk ?_|omega|with_reducible assumption|(simp only [InR] at *;omega)|skip))
    (refine awp_if fun T F hT hF => ?_; simp [go_sem]; refine BR.intro (fun h10 => hT ?_) (fun h10 => hF ?_); all_goals clear hT hF T F; try simp at h10) 
    · refine awp_skip ?_
      refine hK9 _ ?_; clear hK9
      obtain ⟨z0, hz0⟩ : ∃ z, o[j]? = some z := ⟨_, List.getElem?_eq_getElem (by omega)⟩
      obtain ⟨z1, hz1⟩ : ∃ z, o[j + 1]? = some z := ⟨_, List.getElem?_eq_getElem (by omega)⟩
      obtain ⟨hst, n1, n2, n3⟩ := car_step (by omega) hq
      rw [getD_in hz0, getD_in hz1] at hst
      rw [getD_in hz0] at n1
      rw [getD_in hz1] at n2 n3
      have e : ((j : Int) + 1).toNat = j + 1 := by omega
      obtain ⟨m1, m2, m3, m4, m5, m6⟩ := div_mod_of (B := 10) (n := z0) (by decide) n1.1
      have hz0' : (o.set (j + 1) (z1 + z0 / 10))[j]? = some z0 := by rw [List.getElem?_set_ne (by omega)]; exact hz0
      refine awp_seq_k fun K11 hK11 => ?_
      refine awp_block ?_
      ((refine awp_dr (.qs [0, 1, 2, 3, 4, 5, 6, 8, 9, 10, 7, 11, 12, 13, 14] (.one 15 (.nil))) (by kernel_rfl) ?_ ?_ ?_ ?_); (kernel_rfl); (exact (by decide +kernel)); (kernel_rfl); intro KK hKK; ((repeat' (first|(refine ag_x ?_;simp [go_sem, hz0, hz1, e, m2])|refine adr_nil ?_|refine adr_two ?_ ?_|refine adr_kq ?_ ?_|refine adr_three ?_ ?_ ?_|refine adr_four ?_ ?_ ?_ ?_|refine adr_kp2 ?_ ?_|refine adr_kp3 ?_ ?_ ?_|((first|refine adr_qs fun KK hKK=>?_|refine adr_y fun KK hKK=>?_);simp [go_sem, hz0, hz1, e, m2])|intro _|refine And.intro ?_ ?_|(apply hKK;clear hKK KK)));all_goals first|refine Hold.mk ?_|omega|with_reducible assumption|(simp only [InR] at *;omega)|skip))
      (refine awp_r fun KK hKK => ?_; simp [go_sem, hz0, m1]; ((repeat' (first|(refine ag_x ?_;simp [go_sem, hz0, m1])|intro _|refine And.intro ?_ ?_|(apply hKK;clear hKK KK)));all_goals first|refine Hold.mk ?_|omega|with_reducible assumption|(simp only [InR] at *;omega)|skip))
      refine hK11 _ ?_; clear hK11
      (refine awp_r fun KK hKK => ?_; simp [go_sem]; ((repeat' (first|(refine ag_x ?_;simp [go_sem])|intro _|refine And.intro ?_ ?_|(apply hKK;clear hKK KK)));all_goals first|refine Hold.mk ?_|omega|with_reducible assumption|(simp only [InR] at *;omega)|skip))
      refine ⟨(j + 1, (o.set (j + 1) (z1 + z0 / 10)).set j (z0 % 10)), ?_, ⟨by simp only; omega, hst⟩, by simp only; omega⟩
      (refine cov_of ?_ ?_ <;> simp [go_sem, List.map_set])
    · refine awp_exit ?_
      simp only [go_sem]
      refine hK8 _ ?_; clear hK8
      have hjb : j = a.length + b.length := by omega
      subst hjb
      obtain ⟨d1, d2⟩ := car_done ha hb hq
      (refine awp_sr fun KK hKK => ?_; simp [go_sem]; ((repeat' (first|(refine ag_x ?_;simp [go_sem])|intro _|refine And.intro ?_ ?_|(apply hKK;clear hKK KK)));all_goals first|refine Hold.mk ?_|omega|with_reducible assumption|(simp only [InR] at *;omega)|skip))
      ((try refine CallT.toA ?_); refine callT_z (by first | exact .inl ⟨rfl, rfl⟩ | exact .inr rfl) rfl (by simp [go_sem]) (by simp [go_sem]) ?_; intro args ha; simp [go_sem] at ha; subst ha; refine ⟨_, (trimmed_spec o), ?_⟩; rintro _ rfl; simp [go_sem]; ((repeat' (first|(refine ag_x ?_;simp [go_sem])|intro _|refine And.intro ?_ ?_|(apply hKK;clear hKK KK)));all_goals first|refine Hold.mk ?_|omega|with_reducible assumption|(simp only [InR] at *;omega)|skip))
      (refine awp_ret ?_; simp [go_sem])
      rw [trimT (n := X * Y) d1 (by rw [d2, hva, hvb]; simp)]
theorem signed_spec (b : Bool) (n : Nat) : PCall Tryz.prog 89 [dB b, dIs (dg 10 n)] fun r => r = dNum (sg b n) := by 
  refine pcall_of Tryz.func89 rfl rfl Tryz.ntmps89 (rs := [.cell 4 64]) (tys := [64]) rfl rfl (by simp) ?_
  refine awp_len 1 rfl fun hlen => ?_
  simp [lensD] at hlen
  have E : dNum (sg b n) = .agg [dB (b && decide (0 < (dg 10 n).length)), dIs (dg 10 n)] := by
    have e1 : (sg b n).natAbs = n := by rw [sg_abs b (by omega)]; simp
    have e2 : decide (sg b n < 0) = (b && decide (0 < (dg 10 n).length)) := by
      rw [sg_neg b (by omega)]
      congr 1
      refine decide_eq_decide.2 ?_
      rw [List.length_pos_iff, ne_eq, ne_eq, dg_nil (B := 10) (by decide)]
      omega
    simp only [dNum, e1, e2]
  rw [E]
  generalize dg 10 n = l at *
  (refine awp_sr fun KK hKK => ?_; simp [go_sem]; ((repeat' (first|(refine ag_x ?_;simp [go_sem])|intro _|refine And.intro ?_ ?_|(apply hKK;clear hKK KK)));all_goals first|refine Hold.mk ?_|omega|with_reducible assumption|(simp only [InR] at *;omega)|skip))
  cases b
  · (refine awp_sr fun KK hKK => ?_; simp [go_sem]; ((repeat' (first|(refine ag_false (by simp [go_sem, undef]) (by simp [go_sem]) ?_;simp [go_sem])|intro _|refine And.intro ?_ ?_|(apply hKK;clear hKK KK)));all_goals first|refine Hold.mk ?_|omega|with_reducible assumption|(simp only [InR] at *;omega)|skip))
    (refine awp_ret ?_; simp [go_sem])
  · (refine awp_sr fun KK hKK => ?_; simp [go_sem]; ((repeat' (first|(refine ag_x ?_;simp [go_sem])|intro _|refine And.intro ?_ ?_|(apply hKK;clear hKK KK)));all_goals first|refine Hold.mk ?_|omega|with_reducible assumption|(simp only [InR] at *;omega)|skip))
    (refine awp_ret ?_; simp [go_sem])
theorem signed_as (b : Bool) (n : Nat) {m : Int} (h : sg b n = m) : PCall Tryz.prog 89 [dB b, dIs (dg 10 n)] fun r => r = dNum m := by
  subst h; exact signed_spec b n
theorem rall_spec (l : List (List UInt8)) (hs : ∀ x ∈ l, x.length ≤ 1000000000) (hl : l.length ≤ 1000000) : PCall Tryz.prog 44 [.sl 1 (l.map fun s => [dS s])] fun r => r = dB (l.all numOk) := by 
  refine pcall_of Tryz.func44 rfl rfl Tryz.ntmps44 (rs := [.tmp 2]) (tys := [4]) rfl rfl (by simp) ?_
  (refine awp_sr fun KK hKK => ?_; simp [go_sem]; ((repeat' (first|(refine ag_x ?_;simp [go_sem])|intro _|refine And.intro ?_ ?_|(apply hKK;clear hKK KK)));all_goals first|refine Hold.mk ?_|omega|with_reducible assumption|(simp only [InR] at *;omega)|skip))
  refine awp_seq_k fun K1 hK1 => ?_
  (refine awp_sr fun KK hKK => ?_; simp [go_sem]; ((repeat' (first|(refine ag_x ?_;simp [go_sem])|intro _|refine And.intro ?_ ?_|(apply hKK;clear hKK KK)));all_goals first|refine Hold.mk ?_|omega|with_reducible assumption|(simp only [InR] at *;omega)|skip))
  refine awp_block ?_
  refine awp_loop (σ := Nat) (fun i => ⟨[(0, .sl 1 (l.map fun s => [dS s])), (3, dI i)], []⟩) (fun i => i ≤ l.length ∧ (l.take i).all numOk = true) (fun i => l.length - i) 0 ?_ ?_ ?_
  · (refine cov_of ?_ ?_ <;> simp [go_sem])
  · simp
  rintro i ⟨hi, ha⟩
  refine awp_seq_k fun K2 hK2 => ?_
  (refine awp_sr fun KK hKK => ?_; simp [go_sem]; ((repeat' (first|(refine ag_x ?_;simp [go_sem])|intro _|refine And.intro ?_ ?_|(apply hKK;clear hKK KK)));all_goals first|refine Hold.mk ?_|omega|with_reducible assumption|(simp only [InR] at *;omega)|skip))
  (refine awp_if fun T F hT hF => ?_; simp [go_sem]; refine BR.intro (fun h3 => hT ?_) (fun h3 => hF ?_); all_goals clear hT hF T F; try simp at h3) 
  · refine awp_skip ?_
    refine hK2 _ ?_; clear hK2
    obtain ⟨x, hx⟩ : ∃ x, l[i]? = some x := ⟨_, List.getElem?_eq_getElem h3⟩
    refine awp_seq_k fun K4 hK4 => ?_
    refine awp_block ?_
    (refine awp_sr fun KK hKK => ?_; simp [go_sem, hx]; ((repeat' (first|(refine ag_x ?_;simp [go_sem, hx])|intro _|refine And.intro ?_ ?_|(apply hKK;clear hKK KK)));all_goals first|refine Hold.mk ?_|omega|with_reducible assumption|(simp only [InR] at *;omega)|skip))
    ((try refine CallT.toA ?_); refine callT_m (by first | exact .inl ⟨rfl, rfl⟩ | exact .inr rfl) (by simp [go_sem]) ?_; intro args ha; simp [go_sem] at ha; subst ha; refine ⟨_, (rvalid_spec x (hs x (List.mem_of_getElem? hx))), ?_⟩; rintro _ rfl; simp [go_sem]; ((repeat' (first|(refine ag_x ?_;simp [go_sem])|intro _|refine And.intro ?_ ?_|(apply hKK;clear hKK KK)));all_goals first|refine Hold.mk ?_|omega|with_reducible assumption|(simp only [InR] at *;omega)|skip))
    (refine awp_if fun T F hT hF => ?_; simp [go_sem]; refine BR.intro (fun h5 => hT ?_) (fun h5 => hF ?_); all_goals clear hT hF T F; try simp at h5) 
    · (refine awp_sr fun KK hKK => ?_; simp [go_sem]; ((repeat' (first|(refine ag_x ?_;simp [go_sem])|intro _|refine And.intro ?_ ?_|(apply hKK;clear hKK KK)));all_goals first|refine Hold.mk ?_|omega|with_reducible assumption|(simp only [InR] at *;omega)|skip))
      (refine awp_ret ?_; simp [go_sem])
      exact ⟨x, List.mem_of_getElem? hx, by simpa using h5⟩
    · refine awp_skip ?_
      refine hK4 _ ?_; clear hK4
      (refine awp_r fun KK hKK => ?_; simp [go_sem]; ((repeat' (first|(refine ag_x ?_;simp [go_sem])|intro _|refine And.intro ?_ ?_|(apply hKK;clear hKK KK)));all_goals first|refine Hold.mk ?_|omega|with_reducible assumption|(simp only [InR] at *;omega)|skip))
      refine ⟨i + 1, ?_, ⟨h3, ?_⟩, by omega⟩
      · (refine cov_of ?_ ?_ <;> simp [go_sem])
      · rw [List.take_add_one, hx, List.all_append, ha]
        simp at h5 ⊢; exact h5
  · refine awp_exit ?_
    simp only [go_sem]
    refine hK1 _ ?_; clear hK1
    have : i = l.length := by omega
    subst this
    rw [List.take_length] at ha
    (refine awp_sr fun KK hKK => ?_; simp [go_sem]; ((repeat' (first|(refine ag_x ?_;simp [go_sem])|intro _|refine And.intro ?_ ?_|(apply hKK;clear hKK KK)));all_goals first|refine Hold.mk ?_|omega|with_reducible assumption|(simp only [InR] at *;omega)|skip))
    (refine awp_ret ?_; simp [go_sem])
    exact fun x hx => List.all_eq_true.1 ha x hx
def rdL (s : List UInt8) : List Int := s.reverse.map fun c => (dgt c : Int)
set_option maxHeartbeats 4000000 in
theorem rread_spec (a : List UInt8) (h : numOk a = true) : PCall Tryz.prog 45 [dS a] fun r => r = dNum (numV a) := by 
  refine pcall_of Tryz.func45 rfl rfl Tryz.ntmps45 (rs := [.cell 2 64]) (tys := [64]) rfl rfl (by simp) ?_
  obtain ⟨h1, h2, h3, h4⟩ := numOk_parts h
  have hneg := numV_neg h
  have habs := numV_abs a
  obtain ⟨p, hp, hpc⟩ := body_split a
  have hal : a.length = p.length + (body a).length := by conv => lhs; rw [hp]; simp
  have hpl : p.length ≤ 1 := by rcases hpc with h | h <;> rw [h.1] <;> simp
  have hbl : 0 < (body a).length := List.length_pos_iff.2 h3
  obtain ⟨c0, hc0⟩ : ∃ c, a[0]? = some c := ⟨_, List.getElem?_eq_getElem (by omega)⟩
  have hc0' : a.head? = some c0 := by rw [List.head?_eq_getElem?]; exact hc0
  have hc45 : decide ((c0.toNat : Int) = 45) = decide (numV a < 0) := by
    rw [hneg, hc0']
    refine decide_eq_decide.2 ⟨fun h => by rw [UInt8.toNat_inj.1 (by simpa using (by exact_mod_cast h : c0.toNat = 45) : c0.toNat = (45 : UInt8).toNat)], fun h => by simp at h; rw [h]; rfl⟩
  have hat : ∀ k c, p.length ≤ k → a[k]? = some c → (body a)[k - p.length]? = some c := fun k c hk hc => by
    rw [hp, List.getElem?_append_right hk] at hc; exact hc
  have hd : a.drop p.length = body a := by conv => lhs; rw [hp]; simp
  obtain ⟨e1, e2⟩ : digs 10 (rdL (body a)) ∧ val 10 (rdL (body a)) = decVal (body a) := read10 (body a) h1
  have hpe : p.length = 1 → a[0]? = some 45 := fun h5 => by
    rcases hpc with h | h
    · rw [h.1] at h5; simp at h5
    · rw [← List.head?_eq_getElem?]; exact h.2
  (refine awp_sr fun KK hKK => ?_; simp [go_sem]; ((repeat' (first|(refine ag_x ?_;simp [go_sem])|intro _|refine And.intro ?_ ?_|(apply hKK;clear hKK KK)));all_goals first|refine Hold.mk ?_|omega|with_reducible assumption|(simp only [InR] at *;omega)|skip))
  (refine awp_sr fun KK hKK => ?_; simp [go_sem, hc0, hc0', hc45]; ((repeat' (first|(refine ag_x ?_;simp [go_sem, hc0, hc0', hc45])|intro _|refine And.intro ?_ ?_|(apply hKK;clear hKK KK)));all_goals first|refine Hold.mk ?_|omega|with_reducible assumption|(simp only [InR] at *;omega)|skip))
  refine awp_nilbox 900003 3 1 1 (sb := 3) rfl rfl (by decide) fun gc => ?_
  simp only [List.set, go_sem]
  rename_i g2 g3
  refine awp_seq_k fun K1 hK1 => ?_
  (refine awp_sr fun KK hKK => ?_; simp [go_sem]; ((repeat' (first|(refine ag_x ?_;simp [go_sem])|intro _|refine And.intro ?_ ?_|(apply hKK;clear hKK KK)));all_goals first|refine Hold.mk ?_|omega|with_reducible assumption|(simp only [InR] at *;omega)|skip))
  refine awp_block ?_
  refine awp_loop (σ := Nat × Nat) (fun x => ⟨[(0, dS a), (2, .ptr 2 g2 0), (3, .ptr 3 g3 0), (4, dI ((x.1 : Int) - 1))], [(2, g2, .box [dB false, .v (.slice none 0 0)]), (3, g3, .box [dB (decide (numV a < 0)), .own 900003 x.2]), (900003, x.2, .row 3 1 ((rdL (a.drop x.1)).map cI))]⟩) (fun x => p.length ≤ x.1 ∧ x.1 ≤ a.length) (fun x => x.1) (a.length, gc) ?_ ?_ ?_
  · have e0 : rdL (a.drop a.length) = [] := by unfold rdL; simp
    simp only [e0]
    (refine cov_of ?_ ?_ <;> simp [go_sem])
  · simp; omega
  rintro ⟨j, g⟩ ⟨hj1, hj2⟩
  simp only at hj1 hj2
  refine awp_seq_k fun K2 hK2 => ?_
  have fin : ∀ S', j = p.length → Cov S' ⟨[(2, .ptr 2 g2 0), (3, .ptr 3 g3 0)], [(2, g2, .box [dB false, .v (.slice none 0 0)]), (3, g3, .box [dB (decide (numV a < 0)), .own 900003 g]), (900003, g, .row 3 1 ((rdL (a.drop j)).map cI))]⟩ → K1 S' := fun S' hjp hS => by
    refine hK1 _ ?_; clear hK1
    refine awp_cov hS ?_; clear hS
    rw [hjp, hd]
    (refine awp_sr fun KK hKK => ?_; simp [go_sem]; ((repeat' (first|(refine ag_x ?_;simp [go_sem])|intro _|refine And.intro ?_ ?_|(apply hKK;clear hKK KK)));all_goals first|refine Hold.mk ?_|omega|with_reducible assumption|(simp only [InR] at *;omega)|skip))
    ((try refine CallT.toA ?_); refine callT_z (by first | exact .inl ⟨rfl, rfl⟩ | exact .inr rfl) rfl (by simp [go_sem]) (by simp [go_sem]) ?_; intro args ha; simp [go_sem] at ha; subst ha; refine ⟨_, (trimmed_spec (rdL (body a))), ?_⟩; rintro _ rfl; simp [go_sem]; ((repeat' (first|(refine ag_x ?_;simp [go_sem])|intro _|refine And.intro ?_ ?_|(apply hKK;clear hKK KK)));all_goals first|refine Hold.mk ?_|omega|with_reducible assumption|(simp only [InR] at *;omega)|skip))
    have et : trimL (rdL (body a)) = dg 10 (numV a).natAbs := trimT e1 (by rw [e2, habs])
    rw [et]
    (refine awp_sr fun KK hKK => ?_; simp [go_sem]; ((repeat' (first|(refine ag_x ?_;simp [go_sem])|intro _|refine And.intro ?_ ?_|(apply hKK;clear hKK KK)));all_goals first|refine Hold.mk ?_|omega|with_reducible assumption|(simp only [InR] at *;omega)|skip))
    (refine awp_ret ?_; simp [go_sem])
  clear hK1
  cases j with
  | zero =>
    (refine awp_sr fun KK hKK => ?_; simp [go_sem]; ((repeat' (first|(refine ag_false (by simp [go_sem, undef]) (by simp [go_sem]) ?_;simp [go_sem])|intro _|refine And.intro ?_ ?_|(apply hKK;clear hKK KK)));all_goals first|refine Hold.mk ?_|omega|with_reducible assumption|(simp only [InR] at *;omega)|skip))
    (refine awp_if fun T F hT hF => ?_; simp [go_sem]; refine hF ?_; clear hT hF T F)
    refine awp_exit ?_
    simp only [go_sem]
    refine fin _ (by omega) ?_
    (refine cov_of ?_ ?_ <;> simp [go_sem])
  | succ i =>
    obtain ⟨c, hc⟩ : ∃ c, a[i]? = some c := ⟨_, List.getElem?_eq_getElem (by omega)⟩
    (refine awp_sr fun KK hKK => ?_; simp [go_sem, hc]; ((repeat' (first|(refine ag_x ?_;simp [go_sem, hc])|intro _|refine And.intro ?_ ?_|(apply hKK;clear hKK KK)));all_goals first|refine Hold.mk ?_|omega|with_reducible assumption|(simp only [InR] at *;omega)|skip))
    (refine awp_if fun T F hT hF => ?_; simp [go_sem]; refine BR.intro (fun h5 => hT ?_) (fun h5 => hF ?_); all_goals clear hT hF T F; try simp at h5) 
    · have hi : p.length ≤ i := by
        rcases Nat.lt_or_ge i p.length with h6 | h6
        · exfalso
          have h7 : i = 0 := by omega
          subst h7
          have := hpe (by omega)
          rw [hc] at this
          simp at this
          subst this
          exact absurd h5 (by simp)
        · exact h6
      have hcd : isD c = true := h1 c (List.mem_of_getElem? (hat i c hi hc))
      have ew := sub48 hcd
      have hd10 := dgt_lt hcd
      have hdr : rdL (a.drop i) = rdL (a.drop (i + 1)) ++ [(dgt c : Int)] := by
        unfold rdL
        obtain ⟨hlt, he⟩ := List.getElem?_eq_some_iff.1 hc
        rw [List.drop_eq_getElem_cons hlt, he, List.reverse_cons, List.map_append]; rfl
      have hll : (rdL (a.drop (i + 1))).length ≤ 1000 := by unfold rdL; simp; omega
      generalize rdL (a.drop (i + 1)) = L at *
      refine awp_skip ?_
      refine hK2 _ ?_; clear hK2
      refine awp_seq_k fun K4 hK4 => ?_
      refine awp_block ?_
      ((refine awp_d (.qs [0, 2, 3, 4, 5, 6, 1] (.kp 7 (.one 8 (.qs [9] (.one 10 (.nil)))))) (by kernel_rfl) ?_ ?_ ?_ ?_); (kernel_rfl); (exact (by decide +kernel)); (kernel_rfl); intro KK hKK; ((repeat' (first|(refine ag_x ?_;simp [go_sem, hc, ew])|refine adr_nil ?_|refine adr_two ?_ ?_|refine adr_kq ?_ ?_|refine adr_three ?_ ?_ ?_|refine adr_four ?_ ?_ ?_ ?_|refine adr_kp2 ?_ ?_|refine adr_kp3 ?_ ?_ ?_|((first|refine adr_qs fun KK hKK=>?_|refine adr_y fun KK hKK=>?_);simp [go_sem, hc, ew])|intro _|refine And.intro ?_ ?_|(apply hKK;clear hKK KK)));all_goals first|refine Hold.mk ?_|omega|with_reducible assumption|(simp only [InR] at *;omega)|skip))
      rename_i g7
      refine hK4 _ ?_; clear hK4
      (refine awp_r fun KK hKK => ?_; simp [go_sem]; ((repeat' (first|(refine ag_x ?_;simp [go_sem])|intro _|refine And.intro ?_ ?_|(apply hKK;clear hKK KK)));all_goals first|refine Hold.mk ?_|omega|with_reducible assumption|(simp only [InR] at *;omega)|skip))
      refine ⟨(i, g7), ?_, ⟨hi, by simp only; omega⟩, by simp only; omega⟩
      simp only [hdr]
      (refine cov_of ?_ ?_ <;> simp [go_sem])
    · have hi : i + 1 = p.length := by
        rcases Nat.lt_or_ge i p.length with h6 | h6
        · omega
        · exfalso
          have hcd : isD c = true := h1 c (List.mem_of_getElem? (hat i c h6 hc))
          have := (isD_iff c).1 hcd
          omega
      refine awp_exit ?_
      simp only [go_sem]
      refine fin _ hi ?_
      (refine cov_of ?_ ?_ <;> simp [go_sem])
/-- the digits of a number as text, from the top -/
def shL (l : List Int) : List UInt8 := l.reverse.map fun d => UInt8.ofNat (48 + d.toNat)
theorem sh_dec : ∀ n, n ≠ 0 → shL (dg 10 n) = Lib.decDigits n := fun n => by
  induction n using Nat.strongRecOn with
  | ind n ih =>
    intro hn
    rw [dg_pos (by decide) hn, Lib.decDigits]
    by_cases h : n < 10
    · rw [dif_pos h, Nat.div_eq_of_lt h, dg_zero, Nat.mod_eq_of_lt h]
      simp [shL]
    · rw [dif_neg h]
      have := ih (n / 10) (by omega) (by omega)
      rw [← this]
      simp [shL]
      rw [show ((n : Int) % 10).toNat = n % 10 by omega]
theorem shL_snoc (l : List Int) (i : Nat) (d : Int) (h : l[i]? = some d) : shL (l.drop i) = shL (l.drop (i + 1)) ++ [UInt8.ofNat (48 + d.toNat)] := by
  obtain ⟨hlt, he⟩ := List.getElem?_eq_some_iff.1 h
  unfold shL
  rw [List.drop_eq_getElem_cons hlt, he, List.reverse_cons, List.map_append]; rfl
theorem show_spec (n : Int) (hn : sz 10 n ≤ 1000000) : PCall Tryz.prog 91 [dNum n] fun r => r = dS (Lib.itoa n) := by 
  refine pcall_of Tryz.func91 rfl rfl Tryz.ntmps91 (rs := [.tmp 2]) (tys := [9]) rfl rfl (by simp) ?_
  have hn : (dg 10 n.natAbs).length ≤ 1000000 := hn
  have hdl := dgT n.natAbs
  by_cases h0 : n = 0
  · subst h0
    have e : Lib.itoa 0 = [48] := by rw [itoa_abs]; simp [Lib.decDigits]
    rw [e]
    (refine awp_sr fun KK hKK => ?_; simp [go_sem]; ((repeat' (first|(refine ag_x ?_;simp [go_sem])|intro _|refine And.intro ?_ ?_|(apply hKK;clear hKK KK)));all_goals first|refine Hold.mk ?_|omega|with_reducible assumption|(simp only [InR] at *;omega)|skip))
    refine awp_seq_k fun K1 hK1 => ?_
    (refine awp_sr fun KK hKK => ?_; simp [go_sem]; ((repeat' (first|(refine ag_x ?_;simp [go_sem])|intro _|refine And.intro ?_ ?_|(apply hKK;clear hKK KK)));all_goals first|refine Hold.mk ?_|omega|with_reducible assumption|(simp only [InR] at *;omega)|skip))
    (refine awp_if fun T F hT hF => ?_; simp [go_sem, dg_zero]; refine hT ?_; clear hT hF T F)
    (refine awp_sr fun KK hKK => ?_; simp [go_sem]; ((repeat' (first|(refine ag_x ?_;simp [go_sem])|intro _|refine And.intro ?_ ?_|(apply hKK;clear hKK KK)));all_goals first|refine Hold.mk ?_|omega|with_reducible assumption|(simp only [InR] at *;omega)|skip))
    (refine awp_ret ?_; simp [go_sem])
  · have eit := itoa_abs n
    have hne : 0 < (dg 10 n.natAbs).length := List.length_pos_iff.2 fun h => by
      have := (dg_nil (B := 10) (by decide)).1 h; omega
    rw [← sh_dec n.natAbs (by omega)] at eit
    rw [eit]
    generalize hL' : dg 10 n.natAbs = L at *
    (refine awp_sr fun KK hKK => ?_; simp [go_sem]; ((repeat' (first|(refine ag_x ?_;simp [go_sem])|intro _|refine And.intro ?_ ?_|(apply hKK;clear hKK KK)));all_goals first|refine Hold.mk ?_|omega|with_reducible assumption|(simp only [InR] at *;omega)|skip))
    rename_i g1
    rw [hL']
    refine awp_seq_k fun K1 hK1 => ?_
    (refine awp_sr fun KK hKK => ?_; simp [go_sem]; ((repeat' (first|(refine ag_x ?_;simp [go_sem])|intro _|refine And.intro ?_ ?_|(apply hKK;clear hKK KK)));all_goals first|refine Hold.mk ?_|omega|with_reducible assumption|(simp only [InR] at *;omega)|skip))
    have hLne : L ≠ [] := List.length_pos_iff.1 hne
    (refine awp_if fun T F hT hF => ?_; simp [go_sem, hLne]; refine hF ?_; clear hT hF T F)
    refine awp_skip ?_
    refine hK1 _ ?_; clear hK1
    (refine awp_sr fun KK hKK => ?_; simp [go_sem]; ((repeat' (first|(refine ag_x ?_;simp [go_sem])|intro _|refine And.intro ?_ ?_|(apply hKK;clear hKK KK)));all_goals first|refine Hold.mk ?_|omega|with_reducible assumption|(simp only [InR] at *;omega)|skip))
    refine awp_nilslot 3 900000 5 1 rfl fun g3 => ?_
    simp only [go_sem]
    refine awp_seq_k fun K3 hK3 => ?_
    have tl3 : ∀ S' P g, P = (if n < 0 then [45] else []) → Cov S' ⟨[(1, .ptr 1 g1 0), (3, .own 900000 g)], [(1, g1, .box [dB (decide (n < 0)), dIs L]), (900000, g, .row 5 1 (P.map cB))]⟩ → K3 S' := fun S' P g hP hS => by
      refine hK3 _ ?_; clear hK3
      refine awp_cov hS ?_; clear hS
      have hPl : P.length ≤ 1 := by rw [hP]; split <;> simp
      rw [← hP]
      refine awp_seq_k fun K4 hK4 => ?_
      (refine awp_sr fun KK hKK => ?_; simp [go_sem]; ((repeat' (first|(refine ag_x ?_;simp [go_sem])|intro _|refine And.intro ?_ ?_|(apply hKK;clear hKK KK)));all_goals first|refine Hold.mk ?_|omega|with_reducible assumption|(simp only [InR] at *;omega)|skip))
      refine awp_block ?_
      refine awp_loop (σ := Nat × Nat) (fun x => ⟨[(1, .ptr 1 g1 0), (3, .own 900000 x.2), (4, dI ((x.1 : Int) - 1))], [(1, g1, .box [dB (decide (n < 0)), dIs L]), (900000, x.2, .row 5 1 ((P ++ shL (L.drop x.1)).map cB))]⟩) (fun x => x.1 ≤ L.length) (fun x => x.1) (L.length, g) ?_ ?_ ?_
      · have e0 : shL (L.drop L.length) = [] := by unfold shL; simp
        simp only [e0]
        (refine cov_of ?_ ?_ <;> simp [go_sem])
      · simp
      rintro ⟨j, g⟩ hj
      simp only at hj
      refine awp_seq_k fun K5 hK5 => ?_
      (refine awp_sr fun KK hKK => ?_; simp [go_sem]; ((repeat' (first|(refine ag_x ?_;simp [go_sem])|intro _|refine And.intro ?_ ?_|(apply hKK;clear hKK KK)));all_goals first|refine Hold.mk ?_|omega|with_reducible assumption|(simp only [InR] at *;omega)|skip))
      (refine awp_if fun T F hT hF => ?_; simp [go_sem]; refine BR.intro (fun h6 => hT ?_) (fun h6 => hF ?_); all_goals clear hT hF T F; try simp at h6) 
      · refine awp_skip ?_
        refine hK5 _ ?_; clear hK5
        obtain ⟨i, rfl⟩ : ∃ i, j = i + 1 := ⟨j - 1, by omega⟩
        obtain ⟨d, hd⟩ : ∃ d, L[i]? = some d := ⟨_, List.getElem?_eq_getElem (by omega)⟩
        have hdd := dT hdl hd
        have hsn := shL_snoc L i d hd
        have hsl : (shL (L.drop (i + 1))).length ≤ 1000000 := by unfold shL; simp; omega
        have ew : IntKind.u8.wrap (48 + d) = ((UInt8.ofNat (48 + d.toNat)).toNat : Int) := by
          rw [show IntKind.u8.wrap (48 + d) = (48 + d) % 256 by simp [IntKind.wrap, IntKind.bits, IntKind.signed], byte_int _ (by omega)]
          omega
        obtain ⟨bb, hbb⟩ : ∃ bb, UInt8.ofNat (48 + d.toNat) = bb := ⟨_, rfl⟩
        rw [hbb] at ew hsn
        refine awp_seq_k fun K7 hK7 => ?_
        refine awp_block ?_
        generalize shL (L.drop (i + 1)) = M at *
        (refine awp_r fun KK hKK => ?_; simp [go_sem, hd, ew]; ((repeat' (first|(refine ag_x ?_;simp [go_sem, hd, ew])|intro _|refine And.intro ?_ ?_|(apply hKK;clear hKK KK)));all_goals first|refine Hold.mk ?_|omega|with_reducible assumption|(simp only [InR] at *;omega)|skip))
        rename_i g7
        refine hK7 _ ?_; clear hK7
        (refine awp_r fun KK hKK => ?_; simp [go_sem]; ((repeat' (first|(refine ag_x ?_;simp [go_sem])|intro _|refine And.intro ?_ ?_|(apply hKK;clear hKK KK)));all_goals first|refine Hold.mk ?_|omega|with_reducible assumption|(simp only [InR] at *;omega)|skip))
        refine ⟨(i, g7), ?_, by simp only; omega, by simp only; omega⟩
        simp only [hsn, ← List.append_assoc]
        (refine cov_of ?_ ?_ <;> simp [go_sem])
      · refine awp_exit ?_
        simp only [go_sem]
        refine hK4 _ ?_; clear hK4
        have hj0 : j = 0 := by omega
        subst hj0
        rw [List.drop_zero]
        simp only [← List.map_append]
        generalize P ++ shL L = X at *
        (refine awp_sr fun KK hKK => ?_; simp [go_sem]; ((repeat' (first|(refine ag_x ?_;simp [go_sem])|intro _|refine And.intro ?_ ?_|(apply hKK;clear hKK KK)));all_goals first|refine Hold.mk ?_|omega|with_reducible assumption|(simp only [InR] at *;omega)|skip))
        (refine awp_ret ?_; simp [go_sem])
    clear hK3
    (refine awp_sr fun KK hKK => ?_; simp [go_sem]; ((repeat' (first|(refine ag_x ?_;simp [go_sem])|intro _|refine And.intro ?_ ?_|(apply hKK;clear hKK KK)));all_goals first|refine Hold.mk ?_|omega|with_reducible assumption|(simp only [InR] at *;omega)|skip))
    (refine awp_if fun T F hT hF => ?_; simp [go_sem]; refine BR.intro (fun h8 => hT ?_) (fun h8 => hF ?_); all_goals clear hT hF T F; try simp at h8) 
    · (refine awp_r fun KK hKK => ?_; simp [go_sem]; ((repeat' (first|(refine ag_x ?_;simp [go_sem])|intro _|refine And.intro ?_ ?_|(apply hKK;clear hKK KK)));all_goals first|refine Hold.mk ?_|omega|with_reducible assumption|(simp only [InR] at *;omega)|skip))
      rename_i g7
      refine tl3 _ [45] g7 (by rw [if_pos (by omega)]) ?_
      (refine cov_of ?_ ?_ <;> simp [go_sem])
    · refine awp_skip ?_
      refine tl3 _ [] g3 (by rw [if_neg (by omega)]) ?_
      (refine cov_of ?_ ?_ <;> simp [go_sem])
theorem rall2 (a b : List UInt8) (ha : a.length ≤ 1000000000) (hb : b.length ≤ 1000000000) : PCall Tryz.prog 44 [.sl 1 [cS a, cS b]] fun r => r = dB (numOk a && numOk b) := by
  have := rall_spec [a, b] (by intro x hx; simp at hx; rcases hx with rfl | rfl <;> assumption) (by simp)
  simp only [List.all_cons, List.all_nil, Bool.and_true] at this
  exact this
theorem szT_numOk {a : List UInt8} (h : numOk a = true) : sz 10 (numV a) ≤ 400 := sz10_of_dlen (num_dlen h)
end Go.Proofs.YtglncfhcgkihbaaGreatDoor
