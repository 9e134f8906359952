/- Part of a proof: see the last text. -/
import Derived.Test.YtchnagdaljblnaaGreatDoorG05
import Derived.Test.YtchnagdaljblnaaGreatDoorG03
import Derived.Lib.IndexMore
import Derived.Lib.IndexLaws
import Derived.Laws.RangeAny
import Derived.Shelf.GgClosure.StringsIndexFuncTop
set_option linter.unusedVariables false
set_option linter.unusedSimpArgs false
namespace Go.Proofs.YtchnagdaljblnaaGreatDoor
open Go.Eng Go.Wh Go.Ver
set_option maxRecDepth 20000
set_option linter.unusedSimpArgs false
set_option linter.unusedVariables false
attribute [local irreducible] AG CallA CallT AWp PCall ACall AgC
theorem rValid_spec (v : List UInt8) (hl : v.length ≤ 1000000000) : PCall Tryz.prog 77 [dS v] fun r => r = dB (readV v).isSome := by 
  refine pcall_of Tryz.func77 rfl rfl Tryz.ntmps77 (rs := [.tmp 2]) (tys := [4]) rfl rfl (by simp) ?_
  have R1 := rread_spec v hl
  (refine awp_sr fun KK hKK => ?_; simp [go_sem]; ((repeat' (first|(refine ag_x ?_;simp [go_sem])|intro _|refine And.intro ?_ ?_|(apply hKK;clear hKK KK)));all_goals first|refine Hold.mk ?_|omega|with_reducible assumption|(simp only [InR] at *;omega)|skip))
  (refine awp_sr fun KK hKK => ?_; simp [go_sem]; ((repeat' (first|(refine ag_x ?_;simp [go_sem])|intro _|refine And.intro ?_ ?_|(apply hKK;clear hKK KK)));all_goals first|refine Hold.mk ?_|omega|with_reducible assumption|(simp only [InR] at *;omega)|skip))
  ((try refine CallT.toA ?_); refine callT_m (by first | exact .inl ⟨rfl, rfl⟩ | exact .inr rfl) (by simp [go_sem]) ?_; intro args ha; simp [go_sem] at ha; subst ha; refine ⟨_, R1, ?_⟩; rintro _ rfl; simp [go_sem]; ((repeat' (first|(refine ag_x ?_;simp [go_sem])|intro _|refine And.intro ?_ ?_|(apply hKK;clear hKK KK)));all_goals first|refine Hold.mk ?_|omega|with_reducible assumption|(simp only [InR] at *;omega)|skip))
  (refine awp_sr fun KK hKK => ?_; simp [go_sem]; ((repeat' (first|(refine ag_x ?_;simp [go_sem])|intro _|refine And.intro ?_ ?_|(apply hKK;clear hKK KK)));all_goals first|refine Hold.mk ?_|omega|with_reducible assumption|(simp only [InR] at *;omega)|skip))
  (refine awp_ret ?_; simp [go_sem])
theorem Valid_spec (v : List UInt8) (hl : v.length ≤ 1000000000) : PCall Tryz.prog 81 [dS v] fun r => r = dB (readV v).isSome := by 
  refine pcall_of Tryz.func81 rfl rfl Tryz.ntmps81 (rs := [.tmp 2]) (tys := [4]) rfl rfl (by simp) ?_
  have R1 := read_spec v hl
  (refine awp_sr fun KK hKK => ?_; simp [go_sem]; ((repeat' (first|(refine ag_x ?_;simp [go_sem])|intro _|refine And.intro ?_ ?_|(apply hKK;clear hKK KK)));all_goals first|refine Hold.mk ?_|omega|with_reducible assumption|(simp only [InR] at *;omega)|skip))
  (refine awp_sr fun KK hKK => ?_; simp [go_sem]; ((repeat' (first|(refine ag_x ?_;simp [go_sem])|intro _|refine And.intro ?_ ?_|(apply hKK;clear hKK KK)));all_goals first|refine Hold.mk ?_|omega|with_reducible assumption|(simp only [InR] at *;omega)|skip))
  ((try refine CallT.toA ?_); refine callT_m (by first | exact .inl ⟨rfl, rfl⟩ | exact .inr rfl) (by simp [go_sem]) ?_; intro args ha; simp [go_sem] at ha; subst ha; refine ⟨_, R1, ?_⟩; rintro _ rfl; simp [go_sem]; ((repeat' (first|(refine ag_x ?_;simp [go_sem])|intro _|refine And.intro ?_ ?_|(apply hKK;clear hKK KK)));all_goals first|refine Hold.mk ?_|omega|with_reducible assumption|(simp only [InR] at *;omega)|skip))
  (refine awp_sr fun KK hKK => ?_; simp [go_sem]; ((repeat' (first|(refine ag_x ?_;simp [go_sem])|intro _|refine And.intro ?_ ?_|(apply hKK;clear hKK KK)));all_goals first|refine Hold.mk ?_|omega|with_reducible assumption|(simp only [InR] at *;omega)|skip))
  (refine awp_ret ?_; simp [go_sem])
/-- conditions -/
@[go_sem] abbrev cRC (c : Cnd) : List D := [dS c.1, dS (textV c.2)]
@[go_sem] abbrev dRC (c : Cnd) : D := .agg [dS c.1, dS (textV c.2)]
@[go_sem] abbrev dRCs (l : List Cnd) : D := .sl 2 (l.map cRC)
set_option maxHeartbeats 8000000 in
theorem rconditions_spec (r : List UInt8) (hl : r.length ≤ 1000000) : PCall Tryz.prog 168 [dS r] fun x => x = .tup [dRCs (condsP r), dB (condsV r).isSome] := by 
  refine pcall_of Tryz.func168 rfl rfl Tryz.ntmps168 (rs := [.tmp 2, .tmp 3]) (tys := [244, 4]) rfl rfl (by simp) ?_
  have S1 := split_spec r [44, 32] (by omega) (by simp)
  rw [split_csv] at S1
  have hdl := csv_len 44 32 r
  have hdp := csv_part 44 32 r
  have hdn := csv_ne 44 32 r
  unfold condsP condsV
  (refine awp_sr fun KK hKK => ?_; simp [go_sem]; ((repeat' (first|(refine ag_x ?_;simp [go_sem])|intro _|refine And.intro ?_ ?_|(apply hKK;clear hKK KK)));all_goals first|refine Hold.mk ?_|omega|with_reducible assumption|(simp only [InR] at *;omega)|skip))
  refine awp_seq_k fun K1 hK1 => ?_
  (refine awp_sr fun KK hKK => ?_; simp [go_sem]; ((repeat' (first|(refine ag_x ?_;simp [go_sem])|intro _|refine And.intro ?_ ?_|(apply hKK;clear hKK KK)));all_goals first|refine Hold.mk ?_|omega|with_reducible assumption|(simp only [InR] at *;omega)|skip))
  (refine awp_if fun T F hT hF => ?_; simp [go_sem]; refine BR.intro (fun h2 => hT ?_) (fun h2 => hF ?_); all_goals clear hT hF T F; try simp at h2) 
  · (refine awp_sr fun KK hKK => ?_; simp [go_sem]; ((repeat' (first|(refine ag_x ?_;simp [go_sem])|intro _|refine And.intro ?_ ?_|(apply hKK;clear hKK KK)));all_goals first|refine Hold.mk ?_|omega|with_reducible assumption|(simp only [InR] at *;omega)|skip))
    (refine awp_ret ?_; simp [go_sem, h2])
  · refine awp_skip ?_
    refine hK1 _ ?_; clear hK1
    simp only [h2, if_false]
    generalize hps : csv 44 32 r = ps at *
    (refine awp_sr fun KK hKK => ?_; simp [go_sem]; ((repeat' (first|(refine ag_x ?_;simp [go_sem])|intro _|refine And.intro ?_ ?_|(apply hKK;clear hKK KK)));all_goals first|refine Hold.mk ?_|omega|with_reducible assumption|(simp only [InR] at *;omega)|skip))
    ((try refine CallT.toA ?_); refine callT_m (by first | exact .inl ⟨rfl, rfl⟩ | exact .inr rfl) (by simp [go_sem]) ?_; intro args ha; simp [go_sem] at ha; subst ha; refine ⟨_, S1, ?_⟩; rintro _ rfl; simp [go_sem]; ((repeat' (first|(refine ag_x ?_;simp [go_sem])|intro _|refine And.intro ?_ ?_|(apply hKK;clear hKK KK)));all_goals first|refine Hold.mk ?_|omega|with_reducible assumption|(simp only [InR] at *;omega)|skip))
    (refine awp_sr fun KK hKK => ?_; simp [go_sem]; ((repeat' (first|(refine ag_x ?_;simp [go_sem])|intro _|refine And.intro ?_ ?_|(apply hKK;clear hKK KK)));all_goals first|refine Hold.mk ?_|omega|with_reducible assumption|(simp only [InR] at *;omega)|skip))
    refine awp_nilslot 5 5 284 2 rfl fun g5 => ?_
    simp only [go_sem]
    refine awp_seq_k fun K3 hK3 => ?_
    (refine awp_sr fun KK hKK => ?_; simp [go_sem]; ((repeat' (first|(refine ag_x ?_;simp [go_sem])|intro _|refine And.intro ?_ ?_|(apply hKK;clear hKK KK)));all_goals first|refine Hold.mk ?_|omega|with_reducible assumption|(simp only [InR] at *;omega)|skip))
    refine awp_block ?_
    refine awp_loop (σ := Nat × List Cnd × Nat) (fun x => ⟨[(4, dSs ps), (5, .own 5 x.2.2), (6, dI x.1)], [(5, x.2.2, .row 284 2 (x.2.1.map cRC))]⟩) (fun x => x.1 ≤ ps.length ∧ x.2.1.length = x.1 ∧ cndsV (ps.take x.1) = some x.2.1) (fun x => ps.length - x.1) (0, [], g5) ?_ ?_ ?_
    · (refine cov_of ?_ ?_ <;> simp [go_sem])
    · exact ⟨by omega, rfl, rfl⟩
    rintro ⟨i, out, g⟩ ⟨hi, ho, hs⟩
    simp only at hi ho hs
    refine awp_seq_k fun K4 hK4 => ?_
    (refine awp_sr fun KK hKK => ?_; simp [go_sem]; ((repeat' (first|(refine ag_x ?_;simp [go_sem])|intro _|refine And.intro ?_ ?_|(apply hKK;clear hKK KK)));all_goals first|refine Hold.mk ?_|omega|with_reducible assumption|(simp only [InR] at *;omega)|skip))
    (refine awp_if fun T F hT hF => ?_; simp [go_sem]; refine BR.intro (fun h5 => hT ?_) (fun h5 => hF ?_); all_goals clear hT hF T F; try simp at h5) 
    · refine awp_skip ?_
      refine hK4 _ ?_; clear hK4
      have hi' : i < ps.length := by omega
      obtain ⟨p, hp⟩ : ∃ p, ps[i]? = some p := ⟨_, List.getElem?_eq_getElem hi'⟩
      have hpm : p ∈ ps := List.mem_of_getElem? hp
      have hpl := hdp p hpm
      have R1 := cut_spec p [32] (by omega)
      have hbad := cndsV_bad hpm
      have hsn := fun (x : Cnd) (h : cndV p = some x) => cndsV_snoc hs h
      obtain ⟨o, v, is, hcut⟩ : ∃ o v is, Lib.cut p [32] = (o, v, is) := ⟨_, _, _, rfl⟩
      rw [hcut] at R1
      simp only at R1
      have hcc := cut_cnd hcut
      have hcl := cut_len hcut
      have hms := fun (h : is = false) => cut_miss (p := p) (o := o) (v := v) (by rw [← h]; exact hcut)
      have R2 := rValid_spec v (by omega)
      have hrk := @readV_ok v
      refine awp_seq_k fun K6 hK6 => ?_
      refine awp_block ?_
      (refine awp_sr fun KK hKK => ?_; simp [go_sem, hp]; ((repeat' (first|(refine ag_x ?_;simp [go_sem, hp])|intro _|refine And.intro ?_ ?_|(apply hKK;clear hKK KK)));all_goals first|refine Hold.mk ?_|omega|with_reducible assumption|(simp only [InR] at *;omega)|skip))
      ((try refine CallT.toA ?_); refine callT_m (by first | exact .inl ⟨rfl, rfl⟩ | exact .inr rfl) (by simp [go_sem]) ?_; intro args ha; simp [go_sem] at ha; subst ha; refine ⟨_, R1, ?_⟩; rintro _ rfl; simp [go_sem]; ((repeat' (first|(refine ag_x ?_;simp [go_sem])|intro _|refine And.intro ?_ ?_|(apply hKK;clear hKK KK)));all_goals first|refine Hold.mk ?_|omega|with_reducible assumption|(simp only [InR] at *;omega)|skip))
      refine awp_seq_k fun K7 hK7 => ?_
      (refine awp_sr fun KK hKK => ?_; simp [go_sem]; ((repeat' (first|(refine ag_x ?_;simp [go_sem])|intro _|refine And.intro ?_ ?_|(apply hKK;clear hKK KK)));all_goals first|refine Hold.mk ?_|omega|with_reducible assumption|(simp only [InR] at *;omega)|skip))
      refine awp_block ?_
      refine awp_seq_k fun K8 hK8 => ?_
      have tl8 : ∀ S', Cov S' ⟨[(4, dSs ps), (5, .own 5 g), (6, dI i), (7, dS o), (8, dS v), (30, dB (decide (o ∈ opsV)))], [(5, g, .row 284 2 (out.map cRC))]⟩ → K8 S' := fun S' hS => by
        refine hK8 _ ?_; clear hK8
        refine awp_cov hS ?_; clear hS
        (refine awp_if fun T F hT hF => ?_; simp [go_sem]; refine BR.intro (fun h9 => hT ?_) (fun h9 => hF ?_); all_goals clear hT hF T F; try simp at h9) 
        · refine awp_skip ?_
          refine hK7 _ ?_; clear hK7
          refine awp_seq_k fun K10 hK10 => ?_
          generalize hsv : readV v = sv at *
          (refine awp_sr fun KK hKK => ?_; simp [go_sem]; ((repeat' (first|(refine ag_x ?_;simp [go_sem])|intro _|refine And.intro ?_ ?_|(apply hKK;clear hKK KK)));all_goals first|refine Hold.mk ?_|omega|with_reducible assumption|(simp only [InR] at *;omega)|skip))
          ((try refine CallT.toA ?_); refine callT_m (by first | exact .inl ⟨rfl, rfl⟩ | exact .inr rfl) (by simp [go_sem]) ?_; intro args ha; simp [go_sem] at ha; subst ha; refine ⟨_, R2, ?_⟩; rintro _ rfl; simp [go_sem]; ((repeat' (first|(refine ag_x ?_;simp [go_sem])|intro _|refine And.intro ?_ ?_|(apply hKK;clear hKK KK)));all_goals first|refine Hold.mk ?_|omega|with_reducible assumption|(simp only [InR] at *;omega)|skip))
          cases sv with
          | none =>
            (refine awp_if fun T F hT hF => ?_; simp [go_sem]; refine hT ?_; clear hT hF T F)
            (refine awp_sr fun KK hKK => ?_; simp [go_sem]; ((repeat' (first|(refine ag_x ?_;simp [go_sem])|intro _|refine And.intro ?_ ?_|(apply hKK;clear hKK KK)));all_goals first|refine Hold.mk ?_|omega|with_reducible assumption|(simp only [InR] at *;omega)|skip))
            (refine awp_ret ?_; simp [go_sem, hbad (by rw [hcc]; simp)])
          | some l =>
            obtain ⟨hvo, hvt, hvl⟩ := hrk rfl
            have his : is = true := by
              cases is with
              | true => rfl
              | false =>
                have := (hms rfl).1
                subst this
                rw [readV_nil] at hsv
                cases hsv
            subst his
            simp only [h9, true_and, if_true, Option.map_some] at hcc
            (refine awp_if fun T F hT hF => ?_; simp [go_sem]; refine hF ?_; clear hT hF T F)
            refine awp_skip ?_
            refine hK10 _ ?_; clear hK10
            (refine awp_r fun KK hKK => ?_; simp [go_sem]; ((repeat' (first|(refine ag_x ?_;simp [go_sem])|intro _|refine And.intro ?_ ?_|(apply hKK;clear hKK KK)));all_goals first|refine Hold.mk ?_|omega|with_reducible assumption|(simp only [InR] at *;omega)|skip))
            refine hK6 _ ?_; clear hK6
            (refine awp_r fun KK hKK => ?_; simp [go_sem]; ((repeat' (first|(refine ag_x ?_;simp [go_sem])|intro _|refine And.intro ?_ ?_|(apply hKK;clear hKK KK)));all_goals first|refine Hold.mk ?_|omega|with_reducible assumption|(simp only [InR] at *;omega)|skip))
            rename_i g28 g'
            have e : ps.take (i + 1) = ps.take i ++ [p] := by rw [List.take_add_one, hp]; rfl
            refine ⟨(i + 1, out ++ [(o, l)], g'), ?_, ⟨by simp only; omega, by simp [ho], ?_⟩, by simp only; omega⟩
            · (refine cov_of ?_ ?_ <;> simp [go_sem, hvt])
            · simp only [e]
              exact hsn _ hcc
        · (refine awp_sr fun KK hKK => ?_; simp [go_sem]; ((repeat' (first|(refine ag_x ?_;simp [go_sem])|intro _|refine And.intro ?_ ?_|(apply hKK;clear hKK KK)));all_goals first|refine Hold.mk ?_|omega|with_reducible assumption|(simp only [InR] at *;omega)|skip))
          (refine awp_ret ?_; simp [go_sem, hbad (by rw [hcc]; simp [h9])])
      clear hK8
      (refine awp_sr fun KK hKK => ?_; simp [go_sem]; ((repeat' (first|(refine ag_x ?_;simp [go_sem])|intro _|refine And.intro ?_ ?_|(apply hKK;clear hKK KK)));all_goals first|refine Hold.mk ?_|omega|with_reducible assumption|(simp only [InR] at *;omega)|skip))
      (refine awp_if fun T F hT hF => ?_; simp [go_sem]; refine BR.intro (fun h12 => hT ?_) (fun h12 => hF ?_); all_goals clear hT hF T F; try simp at h12) 
      · refine awp_skip ?_
        refine tl8 _ ?_
        (refine cov_of ?_ ?_ <;> simp [go_sem, h12, opsV])
      · (refine awp_sr fun KK hKK => ?_; simp [go_sem]; ((repeat' (first|(refine ag_x ?_;simp [go_sem])|intro _|refine And.intro ?_ ?_|(apply hKK;clear hKK KK)));all_goals first|refine Hold.mk ?_|omega|with_reducible assumption|(simp only [InR] at *;omega)|skip))
        (refine awp_if fun T F hT hF => ?_; simp [go_sem]; refine BR.intro (fun h13 => hT ?_) (fun h13 => hF ?_); all_goals clear hT hF T F; try simp at h13) 
        · refine awp_skip ?_
          refine tl8 _ ?_
          (refine cov_of ?_ ?_ <;> simp [go_sem, h13, opsV])
        · (refine awp_sr fun KK hKK => ?_; simp [go_sem]; ((repeat' (first|(refine ag_x ?_;simp [go_sem])|intro _|refine And.intro ?_ ?_|(apply hKK;clear hKK KK)));all_goals first|refine Hold.mk ?_|omega|with_reducible assumption|(simp only [InR] at *;omega)|skip))
          (refine awp_if fun T F hT hF => ?_; simp [go_sem]; refine BR.intro (fun h14 => hT ?_) (fun h14 => hF ?_); all_goals clear hT hF T F; try simp at h14) 
          · refine awp_skip ?_
            refine tl8 _ ?_
            (refine cov_of ?_ ?_ <;> simp [go_sem, h14, opsV])
          · (refine awp_sr fun KK hKK => ?_; simp [go_sem]; ((repeat' (first|(refine ag_x ?_;simp [go_sem])|intro _|refine And.intro ?_ ?_|(apply hKK;clear hKK KK)));all_goals first|refine Hold.mk ?_|omega|with_reducible assumption|(simp only [InR] at *;omega)|skip))
            (refine awp_if fun T F hT hF => ?_; simp [go_sem]; refine BR.intro (fun h15 => hT ?_) (fun h15 => hF ?_); all_goals clear hT hF T F; try simp at h15) 
            · refine awp_skip ?_
              refine tl8 _ ?_
              (refine cov_of ?_ ?_ <;> simp [go_sem, h15, opsV])
            · (refine awp_sr fun KK hKK => ?_; simp [go_sem]; ((repeat' (first|(refine ag_x ?_;simp [go_sem])|intro _|refine And.intro ?_ ?_|(apply hKK;clear hKK KK)));all_goals first|refine Hold.mk ?_|omega|with_reducible assumption|(simp only [InR] at *;omega)|skip))
              (refine awp_if fun T F hT hF => ?_; simp [go_sem]; refine BR.intro (fun h16 => hT ?_) (fun h16 => hF ?_); all_goals clear hT hF T F; try simp at h16) 
              · refine awp_skip ?_
                refine tl8 _ ?_
                (refine cov_of ?_ ?_ <;> simp [go_sem, h16, opsV])
              · (refine awp_sr fun KK hKK => ?_; simp [go_sem]; ((repeat' (first|(refine ag_x ?_;simp [go_sem])|intro _|refine And.intro ?_ ?_|(apply hKK;clear hKK KK)));all_goals first|refine Hold.mk ?_|omega|with_reducible assumption|(simp only [InR] at *;omega)|skip))
                (refine awp_if fun T F hT hF => ?_; simp [go_sem]; refine BR.intro (fun h17 => hT ?_) (fun h17 => hF ?_); all_goals clear hT hF T F; try simp at h17) 
                · refine awp_skip ?_
                  refine tl8 _ ?_
                  (refine cov_of ?_ ?_ <;> simp [go_sem, h17, opsV])
                · (refine awp_r fun KK hKK => ?_; simp [go_sem]; ((repeat' (first|(refine ag_x ?_;simp [go_sem])|intro _|refine And.intro ?_ ?_|(apply hKK;clear hKK KK)));all_goals first|refine Hold.mk ?_|omega|with_reducible assumption|(simp only [InR] at *;omega)|skip))
                  refine tl8 _ ?_
                  (refine cov_of ?_ ?_ <;> simp [go_sem, h12, h13, h14, h15, h16, h17, opsV])
                  rw [Bool.eq_iff_iff]; simp
    · refine awp_exit ?_
      simp only [go_sem]
      refine hK3 _ ?_; clear hK3
      have hie : i = ps.length := by omega
      subst hie
      rw [List.take_length] at hs
      (refine awp_sr fun KK hKK => ?_; simp [go_sem]; ((repeat' (first|(refine ag_x ?_;simp [go_sem])|intro _|refine And.intro ?_ ?_|(apply hKK;clear hKK KK)));all_goals first|refine Hold.mk ?_|omega|with_reducible assumption|(simp only [InR] at *;omega)|skip))
      (refine awp_ret ?_; simp [go_sem, hs])
      split
      · rename_i hq
        simp; omega
      · rename_i hq
        simp; omega
end Go.Proofs.YtchnagdaljblnaaGreatDoor

namespace Go.Proofs.YtchnagdaljblnaaGreatDoor
open Go.Eng Go.Wh Go.Ver
set_option maxRecDepth 20000
set_option linter.unusedSimpArgs false
set_option linter.unusedVariables false
attribute [local irreducible] AG CallA CallT AWp PCall ACall AgC
theorem Check_spec (r : List UInt8) (hl : r.length ≤ 1000000) : PCall Tryz.prog 119 [dS r] fun y => y = dI (codeP (condsV r).isSome) := by 
  refine pcall_of Tryz.func119 rfl rfl Tryz.ntmps119 (rs := [.tmp 2]) (tys := [27]) rfl rfl (by simp) ?_
  have R1 := conditions_spec r (by omega)
  unfold codeP
  generalize (condsV r).isSome = x at *
  (refine awp_sr fun KK hKK => ?_; simp [go_sem]; ((repeat' (first|(refine ag_x ?_;simp [go_sem])|intro _|refine And.intro ?_ ?_|(apply hKK;clear hKK KK)));all_goals first|refine Hold.mk ?_|omega|with_reducible assumption|(simp only [InR] at *;omega)|skip))
  refine awp_seq_k fun K1 hK1 => ?_
  (refine awp_sr fun KK hKK => ?_; simp [go_sem]; ((repeat' (first|(refine ag_x ?_;simp [go_sem])|intro _|refine And.intro ?_ ?_|(apply hKK;clear hKK KK)));all_goals first|refine Hold.mk ?_|omega|with_reducible assumption|(simp only [InR] at *;omega)|skip))
  ((try refine CallT.toA ?_); refine callT_m (by first | exact .inl ⟨rfl, rfl⟩ | exact .inr rfl) (by simp [go_sem]) ?_; intro args ha; simp [go_sem] at ha; subst ha; refine ⟨_, R1, ?_⟩; rintro _ rfl; simp [go_sem]; ((repeat' (first|(refine ag_x ?_;simp [go_sem])|intro _|refine And.intro ?_ ?_|(apply hKK;clear hKK KK)));all_goals first|refine Hold.mk ?_|omega|with_reducible assumption|(simp only [InR] at *;omega)|skip))
  (refine awp_sr fun KK hKK => ?_; simp [go_sem]; ((repeat' (first|(refine ag_x ?_;simp [go_sem])|intro _|refine And.intro ?_ ?_|(apply hKK;clear hKK KK)));all_goals first|refine Hold.mk ?_|omega|with_reducible assumption|(simp only [InR] at *;omega)|skip))
  (refine awp_if fun T F hT hF => ?_; simp [go_sem]; refine BR.intro (fun h2 => hT ?_) (fun h2 => hF ?_); all_goals clear hT hF T F; try simp at h2) 
  · (refine awp_sr fun KK hKK => ?_; simp [go_sem]; ((repeat' (first|(refine ag_x ?_;simp [go_sem])|intro _|refine And.intro ?_ ?_|(apply hKK;clear hKK KK)));all_goals first|refine Hold.mk ?_|omega|with_reducible assumption|(simp only [InR] at *;omega)|skip))
    (refine awp_ret ?_; simp [go_sem, h2])
  · refine awp_skip ?_
    refine hK1 _ ?_; clear hK1
    (refine awp_sr fun KK hKK => ?_; simp [go_sem]; ((repeat' (first|(refine ag_x ?_;simp [go_sem])|intro _|refine And.intro ?_ ?_|(apply hKK;clear hKK KK)));all_goals first|refine Hold.mk ?_|omega|with_reducible assumption|(simp only [InR] at *;omega)|skip))
    (refine awp_ret ?_; simp [go_sem, h2])
theorem rCheck_spec (r : List UInt8) (hl : r.length ≤ 1000000) : PCall Tryz.prog 115 [dS r] fun y => y = dI (codeP (condsV r).isSome) := by 
  refine pcall_of Tryz.func115 rfl rfl Tryz.ntmps115 (rs := [.tmp 2]) (tys := [27]) rfl rfl (by simp) ?_
  have R1 := rconditions_spec r (by omega)
  unfold codeP
  generalize (condsV r).isSome = x at *
  (refine awp_sr fun KK hKK => ?_; simp [go_sem]; ((repeat' (first|(refine ag_x ?_;simp [go_sem])|intro _|refine And.intro ?_ ?_|(apply hKK;clear hKK KK)));all_goals first|refine Hold.mk ?_|omega|with_reducible assumption|(simp only [InR] at *;omega)|skip))
  refine awp_seq_k fun K1 hK1 => ?_
  (refine awp_sr fun KK hKK => ?_; simp [go_sem]; ((repeat' (first|(refine ag_x ?_;simp [go_sem])|intro _|refine And.intro ?_ ?_|(apply hKK;clear hKK KK)));all_goals first|refine Hold.mk ?_|omega|with_reducible assumption|(simp only [InR] at *;omega)|skip))
  ((try refine CallT.toA ?_); refine callT_m (by first | exact .inl ⟨rfl, rfl⟩ | exact .inr rfl) (by simp [go_sem]) ?_; intro args ha; simp [go_sem] at ha; subst ha; refine ⟨_, R1, ?_⟩; rintro _ rfl; simp [go_sem]; ((repeat' (first|(refine ag_x ?_;simp [go_sem])|intro _|refine And.intro ?_ ?_|(apply hKK;clear hKK KK)));all_goals first|refine Hold.mk ?_|omega|with_reducible assumption|(simp only [InR] at *;omega)|skip))
  (refine awp_sr fun KK hKK => ?_; simp [go_sem]; ((repeat' (first|(refine ag_x ?_;simp [go_sem])|intro _|refine And.intro ?_ ?_|(apply hKK;clear hKK KK)));all_goals first|refine Hold.mk ?_|omega|with_reducible assumption|(simp only [InR] at *;omega)|skip))
  (refine awp_if fun T F hT hF => ?_; simp [go_sem]; refine BR.intro (fun h2 => hT ?_) (fun h2 => hF ?_); all_goals clear hT hF T F; try simp at h2) 
  · (refine awp_sr fun KK hKK => ?_; simp [go_sem]; ((repeat' (first|(refine ag_x ?_;simp [go_sem])|intro _|refine And.intro ?_ ?_|(apply hKK;clear hKK KK)));all_goals first|refine Hold.mk ?_|omega|with_reducible assumption|(simp only [InR] at *;omega)|skip))
    (refine awp_ret ?_; simp [go_sem, h2])
  · refine awp_skip ?_
    refine hK1 _ ?_; clear hK1
    (refine awp_sr fun KK hKK => ?_; simp [go_sem]; ((repeat' (first|(refine ag_x ?_;simp [go_sem])|intro _|refine And.intro ?_ ?_|(apply hKK;clear hKK KK)));all_goals first|refine Hold.mk ?_|omega|with_reducible assumption|(simp only [InR] at *;omega)|skip))
    (refine awp_ret ?_; simp [go_sem, h2])
end Go.Proofs.YtchnagdaljblnaaGreatDoor

set_option linter.unusedVariables false
set_option linter.unusedSimpArgs false
namespace Go.Ver
open Go.Lib Go.Wh
end Go.Ver

set_option linter.unusedVariables false
set_option linter.unusedSimpArgs false
namespace Go.Ver
/-! what the code of stable sorting does with lists -/
variable {α : Type} {lt : α → α → Bool}
end Go.Ver

set_option linter.unusedVariables false
set_option linter.unusedSimpArgs false
namespace Go.Ver
/-! blocks that are sorted each -/
variable {α : Type} {lt : α → α → Bool}
end Go.Ver

set_option linter.unusedVariables false
set_option linter.unusedSimpArgs false
namespace Go.Ver
open Go.Lib Go.Wh
/-! lists of versions -/
end Go.Ver

set_option linter.unusedVariables false
set_option linter.unusedSimpArgs false
namespace Go.Ver
open Go.Lib Go.Wh
/-! made versions in lists -/
end Go.Ver

set_option linter.unusedVariables false
set_option linter.unusedSimpArgs false
namespace Go.Lk
open Go.Lib Go.Wh Go.Ver
/-! locks: names, needs, sums -/
abbrev Bs := List UInt8
/-- a need (gem, what is wanted), or a pick (gem, number) -/
abbrev Prs := Bs × Bs
def nmC (c : UInt8) : Bool := isL c || isD c || decide (c.toNat = 95) || decide (c.toNat = 45)
def nameV (s : Bs) : Bool := match s with
  | [] => false
  | c :: r => isL c && r.all nmC && decide (r.length < 20)
def nmAt (i : Nat) (c : UInt8) : Bool := isL c || (decide (i ≠ 0) && nmC c)
/-- the first n bytes fit a name -/
def nmTo (s : Bs) : Nat → Bool
  | 0 => true
  | n + 1 => nmTo s n && (match s[n]? with | some c => nmAt n c | none => true)
theorem nmTo_step {s : Bs} {n : Nat} {c : UInt8} (h : s[n]? = some c) : nmTo s (n + 1) = (nmTo s n && nmAt n c) := by
  simp only [nmTo, h]
theorem nmTo_all : ∀ (s : Bs) (c : UInt8) (n : Nat), nmTo (c :: s) (n + 1) = (isL c && (s.take n).all nmC)
  | s, c, 0 => by simp [nmTo, nmAt]
  | s, c, n + 1 => by
    rw [nmTo, nmTo_all s c n]
    simp only [List.getElem?_cons_succ]
    rw [List.take_add_one, List.all_append, Bool.and_assoc]
    congr 2
    cases h : s[n]? with
    | none => simp
    | some d => simp [nmAt, nmC]; cases isL d <;> simp
theorem nameV_nm (s : Bs) : nameV s = (nmTo s s.length && (decide (s ≠ []) && decide (s.length ≤ 20))) := by
  cases s with
  | nil => simp [nameV, nmTo]
  | cons c r =>
    rw [List.length_cons, nmTo_all, List.take_length]
    simp [nameV]
    congr 1
    cases h : decide (r.length < 20) <;> simp at h <;> simp <;> omega
theorem nmTo_bad {s : Bs} {n : Nat} (h : nmTo s n = false) : ∀ m, n ≤ m → nmTo s m = false
  | 0, hm => by
    have : n = 0 := by omega
    subst this; exact h
  | m + 1, hm => by
    by_cases e : n = m + 1
    · subst e; exact h
    · rw [nmTo, nmTo_bad h m (by omega)]; rfl
/-! needs in a list: each named and asked rightly, ascending -/
def needAt (l : List Prs) (i : Nat) : Bool := match l[i]? with
  | some x => nameV x.1 && (condsV x.2).isSome && (decide (i = 0) || (match l[i - 1]? with | some y => Op.bytesLess y.1 x.1 | none => true))
  | none => true
def needTo (l : List Prs) : Nat → Bool
  | 0 => true
  | n + 1 => needTo l n && needAt l n
theorem needTo_bad {l : List Prs} {n : Nat} (h : needTo l n = false) : ∀ m, n ≤ m → needTo l m = false
  | 0, hm => by
    have : n = 0 := by omega
    subst this; exact h
  | m + 1, hm => by
    by_cases e : n = m + 1
    · subst e; exact h
    · rw [needTo, needTo_bad h m (by omega)]; rfl
def needsV (most : Nat) (l : List Prs) : Bool := needTo l l.length && decide (l.length ≤ most)
/-- a lock: picks, their needs, wishes -/
abbrev Lck := List Prs × List (List Prs) × List Prs
def pickAt (L : Lck) (i : Nat) : Bool := match L.1[i]? with
  | some x => nameV x.1 && (readV x.2).isSome && (decide (i = 0) || (match L.1[i - 1]? with | some y => Op.bytesLess y.1 x.1 | none => true)) && needsV 6 (L.2.1.getD i [])
  | none => true
def pickTo (L : Lck) : Nat → Bool
  | 0 => true
  | n + 1 => pickTo L n && pickAt L n
theorem pickTo_bad {L : Lck} {n : Nat} (h : pickTo L n = false) : ∀ m, n ≤ m → pickTo L m = false
  | 0, hm => by
    have : n = 0 := by omega
    subst this; exact h
  | m + 1, hm => by
    by_cases e : n = m + 1
    · subst e; exact h
    · rw [pickTo, pickTo_bad h m (by omega)]; rfl
def lockV (L : Lck) : Bool := decide (L.1.length ≤ 60) && decide (L.2.1.length = L.1.length) && needsV 8 L.2.2 && pickTo L L.1.length
/-! the sum -/
def sumV (s : Bs) : Nat → Nat
  | 0 => 0
  | n + 1 => (sumV s n + (s.getD n 0).toNat * ((n + 1) % 1000003)) % 1000003
theorem sumV_lt (s : Bs) : ∀ n, sumV s n < 1000003
  | 0 => by simp [sumV]
  | n + 1 => by unfold sumV; exact Nat.mod_lt _ (by omega)
theorem sumV_ref (s : Bs) (n : Nat) : sumV s (n + 1) = (sumV s n + (s.getD n 0).toNat * (n + 1)) % 1000003 := by
  show (sumV s n + (s.getD n 0).toNat * ((n + 1) % 1000003)) % 1000003 = _
  generalize (s.getD n 0).toNat = c
  generalize sumV s n = a
  rw [Nat.add_mod, Nat.mul_mod, Nat.mod_mod, ← Nat.mul_mod, ← Nat.add_mod]
end Go.Lk

set_option linter.unusedVariables false
set_option linter.unusedSimpArgs false
namespace Go.Lk
open Go.Lib Go.Wh Go.Ver
/-! a line: a name, and what stands in brackets behind it -/
/-- name, what is in brackets, whether there are any; none: malformed -/
def nmdV (s : Bs) : Option (Bs × Bs × Bool) :=
  let c := cut s [32, 40]
  if c.1 = [] ∨ c.1.all nmC = false then none
  else if c.2.2 = false then some (c.1, [], false)
  else
    let d := cut c.2.1 [41]
    if d.2.2 = true ∧ d.2.1 = [] ∧ d.1 ≠ [] then some (c.1, d.1, true) else none
/-- the reader: part, picks, needs, wishes, the sum's digits -/
structure PS where
  part : Nat
  picks : List Prs
  needs : List (List Prs)
  wish : List Prs
  sum : Bs
def pre4 : Bs := [32, 32, 32, 32]
def pre2 : Bs := [32, 32]
def preSum : Bs := [83, 85, 77, 32]
/-- an entry's line -/
def entryV (p : PS) (s : Bs) : Option PS :=
  if pre4.isPrefixOf s = true then
    match nmdV (s.drop 4) with
    | some (n, i, _) => if p.part = 3 ∨ p.picks = [] then none
      else some { p with needs := p.needs.set (p.picks.length - 1) (p.needs.getD (p.picks.length - 1) [] ++ [(n, i)]) }
    | none => none
  else if pre2.isPrefixOf s = true then
    match nmdV (s.drop 2) with
    | some (n, i, b) => if p.part = 1 ∧ b = false then none
      else if p.part = 3 then some { p with wish := p.wish ++ [(n, i)] }
      else some { p with picks := p.picks ++ [(n, i)], needs := p.needs ++ [[]] }
    | none => none
  else none
def digV (d : Bs) : Bool := decide (d ≠ []) && d.all isD && (decide (d = [48]) || decide (d.head? ≠ some 48))
def gemsT : Bs := [71, 69, 77, 83]
def wishT : Bs := [87, 73, 83, 72]
def lineV (p : PS) (s : Bs) : Option PS :=
  match p.part with
  | 0 => if s = gemsT then some { p with part := 1 } else none
  | 1 => if s = [] then some { p with part := 2 } else entryV p s
  | 2 => if s = wishT then some { p with part := 3 } else none
  | 3 => if s = [] then some { p with part := 4 } else entryV p s
  | 4 => if preSum.isPrefixOf s = true ∧ digV (s.drop 4) = true then some { p with part := 5, sum := s.drop 4 } else none
  | _ => none
def ps0 : PS := ⟨0, [], [], [], []⟩
/-- the state behind the first n lines -/
def linesV (ls : List Bs) : Nat → Option PS
  | 0 => some ps0
  | n + 1 => match linesV ls n, ls[n]? with
    | some p, some s => lineV p s
    | _, _ => none
end Go.Lk

set_option linter.unusedVariables false
set_option linter.unusedSimpArgs false
namespace Go.Lk
open Go.Lib Go.Wh Go.Ver
theorem cut_cases (s sep : Bs) : (∃ a r, cut s sep = (a, r, true) ∧ s = a ++ (sep ++ r)) ∨ (cut s sep = (s, [], false) ∧ ∀ j, j ≤ s.length → occAt s sep j = false) := by
  rcases index_spec s sep with ⟨h1, h2⟩ | ⟨i, h1, h2, h3, _⟩
  · right
    refine ⟨?_, h2⟩
    unfold cut; rw [h1]; simp
  · left
    refine ⟨s.take i, s.drop (i + sep.length), ?_, ?_⟩
    · unfold cut; rw [h1, if_pos (by omega)]; simp
    · unfold occAt at h3
      obtain ⟨t, ht⟩ := List.isPrefixOf_iff_prefix.1 h3
      have e : s.drop (i + sep.length) = t := by rw [← List.drop_drop, ← ht]; simp
      rw [e, ht, List.take_append_drop]
theorem cut_at {a r t : Bs} {c : UInt8} (h : c ∉ a) : cut (a ++ (c :: t ++ r)) (c :: t) = (a, r, true) := by
  have hi : index (a ++ (c :: t ++ r)) (c :: t) = (a.length : Int) := by
    refine index_first (by simp) ?_ (fun j hj => ?_)
    · unfold occAt; rw [List.drop_left]; exact List.isPrefixOf_iff_prefix.2 ⟨r, by simp⟩
    · rw [Bool.eq_false_iff]; intro q
      have := occAt_head rfl q
      rw [List.getElem?_append_left hj] at this
      exact h (List.mem_of_getElem? this)
  unfold cut; rw [hi, if_pos (by omega)]
  simp
theorem cut_no {s t : Bs} {c : UInt8} (h : c ∉ s) : cut s (c :: t) = (s, [], false) := by
  rcases cut_cases s (c :: t) with ⟨a, r, _, h2⟩ | ⟨h1, _⟩
  · exact absurd (by rw [h2]; simp) h
  · exact h1
theorem nm_no {s : Bs} {c : UInt8} (h : s.all nmC = true) (hc : nmC c = false) : c ∉ s := fun q => by
  have := List.all_eq_true.1 h c q
  rw [hc] at this; cases this
/-- what ref's split tells: name, what is in brackets, whether it is fine -/
def splV (s : Bs) (br : Bool) : Bs × Bs × Bool :=
  let c := cut s [32]
  if c.1 = [] ∨ c.1.all nmC = false then ([], [], false)
  else if c.2.2 = false then (c.1, [], !br)
  else if c.2.1.length < 3 ∨ c.2.1.head? ≠ some 40 ∨ indexByte c.2.1 41 ≠ (c.2.1.length : Int) - 1 then ([], [], false)
  else (c.1, (c.2.1.take (c.2.1.length - 1)).drop 1, true)
theorem ib_last {r : Bs} (h : indexByte r 41 = (r.length : Int) - 1) (h0 : r ≠ []) : ∃ i, r = i ++ [41] ∧ 41 ∉ i := by
  have hl : 0 < r.length := List.length_pos_iff.2 h0
  have h' : indexByte r 41 = ((r.length - 1 : Nat) : Int) := by omega
  obtain ⟨h1, h2⟩ := indexByte_some h'
  refine ⟨r.take (r.length - 1), ?_, fun q => ?_⟩
  · conv => lhs; rw [← List.take_append_drop (r.length - 1) r]
    congr 1
    rw [List.drop_eq_getElem_cons (by omega)]
    rw [List.getElem?_eq_getElem (by omega)] at h1
    rw [Option.some.inj h1, List.drop_of_length_le (by omega)]
  · obtain ⟨k, hk⟩ := List.getElem?_of_mem q
    rw [List.getElem?_take] at hk
    split at hk
    · exact h2 k (by omega) hk
    · cases hk
theorem ib_app {i : Bs} (h : 41 ∉ i) : indexByte (i ++ [41]) 41 = ((i ++ [41]).length : Int) - 1 := by
  rcases Int.lt_or_le (indexByte (i ++ [41]) 41) 0 with hn | hp
  · have := index_ge (i ++ [41]) [41]
    rw [index_one] at this
    have e : indexByte (i ++ [41]) 41 = -1 := by omega
    exact absurd (by simp) (indexByte_none e i.length)
  · obtain ⟨k, hk⟩ : ∃ k : Nat, indexByte (i ++ [41]) 41 = k := ⟨_, (Int.toNat_of_nonneg hp).symm⟩
    obtain ⟨h1, h2⟩ := indexByte_some hk
    have hk1 : ¬ k < i.length := fun q => by
      rw [List.getElem?_append_left q] at h1
      exact h (List.mem_of_getElem? h1)
    have hk2 : k < (i ++ [41]).length := (List.getElem?_eq_some_iff.1 h1).1
    simp at hk2 ⊢
    rw [hk]; omega
theorem spl_eq {s a r : Bs} {t : Bool} (br : Bool) (h : cut s [32] = (a, r, t)) : splV s br = if a = [] ∨ a.all nmC = false then ([], [], false)
  else if t = false then (a, [], !br)
  else if r.length < 3 ∨ r.head? ≠ some 40 ∨ indexByte r 41 ≠ (r.length : Int) - 1 then ([], [], false)
  else (a, (r.take (r.length - 1)).drop 1, true) := by unfold splV; rw [h]
theorem nmd_eq {s a r : Bs} {t : Bool} (h : cut s [32, 40] = (a, r, t)) : nmdV s = if a = [] ∨ a.all nmC = false then none else if t = false then some (a, [], false)
  else if (cut r [41]).2.2 = true ∧ (cut r [41]).2.1 = [] ∧ (cut r [41]).1 ≠ [] then some (a, (cut r [41]).1, true) else none := by unfold nmdV; rw [h]
theorem first41 : ∀ {i : Bs}, 41 ∈ i → ∃ u v, i = u ++ 41 :: v ∧ 41 ∉ u
  | [], h => by cases h
  | b :: l, h => by
    by_cases hb : b = 41
    · exact ⟨[], l, by simp [hb], by simp⟩
    · rcases List.mem_cons.1 h with h | h
      · exact absurd h.symm hb
      · obtain ⟨u, v, h1, h2⟩ := first41 h
        exact ⟨b :: u, v, by rw [h1]; rfl, by simp [h2]; exact fun q => hb q.symm⟩
/-- malformed unless the bracket stands right behind the name -/
theorem nmd_bad {s a r : Bs} (h1 : cut s [32] = (a, r, true)) (hr : r.head? ≠ some 40) : nmdV s = none := by
  have h32 : nmC 32 = false := by decide
  have h2 : s = a ++ ([32] ++ r) := by
    rcases cut_cases s [32] with ⟨a', r', g1, g2⟩ | ⟨g1, _⟩
    · rw [h1] at g1; simp at g1; rw [g1.1, g1.2]; exact g2
    · rw [h1] at g1; simp at g1
  rcases cut_cases s [32, 40] with ⟨a', r', h1', h2'⟩ | ⟨h1', _⟩
  · rw [nmd_eq h1', if_pos]
    right
    rw [Bool.eq_false_iff]; intro q
    have e : cut s [32] = (a', 40 :: r', true) := by rw [h2']; exact cut_at (t := []) (nm_no q h32)
    rw [h1] at e; simp at e
    rw [e.2] at hr
    exact hr rfl
  · rw [nmd_eq h1', if_pos]
    right
    rw [Bool.eq_false_iff]; intro q
    exact nm_no q h32 (by rw [h2]; simp)
theorem nmd_name {s a r : Bs} (h1 : cut s [32] = (a, r, true)) (ha : a = [] ∨ a.all nmC = false) : nmdV s = none := by
  have h32 : nmC 32 = false := by decide
  have h2 : s = a ++ ([32] ++ r) := by
    rcases cut_cases s [32] with ⟨a', r', g1, g2⟩ | ⟨g1, _⟩
    · rw [h1] at g1; simp at g1; rw [g1.1, g1.2]; exact g2
    · rw [h1] at g1; simp at g1
  rcases cut_cases s [32, 40] with ⟨a', r', h1', h2'⟩ | ⟨h1', _⟩
  · rw [nmd_eq h1', if_pos]
    cases hh : a'.all nmC with
    | false => exact .inr rfl
    | true =>
      have e : cut s [32] = (a', 40 :: r', true) := by rw [h2']; exact cut_at (t := []) (nm_no hh h32)
      rw [h1] at e
      simp only [Prod.mk.injEq] at e
      rw [← e.1, ← hh, ← e.1]
      rcases ha with h | h
      · exact .inl h
      · rw [← e.1] at hh; rw [h] at hh; cases hh
  · rw [nmd_eq h1', if_pos]
    right
    rw [Bool.eq_false_iff]; intro q
    exact nm_no q h32 (by rw [h2]; simp)
/-- the bracket's inside -/
theorem inner_eq (r : Bs) : (((cut r [41]).2.2 = true ∧ (cut r [41]).2.1 = [] ∧ (cut r [41]).1 ≠ []) ↔ ¬ ((40 :: r : Bs).length < 3 ∨ (40 :: r : Bs).head? ≠ some 40 ∨ indexByte (40 :: r) 41 ≠ ((40 :: r : Bs).length : Int) - 1)) ∧
    ((cut r [41]).2.2 = true ∧ (cut r [41]).2.1 = [] → (((40 :: r : Bs).take ((40 :: r : Bs).length - 1)).drop 1) = (cut r [41]).1) := by
  have back : indexByte (40 :: r) 41 = ((40 :: r : Bs).length : Int) - 1 → ∃ i, r = i ++ [41] ∧ cut r [41] = (i, [], true) := fun c3 => by
    obtain ⟨i', e1, e2⟩ := ib_last c3 (by simp)
    cases i' with
    | nil => simp at e1
    | cons y i' =>
      simp at e1
      have := cut_at (a := i') (c := 41) (t := []) (r := []) (by simp at e2; exact e2.2)
      exact ⟨i', e1.2, by rw [e1.2]; simpa using this⟩
  rcases cut_cases r [41] with ⟨i, q, g1, g2⟩ | ⟨g1, g2⟩
  · rw [g1]
    simp only [true_and]
    refine ⟨⟨fun ⟨hq, hi⟩ => ?_, fun hc => ?_⟩, fun hq => ?_⟩
    · subst hq
      have hi2 : 41 ∉ i := fun m => by
        obtain ⟨u, v, hv, hn⟩ := first41 m
        have : cut r [41] = (u, v ++ [41], true) := by
          rw [g2, hv]
          have := cut_at (a := u) (c := 41) (t := []) (r := v ++ [41]) hn
          simpa using this
        rw [g1] at this
        simp at this
      have hib := ib_app (i := 40 :: i) (by simp [hi2])
      have er : (40 :: r : Bs) = (40 :: i) ++ [41] := by rw [g2]; simp
      have hlen : 1 ≤ i.length := List.length_pos_iff.2 hi
      rw [er]
      rintro (q | q | q)
      · simp at q; omega
      · simp at q
      · exact q hib
    · have c1 : ¬ (40 :: r : Bs).length < 3 := fun h => hc (.inl h)
      have c3 : indexByte (40 :: r) 41 = ((40 :: r : Bs).length : Int) - 1 := Decidable.byContradiction fun h => hc (.inr (.inr h))
      obtain ⟨i', e1, e2⟩ := back c3
      rw [g1] at e2
      simp only [Prod.mk.injEq] at e2
      refine ⟨e2.2.1, fun hi => ?_⟩
      rw [← e2.1, hi] at e1
      rw [e1] at c1
      simp at c1
    · subst hq; rw [g2]; simp
  · rw [g1]
    simp only [Bool.false_eq_true, false_and, false_iff, Decidable.not_not, and_true, false_implies]
    refine .inr (.inr fun c3 => ?_)
    obtain ⟨i', e1, e2⟩ := back c3
    rw [g1] at e2
    simp at e2
/-- the two ways to read a line's rest are one -/
theorem spl_nmd (s : Bs) (br : Bool) : (match nmdV s with | some (n, i, b) => if br = true ∧ b = false then (splV s br).2.2 = false else splV s br = (n, i, true) | none => (splV s br).2.2 = false) := by
  have h32 : nmC 32 = false := by decide
  rcases cut_cases s [32] with ⟨a, r, h1, h2⟩ | ⟨h1, h2⟩
  · by_cases ha : a = [] ∨ a.all nmC = false
    · rw [nmd_name h1 ha, spl_eq br h1, if_pos ha]
    · by_cases hr : r.head? = some 40
      · obtain ⟨r, rfl⟩ : ∃ r', r = 40 :: r' := by
          cases r with
          | nil => simp at hr
          | cons x r => simp at hr; exact ⟨r, by rw [hr]⟩
        have ha2 : a.all nmC = true := by cases h : a.all nmC <;> simp [h] at ha ⊢
        have e : cut s [32, 40] = (a, r, true) := by rw [h2]; exact cut_at (t := [40]) (nm_no ha2 h32)
        obtain ⟨i1, i2⟩ := inner_eq r
        have hN := nmd_eq e
        have hS := spl_eq br h1
        rw [if_neg ha, if_neg (by simp)] at hN hS
        by_cases hc : (cut r [41]).2.2 = true ∧ (cut r [41]).2.1 = [] ∧ (cut r [41]).1 ≠ []
        · rw [if_pos hc] at hN
          rw [if_neg (i1.1 hc), i2 ⟨hc.1, hc.2.1⟩] at hS
          rw [hN, hS]
          simp
        · rw [if_neg hc] at hN
          rw [if_pos (Decidable.byContradiction fun q => hc (i1.2 q))] at hS
          rw [hN, hS]
      · rw [nmd_bad h1 hr, spl_eq br h1, if_neg ha, if_neg (by simp), if_pos (.inr (.inl hr))]
  · have hno : 32 ∉ s := fun q => by
      obtain ⟨k, hk⟩ := List.getElem?_of_mem q
      have hlt : k < s.length := (List.getElem?_eq_some_iff.1 hk).1
      have := h2 k (by omega)
      unfold occAt at this
      rw [List.drop_eq_getElem_cons hlt] at this
      rw [List.getElem?_eq_getElem hlt] at hk
      rw [Option.some.inj hk] at this
      simp at this
    have hN := nmd_eq (cut_no (t := [40]) hno)
    have hS := spl_eq br h1
    by_cases ha : s = [] ∨ s.all nmC = false
    · rw [if_pos ha] at hN hS
      rw [hN, hS]
    · rw [if_neg ha, if_pos rfl] at hN hS
      rw [hN, hS]
      cases br <;> simp
end Go.Lk

namespace Go.Proofs.YtchnagdaljblnaaGreatDoor
open Go.Eng Go.Wh Go.Ver Go.Lk
set_option maxRecDepth 20000
set_option linter.unusedSimpArgs false
set_option linter.unusedVariables false
attribute [local irreducible] AG CallA CallT AWp PCall ACall AgC
@[go_sem] abbrev cB (b : UInt8) : List D := [.v (.int .u8 b.toNat)]
/-- needs and picks -/
@[go_sem] abbrev cP (x : Prs) : List D := [dS x.1, dS x.2]
@[go_sem] abbrev dP (x : Prs) : D := .agg [dS x.1, dS x.2]
@[go_sem] abbrev dPs (l : List Prs) : D := .sl 2 (l.map cP)
@[go_sem] abbrev dNs (l : List (List Prs)) : D := .sl 1 (l.map fun n => [dPs n])
@[go_sem] abbrev dLk (L : Lck) : D := .agg [dPs L.1, dNs L.2.1, dPs L.2.2]
theorem ba_drop (s : List UInt8) (n : Nat) : ({ data := s.toArray } : ByteArray).extract n s.length = { data := (s.drop n).toArray } := by
  apply ByteArray.ext
  simp
  rw [List.take_of_length_le (by simp)]
theorem hasPre1 (s p : List UInt8) (hs : s.length ≤ 9223372036854775807) (hp : p.length ≤ 9223372036854775807) : PCall Tryz.prog 157 [dS s, dS p] fun r => r = dB (p.isPrefixOf s) := by 
  refine pcall_of Tryz.func157 rfl rfl Tryz.ntmps157 (rs := [.tmp 4]) (tys := [4]) rfl rfl (by simp) ?_
  have h1 : p.length ≤ s.length → (s.take p.length = p ↔ p.isPrefixOf s = true) := fun h => by
    rw [List.isPrefixOf_iff_prefix, List.prefix_iff_eq_take]; exact eq_comm
  have h2 : ¬ p.length ≤ s.length → p.isPrefixOf s = false := fun h => by
    rw [Bool.eq_false_iff]; intro q
    exact h (List.isPrefixOf_iff_prefix.1 q).length_le
  generalize p.isPrefixOf s = b at *
  (refine awp_sr fun KK hKK => ?_; simp [go_sem]; ((repeat' (first|(refine ag_x ?_;simp [go_sem])|intro _|refine And.intro ?_ ?_|(apply hKK;clear hKK KK)));all_goals first|refine Hold.mk ?_|omega|with_reducible assumption|(simp only [InR] at *;omega)|skip))
  by_cases h : p.length ≤ s.length
  · have h' : (p.length : Int) ≤ s.length := by omega
    have h1 := h1 h
    (refine awp_sr fun KK hKK => ?_; simp [go_sem, h']; ((repeat' (first|(refine ag_x ?_;simp [go_sem, h'])|intro _|refine And.intro ?_ ?_|(apply hKK;clear hKK KK)));all_goals first|refine Hold.mk ?_|omega|with_reducible assumption|(simp only [InR] at *;omega)|skip))
    (refine awp_ret ?_; simp [go_sem])
    rw [Bool.eq_iff_iff, ← h1]
    simp
  · have h' : ¬ (p.length : Int) ≤ s.length := by omega
    (refine awp_sr fun KK hKK => ?_; simp [go_sem, h']; ((repeat' (first|(refine ag_false (by simp [go_sem, undef, h']) (by simp [go_sem]) ?_;simp [go_sem, h'])|intro _|refine And.intro ?_ ?_|(apply hKK;clear hKK KK)));all_goals first|refine Hold.mk ?_|omega|with_reducible assumption|(simp only [InR] at *;omega)|skip))
    (refine awp_ret ?_; simp [go_sem, h2 h])
theorem hasPre_spec (s p : List UInt8) (hs : s.length ≤ 9223372036854775807) (hp : p.length ≤ 9223372036854775807) : PCall Tryz.prog 110 [dS s, dS p] fun r => r = dB (p.isPrefixOf s) := by
  refine pcall_of Tryz.func110 rfl rfl Tryz.ntmps110 (rs := [.tmp 4]) (tys := [4]) rfl rfl (by simp) ?_
  (refine awp_sr fun KK hKK => ?_; simp [go_sem]; ((repeat' (first|(refine ag_x ?_;simp [go_sem])|intro _|refine And.intro ?_ ?_|(apply hKK;clear hKK KK)));all_goals first|refine Hold.mk ?_|omega|with_reducible assumption|(simp only [InR] at *;omega)|skip))
  (refine awp_sr fun KK hKK => ?_; simp [go_sem]; ((repeat' (first|(refine ag_x ?_;simp [go_sem])|intro _|refine And.intro ?_ ?_|(apply hKK;clear hKK KK)));all_goals first|refine Hold.mk ?_|omega|with_reducible assumption|(simp only [InR] at *;omega)|skip))
  ((try refine CallT.toA ?_); refine callT_m (by first | exact .inl ⟨rfl, rfl⟩ | exact .inr rfl) (by simp [go_sem]) ?_; intro args ha; simp [go_sem] at ha; subst ha; refine ⟨_, (hasPre1 s p hs hp), ?_⟩; rintro _ rfl; simp [go_sem]; ((repeat' (first|(refine ag_x ?_;simp [go_sem])|intro _|refine And.intro ?_ ?_|(apply hKK;clear hKK KK)));all_goals first|refine Hold.mk ?_|omega|with_reducible assumption|(simp only [InR] at *;omega)|skip))
  (refine awp_ret ?_; simp [go_sem])
theorem cutPre1 (s p : List UInt8) (hs : s.length ≤ 9223372036854775807) (hp : p.length ≤ 9223372036854775807) : PCall Tryz.prog 153 [dS s, dS p] fun r => r = .tup [dS (if p.isPrefixOf s = true then s.drop p.length else s), dB (p.isPrefixOf s)] := by 
  refine pcall_of Tryz.func153 rfl rfl Tryz.ntmps153 (rs := [.tmp 4, .tmp 5]) (tys := [9, 4]) rfl rfl (by simp) ?_
  have H := hasPre1 s p hs hp
  have hle : p.isPrefixOf s = true → p.length ≤ s.length := fun q => (List.isPrefixOf_iff_prefix.1 q).length_le
  generalize p.isPrefixOf s = b at *
  (refine awp_sr fun KK hKK => ?_; simp [go_sem]; ((repeat' (first|(refine ag_x ?_;simp [go_sem])|intro _|refine And.intro ?_ ?_|(apply hKK;clear hKK KK)));all_goals first|refine Hold.mk ?_|omega|with_reducible assumption|(simp only [InR] at *;omega)|skip))
  refine awp_seq_k fun K1 hK1 => ?_
  (refine awp_sr fun KK hKK => ?_; simp [go_sem]; ((repeat' (first|(refine ag_x ?_;simp [go_sem])|intro _|refine And.intro ?_ ?_|(apply hKK;clear hKK KK)));all_goals first|refine Hold.mk ?_|omega|with_reducible assumption|(simp only [InR] at *;omega)|skip))
  ((try refine CallT.toA ?_); refine callT_m (by first | exact .inl ⟨rfl, rfl⟩ | exact .inr rfl) (by simp [go_sem]) ?_; intro args ha; simp [go_sem] at ha; subst ha; refine ⟨_, H, ?_⟩; rintro _ rfl; simp [go_sem]; ((repeat' (first|(refine ag_x ?_;simp [go_sem])|intro _|refine And.intro ?_ ?_|(apply hKK;clear hKK KK)));all_goals first|refine Hold.mk ?_|omega|with_reducible assumption|(simp only [InR] at *;omega)|skip))
  (refine awp_if fun T F hT hF => ?_; simp [go_sem]; refine BR.intro (fun h2 => hT ?_) (fun h2 => hF ?_); all_goals clear hT hF T F; try simp at h2)
  · (refine awp_sr fun KK hKK => ?_; simp [go_sem]; ((repeat' (first|(refine ag_x ?_;simp [go_sem])|intro _|refine And.intro ?_ ?_|(apply hKK;clear hKK KK)));all_goals first|refine Hold.mk ?_|omega|with_reducible assumption|(simp only [InR] at *;omega)|skip))
    (refine awp_ret ?_; simp [go_sem, h2])
  · have := hle h2
    refine awp_skip ?_
    refine hK1 _ ?_; clear hK1
    (refine awp_sr fun KK hKK => ?_; simp [go_sem]; ((repeat' (first|(refine ag_x ?_;simp [go_sem])|intro _|refine And.intro ?_ ?_|(apply hKK;clear hKK KK)));all_goals first|refine Hold.mk ?_|omega|with_reducible assumption|(simp only [InR] at *;omega)|skip))
    (refine awp_ret ?_; simp [go_sem, h2, ba_drop])
theorem cutPre_spec (s p : List UInt8) (hs : s.length ≤ 9223372036854775807) (hp : p.length ≤ 9223372036854775807) : PCall Tryz.prog 104 [dS s, dS p] fun r => r = .tup [dS (if p.isPrefixOf s = true then s.drop p.length else s), dB (p.isPrefixOf s)] := by
  refine pcall_of Tryz.func104 rfl rfl Tryz.ntmps104 (rs := [.tmp 4, .tmp 5]) (tys := [9, 4]) rfl rfl (by simp) ?_
  (refine awp_sr fun KK hKK => ?_; simp [go_sem]; ((repeat' (first|(refine ag_x ?_;simp [go_sem])|intro _|refine And.intro ?_ ?_|(apply hKK;clear hKK KK)));all_goals first|refine Hold.mk ?_|omega|with_reducible assumption|(simp only [InR] at *;omega)|skip))
  (refine awp_sr fun KK hKK => ?_; simp [go_sem]; ((repeat' (first|(refine ag_x ?_;simp [go_sem])|intro _|refine And.intro ?_ ?_|(apply hKK;clear hKK KK)));all_goals first|refine Hold.mk ?_|omega|with_reducible assumption|(simp only [InR] at *;omega)|skip))
  ((try refine CallT.toA ?_); refine callT_m (by first | exact .inl ⟨rfl, rfl⟩ | exact .inr rfl) (by simp [go_sem]) ?_; intro args ha; simp [go_sem] at ha; subst ha; refine ⟨_, (cutPre1 s p hs hp), ?_⟩; rintro _ rfl; simp [go_sem]; ((repeat' (first|(refine ag_x ?_;simp [go_sem])|intro _|refine And.intro ?_ ?_|(apply hKK;clear hKK KK)));all_goals first|refine Hold.mk ?_|omega|with_reducible assumption|(simp only [InR] at *;omega)|skip))
  (refine awp_ret ?_; simp [go_sem])
theorem trimPre1 (s p : List UInt8) (hs : s.length ≤ 9223372036854775807) (hp : p.length ≤ 9223372036854775807) : PCall Tryz.prog 159 [dS s, dS p] fun r => r = dS (if p.isPrefixOf s = true then s.drop p.length else s) := by 
  refine pcall_of Tryz.func159 rfl rfl Tryz.ntmps159 (rs := [.tmp 4]) (tys := [9]) rfl rfl (by simp) ?_
  have H := hasPre1 s p hs hp
  have hle : p.isPrefixOf s = true → p.length ≤ s.length := fun q => (List.isPrefixOf_iff_prefix.1 q).length_le
  generalize p.isPrefixOf s = b at *
  (refine awp_sr fun KK hKK => ?_; simp [go_sem]; ((repeat' (first|(refine ag_x ?_;simp [go_sem])|intro _|refine And.intro ?_ ?_|(apply hKK;clear hKK KK)));all_goals first|refine Hold.mk ?_|omega|with_reducible assumption|(simp only [InR] at *;omega)|skip))
  refine awp_seq_k fun K1 hK1 => ?_
  (refine awp_sr fun KK hKK => ?_; simp [go_sem]; ((repeat' (first|(refine ag_x ?_;simp [go_sem])|intro _|refine And.intro ?_ ?_|(apply hKK;clear hKK KK)));all_goals first|refine Hold.mk ?_|omega|with_reducible assumption|(simp only [InR] at *;omega)|skip))
  ((try refine CallT.toA ?_); refine callT_m (by first | exact .inl ⟨rfl, rfl⟩ | exact .inr rfl) (by simp [go_sem]) ?_; intro args ha; simp [go_sem] at ha; subst ha; refine ⟨_, H, ?_⟩; rintro _ rfl; simp [go_sem]; ((repeat' (first|(refine ag_x ?_;simp [go_sem])|intro _|refine And.intro ?_ ?_|(apply hKK;clear hKK KK)));all_goals first|refine Hold.mk ?_|omega|with_reducible assumption|(simp only [InR] at *;omega)|skip))
  (refine awp_if fun T F hT hF => ?_; simp [go_sem]; refine BR.intro (fun h2 => hT ?_) (fun h2 => hF ?_); all_goals clear hT hF T F; try simp at h2)
  · have := hle h2
    (refine awp_sr fun KK hKK => ?_; simp [go_sem]; ((repeat' (first|(refine ag_x ?_;simp [go_sem])|intro _|refine And.intro ?_ ?_|(apply hKK;clear hKK KK)));all_goals first|refine Hold.mk ?_|omega|with_reducible assumption|(simp only [InR] at *;omega)|skip))
    (refine awp_ret ?_; simp [go_sem, h2, ba_drop])
  · refine awp_skip ?_
    refine hK1 _ ?_; clear hK1
    (refine awp_sr fun KK hKK => ?_; simp [go_sem]; ((repeat' (first|(refine ag_x ?_;simp [go_sem])|intro _|refine And.intro ?_ ?_|(apply hKK;clear hKK KK)));all_goals first|refine Hold.mk ?_|omega|with_reducible assumption|(simp only [InR] at *;omega)|skip))
    (refine awp_ret ?_; simp [go_sem, h2])
theorem trimPre_spec (s p : List UInt8) (hs : s.length ≤ 9223372036854775807) (hp : p.length ≤ 9223372036854775807) : PCall Tryz.prog 112 [dS s, dS p] fun r => r = dS (if p.isPrefixOf s = true then s.drop p.length else s) := by
  refine pcall_of Tryz.func112 rfl rfl Tryz.ntmps112 (rs := [.tmp 4]) (tys := [9]) rfl rfl (by simp) ?_
  (refine awp_sr fun KK hKK => ?_; simp [go_sem]; ((repeat' (first|(refine ag_x ?_;simp [go_sem])|intro _|refine And.intro ?_ ?_|(apply hKK;clear hKK KK)));all_goals first|refine Hold.mk ?_|omega|with_reducible assumption|(simp only [InR] at *;omega)|skip))
  (refine awp_sr fun KK hKK => ?_; simp [go_sem]; ((repeat' (first|(refine ag_x ?_;simp [go_sem])|intro _|refine And.intro ?_ ?_|(apply hKK;clear hKK KK)));all_goals first|refine Hold.mk ?_|omega|with_reducible assumption|(simp only [InR] at *;omega)|skip))
  ((try refine CallT.toA ?_); refine callT_m (by first | exact .inl ⟨rfl, rfl⟩ | exact .inr rfl) (by simp [go_sem]) ?_; intro args ha; simp [go_sem] at ha; subst ha; refine ⟨_, (trimPre1 s p hs hp), ?_⟩; rintro _ rfl; simp [go_sem]; ((repeat' (first|(refine ag_x ?_;simp [go_sem])|intro _|refine And.intro ?_ ?_|(apply hKK;clear hKK KK)));all_goals first|refine Hold.mk ?_|omega|with_reducible assumption|(simp only [InR] at *;omega)|skip))
  (refine awp_ret ?_; simp [go_sem])
theorem isName_spec (s : List UInt8) (hl : s.length ≤ 1000000000) : PCall Tryz.prog 80 [dS s] fun r => r = dB (nameV s) := by 
  refine pcall_of Tryz.func80 rfl rfl Tryz.ntmps80 (rs := [.tmp 2]) (tys := [4]) rfl rfl (by simp) ?_
  have hst := fun n c => @nmTo_step s n c
  have hbad := fun n (h : nmTo s n = false) (hn : n ≤ s.length) => nmTo_bad h s.length hn
  have hz : nmTo s 0 = true := rfl
  rw [nameV_nm]
  (refine awp_sr fun KK hKK => ?_; simp [go_sem]; ((repeat' (first|(refine ag_x ?_;simp [go_sem])|intro _|refine And.intro ?_ ?_|(apply hKK;clear hKK KK)));all_goals first|refine Hold.mk ?_|omega|with_reducible assumption|(simp only [InR] at *;omega)|skip))
  refine awp_seq_k fun K1 hK1 => ?_
  (refine awp_sr fun KK hKK => ?_; simp [go_sem]; ((repeat' (first|(refine ag_x ?_;simp [go_sem])|intro _|refine And.intro ?_ ?_|(apply hKK;clear hKK KK)));all_goals first|refine Hold.mk ?_|omega|with_reducible assumption|(simp only [InR] at *;omega)|skip))
  refine awp_block ?_
  refine awp_loop (σ := Nat) (fun i => ⟨[(0, dS s), (7, .sl 1 (s.map cB)), (8, dI s.length), (9, dI i)], []⟩) (fun i => i ≤ s.length ∧ nmTo s i = true) (fun i => s.length - i) 0 ?_ ?_ ?_
  · (refine cov_of ?_ ?_ <;> simp [go_sem])
  · exact ⟨by omega, hz⟩
  rintro i ⟨hi, hn⟩
  (refine awp_sr fun KK hKK => ?_; simp [go_sem]; ((repeat' (first|(refine ag_x ?_;simp [go_sem])|intro _|refine And.intro ?_ ?_|(apply hKK;clear hKK KK)));all_goals first|refine Hold.mk ?_|omega|with_reducible assumption|(simp only [InR] at *;omega)|skip))
  refine awp_seq_k fun K2 hK2 => ?_
  (refine awp_if fun T F hT hF => ?_; simp [go_sem]; refine BR.intro (fun h3 => hT ?_) (fun h3 => hF ?_); all_goals clear hT hF T F; try simp at h3)
  · refine awp_skip ?_
    refine hK2 _ ?_; clear hK2
    obtain ⟨c, hx⟩ : ∃ c, s[i]? = some c := ⟨_, List.getElem?_eq_getElem (by omega)⟩
    have hst1 := hst i c hx
    rw [hn] at hst1
    refine awp_seq_k fun K4 hK4 => ?_
    refine awp_block ?_
    (refine awp_sr fun KK hKK => ?_; simp [go_sem, hx]; ((repeat' (first|(refine ag_x ?_;simp [go_sem, hx])|intro _|refine And.intro ?_ ?_|(apply hKK;clear hKK KK)));all_goals first|refine Hold.mk ?_|omega|with_reducible assumption|(simp only [InR] at *;omega)|skip))
    (refine awp_sr fun KK hKK => ?_; simp [go_sem]; ((repeat' (first|(refine ag_x ?_;simp [go_sem])|intro _|refine And.intro ?_ ?_|(apply hKK;clear hKK KK)));all_goals first|refine Hold.mk ?_|omega|with_reducible assumption|(simp only [InR] at *;omega)|skip))
    (refine awp_sr fun KK hKK => ?_; simp [go_sem]; ((repeat' (first|(refine ag_x ?_;simp [go_sem])|intro _|refine And.intro ?_ ?_|(apply hKK;clear hKK KK)));all_goals first|refine Hold.mk ?_|omega|with_reducible assumption|(simp only [InR] at *;omega)|skip))
    (refine awp_if fun T F hT hF => ?_; simp [go_sem]; refine BR.intro (fun h5 => hT ?_) (fun h5 => hF ?_); all_goals clear hT hF T F; try simp at h5)
    · have hna : nmAt i c = false := by
        simp [nmAt, nmC, isL, isD]
        omega
      rw [hna] at hst1
      (refine awp_sr fun KK hKK => ?_; simp [go_sem]; ((repeat' (first|(refine ag_x ?_;simp [go_sem])|intro _|refine And.intro ?_ ?_|(apply hKK;clear hKK KK)));all_goals first|refine Hold.mk ?_|omega|with_reducible assumption|(simp only [InR] at *;omega)|skip))
      (refine awp_ret ?_; simp [go_sem, hbad (i + 1) hst1 (by omega)])
    · have hna : nmAt i c = true := by
        simp [nmAt, nmC, isL, isD]
        omega
      rw [hna] at hst1
      refine awp_skip ?_
      refine hK4 _ ?_; clear hK4
      (refine awp_r fun KK hKK => ?_; simp [go_sem]; ((repeat' (first|(refine ag_x ?_;simp [go_sem])|intro _|refine And.intro ?_ ?_|(apply hKK;clear hKK KK)));all_goals first|refine Hold.mk ?_|omega|with_reducible assumption|(simp only [InR] at *;omega)|skip))
      refine ⟨i + 1, ?_, ⟨by omega, hst1⟩, by omega⟩
      (refine cov_of ?_ ?_ <;> simp [go_sem])
  · refine awp_exit ?_
    simp only [go_sem]
    refine hK1 _ ?_; clear hK1
    have : i = s.length := by omega
    subst this
    rw [hn]
    by_cases h : s = []
    · (refine awp_sr fun KK hKK => ?_; simp [go_sem, h]; ((repeat' (first|(refine ag_false (by simp [go_sem, undef, h]) (by simp [go_sem]) ?_;simp [go_sem, h])|intro _|refine And.intro ?_ ?_|(apply hKK;clear hKK KK)));all_goals first|refine Hold.mk ?_|omega|with_reducible assumption|(simp only [InR] at *;omega)|skip))
      (refine awp_ret ?_; simp [go_sem, h])
    · (refine awp_sr fun KK hKK => ?_; simp [go_sem, h]; ((repeat' (first|(refine ag_x ?_;simp [go_sem, h])|intro _|refine And.intro ?_ ?_|(apply hKK;clear hKK KK)));all_goals first|refine Hold.mk ?_|omega|with_reducible assumption|(simp only [InR] at *;omega)|skip))
      (refine awp_ret ?_; simp [go_sem])
      rw [Bool.eq_iff_iff]
      simp [h]
      omega
theorem sum_spec (s : List UInt8) (hl : s.length ≤ 1000000000) : PCall Tryz.prog 35 [dS s] fun r => r = dI (sumV s s.length) := by 
  refine pcall_of Tryz.func35 rfl rfl Tryz.ntmps35 (rs := [.tmp 2]) (tys := [3]) rfl rfl (by simp) ?_
  have hlt := sumV_lt s
  have hst : ∀ (n : Nat) (c : UInt8), s[n]? = some c → ((sumV s (n + 1) : Nat) : Int) = ((sumV s n : Int) + (c.toNat : Int) * (((n : Int) + 1).tmod 1000003)).tmod 1000003 := fun n c h => by
    show (((sumV s n + (s.getD n 0).toNat * ((n + 1) % 1000003)) % 1000003 : Nat) : Int) = _
    have e : s.getD n 0 = c := by simp [List.getD, h]
    have h1 : ((n : Int) + 1).tmod 1000003 = ((n : Int) + 1) % 1000003 := Int.tmod_eq_emod_of_nonneg (by omega)
    rw [e, h1, Int.tmod_eq_emod_of_nonneg (by
      have : 0 ≤ ((n : Int) + 1) % 1000003 := Int.emod_nonneg _ (by omega)
      have := Int.mul_nonneg (Int.natCast_nonneg c.toNat) this
      omega)]
    have e2 : ((c.toNat * ((n + 1) % 1000003) : Nat) : Int) = (c.toNat : Int) * (((n : Int) + 1) % 1000003) := by
      rw [Int.natCast_mul]
      have : (((n + 1) % 1000003 : Nat) : Int) = ((n : Int) + 1) % 1000003 := by omega
      rw [this]
    rw [← e2]
    omega
  have z : sumV s 0 = 0 := rfl
  generalize sumV s = sm at *
  (refine awp_sr fun KK hKK => ?_; simp [go_sem]; ((repeat' (first|(refine ag_x ?_;simp [go_sem])|intro _|refine And.intro ?_ ?_|(apply hKK;clear hKK KK)));all_goals first|refine Hold.mk ?_|omega|with_reducible assumption|(simp only [InR] at *;omega)|skip))
  (refine awp_sr fun KK hKK => ?_; simp [go_sem]; ((repeat' (first|(refine ag_x ?_;simp [go_sem])|intro _|refine And.intro ?_ ?_|(apply hKK;clear hKK KK)));all_goals first|refine Hold.mk ?_|omega|with_reducible assumption|(simp only [InR] at *;omega)|skip))
  refine awp_seq_k fun K1 hK1 => ?_
  (refine awp_sr fun KK hKK => ?_; simp [go_sem]; ((repeat' (first|(refine ag_x ?_;simp [go_sem])|intro _|refine And.intro ?_ ?_|(apply hKK;clear hKK KK)));all_goals first|refine Hold.mk ?_|omega|with_reducible assumption|(simp only [InR] at *;omega)|skip))
  refine awp_block ?_
  refine awp_loop (σ := Nat) (fun i => ⟨[(3, dI (sm i)), (7, .sl 1 (s.map cB)), (8, dI s.length), (9, dI i)], []⟩) (fun i => i ≤ s.length) (fun i => s.length - i) 0 ?_ ?_ ?_
  · (refine cov_of ?_ ?_ <;> simp [go_sem, z])
  · omega
  intro i hi
  (refine awp_sr fun KK hKK => ?_; simp [go_sem]; ((repeat' (first|(refine ag_x ?_;simp [go_sem])|intro _|refine And.intro ?_ ?_|(apply hKK;clear hKK KK)));all_goals first|refine Hold.mk ?_|omega|with_reducible assumption|(simp only [InR] at *;omega)|skip))
  refine awp_seq_k fun K2 hK2 => ?_
  (refine awp_if fun T F hT hF => ?_; simp [go_sem]; refine BR.intro (fun h3 => hT ?_) (fun h3 => hF ?_); all_goals clear hT hF T F; try simp at h3)
  · refine awp_skip ?_
    refine hK2 _ ?_; clear hK2
    obtain ⟨c, hx⟩ : ∃ c, s[i]? = some c := ⟨_, List.getElem?_eq_getElem (by omega)⟩
    have hst1 := hst i c hx
    have hlt1 := hlt i
    have hc : c.toNat < 256 := c.toNat_lt
    have hm1 : 0 ≤ ((i : Int) + 1).tmod 1000003 ∧ ((i : Int) + 1).tmod 1000003 < 1000003 := by
      rw [Int.tmod_eq_emod_of_nonneg (by omega)]
      exact ⟨Int.emod_nonneg _ (by omega), Int.emod_lt_of_pos _ (by omega)⟩
    have hm2 : (c.toNat : Int) * (((i : Int) + 1).tmod 1000003) ≤ 255 * 1000003 := Int.mul_le_mul (by omega) (by omega) (by omega) (by omega)
    have hm3 : 0 ≤ (c.toNat : Int) * (((i : Int) + 1).tmod 1000003) := Int.mul_nonneg (by omega) (by omega)
    generalize sm i = n at *
    refine awp_seq_k fun K4 hK4 => ?_
    refine awp_block ?_
    (refine awp_sr fun KK hKK => ?_; simp [go_sem, hx]; ((repeat' (first|(refine ag_x ?_;simp [go_sem, hx])|intro _|refine And.intro ?_ ?_|(apply hKK;clear hKK KK)));all_goals first|refine Hold.mk ?_|omega|with_reducible assumption|(simp only [InR] at *;omega)|skip))
    (refine awp_r fun KK hKK => ?_; simp [go_sem]; ((repeat' (first|(refine ag_x ?_;simp [go_sem])|intro _|refine And.intro ?_ ?_|(apply hKK;clear hKK KK)));all_goals first|refine Hold.mk ?_|omega|with_reducible assumption|(simp only [InR] at *;omega)|skip))
    refine hK4 _ ?_; clear hK4
    (refine awp_r fun KK hKK => ?_; simp [go_sem]; ((repeat' (first|(refine ag_x ?_;simp [go_sem])|intro _|refine And.intro ?_ ?_|(apply hKK;clear hKK KK)));all_goals first|refine Hold.mk ?_|omega|with_reducible assumption|(simp only [InR] at *;omega)|skip))
    refine ⟨i + 1, ?_, by omega, by omega⟩
    rw [hst1]
    (refine cov_of ?_ ?_ <;> simp [go_sem])
  · refine awp_exit ?_
    simp only [go_sem]
    refine hK1 _ ?_; clear hK1
    have : i = s.length := by omega
    subst this
    (refine awp_sr fun KK hKK => ?_; simp [go_sem]; ((repeat' (first|(refine ag_x ?_;simp [go_sem])|intro _|refine And.intro ?_ ?_|(apply hKK;clear hKK KK)));all_goals first|refine Hold.mk ?_|omega|with_reducible assumption|(simp only [InR] at *;omega)|skip))
    (refine awp_ret ?_; simp [go_sem])
theorem rsum_spec (s : List UInt8) (hl : s.length ≤ 1000000000) : PCall Tryz.prog 14 [dS s] fun r => r = dI (sumV s s.length) := by 
  refine pcall_of Tryz.func14 rfl rfl Tryz.ntmps14 (rs := [.tmp 2]) (tys := [3]) rfl rfl (by simp) ?_
  have hlt := sumV_lt s
  have hst : ∀ (n : Nat) (c : UInt8), s[n]? = some c → ((sumV s (n + 1) : Nat) : Int) = ((sumV s n : Int) + (c.toNat : Int) * ((n : Int) + 1)).tmod 1000003 := fun n c h => by
    rw [sumV_ref]
    have e : s.getD n 0 = c := by simp [List.getD, h]
    rw [e, Int.tmod_eq_emod_of_nonneg (by
      have := Int.mul_nonneg (Int.natCast_nonneg c.toNat) (show (0 : Int) ≤ (n : Int) + 1 by omega)
      omega)]
    have e2 : ((c.toNat * (n + 1) : Nat) : Int) = (c.toNat : Int) * ((n : Int) + 1) := by
      rw [Int.natCast_mul]; rfl
    rw [← e2]
    omega
  have z : sumV s 0 = 0 := rfl
  generalize sumV s = sm at *
  (refine awp_sr fun KK hKK => ?_; simp [go_sem]; ((repeat' (first|(refine ag_x ?_;simp [go_sem])|intro _|refine And.intro ?_ ?_|(apply hKK;clear hKK KK)));all_goals first|refine Hold.mk ?_|omega|with_reducible assumption|(simp only [InR] at *;omega)|skip))
  (refine awp_sr fun KK hKK => ?_; simp [go_sem]; ((repeat' (first|(refine ag_x ?_;simp [go_sem])|intro _|refine And.intro ?_ ?_|(apply hKK;clear hKK KK)));all_goals first|refine Hold.mk ?_|omega|with_reducible assumption|(simp only [InR] at *;omega)|skip))
  refine awp_seq_k fun K1 hK1 => ?_
  (refine awp_sr fun KK hKK => ?_; simp [go_sem]; ((repeat' (first|(refine ag_x ?_;simp [go_sem])|intro _|refine And.intro ?_ ?_|(apply hKK;clear hKK KK)));all_goals first|refine Hold.mk ?_|omega|with_reducible assumption|(simp only [InR] at *;omega)|skip))
  refine awp_block ?_
  refine awp_loop (σ := Nat) (fun i => ⟨[(0, dS s), (3, dI (sm i)), (4, dI i)], []⟩) (fun i => i ≤ s.length) (fun i => s.length - i) 0 ?_ ?_ ?_
  · (refine cov_of ?_ ?_ <;> simp [go_sem, z])
  · omega
  intro i hi
  refine awp_seq_k fun K2 hK2 => ?_
  (refine awp_sr fun KK hKK => ?_; simp [go_sem]; ((repeat' (first|(refine ag_x ?_;simp [go_sem])|intro _|refine And.intro ?_ ?_|(apply hKK;clear hKK KK)));all_goals first|refine Hold.mk ?_|omega|with_reducible assumption|(simp only [InR] at *;omega)|skip))
  (refine awp_if fun T F hT hF => ?_; simp [go_sem]; refine BR.intro (fun h3 => hT ?_) (fun h3 => hF ?_); all_goals clear hT hF T F; try simp at h3)
  · refine awp_skip ?_
    refine hK2 _ ?_; clear hK2
    obtain ⟨c, hx⟩ : ∃ c, s[i]? = some c := ⟨_, List.getElem?_eq_getElem (by omega)⟩
    have hst1 := hst i c hx
    have hlt1 := hlt i
    have hc : c.toNat < 256 := c.toNat_lt
    have hm2 : (c.toNat : Int) * ((i : Int) + 1) ≤ 255 * 1000000001 := Int.mul_le_mul (by omega) (by omega) (by omega) (by omega)
    have hm3 : 0 ≤ (c.toNat : Int) * ((i : Int) + 1) := Int.mul_nonneg (by omega) (by omega)
    generalize sm i = n at *
    refine awp_seq_k fun K4 hK4 => ?_
    refine awp_block ?_
    (refine awp_r fun KK hKK => ?_; simp [go_sem, hx]; ((repeat' (first|(refine ag_x ?_;simp [go_sem, hx])|intro _|refine And.intro ?_ ?_|(apply hKK;clear hKK KK)));all_goals first|refine Hold.mk ?_|omega|with_reducible assumption|(simp only [InR] at *;omega)|skip))
    refine hK4 _ ?_; clear hK4
    (refine awp_r fun KK hKK => ?_; simp [go_sem]; ((repeat' (first|(refine ag_x ?_;simp [go_sem])|intro _|refine And.intro ?_ ?_|(apply hKK;clear hKK KK)));all_goals first|refine Hold.mk ?_|omega|with_reducible assumption|(simp only [InR] at *;omega)|skip))
    refine ⟨i + 1, ?_, by omega, by omega⟩
    rw [hst1]
    (refine cov_of ?_ ?_ <;> simp [go_sem])
  · refine awp_exit ?_
    simp only [go_sem]
    refine hK1 _ ?_; clear hK1
    have : i = s.length := by omega
    subst this
    (refine awp_sr fun KK hKK => ?_; simp [go_sem]; ((repeat' (first|(refine ag_x ?_;simp [go_sem])|intro _|refine And.intro ?_ ?_|(apply hKK;clear hKK KK)));all_goals first|refine Hold.mk ?_|omega|with_reducible assumption|(simp only [InR] at *;omega)|skip))
    (refine awp_ret ?_; simp [go_sem])
end Go.Proofs.YtchnagdaljblnaaGreatDoor

set_option linter.unusedVariables false
set_option linter.unusedSimpArgs false
namespace Go.Proofs.YtchnagdaljblnaaGreatDoor
open Go.Eng Go.Wh Go.Ver Go.RowKit Go.Lk
set_option maxRecDepth 20000
attribute [local irreducible] AG CallA CallT AWp PCall ACall AgC
def Tryz.laysGw17_ren : Go.Shelf.Ren := ⟨fun | 15 => 154 | 17 => 105 | 20 => 201 | n => n, fun | 23 => 183 | n => n, fun | n => n⟩
theorem Tryz.laysGw17 : Go.Proofs.LaysGw.n17 Tryz.prog Tryz.laysGw17_ren := {
  mixed := by kernel_rfl
  f15 := Tryz.func154.trans (congrArg some (by kernel_rfl))
  f17 := Tryz.func105.trans (congrArg some (by kernel_rfl))
  f20 := Tryz.func201.trans (congrArg some (by kernel_rfl))
  t0 := Tryz.underlying0
  a0 := Tryz.isAgg0
  z0 := Tryz.sizeOf0
  v0 := Tryz.zeroValue0
  i0 := by kernel_rfl
  t3 := Tryz.underlying3
  a3 := Tryz.isAgg3
  z3 := Tryz.sizeOf3
  v3 := Tryz.zeroValue3
  i3 := by kernel_rfl
  t4 := Tryz.underlying4
  a4 := Tryz.isAgg4
  z4 := Tryz.sizeOf4
  v4 := Tryz.zeroValue4
  i4 := by kernel_rfl
  t9 := Tryz.underlying9
  a9 := Tryz.isAgg9
  z9 := Tryz.sizeOf9
  v9 := Tryz.zeroValue9
  i9 := by kernel_rfl
  t21 := Tryz.underlying21
  a21 := Tryz.isAgg21
  z21 := Tryz.sizeOf21
  v21 := Tryz.zeroValue21
  i21 := by kernel_rfl
  t23 := Tryz.underlying183
  a23 := Tryz.isAgg183
  z23 := Tryz.sizeOf183
  v23 := Tryz.zeroValue183
  i23 := by kernel_rfl }
theorem idxF_neg (p : Nat → Bool) (hp : ∀ r, 128 ≤ r → p r = true) (s : ByteArray) : ∀ (f pos : Nat), s.size ≤ pos + f → (decide (0 ≤ Lib.idxFuncFrom p true s f pos) = (s.data.toList.drop pos).any fun c => p c.toNat)
  | 0, pos, h => by
    have hl : s.data.toList.length = s.size := Array.length_toList
    rw [List.drop_eq_nil_of_le (by omega)]
    simp [Lib.idxFuncFrom]
  | f + 1, pos, h => by
    have hl : s.data.toList.length = s.size := Array.length_toList
    unfold Lib.idxFuncFrom
    by_cases hs : pos < s.size
    · rw [if_pos hs]
      have hs' : pos < s.data.toList.length := by omega
      rw [List.drop_eq_getElem_cons hs', List.any_cons]
      have e : s.data.toList[pos] = s[pos]'hs := by first | rfl | (rw [Array.getElem_toList]; rfl)
      rw [e]
      by_cases h1 : (s[pos]'hs).toNat < 128
      · rw [decode_ascii s pos hs h1]
        cases hq : p (s[pos]'hs).toNat with
        | true => simp
        | false =>
          simp only [Bool.false_eq_true, if_false, Bool.false_or]
          exact idxF_neg p hp s f (pos + 1) (by omega)
      · have h2 := (decode_high s pos hs (by omega)).1
        rw [hp _ h2, hp _ (show 128 ≤ (s[pos]'hs).toNat by omega), if_pos rfl, Bool.true_or, decide_eq_true_eq]
        omega
    · rw [if_neg hs, List.drop_eq_nil_of_le (by omega)]
      simp
theorem containsF_spec (s : List UInt8) (g : Nat) (eg : ∀ args w, (callFunc g args).run Tryz.prog w = .ok (.enter g args) w) (p : Nat → Bool) (hp : ∀ r, 128 ≤ r → p r = true) (hg : ∀ w, PredAt Tryz.prog g #[] encR p w) : PCall Tryz.prog 105 [dS s, .v (.func (.func g) #[] #[])] fun r => r = dB (s.any fun c => p c.toNat) := by
  refine pcall_below ⟨_, Tryz.func105, rfl, rfl⟩ fun C w us hc' hg' hr => ?_
  obtain rfl := repL_v (us := [.string ⟨s.toArray⟩, .func (.func g) #[] #[]]) hr
  refine (Any.strings_ContainsFunc Tryz.laysGw17 g #[] eg p ⟨s.toArray⟩ w (hg w)).mono ?_
  rintro e w' ⟨rfl, hb⟩
  have h := idxF_neg p hp ⟨s.toArray⟩ (ByteArray.size ⟨s.toArray⟩) 0 (by omega)
  refine ⟨_, _, rfl, ?_, .v _, hb⟩
  unfold Lib.idxFunc
  rw [h, List.drop_zero]
theorem digit_at (w : World) : PredAt Tryz.prog 106 #[] encR (fun r => decide (r < 48) || decide (57 < r)) w := fun W r _ => by
  unfold FnGives
  by_cases h1 : r < 48 <;> by_cases h2 : 57 < r
  all_goals
    have z1 : (r : Int) < 48 ↔ r < 48 := by omega
    have z2 : (57 : Int) < (r : Int) ↔ 57 < r := by omega
    go_enter Tryz.func106, Tryz.ntmps106
    go_wp2
    all_goals first | (exfalso; omega) | (go_ret; exact ⟨by simp [h1, h2], 0, rfl⟩)
def ltR (r : Nat) : Bool := (decide (97 ≤ r) && decide (r ≤ 122)) || (decide (48 ≤ r) && decide (r ≤ 57)) || decide (r = 95) || decide (r = 45)
theorem letter_gives (W : World) (r : Nat) : FnGives Tryz.prog 200 #[] #[encR r] (.bool (ltR r)) W := by
  unfold FnGives
  have z1 : (97 : Int) ≤ (r : Int) ↔ 97 ≤ r := by omega
  have z2 : (r : Int) ≤ 122 ↔ r ≤ 122 := by omega
  have z3 : (48 : Int) ≤ (r : Int) ↔ 48 ≤ r := by omega
  have z4 : (r : Int) ≤ 57 ↔ r ≤ 57 := by omega
  have z5 : (r : Int) = 95 ↔ r = 95 := by omega
  have z6 : (r : Int) = 45 ↔ r = 45 := by omega
  rcases (by omega : r < 45 ∨ r = 45 ∨ (45 < r ∧ r < 48) ∨ (48 ≤ r ∧ r ≤ 57) ∨ (57 < r ∧ r < 95) ∨ r = 95 ∨ r = 96 ∨ (97 ≤ r ∧ r ≤ 122) ∨ 122 < r) with h | h | h | h | h | h | h | h | h
  all_goals
    go_enter Tryz.func200, Tryz.ntmps200
    go_wp2
    all_goals first | (exfalso; omega) | (go_ret; exact ⟨congrArg (fun b => Ending.returned (Value.bool b)) (show (_ : Bool) = ltR r by (try subst h); unfold ltR; rw [Bool.eq_iff_iff]; simp only [Bool.or_eq_true, Bool.and_eq_true, decide_eq_true_eq, beq_iff_eq, z5, z6, reduceCtorEq, true_iff, false_iff, iff_true, iff_false, Int.reduceEq, or_true, true_or]; (try omega)), 0, rfl⟩)
theorem notLetter_at (w : World) : PredAt Tryz.prog 199 #[] encR (fun r => !ltR r) w := fun W r _ => by
  have hC := letter_gives W r
  unfold FnGives at hC
  unfold FnGives
  go_enter Tryz.func199, Tryz.ntmps199
  go_wp2_with (go_at_call 200; refine hC.mono ?_; rintro e w' ⟨rfl, q, rfl⟩)
  go_ret
  exact ⟨rfl, q, rfl⟩
theorem ltR_nm (c : UInt8) : ltR c.toNat = nmC c := by
  unfold ltR nmC isL isD
  rfl
theorem notName_spec (s : List UInt8) : PCall Tryz.prog 105 [dS s, .v (.func (.func 199) #[] #[])] fun r => r = dB (!s.all nmC) := by
  have h := containsF_spec s 199 (enters_of Tryz.func199 (by kernel_rfl) rfl) (fun r => !ltR r) (fun r hr => by
    have e : ltR r = false := by
      rw [← Bool.not_eq_true]; simp only [ltR, Bool.or_eq_true, Bool.and_eq_true, decide_eq_true_eq]; omega
    simp only [e]; rfl) notLetter_at
  simp only [ltR_nm] at h
  rw [show (!s.all nmC) = s.any fun c => !nmC c by rw [List.not_all_eq_any_not]]
  exact h
theorem notDigit_spec (s : List UInt8) : PCall Tryz.prog 105 [dS s, .v (.func (.func 106) #[] #[])] fun r => r = dB (!s.all isD) := by
  have h := containsF_spec s 106 (enters_of Tryz.func106 (by kernel_rfl) rfl) (fun r => decide (r < 48) || decide (57 < r)) (fun r hr => by
    simp only [Bool.or_eq_true, decide_eq_true_eq]; omega) digit_at
  rw [show (!s.all isD) = s.any fun c => decide (c.toNat < 48) || decide (57 < c.toNat) by
    rw [List.not_all_eq_any_not]
    congr 1
    funext c
    rw [Bool.eq_iff_iff]
    simp only [isD, Bool.not_eq_true', Bool.and_eq_false_iff, decide_eq_false_iff_not, Bool.or_eq_true, decide_eq_true_eq]
    omega]
  exact h
end Go.Proofs.YtchnagdaljblnaaGreatDoor

namespace Go.Proofs.YtchnagdaljblnaaGreatDoor
open Go.Eng Go.Wh Go.Ver Go.RowKit Go.Lk
set_option maxRecDepth 20000
set_option linter.unusedSimpArgs false
set_option linter.unusedVariables false
attribute [local irreducible] AG CallA CallT AWp PCall ACall AgC
theorem scontains_spec (s p : List UInt8) (hl : s.length < 4294967281) : PCall Tryz.prog 116 [dS s, dS p] fun r => r = dB (Lib.contains s p) := by
  refine pcall_below ⟨_, Tryz.func116, rfl, rfl⟩ fun C w us hc hg hr => ?_
  have hg : glOk w := hg
  obtain rfl := repL_v (us := [.string ⟨s.toArray⟩, .string ⟨p.toArray⟩]) hr
  obtain ⟨m, hm⟩ := hg.2
  refine (Tryz.strings_Contains ⟨s.toArray⟩ ⟨p.toArray⟩ m w (by simpa [ByteArray.size] using hl) hm).mono ?_
  rintro e w' ⟨rfl, rfl⟩
  exact ⟨_, _, rfl, rfl, .v _, Below.refl _ _⟩
def nmL : List UInt8 := [97, 98, 99, 100, 101, 102, 103, 104, 105, 106, 107, 108, 109, 110, 111, 112, 113, 114, 115, 116, 117, 118, 119, 120, 121, 122, 48, 49, 50, 51, 52, 53, 54, 55, 56, 57, 95, 45]
theorem nmL_nm (c : UInt8) : nmL.contains c = nmC c := by
  have h := UInt8.toNat_lt c
  unfold nmC isL isD nmL
  refine Bool.eq_iff_iff.2 ?_
  simp only [List.contains_iff_mem, List.mem_cons, List.mem_nil_iff, or_false, Bool.and_eq_true, Bool.or_eq_true, decide_eq_true_eq, ← UInt8.toNat_inj]
  simp
  omega
theorem trim_nm (l : List UInt8) : (Lib.trimS l nmL = []) ↔ l.all nmC = true := by
  rw [trimS_nil]
  simp only [nmL_nm]
theorem contains_L (c : UInt8) : Lib.contains abcL [c] = isL c := by
  unfold Lib.contains
  rw [Lib.index_one, ← abcL_isL, Lib.contains_iff_indexByte]
theorem risName_spec (s : List UInt8) (hl : s.length ≤ 1000000000) : PCall Tryz.prog 76 [dS s] fun r => r = dB (nameV s) := by 
  refine pcall_of Tryz.func76 rfl rfl Tryz.ntmps76 (rs := [.tmp 2]) (tys := [4]) rfl rfl (by simp) ?_
  have T1 := trimS_spec s nmL (by omega) (by decide) (by decide)
  have ht := trim_nm s
  cases s with
  | nil =>
    (refine awp_sr fun KK hKK => ?_; simp [go_sem]; ((repeat' (first|(refine ag_x ?_;simp [go_sem])|intro _|refine And.intro ?_ ?_|(apply hKK;clear hKK KK)));all_goals first|refine Hold.mk ?_|omega|with_reducible assumption|(simp only [InR] at *;omega)|skip))
    (refine awp_sr fun KK hKK => ?_; simp [go_sem]; ((repeat' (first|(refine ag_false (by simp [go_sem, undef]) (by simp [go_sem]) ?_;simp [go_sem])|intro _|refine And.intro ?_ ?_|(apply hKK;clear hKK KK)));all_goals first|refine Hold.mk ?_|omega|with_reducible assumption|(simp only [InR] at *;omega)|skip))
    (refine awp_ret ?_; simp [go_sem, nameV])
  | cons c r =>
    have C1 := scontains_spec abcL [c] (by decide)
    rw [contains_L] at C1
    have e1 : ({ data := (c :: r).toArray } : ByteArray).extract 0 1 = { data := [c].toArray } := by apply ByteArray.ext; simp
    have h1 : (1 : Int) ≤ (r.length : Int) + 1 := by omega
    by_cases h2 : r.length < 20
    · have h2' : ((r.length : Int) + 1 ≤ 20) := by omega
      generalize Lib.trimS (c :: r) nmL = a at *
      by_cases h3 : a = []
      · subst h3
        have h4 := ht.1 rfl
        (refine awp_sr fun KK hKK => ?_; simp [go_sem]; ((repeat' (first|(refine ag_x ?_;simp [go_sem])|intro _|refine And.intro ?_ ?_|(apply hKK;clear hKK KK)));all_goals first|refine Hold.mk ?_|omega|with_reducible assumption|(simp only [InR] at *;omega)|skip))
        (refine awp_sr fun KK hKK => ?_; simp [go_sem, h1, h2']; ((repeat' (first|(refine ag_x ?_;simp [go_sem, h1, h2'])|intro _|refine And.intro ?_ ?_|(apply hKK;clear hKK KK)));all_goals first|refine Hold.mk ?_|omega|with_reducible assumption|(simp only [InR] at *;omega)|skip))
        (refine agc_f (dS []) (by first | exact .inl ⟨rfl, rfl⟩ | exact .inr rfl) ?_ rfl ?_; (intro hc args ha; simp [go_sem] at ha; subst ha; exact T1); simp [go_sem, h1, h2']; ((repeat' (first|(refine ag_x ?_;simp [go_sem, h1, h2'])|intro _|refine And.intro ?_ ?_|(apply hKK;clear hKK KK)));all_goals first|refine Hold.mk ?_|omega|with_reducible assumption|(simp only [InR] at *;omega)|skip))
        (refine agc_f (dB (isL c)) (by first | exact .inl ⟨rfl, rfl⟩ | exact .inr rfl) ?_ rfl ?_; (intro hc args ha; simp [go_sem] at ha; subst ha; exact (by rw [e1]; exact C1)); simp [go_sem, h1, h2']; ((repeat' (first|(refine ag_x ?_;simp [go_sem, h1, h2'])|intro _|refine And.intro ?_ ?_|(apply hKK;clear hKK KK)));all_goals first|refine Hold.mk ?_|omega|with_reducible assumption|(simp only [InR] at *;omega)|skip))
        (refine awp_ret ?_; simp [go_sem])
        simp only [List.all_cons, Bool.and_eq_true] at h4
        simp [nameV, h4.2, h2]
      · have h4 : ¬ ((c :: r).all nmC = true) := fun q => h3 (ht.2 q)
        have h5 : nameV (c :: r) = false := by
          rw [← Bool.not_eq_true]
          intro q
          simp only [nameV, Bool.and_eq_true] at q
          exact h4 (by rw [List.all_cons, q.1.2]; simp [nmC, q.1.1])
        (refine awp_sr fun KK hKK => ?_; simp [go_sem]; ((repeat' (first|(refine ag_x ?_;simp [go_sem])|intro _|refine And.intro ?_ ?_|(apply hKK;clear hKK KK)));all_goals first|refine Hold.mk ?_|omega|with_reducible assumption|(simp only [InR] at *;omega)|skip))
        (refine awp_sr fun KK hKK => ?_; simp [go_sem, h1, h2']; ((repeat' (first|(refine ag_x ?_;simp [go_sem, h1, h2'])|intro _|refine And.intro ?_ ?_|(apply hKK;clear hKK KK)));all_goals first|refine Hold.mk ?_|omega|with_reducible assumption|(simp only [InR] at *;omega)|skip))
        (refine agc_f (dS a) (by first | exact .inl ⟨rfl, rfl⟩ | exact .inr rfl) ?_ rfl ?_; (intro hc args ha; simp [go_sem] at ha; subst ha; exact T1); simp [go_sem, h1, h2', h3]; ((repeat' (first|(refine ag_false ?_ ?_ ?_;(focus (simp [go_sem, undef, h1, h2', h3];done));(focus (simp [go_sem];done));simp [go_sem, h1, h2', h3])|(refine ag_x ?_;simp [go_sem, undef, h1, h2', h3])|intro _|refine And.intro ?_ ?_|(apply hKK;clear hKK KK)));all_goals first|refine Hold.mk ?_|omega|with_reducible assumption|(simp only [InR] at *;omega)|skip))
        (refine awp_ret ?_; simp [go_sem, h5])
    · have h2' : ¬ ((r.length : Int) + 1 ≤ 20) := by omega
      have h5 : nameV (c :: r) = false := by simp [nameV, h2]
      (refine awp_sr fun KK hKK => ?_; simp [go_sem]; ((repeat' (first|(refine ag_x ?_;simp [go_sem])|intro _|refine And.intro ?_ ?_|(apply hKK;clear hKK KK)));all_goals first|refine Hold.mk ?_|omega|with_reducible assumption|(simp only [InR] at *;omega)|skip))
      (refine awp_sr fun KK hKK => ?_; simp [go_sem, h1, h2']; ((repeat' (first|(refine ag_false ?_ ?_ ?_;(focus (simp [go_sem, undef, h1, h2'];done));(focus (simp [go_sem];done));simp [go_sem, h1, h2'])|(refine ag_x ?_;simp [go_sem, undef, h1, h2'])|intro _|refine And.intro ?_ ?_|(apply hKK;clear hKK KK)));all_goals first|refine Hold.mk ?_|omega|with_reducible assumption|(simp only [InR] at *;omega)|skip))
      (refine awp_ret ?_; simp [go_sem, h5])
end Go.Proofs.YtchnagdaljblnaaGreatDoor

namespace Go.Proofs.YtchnagdaljblnaaGreatDoor
open Go.Eng Go.Wh Go.Ver Go.RowKit Go.Lk
set_option maxRecDepth 20000
set_option linter.unusedSimpArgs false
set_option linter.unusedVariables false
attribute [local irreducible] AG CallA CallT AWp PCall ACall AgC
/-- what `named` returns -/
def namedP (s : Bs) : Bs × Bs × Bool × Bool :=
  let c := Lib.cut s [32, 40]
  if c.1 = [] ∨ c.1.all nmC = false then ([], [], false, false)
  else if c.2.2 = false then (c.1, [], false, true)
  else ((c.1, (Lib.cut c.2.1 [41]).1, true, (Lib.cut c.2.1 [41]).2.2 && (decide ((Lib.cut c.2.1 [41]).2.1 = []) && decide ((Lib.cut c.2.1 [41]).1 ≠ []))))
theorem named_none {s : Bs} (h : nmdV s = none) : (namedP s).2.2.2 = false := by
  unfold nmdV at h
  unfold namedP
  generalize Lib.cut s [32, 40] = c at *
  obtain ⟨a, r, t⟩ := c
  simp only at h ⊢
  generalize Lib.cut r [41] = d at *
  obtain ⟨i, z, u⟩ := d
  simp only at h ⊢
  by_cases h1 : a = [] ∨ a.all nmC = false
  · rw [if_pos h1]
  · rw [if_neg h1] at h ⊢
    cases t with
    | false => simp at h
    | true =>
      by_cases h3 : u = true ∧ z = [] ∧ i ≠ []
      · simp [h3] at h
      · rw [if_neg (by simp)]
        rw [Bool.eq_false_iff]
        intro q
        simp only [Bool.and_eq_true, decide_eq_true_eq] at q
        exact h3 ⟨q.1, q.2.1, q.2.2⟩
theorem named_some {s n i : Bs} {b : Bool} (h : nmdV s = some (n, i, b)) : namedP s = (n, i, b, true) := by
  unfold nmdV at h
  unfold namedP
  generalize Lib.cut s [32, 40] = c at *
  obtain ⟨a, r, t⟩ := c
  simp only at h ⊢
  generalize Lib.cut r [41] = d at *
  obtain ⟨j, z, u⟩ := d
  simp only at h ⊢
  by_cases h1 : a = [] ∨ a.all nmC = false
  · rw [if_pos h1] at h; cases h
  · rw [if_neg h1] at h ⊢
    cases t with
    | false =>
      simp only [if_true, Option.some.injEq, Prod.mk.injEq] at h
      obtain ⟨rfl, rfl, rfl⟩ := h
      rfl
    | true =>
      rw [if_neg (by simp)] at h ⊢
      by_cases h3 : u = true ∧ z = [] ∧ j ≠ []
      · rw [if_pos h3] at h
        simp only [Option.some.injEq, Prod.mk.injEq] at h
        obtain ⟨rfl, rfl, rfl⟩ := h
        simp [h3.1, h3.2.1, h3.2.2]
      · rw [if_neg h3] at h; cases h
theorem cut_len (s p : Bs) : (Lib.cut s p).1.length ≤ s.length ∧ (Lib.cut s p).2.1.length ≤ s.length := by
  rcases cut_cases s p with ⟨a, r, h, e⟩ | ⟨h, _⟩
  · rw [h]
    have := congrArg List.length e
    simp only [List.length_append] at this
    simp only
    omega
  · rw [h]; simp
theorem named_spec (s : List UInt8) (hl : s.length ≤ 1000000000) : PCall Tryz.prog 152 [dS s] fun r => r = .tup [dS (namedP s).1, dS (namedP s).2.1, dB (namedP s).2.2.1, dB (namedP s).2.2.2] := by 
  refine pcall_of Tryz.func152 rfl rfl Tryz.ntmps152 (rs := [.tmp 2, .tmp 3, .tmp 4, .tmp 5]) (tys := [9, 9, 4, 4]) rfl rfl (by simp) ?_
  have C1 := cut_spec s [32, 40] (by omega)
  have hcl := cut_len s [32, 40]
  unfold namedP
  generalize Lib.cut s [32, 40] = c at *
  obtain ⟨a, r, t⟩ := c
  simp only at hcl C1 ⊢
  have C2 := cut_spec r [41] (by omega)
  have N1 := notName_spec a
  generalize Lib.cut r [41] = d at *
  obtain ⟨i, z, u⟩ := d
  simp only at C2 ⊢
  generalize a.all nmC = b at *
  (refine awp_sr fun KK hKK => ?_; simp [go_sem]; ((repeat' (first|(refine ag_x ?_;simp [go_sem])|intro _|refine And.intro ?_ ?_|(apply hKK;clear hKK KK)));all_goals first|refine Hold.mk ?_|omega|with_reducible assumption|(simp only [InR] at *;omega)|skip))
  (refine awp_sr fun KK hKK => ?_; simp [go_sem]; ((repeat' (first|(refine ag_x ?_;simp [go_sem])|intro _|refine And.intro ?_ ?_|(apply hKK;clear hKK KK)));all_goals first|refine Hold.mk ?_|omega|with_reducible assumption|(simp only [InR] at *;omega)|skip))
  ((try refine CallT.toA ?_); refine callT_m (by first | exact .inl ⟨rfl, rfl⟩ | exact .inr rfl) (by simp [go_sem]) ?_; intro args ha; simp [go_sem] at ha; subst ha; refine ⟨_, C1, ?_⟩; rintro _ rfl; simp [go_sem]; ((repeat' (first|(refine ag_x ?_;simp [go_sem])|intro _|refine And.intro ?_ ?_|(apply hKK;clear hKK KK)));all_goals first|refine Hold.mk ?_|omega|with_reducible assumption|(simp only [InR] at *;omega)|skip))
  refine awp_seq_k fun K1 hK1 => ?_
  by_cases h1 : a = []
  · (refine awp_sr fun KK hKK => ?_; simp [go_sem, h1]; ((repeat' (first|(refine ag_false (by simp [go_sem, undef, h1]) (by simp [go_sem]) ?_;simp [go_sem, h1])|intro _|refine And.intro ?_ ?_|(apply hKK;clear hKK KK)));all_goals first|refine Hold.mk ?_|omega|with_reducible assumption|(simp only [InR] at *;omega)|skip))
    (refine awp_if fun T F hT hF => ?_; simp [go_sem]; refine hT ?_; clear hT hF T F)
    (refine awp_sr fun KK hKK => ?_; simp [go_sem]; ((repeat' (first|(refine ag_x ?_;simp [go_sem])|intro _|refine And.intro ?_ ?_|(apply hKK;clear hKK KK)));all_goals first|refine Hold.mk ?_|omega|with_reducible assumption|(simp only [InR] at *;omega)|skip))
    (refine awp_ret ?_; simp [go_sem, h1])
  · have h1' : a.isEmpty = false := by cases a with
      | nil => exact absurd rfl h1
      | cons => rfl
    (refine awp_sr fun KK hKK => ?_; simp [go_sem, h1]; ((repeat' (first|(refine ag_x ?_;simp [go_sem, h1])|intro _|refine And.intro ?_ ?_|(apply hKK;clear hKK KK)));all_goals first|refine Hold.mk ?_|omega|with_reducible assumption|(simp only [InR] at *;omega)|skip))
    (refine agc_f (dB (!b)) (by first | exact .inl ⟨rfl, rfl⟩ | exact .inr rfl) ?_ rfl ?_; (intro hc args ha; simp [go_sem] at ha; subst ha; exact N1); simp [go_sem, h1]; ((repeat' (first|(refine ag_x ?_;simp [go_sem, h1])|intro _|refine And.intro ?_ ?_|(apply hKK;clear hKK KK)));all_goals first|refine Hold.mk ?_|omega|with_reducible assumption|(simp only [InR] at *;omega)|skip))
    cases b with
    | false =>
      (refine awp_if fun T F hT hF => ?_; simp [go_sem]; refine hT ?_; clear hT hF T F)
      (refine awp_sr fun KK hKK => ?_; simp [go_sem]; ((repeat' (first|(refine ag_x ?_;simp [go_sem])|intro _|refine And.intro ?_ ?_|(apply hKK;clear hKK KK)));all_goals first|refine Hold.mk ?_|omega|with_reducible assumption|(simp only [InR] at *;omega)|skip))
      (refine awp_ret ?_; simp [go_sem])
    | true =>
      (refine awp_if fun T F hT hF => ?_; simp [go_sem, h1']; refine hF ?_; clear hT hF T F)
      refine awp_skip ?_
      refine hK1 _ ?_; clear hK1
      refine awp_seq_k fun K3 hK3 => ?_
      cases t with
      | false =>
        (refine awp_sr fun KK hKK => ?_; simp [go_sem]; ((repeat' (first|(refine ag_x ?_;simp [go_sem])|intro _|refine And.intro ?_ ?_|(apply hKK;clear hKK KK)));all_goals first|refine Hold.mk ?_|omega|with_reducible assumption|(simp only [InR] at *;omega)|skip))
        (refine awp_if fun T F hT hF => ?_; simp [go_sem]; refine hT ?_; clear hT hF T F)
        (refine awp_sr fun KK hKK => ?_; simp [go_sem]; ((repeat' (first|(refine ag_x ?_;simp [go_sem])|intro _|refine And.intro ?_ ?_|(apply hKK;clear hKK KK)));all_goals first|refine Hold.mk ?_|omega|with_reducible assumption|(simp only [InR] at *;omega)|skip))
        (refine awp_ret ?_; simp [go_sem, h1])
      | true =>
        (refine awp_sr fun KK hKK => ?_; simp [go_sem]; ((repeat' (first|(refine ag_x ?_;simp [go_sem])|intro _|refine And.intro ?_ ?_|(apply hKK;clear hKK KK)));all_goals first|refine Hold.mk ?_|omega|with_reducible assumption|(simp only [InR] at *;omega)|skip))
        (refine awp_if fun T F hT hF => ?_; simp [go_sem]; refine hF ?_; clear hT hF T F)
        refine awp_skip ?_
        refine hK3 _ ?_; clear hK3
        (refine awp_sr fun KK hKK => ?_; simp [go_sem]; ((repeat' (first|(refine ag_x ?_;simp [go_sem])|intro _|refine And.intro ?_ ?_|(apply hKK;clear hKK KK)));all_goals first|refine Hold.mk ?_|omega|with_reducible assumption|(simp only [InR] at *;omega)|skip))
        ((try refine CallT.toA ?_); refine callT_m (by first | exact .inl ⟨rfl, rfl⟩ | exact .inr rfl) (by simp [go_sem]) ?_; intro args ha; simp [go_sem] at ha; subst ha; refine ⟨_, C2, ?_⟩; rintro _ rfl; simp [go_sem]; ((repeat' (first|(refine ag_x ?_;simp [go_sem])|intro _|refine And.intro ?_ ?_|(apply hKK;clear hKK KK)));all_goals first|refine Hold.mk ?_|omega|with_reducible assumption|(simp only [InR] at *;omega)|skip))
        cases u with
        | false =>
          (refine awp_sr fun KK hKK => ?_; simp [go_sem]; ((repeat' (first|(refine ag_false (by simp [go_sem, undef]) (by simp [go_sem]) ?_;simp [go_sem])|intro _|refine And.intro ?_ ?_|(apply hKK;clear hKK KK)));all_goals first|refine Hold.mk ?_|omega|with_reducible assumption|(simp only [InR] at *;omega)|skip))
          (refine awp_ret ?_; simp [go_sem, h1])
        | true =>
          by_cases h2 : z = []
          · (refine awp_sr fun KK hKK => ?_; simp [go_sem, h2]; ((repeat' (first|(refine ag_x ?_;simp [go_sem, h2])|intro _|refine And.intro ?_ ?_|(apply hKK;clear hKK KK)));all_goals first|refine Hold.mk ?_|omega|with_reducible assumption|(simp only [InR] at *;omega)|skip))
            (refine awp_ret ?_; simp [go_sem, h1, h2])
            cases i <;> rfl
          · (refine awp_sr fun KK hKK => ?_; simp [go_sem, h2]; ((repeat' (first|(refine ag_false ?_ ?_ ?_;(focus (simp [go_sem, undef, h2];done));(focus (simp [go_sem];done));simp [go_sem, h2])|(refine ag_x ?_;simp [go_sem, undef, h2])|intro _|refine And.intro ?_ ?_|(apply hKK;clear hKK KK)));all_goals first|refine Hold.mk ?_|omega|with_reducible assumption|(simp only [InR] at *;omega)|skip))
            (refine awp_ret ?_; simp [go_sem, h1, h2])
theorem ba_slice (r : List UInt8) (n : Nat) (h : n ≤ r.length) : ({ data := r.toArray } : ByteArray).extract 1 n = { data := ((r.take n).drop 1).toArray } := by
  apply ByteArray.ext
  simp [List.drop_take]
theorem iByte_spec (s : List UInt8) (c : UInt8) : PCall Tryz.prog 70 [dS s, .v (.int .u8 c.toNat)] fun r => r = dI (Lib.indexByte s c) := by
  refine pcall_below ⟨_, Tryz.func70, rfl, rfl⟩ fun C w us hc hg hr => ?_
  obtain rfl := repL_v (us := [.string ⟨s.toArray⟩, .int .u8 c.toNat]) hr
  refine (Tryz.strings_IndexByte ⟨s.toArray⟩ (c.toNat : Int) w).mono ?_
  rintro e w' ⟨rfl, rfl⟩
  refine ⟨_, _, rfl, ?_, .v _, Below.refl _ _⟩
  simp
theorem split_spec' (s : List UInt8) (br : Bool) (hl : s.length ≤ 1000000000) : PCall Tryz.prog 111 [dS s, dB br] fun r => r = .tup [dS (splV s br).1, dS (splV s br).2.1, dB (splV s br).2.2] := by 
  refine pcall_of Tryz.func111 rfl rfl Tryz.ntmps111 (rs := [.tmp 4, .tmp 5, .tmp 6]) (tys := [9, 9, 4]) rfl rfl (by simp) ?_
  have C1 := cut_spec s [32] (by omega)
  have hcl := cut_len s [32]
  have hS := fun a r t => @spl_eq s a r t br
  generalize splV s br = S at *
  generalize Lib.cut s [32] = c at *
  obtain ⟨a, r, t⟩ := c
  have hS := hS a r t rfl
  simp only at hcl C1 ⊢
  have T1 := trimS_spec a nmL (by omega) (by decide) (by decide)
  have ht := trim_nm a
  have I1 := iByte_spec r 41
  have hir := Lib.index_ge r [41]
  rw [Lib.index_one] at hir
  generalize Lib.indexByte r 41 = ix at *
  generalize Lib.trimS a nmL = m at *
  have hb := ba_slice r (r.length - 1) (by omega)
  (refine awp_sr fun KK hKK => ?_; simp [go_sem]; ((repeat' (first|(refine ag_x ?_;simp [go_sem])|intro _|refine And.intro ?_ ?_|(apply hKK;clear hKK KK)));all_goals first|refine Hold.mk ?_|omega|with_reducible assumption|(simp only [InR] at *;omega)|skip))
  (refine awp_sr fun KK hKK => ?_; simp [go_sem]; ((repeat' (first|(refine ag_x ?_;simp [go_sem])|intro _|refine And.intro ?_ ?_|(apply hKK;clear hKK KK)));all_goals first|refine Hold.mk ?_|omega|with_reducible assumption|(simp only [InR] at *;omega)|skip))
  ((try refine CallT.toA ?_); refine callT_m (by first | exact .inl ⟨rfl, rfl⟩ | exact .inr rfl) (by simp [go_sem]) ?_; intro args ha; simp [go_sem] at ha; subst ha; refine ⟨_, C1, ?_⟩; rintro _ rfl; simp [go_sem]; ((repeat' (first|(refine ag_x ?_;simp [go_sem])|intro _|refine And.intro ?_ ?_|(apply hKK;clear hKK KK)));all_goals first|refine Hold.mk ?_|omega|with_reducible assumption|(simp only [InR] at *;omega)|skip))
  refine awp_seq_k fun K1 hK1 => ?_
  by_cases h1 : a = []
  · rw [if_pos (.inl h1)] at hS
    subst hS
    (refine awp_sr fun KK hKK => ?_; simp [go_sem, h1]; ((repeat' (first|(refine ag_false (by simp [go_sem, undef, h1]) (by simp [go_sem]) ?_;simp [go_sem, h1])|intro _|refine And.intro ?_ ?_|(apply hKK;clear hKK KK)));all_goals first|refine Hold.mk ?_|omega|with_reducible assumption|(simp only [InR] at *;omega)|skip))
    (refine awp_if fun T F hT hF => ?_; simp [go_sem]; refine hT ?_; clear hT hF T F)
    (refine awp_sr fun KK hKK => ?_; simp [go_sem]; ((repeat' (first|(refine ag_x ?_;simp [go_sem])|intro _|refine And.intro ?_ ?_|(apply hKK;clear hKK KK)));all_goals first|refine Hold.mk ?_|omega|with_reducible assumption|(simp only [InR] at *;omega)|skip))
    (refine awp_ret ?_; simp [go_sem, h1])
  · have h1' : a.isEmpty = false := by cases a with
      | nil => exact absurd rfl h1
      | cons => rfl
    (refine awp_sr fun KK hKK => ?_; simp [go_sem, h1]; ((repeat' (first|(refine ag_x ?_;simp [go_sem, h1])|intro _|refine And.intro ?_ ?_|(apply hKK;clear hKK KK)));all_goals first|refine Hold.mk ?_|omega|with_reducible assumption|(simp only [InR] at *;omega)|skip))
    (refine agc_f (dS m) (by first | exact .inl ⟨rfl, rfl⟩ | exact .inr rfl) ?_ rfl ?_; (intro hc args ha; simp [go_sem] at ha; subst ha; exact T1); simp [go_sem, h1]; ((repeat' (first|(refine ag_x ?_;simp [go_sem, h1])|intro _|refine And.intro ?_ ?_|(apply hKK;clear hKK KK)));all_goals first|refine Hold.mk ?_|omega|with_reducible assumption|(simp only [InR] at *;omega)|skip))
    by_cases h2 : m = []
    · have h3 := ht.1 h2
      have h4 : ¬ (a = [] ∨ a.all nmC = false) := by simp [h1, h3]
      rw [if_neg h4] at hS
      (refine awp_if fun T F hT hF => ?_; simp [go_sem, h1', h2]; refine hF ?_; clear hT hF T F)
      refine awp_skip ?_
      refine hK1 _ ?_; clear hK1
      refine awp_seq_k fun K3 hK3 => ?_
      cases t with
      | false =>
        rw [if_pos rfl] at hS
        subst hS
        (refine awp_sr fun KK hKK => ?_; simp [go_sem]; ((repeat' (first|(refine ag_x ?_;simp [go_sem])|intro _|refine And.intro ?_ ?_|(apply hKK;clear hKK KK)));all_goals first|refine Hold.mk ?_|omega|with_reducible assumption|(simp only [InR] at *;omega)|skip))
        (refine awp_if fun T F hT hF => ?_; simp [go_sem]; refine hT ?_; clear hT hF T F)
        (refine awp_sr fun KK hKK => ?_; simp [go_sem]; ((repeat' (first|(refine ag_x ?_;simp [go_sem])|intro _|refine And.intro ?_ ?_|(apply hKK;clear hKK KK)));all_goals first|refine Hold.mk ?_|omega|with_reducible assumption|(simp only [InR] at *;omega)|skip))
        (refine awp_ret ?_; simp [go_sem])
      | true =>
        rw [if_neg (by simp)] at hS
        (refine awp_sr fun KK hKK => ?_; simp [go_sem]; ((repeat' (first|(refine ag_x ?_;simp [go_sem])|intro _|refine And.intro ?_ ?_|(apply hKK;clear hKK KK)));all_goals first|refine Hold.mk ?_|omega|with_reducible assumption|(simp only [InR] at *;omega)|skip))
        (refine awp_if fun T F hT hF => ?_; simp [go_sem]; refine hF ?_; clear hT hF T F)
        refine awp_skip ?_
        refine hK3 _ ?_; clear hK3
        (refine awp_sr fun KK hKK => ?_; simp [go_sem]; ((repeat' (first|(refine ag_x ?_;simp [go_sem])|intro _|refine And.intro ?_ ?_|(apply hKK;clear hKK KK)));all_goals first|refine Hold.mk ?_|omega|with_reducible assumption|(simp only [InR] at *;omega)|skip))
        refine awp_seq_k fun K5 hK5 => ?_
        by_cases h5 : r.length < 3
        · have h5' : (r.length : Int) < 3 := by omega
          rw [if_pos (.inl h5)] at hS
          subst hS
          (refine awp_sr fun KK hKK => ?_; simp [go_sem, h5']; ((repeat' (first|(refine ag_false (by simp [go_sem, undef, h5']) (by simp [go_sem]) ?_;simp [go_sem, h5'])|intro _|refine And.intro ?_ ?_|(apply hKK;clear hKK KK)));all_goals first|refine Hold.mk ?_|omega|with_reducible assumption|(simp only [InR] at *;omega)|skip))
          (refine awp_if fun T F hT hF => ?_; simp [go_sem]; refine hT ?_; clear hT hF T F)
          (refine awp_sr fun KK hKK => ?_; simp [go_sem]; ((repeat' (first|(refine ag_x ?_;simp [go_sem])|intro _|refine And.intro ?_ ?_|(apply hKK;clear hKK KK)));all_goals first|refine Hold.mk ?_|omega|with_reducible assumption|(simp only [InR] at *;omega)|skip))
          (refine awp_ret ?_; simp [go_sem])
        · have h5' : ¬ (r.length : Int) < 3 := by omega
          obtain ⟨c, q, rfl⟩ : ∃ c q, r = c :: q := by
            cases r with
            | nil => simp at h5
            | cons c q => exact ⟨c, q, rfl⟩
          have h5q : ¬ ((q.length : Int) + 1 < 3) := by simp at h5; omega
          have h5r : 2 ≤ q.length := by simp at h5; omega
          have hq : (q.length : Int) + 1 ≤ 9223372036854775807 := by simp at hcl; omega
          have hq2 : (q.length : Int) ≤ 9223372036854775807 := by omega
          by_cases h6 : c = 40
          · subst h6
            (refine awp_sr fun KK hKK => ?_; simp [go_sem, h5', h5q, hq, hq2]; ((repeat' (first|(refine ag_x ?_;simp [go_sem, h5', h5q, hq, hq2])|intro _|refine And.intro ?_ ?_|(apply hKK;clear hKK KK)));all_goals first|refine Hold.mk ?_|omega|with_reducible assumption|(simp only [InR] at *;omega)|skip))
            (refine agc_f (dI ix) (by first | exact .inl ⟨rfl, rfl⟩ | exact .inr rfl) ?_ rfl ?_; (intro hc args ha; simp [go_sem] at ha; subst ha; exact I1); simp [go_sem, h5', h5q, hq, hq2]; ((repeat' (first|(refine ag_x ?_;simp [go_sem, h5', h5q, hq, hq2])|intro _|refine And.intro ?_ ?_|(apply hKK;clear hKK KK)));all_goals first|refine Hold.mk ?_|omega|with_reducible assumption|(simp only [InR] at *;omega)|skip))
            by_cases h7 : ix = ((40 :: q : Bs).length : Int) - 1
            · rw [if_neg (by simp [h7]; omega)] at hS
              subst hS
              have h7' : ix = (q.length : Int) := by simp at h7; omega
              (refine awp_if fun T F hT hF => ?_; simp [go_sem, h5q, h7']; refine hF ?_; clear hT hF T F)
              refine awp_skip ?_
              refine hK5 _ ?_; clear hK5
              ((refine awp_dr (.qs [0, 1, 2, 3, 4, 5, 6, 7] (.nil)) (by kernel_rfl) ?_ ?_ ?_ ?_); (kernel_rfl); (exact (by decide +kernel)); (kernel_rfl); intro KK hKK; ((repeat' (first|(refine ag_x ?_;simp [go_sem])|refine adr_nil ?_|refine adr_two ?_ ?_|refine adr_kq ?_ ?_|refine adr_three ?_ ?_ ?_|refine adr_four ?_ ?_ ?_ ?_|refine adr_kp2 ?_ ?_|refine adr_kp3 ?_ ?_ ?_|((first|refine adr_qs fun KK hKK=>?_|refine adr_y fun KK hKK=>?_);simp [go_sem])|intro _|refine And.intro ?_ ?_|(apply hKK;clear hKK KK)));all_goals first|refine Hold.mk ?_|omega|with_reducible assumption|(simp only [InR] at *;omega)|skip))
              (refine awp_ret ?_; simp [go_sem])
              simp only [List.length_cons, Nat.add_sub_cancel, List.drop_one] at hb
              exact hb
            · rw [if_pos (.inr (.inr h7))] at hS
              subst hS
              have h7' : ¬ ix = (q.length : Int) := by simp at h7; omega
              (refine awp_if fun T F hT hF => ?_; simp [go_sem, h5q, h7']; refine hT ?_; clear hT hF T F)
              (refine awp_sr fun KK hKK => ?_; simp [go_sem]; ((repeat' (first|(refine ag_x ?_;simp [go_sem])|intro _|refine And.intro ?_ ?_|(apply hKK;clear hKK KK)));all_goals first|refine Hold.mk ?_|omega|with_reducible assumption|(simp only [InR] at *;omega)|skip))
              (refine awp_ret ?_; simp [go_sem])
          · have h6m : ¬ c.toNat = 40 := fun q => h6 (UInt8.toNat_inj.1 q)
            have h6n : ¬ (c.toNat : Int) = 40 := by omega
            rw [if_pos (.inr (.inl (by simp [h6])))] at hS
            subst hS
            (refine awp_sr fun KK hKK => ?_; simp [go_sem, h5', h5q, h6n, h6m, hq, hq2]; ((repeat' (first|(refine ag_false ?_ ?_ ?_;(focus (simp [go_sem, undef, h5', h5q, h6n, h6m, hq, hq2];done));(focus (simp [go_sem];done));simp [go_sem, h5', h5q, h6n, h6m, hq, hq2])|(refine ag_x ?_;simp [go_sem, undef, h5', h5q, h6n, h6m, hq, hq2])|intro _|refine And.intro ?_ ?_|(apply hKK;clear hKK KK)));all_goals first|refine Hold.mk ?_|omega|with_reducible assumption|(simp only [InR] at *;omega)|skip))
            (refine awp_if fun T F hT hF => ?_; simp [go_sem, h5q, h6n, h6m]; refine hT ?_; clear hT hF T F)
            (refine awp_sr fun KK hKK => ?_; simp [go_sem]; ((repeat' (first|(refine ag_x ?_;simp [go_sem])|intro _|refine And.intro ?_ ?_|(apply hKK;clear hKK KK)));all_goals first|refine Hold.mk ?_|omega|with_reducible assumption|(simp only [InR] at *;omega)|skip))
            (refine awp_ret ?_; simp [go_sem])
    · have h3 : a.all nmC = false := by
        rw [Bool.eq_false_iff]
        exact fun q => h2 (ht.2 q)
      rw [if_pos (.inr h3)] at hS
      subst hS
      have h2' : m.isEmpty = false := by cases m with
        | nil => exact absurd rfl h2
        | cons => rfl
      (refine awp_if fun T F hT hF => ?_; simp [go_sem, h1', h2, h2']; refine hT ?_; clear hT hF T F)
      (refine awp_sr fun KK hKK => ?_; simp [go_sem]; ((repeat' (first|(refine ag_x ?_;simp [go_sem])|intro _|refine And.intro ?_ ?_|(apply hKK;clear hKK KK)));all_goals first|refine Hold.mk ?_|omega|with_reducible assumption|(simp only [InR] at *;omega)|skip))
      (refine awp_ret ?_; simp [go_sem])
end Go.Proofs.YtchnagdaljblnaaGreatDoor

namespace Go.Proofs.YtchnagdaljblnaaGreatDoor
open Go.Eng Go.Wh Go.Ver Go.RowKit Go.Lk
set_option maxRecDepth 20000
set_option linter.unusedSimpArgs false
set_option linter.unusedVariables false
attribute [local irreducible] AG CallA CallT AWp PCall ACall AgC
theorem need_step (l : List Prs) (i : Nat) (x : Prs) (h : l[i]? = some x) : needTo l (i + 1) = (needTo l i && (nameV x.1 && (condsV x.2).isSome && (decide (i = 0) || (match l[i - 1]? with | some y => Op.bytesLess y.1 x.1 | none => true)))) := by
  rw [needTo]
  unfold needAt
  rw [h]
  all_goals rfl
set_option maxHeartbeats 4000000 in
theorem needs_spec (l : List Prs) (m : Nat) (hl : l.length ≤ 1000000) (hb : ∀ x ∈ l, x.1.length ≤ 1000000 ∧ x.2.length ≤ 1000000) : PCall Tryz.prog 79 [dPs l, dI m] fun r => r = dB (needsV m l) := by 
  refine pcall_of Tryz.func79 rfl rfl Tryz.ntmps79 (rs := [.tmp 4]) (tys := [4]) rfl rfl (by simp) ?_
  have hbad := fun n (h : needTo l n = false) (hn : n ≤ l.length) => needTo_bad h l.length hn
  have hst := need_step l
  have hz : needTo l 0 = true := rfl
  unfold needsV
  generalize needTo l = nt at *
  (refine awp_sr fun KK hKK => ?_; simp [go_sem]; ((repeat' (first|(refine ag_x ?_;simp [go_sem])|intro _|refine And.intro ?_ ?_|(apply hKK;clear hKK KK)));all_goals first|refine Hold.mk ?_|omega|with_reducible assumption|(simp only [InR] at *;omega)|skip))
  refine awp_seq_k fun K1 hK1 => ?_
  (refine awp_sr fun KK hKK => ?_; simp [go_sem]; ((repeat' (first|(refine ag_x ?_;simp [go_sem])|intro _|refine And.intro ?_ ?_|(apply hKK;clear hKK KK)));all_goals first|refine Hold.mk ?_|omega|with_reducible assumption|(simp only [InR] at *;omega)|skip))
  refine awp_block ?_
  refine awp_loop (σ := Nat) (fun i => ⟨[(0, dPs l), (1, dI m), (7, dPs l), (8, dI l.length), (9, dI i)], []⟩) (fun i => i ≤ l.length ∧ nt i = true) (fun i => l.length - i) 0 ?_ ?_ ?_
  · (refine cov_of ?_ ?_ <;> simp [go_sem])
  · exact ⟨by omega, hz⟩
  rintro i ⟨hi, hn⟩
  (refine awp_sr fun KK hKK => ?_; simp [go_sem]; ((repeat' (first|(refine ag_x ?_;simp [go_sem])|intro _|refine And.intro ?_ ?_|(apply hKK;clear hKK KK)));all_goals first|refine Hold.mk ?_|omega|with_reducible assumption|(simp only [InR] at *;omega)|skip))
  refine awp_seq_k fun K2 hK2 => ?_
  (refine awp_if fun T F hT hF => ?_; simp [go_sem]; refine BR.intro (fun h3 => hT ?_) (fun h3 => hF ?_); all_goals clear hT hF T F; try simp at h3) 
  · refine awp_skip ?_
    refine hK2 _ ?_; clear hK2
    obtain ⟨x, hx⟩ : ∃ x, l[i]? = some x := ⟨_, List.getElem?_eq_getElem (by omega)⟩
    have hb1 := hb x (List.mem_of_getElem? hx)
    have N1 := isName_spec x.1 (by omega)
    have C1 := Check_spec x.2 (by omega)
    have hst1 := hst i x hx
    rw [hn, Bool.true_and] at hst1
    have hbad1 := fun h => hbad (i + 1) h (by omega)
    generalize nameV x.1 = nb at *
    generalize (condsV x.2).isSome = cb at *
    refine awp_seq_k fun K4 hK4 => ?_
    refine awp_block ?_
    (refine awp_sr fun KK hKK => ?_; simp [go_sem, hx]; ((repeat' (first|(refine ag_x ?_;simp [go_sem, hx])|intro _|refine And.intro ?_ ?_|(apply hKK;clear hKK KK)));all_goals first|refine Hold.mk ?_|omega|with_reducible assumption|(simp only [InR] at *;omega)|skip))
    cases nb with
    | false =>
      have hF := hbad1 (by rw [hst1]; simp)
      ((refine awp_dr (.qs [0, 1] (.one 2 (.qs [3, 4] (.sk 5 (.sk 6 (.sk 7 (.sk 8 (.qs [9, 10] (.sk 11 (.sk 12 (.sk 13 (.sk 14 (.sk 15 (.sk 16 (.sk 17 (.sk 18 (.sk 20 (.sk 19 (.sk 21 (.sk 22 (.sk 23 (.qs [24] (.nil))))))))))))))))))))))) (by kernel_rfl) ?_ ?_ ?_ ?_); (kernel_rfl); (exact (by decide +kernel)); (kernel_rfl); intro KK hKK; ((repeat' (first|(refine ag_x ?_;simp [go_sem])|refine adr_nil ?_|refine adr_two ?_ ?_|refine adr_kq ?_ ?_|refine adr_three ?_ ?_ ?_|refine adr_four ?_ ?_ ?_ ?_|refine adr_kp2 ?_ ?_|refine adr_kp3 ?_ ?_ ?_|((first|refine adr_qs fun KK hKK=>?_|refine adr_y fun KK hKK=>?_);simp [go_sem])|intro _|refine And.intro ?_ ?_|(apply hKK;clear hKK KK)));all_goals first|refine Hold.mk ?_|omega|with_reducible assumption|(simp only [InR] at *;omega)|skip))
      ((try refine CallT.toA ?_); refine callT_m (by first | exact .inl ⟨rfl, rfl⟩ | exact .inr rfl) (by simp [go_sem]) ?_; intro args ha; simp [go_sem] at ha; subst ha; refine ⟨_, N1, ?_⟩; rintro _ rfl; simp [go_sem, undef]; ((repeat' (first|(refine ag_x ?_;simp [go_sem, undef])|refine adr_nil ?_|refine adr_two ?_ ?_|refine adr_kq ?_ ?_|refine adr_three ?_ ?_ ?_|refine adr_four ?_ ?_ ?_ ?_|refine adr_kp2 ?_ ?_|refine adr_kp3 ?_ ?_ ?_|((first|refine adr_qs fun KK hKK=>?_|refine adr_y fun KK hKK=>?_);simp [go_sem, undef])|intro _|refine And.intro ?_ ?_|(apply hKK;clear hKK KK)));all_goals first|refine Hold.mk ?_|omega|with_reducible assumption|(simp only [InR] at *;omega)|skip))
      (refine awp_if fun T F hT hF => ?_; simp [go_sem]; refine hT ?_; clear hT hF T F)
      (refine awp_sr fun KK hKK => ?_; simp [go_sem]; ((repeat' (first|(refine ag_x ?_;simp [go_sem])|intro _|refine And.intro ?_ ?_|(apply hKK;clear hKK KK)));all_goals first|refine Hold.mk ?_|omega|with_reducible assumption|(simp only [InR] at *;omega)|skip))
      (refine awp_ret ?_; simp [go_sem, hF])
    | true =>
      cases cb with
      | false =>
        have hF := hbad1 (by rw [hst1]; simp)
        ((refine awp_dr (.qs [0, 1] (.one 2 (.qs [3, 4, 5, 6] (.one 7 (.qs [8, 9, 10] (.sk 11 (.sk 12 (.sk 13 (.sk 14 (.sk 15 (.sk 16 (.sk 17 (.sk 18 (.sk 20 (.sk 19 (.sk 21 (.sk 22 (.sk 23 (.qs [24] (.nil)))))))))))))))))))) (by kernel_rfl) ?_ ?_ ?_ ?_); (kernel_rfl); (exact (by decide +kernel)); (kernel_rfl); intro KK hKK; ((repeat' (first|(refine ag_x ?_;simp [go_sem])|refine adr_nil ?_|refine adr_two ?_ ?_|refine adr_kq ?_ ?_|refine adr_three ?_ ?_ ?_|refine adr_four ?_ ?_ ?_ ?_|refine adr_kp2 ?_ ?_|refine adr_kp3 ?_ ?_ ?_|((first|refine adr_qs fun KK hKK=>?_|refine adr_y fun KK hKK=>?_);simp [go_sem])|intro _|refine And.intro ?_ ?_|(apply hKK;clear hKK KK)));all_goals first|refine Hold.mk ?_|omega|with_reducible assumption|(simp only [InR] at *;omega)|skip))
        ((try refine CallT.toA ?_); refine callT_m (by first | exact .inl ⟨rfl, rfl⟩ | exact .inr rfl) (by simp [go_sem]) ?_; intro args ha; simp [go_sem] at ha; subst ha; refine ⟨_, N1, ?_⟩; rintro _ rfl; simp [go_sem]; ((repeat' (first|(refine ag_x ?_;simp [go_sem])|refine adr_nil ?_|refine adr_two ?_ ?_|refine adr_kq ?_ ?_|refine adr_three ?_ ?_ ?_|refine adr_four ?_ ?_ ?_ ?_|refine adr_kp2 ?_ ?_|refine adr_kp3 ?_ ?_ ?_|((first|refine adr_qs fun KK hKK=>?_|refine adr_y fun KK hKK=>?_);simp [go_sem])|intro _|refine And.intro ?_ ?_|(apply hKK;clear hKK KK)));all_goals first|refine Hold.mk ?_|omega|with_reducible assumption|(simp only [InR] at *;omega)|skip))
        (refine agc_f (dI (codeP false)) (by first | exact .inl ⟨rfl, rfl⟩ | exact .inr rfl) ?_ rfl ?_; (intro hc args ha; simp [go_sem] at ha; subst ha; exact C1); simp [go_sem, undef, codeP]; ((repeat' (first|(refine ag_x ?_;simp [go_sem, undef, codeP])|refine adr_nil ?_|refine adr_two ?_ ?_|refine adr_kq ?_ ?_|refine adr_three ?_ ?_ ?_|refine adr_four ?_ ?_ ?_ ?_|refine adr_kp2 ?_ ?_|refine adr_kp3 ?_ ?_ ?_|((first|refine adr_qs fun KK hKK=>?_|refine adr_y fun KK hKK=>?_);simp [go_sem, undef, codeP])|intro _|refine And.intro ?_ ?_|(apply hKK;clear hKK KK)));all_goals first|refine Hold.mk ?_|omega|with_reducible assumption|(simp only [InR] at *;omega)|skip))
        (refine awp_if fun T F hT hF => ?_; simp [go_sem]; refine hT ?_; clear hT hF T F)
        (refine awp_sr fun KK hKK => ?_; simp [go_sem]; ((repeat' (first|(refine ag_x ?_;simp [go_sem])|intro _|refine And.intro ?_ ?_|(apply hKK;clear hKK KK)));all_goals first|refine Hold.mk ?_|omega|with_reducible assumption|(simp only [InR] at *;omega)|skip))
        (refine awp_ret ?_; simp [go_sem, hF])
      | true =>
        by_cases h0 : i = 0
        · subst h0
          have hT : nt 1 = true := by rw [hst1]; simp
          ((refine awp_dr (.qs [0, 1] (.one 2 (.qs [3, 4, 5, 6] (.one 7 (.qs [8, 9, 10, 11, 12, 13] (.sk 14 (.sk 15 (.sk 16 (.sk 17 (.sk 18 (.sk 20 (.sk 19 (.sk 21 (.sk 22 (.qs [23, 24] (.nil)))))))))))))))) (by kernel_rfl) ?_ ?_ ?_ ?_); (kernel_rfl); (exact (by decide +kernel)); (kernel_rfl); intro KK hKK; ((repeat' (first|(refine ag_x ?_;simp [go_sem])|refine adr_nil ?_|refine adr_two ?_ ?_|refine adr_kq ?_ ?_|refine adr_three ?_ ?_ ?_|refine adr_four ?_ ?_ ?_ ?_|refine adr_kp2 ?_ ?_|refine adr_kp3 ?_ ?_ ?_|((first|refine adr_qs fun KK hKK=>?_|refine adr_y fun KK hKK=>?_);simp [go_sem])|intro _|refine And.intro ?_ ?_|(apply hKK;clear hKK KK)));all_goals first|refine Hold.mk ?_|omega|with_reducible assumption|(simp only [InR] at *;omega)|skip))
          ((try refine CallT.toA ?_); refine callT_m (by first | exact .inl ⟨rfl, rfl⟩ | exact .inr rfl) (by simp [go_sem]) ?_; intro args ha; simp [go_sem] at ha; subst ha; refine ⟨_, N1, ?_⟩; rintro _ rfl; simp [go_sem]; ((repeat' (first|(refine ag_x ?_;simp [go_sem])|refine adr_nil ?_|refine adr_two ?_ ?_|refine adr_kq ?_ ?_|refine adr_three ?_ ?_ ?_|refine adr_four ?_ ?_ ?_ ?_|refine adr_kp2 ?_ ?_|refine adr_kp3 ?_ ?_ ?_|((first|refine adr_qs fun KK hKK=>?_|refine adr_y fun KK hKK=>?_);simp [go_sem])|intro _|refine And.intro ?_ ?_|(apply hKK;clear hKK KK)));all_goals first|refine Hold.mk ?_|omega|with_reducible assumption|(simp only [InR] at *;omega)|skip))
          (refine agc_f (dI (codeP true)) (by first | exact .inl ⟨rfl, rfl⟩ | exact .inr rfl) ?_ rfl ?_; (intro hc args ha; simp [go_sem] at ha; subst ha; exact C1); simp [go_sem, undef, codeP]; ((repeat' (first|(refine ag_x ?_;simp [go_sem, undef, codeP])|refine adr_nil ?_|refine adr_two ?_ ?_|refine adr_kq ?_ ?_|refine adr_three ?_ ?_ ?_|refine adr_four ?_ ?_ ?_ ?_|refine adr_kp2 ?_ ?_|refine adr_kp3 ?_ ?_ ?_|((first|refine adr_qs fun KK hKK=>?_|refine adr_y fun KK hKK=>?_);simp [go_sem, undef, codeP])|intro _|refine And.intro ?_ ?_|(apply hKK;clear hKK KK)));all_goals first|refine Hold.mk ?_|omega|with_reducible assumption|(simp only [InR] at *;omega)|skip))
          (refine awp_if fun T F hT hF => ?_; simp [go_sem]; refine hF ?_; clear hT hF T F)
          refine awp_skip ?_
          refine hK4 _ ?_; clear hK4
          (refine awp_r fun KK hKK => ?_; simp [go_sem]; ((repeat' (first|(refine ag_x ?_;simp [go_sem])|intro _|refine And.intro ?_ ?_|(apply hKK;clear hKK KK)));all_goals first|refine Hold.mk ?_|omega|with_reducible assumption|(simp only [InR] at *;omega)|skip))
          refine ⟨1, ?_, ⟨by omega, hT⟩, by omega⟩
          (refine cov_of ?_ ?_ <;> simp [go_sem])
        · obtain ⟨j, rfl⟩ : ∃ j, i = j + 1 := ⟨i - 1, by omega⟩
          obtain ⟨y, hy⟩ : ∃ y, l[j]? = some y := ⟨_, List.getElem?_eq_getElem (by omega)⟩
          have hi1 : ((j : Int) + 1 - 1).toNat = j := by omega
          have hi2 : (j : Int) + 1 - 1 = j := by omega
          have hpos : (0 : Int) < (j : Int) + 1 := by omega
          simp only [Nat.add_sub_cancel, hy] at hst1
          have ec : codeP true = 0 := rfl
          have hm1 := hb y (List.mem_of_getElem? hy)
          ((refine awp_dr (.qs [0, 1] (.one 2 (.qs [3, 4, 5, 6] (.one 7 (.qs [8, 9, 10, 11, 12, 13, 14, 15, 16, 17, 18, 20, 19, 21, 22, 23, 24] (.nil)))))) (by kernel_rfl) ?_ ?_ ?_ ?_); (kernel_rfl); (exact (by decide +kernel)); (kernel_rfl); intro KK hKK; ((repeat' (first|(refine ag_x ?_;simp [go_sem, hy, hi1, hi2, hpos])|refine adr_nil ?_|refine adr_two ?_ ?_|refine adr_kq ?_ ?_|refine adr_three ?_ ?_ ?_|refine adr_four ?_ ?_ ?_ ?_|refine adr_kp2 ?_ ?_|refine adr_kp3 ?_ ?_ ?_|((first|refine adr_qs fun KK hKK=>?_|refine adr_y fun KK hKK=>?_);simp [go_sem, hy, hi1, hi2, hpos])|intro _|refine And.intro ?_ ?_|(apply hKK;clear hKK KK)));all_goals first|refine Hold.mk ?_|omega|with_reducible assumption|(simp only [InR] at *;omega)|skip))
          ((try refine CallT.toA ?_); refine callT_m (by first | exact .inl ⟨rfl, rfl⟩ | exact .inr rfl) (by simp [go_sem]) ?_; intro args ha; simp [go_sem] at ha; subst ha; refine ⟨_, N1, ?_⟩; rintro _ rfl; simp [go_sem, hy, hi1, hi2, hpos]; ((repeat' (first|(refine ag_x ?_;simp [go_sem, hy, hi1, hi2, hpos])|refine adr_nil ?_|refine adr_two ?_ ?_|refine adr_kq ?_ ?_|refine adr_three ?_ ?_ ?_|refine adr_four ?_ ?_ ?_ ?_|refine adr_kp2 ?_ ?_|refine adr_kp3 ?_ ?_ ?_|((first|refine adr_qs fun KK hKK=>?_|refine adr_y fun KK hKK=>?_);simp [go_sem, hy, hi1, hi2, hpos])|intro _|refine And.intro ?_ ?_|(apply hKK;clear hKK KK)));all_goals first|refine Hold.mk ?_|omega|with_reducible assumption|(simp only [InR] at *;omega)|skip))
          (refine agc_f (dI (codeP true)) (by first | exact .inl ⟨rfl, rfl⟩ | exact .inr rfl) ?_ rfl ?_; (intro hc args ha; simp [go_sem] at ha; subst ha; exact C1); simp [go_sem, hy, hi1, hi2, hpos, ec]; ((repeat' (first|(refine ag_x ?_;simp [go_sem, hy, hi1, hi2, hpos, ec])|refine adr_nil ?_|refine adr_two ?_ ?_|refine adr_kq ?_ ?_|refine adr_three ?_ ?_ ?_|refine adr_four ?_ ?_ ?_ ?_|refine adr_kp2 ?_ ?_|refine adr_kp3 ?_ ?_ ?_|((first|refine adr_qs fun KK hKK=>?_|refine adr_y fun KK hKK=>?_);simp [go_sem, hy, hi1, hi2, hpos, ec])|intro _|refine And.intro ?_ ?_|(apply hKK;clear hKK KK)));all_goals first|refine Hold.mk ?_|omega|with_reducible assumption|(simp only [InR] at *;omega)|skip))
          (refine awp_if fun T F hT hF => ?_; simp [go_sem]; refine BR.intro (fun h5 => hT ?_) (fun h5 => hF ?_); all_goals clear hT hF T F; try simp at h5)
          · have hF := hbad1 (by rw [hst1]; simp [h5])
            (refine awp_sr fun KK hKK => ?_; simp [go_sem]; ((repeat' (first|(refine ag_x ?_;simp [go_sem])|intro _|refine And.intro ?_ ?_|(apply hKK;clear hKK KK)));all_goals first|refine Hold.mk ?_|omega|with_reducible assumption|(simp only [InR] at *;omega)|skip))
            (refine awp_ret ?_; simp [go_sem, hF])
          · have hT : nt (j + 1 + 1) = true := by rw [hst1]; simp [h5]
            refine awp_skip ?_
            refine hK4 _ ?_; clear hK4
            (refine awp_r fun KK hKK => ?_; simp [go_sem]; ((repeat' (first|(refine ag_x ?_;simp [go_sem])|intro _|refine And.intro ?_ ?_|(apply hKK;clear hKK KK)));all_goals first|refine Hold.mk ?_|omega|with_reducible assumption|(simp only [InR] at *;omega)|skip))
            refine ⟨j + 1 + 1, ?_, ⟨by omega, hT⟩, by omega⟩
            (refine cov_of ?_ ?_ <;> simp [go_sem])
  · refine awp_exit ?_
    simp only [go_sem]
    refine hK1 _ ?_; clear hK1
    have : i = l.length := by omega
    subst this
    rw [hn]
    (refine awp_sr fun KK hKK => ?_; simp [go_sem]; ((repeat' (first|(refine ag_x ?_;simp [go_sem])|intro _|refine And.intro ?_ ?_|(apply hKK;clear hKK KK)));all_goals first|refine Hold.mk ?_|omega|with_reducible assumption|(simp only [InR] at *;omega)|skip))
    (refine awp_ret ?_; simp [go_sem])
end Go.Proofs.YtchnagdaljblnaaGreatDoor
