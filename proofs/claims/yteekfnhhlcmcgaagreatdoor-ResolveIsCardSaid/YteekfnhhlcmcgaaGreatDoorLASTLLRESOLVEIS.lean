/- Part of a proof: see the last text. -/
import Derived.Test.YteekfnhhlcmcgaaGreatDoorG10
import Derived.Test.YteekfnhhlcmcgaaGreatDoorG05
set_option linter.unusedVariables false
set_option linter.unusedSimpArgs false
namespace Go.Proofs.YteekfnhhlcmcgaaGreatDoor
open Go.Eng Go.Wh Go.Ver Go.Lk
set_option maxRecDepth 20000
attribute [local irreducible] AG CallA CallT AWp PCall ACall AgC
set_option maxHeartbeats 32000000 in
theorem resolveIs_spec (a : List Int) (m : Int) (ha : a.length ≤ 9223372036854775807) (hm : InR m) : PCall Tryz.prog 9 [dIs a, dI m] fun r => r = dB true := by 
 refine pcall_of Tryz.func9 rfl rfl Tryz.ntmps9 (rs := [.tmp 4]) (tys := [4]) rfl rfl (by simp) ?_
 have G := rGrown_spec a ha
 (refine awp_sr fun Y hY => ?_; simp [go_sem]; ((repeat' (first|(refine ag_x ?_;simp [go_sem])|intro _|apply And.intro|(apply hY;clear hY Y)));all_goals first|apply Hold.mk|omega|with_reducible assumption|skip))
 (refine awp_sr fun Y hY => ?_; simp [go_sem]; ((repeat' (first|(refine ag_x ?_;simp [go_sem])|intro _|apply And.intro|(apply hY;clear hY Y)));all_goals first|apply Hold.mk|omega|with_reducible assumption|skip))
 ((try refine CallT.toA ?_); refine callT_m (.inl ⟨rfl,rfl⟩) (by simp [go_sem]) ?_; intro args ha; simp [go_sem] at ha; subst ha; refine ⟨_, G, ?_⟩; rintro _ ⟨s, w, hG, rfl⟩; simp [go_sem]; ((repeat' (first|(refine ag_x ?_;simp [go_sem])|intro _|apply And.intro|(apply hY;clear hY Y)));all_goals first|apply Hold.mk|omega|with_reducible assumption|skip))
 have hc := grOk_chk hG
 have hsu := grOk_su hG
 have hs := suV_sz hsu
 have hw := grOk_wz hG
 refine awp_frzbox 5 rfl rfl ?_
 simp only [go_sem]
 (refine awp_sr fun Y hY => ?_; simp [go_sem]; ((repeat' (first|(refine ag_x ?_;simp [go_sem])|intro _|apply And.intro|(apply hY;clear hY Y)));all_goals first|apply Hold.mk|omega|with_reducible assumption|skip))
 ((try refine CallT.toA ?_); refine callT_m (.inl ⟨rfl,rfl⟩) (by simp [go_sem]) ?_; intro args ha; simp [go_sem] at ha; subst ha; refine ⟨_, (Back_spec s hs), ?_⟩; rintro _ rfl; simp [go_sem]; ((repeat' (first|(refine ag_x ?_;simp [go_sem])|intro _|apply And.intro|(apply hY;clear hY Y)));all_goals first|apply Hold.mk|omega|with_reducible assumption|skip))
 refine awp_frzbox 7 rfl rfl ?_
 simp only [go_sem]
 (refine awp_sr fun Y hY => ?_; simp [go_sem]; ((repeat' (first|(refine ag_x ?_;simp [go_sem])|intro _|apply And.intro|(apply hY;clear hY Y)));all_goals first|apply Hold.mk|omega|with_reducible assumption|skip))
 ((try refine CallT.toA ?_); refine callT_m (.inl ⟨rfl,rfl⟩) (by simp [go_sem]) ?_; intro args ha; simp [go_sem] at ha; subst ha; refine ⟨_, (back12_spec w hw.1), ?_⟩; rintro _ rfl; simp [go_sem]; ((repeat' (first|(refine ag_x ?_;simp [go_sem])|intro _|apply And.intro|(apply hY;clear hY Y)));all_goals first|apply Hold.mk|omega|with_reducible assumption|skip))
 have S1 := Solve_spec s w 500 hs hw (by constructor <;> decide)
 have S2 := fun b => Solve_spec s w b hs hw
 have T1 := Tries_spec s w 500 hs hw (by constructor <;> decide)
 have hcd := solV_codes (s := s) (w := w) (b := 500) hc (by decide) (by decide)
 have her := @solV_err s w 500
 have hsi := @sol_is s w 500
 have hcn := @solV_cnt s w 500
 have hln := @solV_len s w 500
 have hmo := fun b' => @solV_mono s w 500 b' hc (by decide) (by decide)
 unfold triV at T1
 generalize solV s w 500 = q at *
 obtain ⟨ql, qn, qe⟩ := q
 simp only at S1 T1 hcd her hsi hcn hmo hln
 (refine awp_sr fun Y hY => ?_; simp [go_sem]; ((repeat' (first|(refine ag_x ?_;simp [go_sem])|intro _|apply And.intro|(apply hY;clear hY Y)));all_goals first|apply Hold.mk|omega|with_reducible assumption|skip))
 ((try refine CallT.toA ?_); refine callT_m (.inl ⟨rfl,rfl⟩) (by simp [go_sem]) ?_; intro args ha; simp [go_sem] at ha; subst ha; refine ⟨_, S1, ?_⟩; rintro _ rfl; simp [go_sem]; ((repeat' (first|(refine ag_x ?_;simp [go_sem])|intro _|apply And.intro|(apply hY;clear hY Y)));all_goals first|apply Hold.mk|omega|with_reducible assumption|skip))
 refine awp_seq_k fun K1 hK1 => ?_
 (refine awp_sr fun Y hY => ?_; simp [go_sem]; ((repeat' (first|(refine ag_x ?_;simp [go_sem])|intro _|apply And.intro|(apply hY;clear hY Y)));all_goals first|apply Hold.mk|omega|with_reducible assumption|skip))
 by_cases h0 : qe = 0
 ·subst h0
  obtain ⟨hp, hq, hl⟩ := hsi rfl
  have hcn := hcn rfl
  have hqn : (qn : Int) ≤ 500 := by
   rcases hcd.2 with h | h
   ·exact absurd h (by decide)
   ·exact h
  (refine awp_if fun T F hT hF => ?_; simp [go_sem]; refine hF ?_; clear hT hF T F)
  refine awp_skip ?_
  refine hK1 _ ?_; clear hK1
  have hok : okQ s w ql = true := by unfold okQ; rw [hc, hp]; rfl
  have I1 := Is_spec s w ql hs hw (by omega)
  have M1 := Missing_spec s w ql hs hw (by omega)
  rw [hok, hq] at I1
  rw [hok, hl] at M1
  simp only [Bool.true_and, if_true] at I1 M1
  (refine awp_sr fun Y hY => ?_; simp [go_sem]; ((repeat' (first|(refine ag_x ?_;simp [go_sem])|intro _|apply And.intro|(apply hY;clear hY Y)));all_goals first|apply Hold.mk|omega|with_reducible assumption|skip))
  ((try refine CallT.toA ?_); refine callT_m (.inl ⟨rfl,rfl⟩) (by simp [go_sem]) ?_; intro args ha; simp [go_sem] at ha; subst ha; refine ⟨_, I1, ?_⟩; rintro _ rfl; simp [go_sem]; ((repeat' (first|(refine ag_x ?_;simp [go_sem])|intro _|apply And.intro|(apply hY;clear hY Y)));all_goals first|apply Hold.mk|omega|with_reducible assumption|skip))
  (refine awp_sr fun Y hY => ?_; simp [go_sem]; ((repeat' (first|(refine ag_x ?_;simp [go_sem])|intro _|apply And.intro|(apply hY;clear hY Y)));all_goals first|apply Hold.mk|omega|with_reducible assumption|skip))
  ((try refine CallT.toA ?_); refine callT_m (.inl ⟨rfl,rfl⟩) (by simp [go_sem]) ?_; intro args ha; simp [go_sem] at ha; subst ha; refine ⟨_, M1, ?_⟩; rintro _ rfl; simp [go_sem]; ((repeat' (first|(refine ag_x ?_;simp [go_sem])|intro _|apply And.intro|(apply hY;clear hY Y)));all_goals first|apply Hold.mk|omega|with_reducible assumption|skip))
  have w1 := unI_wrap m
  have hlt : unI m % 90000 < 90000 := Nat.mod_lt _ (by omega)
  have m0 : ((unI m : Nat) : Int).tmod 90000 = ((unI m % 90000 : Nat) : Int) := by
   rw [show (90000 : Int) = ((90000 : Nat) : Int) by omega]; simp [Int.tmod_eq_emod_of_nonneg]
  generalize unI m % 90000 = k at *
  have S3 := S2 (501 + (k : Int)) ⟨by omega, by omega⟩
  rw [(hmo (501 + (k : Int)) (by omega) (by omega) (by simp)).1 (by omega)] at S3
  simp only at S3
  (refine awp_sr fun Y hY => ?_; simp [go_sem, w1, m0]; ((repeat' (first|(refine ag_x ?_;simp [go_sem, w1, m0])|intro _|apply And.intro|(apply hY;clear hY Y)));all_goals first|apply Hold.mk|omega|with_reducible assumption|skip))
  ((try refine CallT.toA ?_); refine callT_m (.inl ⟨rfl,rfl⟩) (by simp [go_sem]) ?_; intro args ha; simp [go_sem] at ha; subst ha; refine ⟨_, S3, ?_⟩; rintro _ rfl; simp [go_sem]; ((repeat' (first|(refine ag_x ?_;simp [go_sem])|intro _|apply And.intro|(apply hY;clear hY Y)));all_goals first|apply Hold.mk|omega|with_reducible assumption|skip))
  have ht0 : ((0 : Nat) = 0 ∨ (0 : Nat) = 3) = True := by simp
  simp only [true_or, if_true] at T1
  (refine awp_sr fun Y hY => ?_; simp [go_sem]; ((repeat' (first|(refine ag_x ?_;simp [go_sem])|intro _|apply And.intro|(apply hY;clear hY Y)));all_goals first|apply Hold.mk|omega|with_reducible assumption|skip))
  ((try refine CallT.toA ?_); refine callT_m (.inl ⟨rfl,rfl⟩) (by simp [go_sem]) ?_; intro args ha; simp [go_sem] at ha; subst ha; refine ⟨_, T1, ?_⟩; rintro _ rfl; simp [go_sem]; ((repeat' (first|(refine ag_x ?_;simp [go_sem])|intro _|apply And.intro|(apply hY;clear hY Y)));all_goals first|apply Hold.mk|omega|with_reducible assumption|skip))
  refine awp_seq_k fun K3 hK3 => ?_
  have hge : ¬ ((qn : Int) < (ql.length : Int)) := by omega
  have hgt : ¬ (500 < (qn : Int)) := by omega
  (refine awp_sr fun Y hY => ?_; simp [go_sem]; ((repeat' (first|(refine ag_false ?_ ?_ ?_;(focus (simp [go_sem, undef];done));(focus (simp [go_sem];done));simp [go_sem])|(refine ag_true ?_ ?_;(focus (simp [go_sem, undef];done));simp [go_sem])|(refine ag_x ?_;simp [go_sem, undef])|intro _|apply And.intro|(apply hY;clear hY Y)));all_goals first|apply Hold.mk|omega|with_reducible assumption|skip))
  ((try refine CallT.toA ?_); refine callT_m (.inl ⟨rfl,rfl⟩) (by simp [go_sem]) ?_; intro args ha; simp [go_sem] at ha; subst ha; refine ⟨_, (pks12_spec ql (by omega)), ?_⟩; rintro _ rfl; simp [go_sem]; ((repeat' (first|(refine ag_false ?_ ?_ ?_;(focus (simp [go_sem, undef];done));(focus (simp [go_sem];done));simp [go_sem])|(refine ag_true ?_ ?_;(focus (simp [go_sem, undef];done));simp [go_sem])|(refine ag_x ?_;simp [go_sem, undef])|intro _|apply And.intro|(apply hY;clear hY Y)));all_goals first|apply Hold.mk|omega|with_reducible assumption|skip))
  ((try refine CallT.toA ?_); refine callT_m (.inl ⟨rfl,rfl⟩) (by simp [go_sem]) ?_; intro args ha; simp [go_sem] at ha; subst ha; refine ⟨_, (samePicks_spec ql ql (by omega) (by omega)), ?_⟩; rintro _ rfl; simp [go_sem, hge, hgt]; ((repeat' (first|(refine ag_false ?_ ?_ ?_;(focus (simp [go_sem, undef, hge, hgt];done));(focus (simp [go_sem];done));simp [go_sem, hge, hgt])|(refine ag_true ?_ ?_;(focus (simp [go_sem, undef, hge, hgt];done));simp [go_sem, hge, hgt])|(refine ag_x ?_;simp [go_sem, undef, hge, hgt])|intro _|apply And.intro|(apply hY;clear hY Y)));all_goals first|apply Hold.mk|omega|with_reducible assumption|skip))
  (refine awp_if fun T F hT hF => ?_; simp [go_sem]; refine hF ?_; clear hT hF T F)
  refine awp_skip ?_
  refine hK3 _ ?_; clear hK3
  refine awp_seq_k fun K5 hK5 => ?_
  have tl5 : ∀ S', Cov S' ⟨[(7, .rd [dGms s]), (8, dPs w), (17, dI qn)], []⟩ → K5 S' := fun S' hS => by
   refine hK5 _ ?_; clear hK5
   refine awp_cov hS ?_; clear hS
   refine awp_seq_k fun K6 hK6 => ?_
   have tl6 : ∀ S', Cov S' ⟨[], []⟩ → K6 S' := fun S' hS => by
    refine hK6 _ ?_; clear hK6
    refine awp_cov hS ?_; clear hS
    (refine awp_sr fun Y hY => ?_; simp [go_sem]; ((repeat' (first|(refine ag_x ?_;simp [go_sem])|intro _|apply And.intro|(apply hY;clear hY Y)));all_goals first|apply Hold.mk|omega|with_reducible assumption|skip))
    ((try refine CallT.toA ?_); refine callT_m (.inl ⟨rfl,rfl⟩) (by simp [go_sem]) ?_; intro args ha; simp [go_sem] at ha; subst ha; refine ⟨_, sane12_spec, ?_⟩; rintro _ rfl; simp [go_sem]; ((repeat' (first|(refine ag_x ?_;simp [go_sem])|intro _|apply And.intro|(apply hY;clear hY Y)));all_goals first|apply Hold.mk|omega|with_reducible assumption|skip))
    (refine awp_ret ?_; simp [go_sem])
   (refine awp_sr fun Y hY => ?_; simp [go_sem]; ((repeat' (first|(refine ag_x ?_;simp [go_sem])|intro _|apply And.intro|(apply hY;clear hY Y)));all_goals first|apply Hold.mk|omega|with_reducible assumption|skip))
   (refine awp_if fun T F hT hF => ?_; simp [go_sem]; refine BR.intro (fun h7 => hT ?_) (fun h7 => hF ?_); all_goals clear hT hF T F; try simp at h7)
   ·have S4 := S2 ((qn : Int) - 1) ⟨by omega, by omega⟩
    have h12 := (hmo ((qn : Int) - 1) (by omega) (by omega) (by simp)).2 (by omega)
    rw [h12] at S4
    (refine awp_sr fun Y hY => ?_; simp [go_sem]; ((repeat' (first|(refine ag_x ?_;simp [go_sem])|intro _|apply And.intro|(apply hY;clear hY Y)));all_goals first|apply Hold.mk|omega|with_reducible assumption|skip))
    ((try refine CallT.toA ?_); refine callT_m (.inl ⟨rfl,rfl⟩) (by simp [go_sem]) ?_; intro args ha; simp [go_sem] at ha; subst ha; refine ⟨_, S4, ?_⟩; rintro _ rfl; simp [go_sem]; ((repeat' (first|(refine ag_x ?_;simp [go_sem])|intro _|apply And.intro|(apply hY;clear hY Y)));all_goals first|apply Hold.mk|omega|with_reducible assumption|skip))
    (refine awp_sr fun Y hY => ?_; simp [go_sem]; ((repeat' (first|(refine ag_x ?_;simp [go_sem])|intro _|apply And.intro|(apply hY;clear hY Y)));all_goals first|apply Hold.mk|omega|with_reducible assumption|skip))
    (refine awp_if fun T F hT hF => ?_; simp [go_sem]; refine hF ?_; clear hT hF T F)
    refine awp_skip ?_
    refine tl6 _ ?_
    (refine cov_of ?_ ?_ <;> simp [go_sem])
   ·refine awp_skip ?_
    refine tl6 _ ?_
    (refine cov_of ?_ ?_ <;> simp [go_sem])
  clear hK5
  (refine awp_sr fun Y hY => ?_; simp [go_sem]; ((repeat' (first|(refine ag_x ?_;simp [go_sem])|intro _|apply And.intro|(apply hY;clear hY Y)));all_goals first|apply Hold.mk|omega|with_reducible assumption|skip))
  (refine awp_if fun T F hT hF => ?_; simp [go_sem]; refine BR.intro (fun h9 => hT ?_) (fun h9 => hF ?_); all_goals clear hT hF T F; try simp at h9)
  ·have S5 := S2 (qn : Int) ⟨by omega, by omega⟩
   rw [(hmo (qn : Int) (by omega) (by omega) (by simp)).1 (by omega)] at S5
   simp only at S5
   (refine awp_sr fun Y hY => ?_; simp [go_sem]; ((repeat' (first|(refine ag_x ?_;simp [go_sem])|intro _|apply And.intro|(apply hY;clear hY Y)));all_goals first|apply Hold.mk|omega|with_reducible assumption|skip))
   ((try refine CallT.toA ?_); refine callT_m (.inl ⟨rfl,rfl⟩) (by simp [go_sem]) ?_; intro args ha; simp [go_sem] at ha; subst ha; refine ⟨_, S5, ?_⟩; rintro _ rfl; simp [go_sem]; ((repeat' (first|(refine ag_x ?_;simp [go_sem])|intro _|apply And.intro|(apply hY;clear hY Y)));all_goals first|apply Hold.mk|omega|with_reducible assumption|skip))
   (refine awp_sr fun Y hY => ?_; simp [go_sem]; ((repeat' (first|(refine ag_false ?_ ?_ ?_;(focus (simp [go_sem, undef];done));(focus (simp [go_sem];done));simp [go_sem])|(refine ag_true ?_ ?_;(focus (simp [go_sem, undef];done));simp [go_sem])|(refine ag_x ?_;simp [go_sem, undef])|intro _|apply And.intro|(apply hY;clear hY Y)));all_goals first|apply Hold.mk|omega|with_reducible assumption|skip))
   ((try refine CallT.toA ?_); refine callT_m (.inl ⟨rfl,rfl⟩) (by simp [go_sem]) ?_; intro args ha; simp [go_sem] at ha; subst ha; refine ⟨_, (pks12_spec ql (by omega)), ?_⟩; rintro _ rfl; simp [go_sem]; ((repeat' (first|(refine ag_false ?_ ?_ ?_;(focus (simp [go_sem, undef];done));(focus (simp [go_sem];done));simp [go_sem])|(refine ag_true ?_ ?_;(focus (simp [go_sem, undef];done));simp [go_sem])|(refine ag_x ?_;simp [go_sem, undef])|intro _|apply And.intro|(apply hY;clear hY Y)));all_goals first|apply Hold.mk|omega|with_reducible assumption|skip))
   ((try refine CallT.toA ?_); refine callT_m (.inl ⟨rfl,rfl⟩) (by simp [go_sem]) ?_; intro args ha; simp [go_sem] at ha; subst ha; refine ⟨_, (samePicks_spec ql ql (by omega) (by omega)), ?_⟩; rintro _ rfl; simp [go_sem]; ((repeat' (first|(refine ag_false ?_ ?_ ?_;(focus (simp [go_sem, undef];done));(focus (simp [go_sem];done));simp [go_sem])|(refine ag_true ?_ ?_;(focus (simp [go_sem, undef];done));simp [go_sem])|(refine ag_x ?_;simp [go_sem, undef])|intro _|apply And.intro|(apply hY;clear hY Y)));all_goals first|apply Hold.mk|omega|with_reducible assumption|skip))
   (refine awp_if fun T F hT hF => ?_; simp [go_sem]; refine hF ?_; clear hT hF T F)
   refine awp_skip ?_
   refine tl5 _ ?_
   (refine cov_of ?_ ?_ <;> simp [go_sem])
  ·refine awp_skip ?_
   refine tl5 _ ?_
   (refine cov_of ?_ ?_ <;> simp [go_sem])
 ·have hle := her h0
  subst hle
  (refine awp_if fun T F hT hF => ?_; simp [go_sem, h0]; refine hT ?_; clear hT hF T F)
  rcases hcd.1 with h | h | h
  ·exact absurd h h0
  ·subst h
   (refine awp_sr fun Y hY => ?_; simp [go_sem]; ((repeat' (first|(refine ag_false ?_ ?_ ?_;(focus (simp [go_sem, undef];done));(focus (simp [go_sem];done));simp [go_sem])|(refine ag_true ?_ ?_;(focus (simp [go_sem, undef];done));simp [go_sem])|(refine ag_x ?_;simp [go_sem, undef])|intro _|apply And.intro|(apply hY;clear hY Y)));all_goals first|apply Hold.mk|omega|with_reducible assumption|skip))
   ((try refine CallT.toA ?_); refine callT_m (.inl ⟨rfl,rfl⟩) (by simp [go_sem]) ?_; intro args ha; simp [go_sem] at ha; subst ha; refine ⟨_, sane12_spec, ?_⟩; rintro _ rfl; simp [go_sem]; ((repeat' (first|(refine ag_false ?_ ?_ ?_;(focus (simp [go_sem, undef];done));(focus (simp [go_sem];done));simp [go_sem])|(refine ag_true ?_ ?_;(focus (simp [go_sem, undef];done));simp [go_sem])|(refine ag_x ?_;simp [go_sem, undef])|intro _|apply And.intro|(apply hY;clear hY Y)));all_goals first|apply Hold.mk|omega|with_reducible assumption|skip))
   (refine awp_ret ?_; simp [go_sem])
  ·subst h
   (refine awp_sr fun Y hY => ?_; simp [go_sem]; ((repeat' (first|(refine ag_false ?_ ?_ ?_;(focus (simp [go_sem, undef];done));(focus (simp [go_sem];done));simp [go_sem])|(refine ag_true ?_ ?_;(focus (simp [go_sem, undef];done));simp [go_sem])|(refine ag_x ?_;simp [go_sem, undef])|intro _|apply And.intro|(apply hY;clear hY Y)));all_goals first|apply Hold.mk|omega|with_reducible assumption|skip))
   ((try refine CallT.toA ?_); refine callT_m (.inl ⟨rfl,rfl⟩) (by simp [go_sem]) ?_; intro args ha; simp [go_sem] at ha; subst ha; refine ⟨_, sane12_spec, ?_⟩; rintro _ rfl; simp [go_sem]; ((repeat' (first|(refine ag_false ?_ ?_ ?_;(focus (simp [go_sem, undef];done));(focus (simp [go_sem];done));simp [go_sem])|(refine ag_true ?_ ?_;(focus (simp [go_sem, undef];done));simp [go_sem])|(refine ag_x ?_;simp [go_sem, undef])|intro _|apply And.intro|(apply hY;clear hY Y)));all_goals first|apply Hold.mk|omega|with_reducible assumption|skip))
   (refine awp_ret ?_; simp [go_sem])
end Go.Proofs.YteekfnhhlcmcgaaGreatDoor
namespace Go.Proofs.YteekfnhhlcmcgaaGreatDoor
open Go.Eng Go.Wh Go.Ver Go.Lk
set_option maxRecDepth 100000
namespace lawResolveIs
theorem contract (H : Type) (enc : TypeId × Value → H) (W : World) (base : Nat) (args : Array Value) (ds gs : List (DataW H)) (before : List MemPlace) (hg : GlobOk Tryz.prog noCtx W)
  (hval : ∀ (j : Nat) t v, Tryz.f9.params[j]? = some t → args[j]? = some v → Value.okWide Tryz.prog W .any base t v)
  (hW : DataW.Whole enc Tryz.prog Tryz.f9.params.toList Rows.resolveIsSpec.vars false W args.toList ds gs before) :
  Calls Tryz.prog 9 args W fun e W' => ∃ v, e = .returned v ∧ Rows.resolveIsSpec.post enc Tryz.prog Tryz.f9 false true false false W args v W' :=
 law_contract (P := Tryz.prog) (f := 9) (fn := Tryz.f9) (s := Rows.resolveIsSpec) (again := false) (ts := [22, 3]) (tb := 4) laidOut rfl rfl Tryz.underlying4 (by kernel_rfl) rfl
  (fun H ds h => by match ds, h with | [d1, d2], _ => rfl)
  (opensL_cons ov_ints (opensL_cons ov_int opensL_nil)) (fun a h => resolveIs_spec a.1 a.2.1 h.1.1 h.2.1) enc W base args ds gs before hg hval hW
theorem lifted (os : Os) (started : os.Started) (H : Type) (enc : TypeId × Value → H) :
  ReturnsInHanded {} Tryz.checked os 9 .any (fun w args => (Rows.resolveIsSpec.pre enc Tryz.prog Tryz.f9 Rows.resolveIsRow.domain false w args ∧ laidMetH Tryz.prog Rows.resolveIsRow.laid w) ∧ sizedMet enc Tryz.prog Tryz.f9 (OpenSpec.ofChange Rows.resolveIsSpec) false w args)
   (Rows.resolveIsSpec.post enc Tryz.prog Tryz.f9 false true false false) := by
 refine wrap (C := Tryz.checked) (X := fun w _ => laidMetH Tryz.prog Rows.resolveIsRow.laid w) (fun _ _ _ hh h => h.of_heap hh) own started (by kernel_rfl) Tryz.func9
  (ChangeSpec.witness_shaped (enc := enc) (C := Tryz.checked) (os := os) (X := fun w _ => laidMetH Tryz.prog Rows.resolveIsRow.laid w) false (World.laidAll Tryz.prog os Rows.resolveIsRow.laid) #[.slice none 0 0, .int .i64 0] 8 (World.laidAll_os _ _ _)
   (World.shaped_of_ZipB (by kernel_rfl) (by kernel_rfl)) (by kernel_rfl) (by kernel_rfl) (by kernel_rfl)
   (by rw [MakeChecks.laidMetH_plain _ _ _ (by kernel_rfl)]; exact laidMet_laidAll _ (by kernel_rfl) (by kernel_rfl))) ?_
 intro W base args ds gs before hval hW hL hsh
 have hL' := hL
 rw [MakeChecks.laidMetH_plain _ _ _ (by kernel_rfl)] at hL'
 exact contract H enc W base args ds gs before (globOk_of (laidMet.tail (laidMet.tail hL')) hsh) hval hW
theorem named_is : Tryz.prog.funcNamed "cabochon/cabochonlaw12.ResolveIs" = some 9 := by kernel_rfl
theorem inPlace_is : (Rows.resolveIsRow.inPlace == Tryz.checked.prog.inPlace 9) = true := by kernel_rfl
theorem unfollowed_is : (Rows.resolveIsRow.unfollowed == Tryz.checked.prog.unfollowed 9) = true := by kernel_rfl
theorem recurses_is : (Rows.resolveIsRow.recurses == Tryz.checked.prog.recurses 9) = true := by kernel_rfl
theorem vars_is : (Rows.resolveIsRow.named == Tryz.checked.prog.varsNamed 9) = true := by kernel_rfl
theorem joined : joinedFacts Tryz.checked.prog 9 Tryz.f9 Rows.resolveIsSpec Rows.resolveIsRow = true :=
 joined_of (by kernel_rfl) laidOut mapsRowed_is (by kernel_rfl) inPlace_is unfollowed_is recurses_is vars_is (by kernel_rfl) plainKeys_is (by kernel_rfl) stopsHeard_is mayEnter_is lifts_is (by kernel_rfl)
theorem holds : Rows.ResolveIsSaid :=
 OpenClaim.holds_of_wide 9 Tryz.f9 rfl rfl rfl rfl rfl rfl rfl ⟨rfl, rfl, rfl, rfl, rfl⟩ rfl rfl rfl rfl rfl named_is Tryz.func9 joined
  (of_decide_eq_true (by kernel_rfl)) (by unfold Func.isWrapper; first | (rw [if_pos (by decide +kernel)]; kernel_rfl) | (rw [if_neg (by decide +kernel)]; exact ⟨rfl, rfl⟩))
  (fun os started H enc _ => lifted os started H enc)
theorem proved : Rows.ResolveIsCardSaid :=
 Claim7.holds_tied_plain_at .later [] [.data, .data, .data, .data, .sentinel, .sentinel, .pinned] true (true, "76850a4d2dff49a26d415191adefbc5b9c05272ba8f1ee206084b76bcb00e786") true holds (fun _ h => by cases h) (by kernel_rfl) (fun _ h => by cases h) resolveIs_row_tie rfl ⟨rfl, rfl⟩ main_is rfl
  (fun f fn hf hfn => by
   obtain rfl : f = 9 := Option.some.inj (named_is.symm.trans hf) |>.symm
   obtain rfl : fn = Tryz.f9 := (Option.some.inj (Tryz.func9.symm.trans hfn)).symm
   exact ⟨looks_is, fun j t ht => by
    rw [Tryz.params9] at ht
    have hm : t ∈ [22, 3] := by simpa using Array.mem_of_getElem? ht
    have hall : ([22, 3].all fun u => !Tryz.prog.wantsStandIn u) = true := by kernel_rfl
    exact (show Tryz.prog.wantsStandIn t = false by simpa using List.all_eq_true.1 hall t hm)⟩)
  (by kernel_rfl)
end lawResolveIs
end Go.Proofs.YteekfnhhlcmcgaaGreatDoor
