/- Part of a proof: see the last text. -/
import Derived.Test.YteekfnhhlcmcgaaGreatDoorG06
import Derived.Test.YteekfnhhlcmcgaaGreatDoorG03
import Derived.Lib.IndexMore
import Derived.Lib.IndexLaws
import Derived.Laws.RangeAny
import Derived.Shelf.GgClosure.StringsIndexFuncTop
import Derived.Test.YteekfnhhlcmcgaaGreatDoorG05
import Derived.Lib.LastIndexLaws
set_option linter.unusedVariables false
set_option linter.unusedSimpArgs false
namespace Go.Proofs.YteekfnhhlcmcgaaGreatDoor
open Go.Eng Go.Wh Go.Ver
set_option maxRecDepth 20000
attribute [local irreducible] AG CallA CallT AWp PCall ACall AgC
theorem rValid_spec (v : List UInt8) (hl : v.length ≤ 1000000000) : PCall Tryz.prog 108 [dS v] fun r => r = dB (readV v).isSome := by 
 refine pcall_of Tryz.func108 rfl rfl Tryz.ntmps108 (rs := [.tmp 2]) (tys := [4]) rfl rfl (by simp) ?_
 have R1 := rread_spec v hl
 (refine awp_sr fun Y Yh=>?_;simp[go_sem];((repeat' (first|(refine ag_x ?_;simp[go_sem])|intro _|apply And.intro|(apply Yh;clear Yh Y)));all_goals first|apply Hold.mk|omega|assumption|skip))
 (refine awp_sr fun Y Yh=>?_;simp[go_sem];((repeat' (first|(refine ag_x ?_;simp[go_sem])|intro _|apply And.intro|(apply Yh;clear Yh Y)));all_goals first|apply Hold.mk|omega|assumption|skip))
 ((try refine CallT.toA ?_);refine callT_m (.inl ⟨rfl,rfl⟩) (by simp[go_sem]) ?_;intro args ha;simp[go_sem] at ha;subst ha;refine ⟨_, R1, ?_⟩;rintro _ rfl;simp[go_sem];((repeat' (first|(refine ag_x ?_;simp[go_sem])|intro _|apply And.intro|(apply Yh;clear Yh Y)));all_goals first|apply Hold.mk|omega|assumption|skip))
 (refine awp_sr fun Y Yh=>?_;simp[go_sem];((repeat' (first|(refine ag_x ?_;simp[go_sem])|intro _|apply And.intro|(apply Yh;clear Yh Y)));all_goals first|apply Hold.mk|omega|assumption|skip))
 (refine awp_ret ?_;simp[go_sem])
theorem Valid_spec (v : List UInt8) (hl : v.length ≤ 1000000000) : PCall Tryz.prog 124 [dS v] fun r => r = dB (readV v).isSome := by 
 refine pcall_of Tryz.func124 rfl rfl Tryz.ntmps124 (rs := [.tmp 2]) (tys := [4]) rfl rfl (by simp) ?_
 have R1 := read_spec v hl
 (refine awp_sr fun Y Yh=>?_;simp[go_sem];((repeat' (first|(refine ag_x ?_;simp[go_sem])|intro _|apply And.intro|(apply Yh;clear Yh Y)));all_goals first|apply Hold.mk|omega|assumption|skip))
 (refine awp_sr fun Y Yh=>?_;simp[go_sem];((repeat' (first|(refine ag_x ?_;simp[go_sem])|intro _|apply And.intro|(apply Yh;clear Yh Y)));all_goals first|apply Hold.mk|omega|assumption|skip))
 ((try refine CallT.toA ?_);refine callT_m (.inl ⟨rfl,rfl⟩) (by simp[go_sem]) ?_;intro args ha;simp[go_sem] at ha;subst ha;refine ⟨_, R1, ?_⟩;rintro _ rfl;simp[go_sem];((repeat' (first|(refine ag_x ?_;simp[go_sem])|intro _|apply And.intro|(apply Yh;clear Yh Y)));all_goals first|apply Hold.mk|omega|assumption|skip))
 (refine awp_sr fun Y Yh=>?_;simp[go_sem];((repeat' (first|(refine ag_x ?_;simp[go_sem])|intro _|apply And.intro|(apply Yh;clear Yh Y)));all_goals first|apply Hold.mk|omega|assumption|skip))
 (refine awp_ret ?_;simp[go_sem])
@[go_sem] abbrev cRC (c : Cnd) : List D := [dS c.1, dS (textV c.2)]
@[go_sem] abbrev dRC (c : Cnd) : D := .agg [dS c.1, dS (textV c.2)]
@[go_sem] abbrev dRCs (l : List Cnd) : D := .sl 2 (l.map cRC)
set_option maxHeartbeats 8000000 in
theorem rconditions_spec (r : List UInt8) (hl : r.length ≤ 1000000) : PCall Tryz.prog 188 [dS r] fun x => x = .tup [dRCs (condsP r), dB (condsV r).isSome] := by 
 refine pcall_of Tryz.func188 rfl rfl Tryz.ntmps188 (rs := [.tmp 2, .tmp 3]) (tys := [263, 4]) rfl rfl (by simp) ?_
 have S1 := split_spec r [44, 32] (by omega) (by simp)
 rw [split_csv] at S1
 have hdl := csv_len 44 32 r
 have hdp := csv_part 44 32 r
 have hdn := csv_ne 44 32 r
 unfold condsP condsV
 (refine awp_sr fun Y Yh=>?_;simp[go_sem];((repeat' (first|(refine ag_x ?_;simp[go_sem])|intro _|apply And.intro|(apply Yh;clear Yh Y)));all_goals first|apply Hold.mk|omega|assumption|skip))
 refine awp_seq_k fun K1 hK1 => ?_
 (refine awp_sr fun Y Yh=>?_;simp[go_sem];((repeat' (first|(refine ag_x ?_;simp[go_sem])|intro _|apply And.intro|(apply Yh;clear Yh Y)));all_goals first|apply Hold.mk|omega|assumption|skip))
 (refine awp_if fun T F hT hF=>?_;simp[go_sem];refine BR.intro (fun h2=>hT ?_) (fun h2=>hF ?_);all_goals clear hT hF T F;try simp at h2) 
 ·(refine awp_sr fun Y Yh=>?_;simp[go_sem];((repeat' (first|(refine ag_x ?_;simp[go_sem])|intro _|apply And.intro|(apply Yh;clear Yh Y)));all_goals first|apply Hold.mk|omega|assumption|skip))
  (refine awp_ret ?_;simp[go_sem, h2])
 ·refine awp_skip ?_
  refine hK1 _ ?_; clear hK1
  simp only [h2, if_false]
  generalize hps : csv 44 32 r = ps at *
  (refine awp_sr fun Y Yh=>?_;simp[go_sem];((repeat' (first|(refine ag_x ?_;simp[go_sem])|intro _|apply And.intro|(apply Yh;clear Yh Y)));all_goals first|apply Hold.mk|omega|assumption|skip))
  ((try refine CallT.toA ?_);refine callT_m (.inl ⟨rfl,rfl⟩) (by simp[go_sem]) ?_;intro args ha;simp[go_sem] at ha;subst ha;refine ⟨_, S1, ?_⟩;rintro _ rfl;simp[go_sem];((repeat' (first|(refine ag_x ?_;simp[go_sem])|intro _|apply And.intro|(apply Yh;clear Yh Y)));all_goals first|apply Hold.mk|omega|assumption|skip))
  (refine awp_sr fun Y Yh=>?_;simp[go_sem];((repeat' (first|(refine ag_x ?_;simp[go_sem])|intro _|apply And.intro|(apply Yh;clear Yh Y)));all_goals first|apply Hold.mk|omega|assumption|skip))
  refine awp_nilslot 5 5 304 2 rfl fun g5 => ?_
  simp only [go_sem]
  refine awp_seq_k fun K3 hK3 => ?_
  (refine awp_sr fun Y Yh=>?_;simp[go_sem];((repeat' (first|(refine ag_x ?_;simp[go_sem])|intro _|apply And.intro|(apply Yh;clear Yh Y)));all_goals first|apply Hold.mk|omega|assumption|skip))
  refine awp_block ?_
  refine awp_loop (σ := Nat × List Cnd × Nat) (fun x => ⟨[(4, dSs ps), (5, .own 5 x.2.2), (6, dI x.1)], [(5, x.2.2, .row 304 2 (x.2.1.map cRC))]⟩) (fun x => x.1 ≤ ps.length ∧ x.2.1.length = x.1 ∧ cndsV (ps.take x.1) = some x.2.1) (fun x => ps.length - x.1) (0, [], g5) ?_ ?_ ?_
  ·(refine cov_of ?_ ?_ <;> simp[go_sem])
  ·exact ⟨by omega, rfl, rfl⟩
  rintro ⟨i, out, g⟩ ⟨hi, ho, hs⟩
  simp only at hi ho hs
  refine awp_seq_k fun K4 hK4 => ?_
  (refine awp_sr fun Y Yh=>?_;simp[go_sem];((repeat' (first|(refine ag_x ?_;simp[go_sem])|intro _|apply And.intro|(apply Yh;clear Yh Y)));all_goals first|apply Hold.mk|omega|assumption|skip))
  (refine awp_if fun T F hT hF=>?_;simp[go_sem];refine BR.intro (fun h5=>hT ?_) (fun h5=>hF ?_);all_goals clear hT hF T F;try simp at h5) 
  ·refine awp_skip ?_
   refine hK4 _ ?_; clear hK4
   have hi' : i < ps.length := by omega
   obtain ⟨p, hp⟩ : ∃ p, ps[i]? = some p := ⟨_, List.getElem?_eq_getElem hi'⟩
   have hpm : p ∈ ps := List.mem_of_getElem? hp
   have hpl := hdp p hpm
   have R1 := cut_spec p [32] (by omega)
   have hbad := cndsV_bad hpm
   have hsn := fun (x : Cnd) (h : cndV p = some x) => cndsV_snoc hs h
   obtain ⟨o, v, is, hcut⟩ : ∃ o v is, Lib.cut p [32] = (o, v, is) := ⟨_, _, _, rfl⟩
   rw [hcut] at R1
   simp only at R1
   have hcc := cut_cnd hcut
   have hcl := cut_len hcut
   have hms := fun (h : is = false) => cut_miss (p := p) (o := o) (v := v) (by rw [← h]; exact hcut)
   have R2 := rValid_spec v (by omega)
   have hrk := @readV_ok v
   refine awp_seq_k fun K6 hK6 => ?_
   refine awp_block ?_
   (refine awp_sr fun Y Yh=>?_;simp[go_sem, hp];((repeat' (first|(refine ag_x ?_;simp[go_sem, hp])|intro _|apply And.intro|(apply Yh;clear Yh Y)));all_goals first|apply Hold.mk|omega|assumption|skip))
   ((try refine CallT.toA ?_);refine callT_m (.inl ⟨rfl,rfl⟩) (by simp[go_sem]) ?_;intro args ha;simp[go_sem] at ha;subst ha;refine ⟨_, R1, ?_⟩;rintro _ rfl;simp[go_sem];((repeat' (first|(refine ag_x ?_;simp[go_sem])|intro _|apply And.intro|(apply Yh;clear Yh Y)));all_goals first|apply Hold.mk|omega|assumption|skip))
   refine awp_seq_k fun K7 hK7 => ?_
   (refine awp_sr fun Y Yh=>?_;simp[go_sem];((repeat' (first|(refine ag_x ?_;simp[go_sem])|intro _|apply And.intro|(apply Yh;clear Yh Y)));all_goals first|apply Hold.mk|omega|assumption|skip))
   refine awp_block ?_
   refine awp_seq_k fun K8 hK8 => ?_
   have tl8 : ∀ S', Cov S' ⟨[(4, dSs ps), (5, .own 5 g), (6, dI i), (7, dS o), (8, dS v), (30, dB (decide (o ∈ opsV)))], [(5, g, .row 304 2 (out.map cRC))]⟩ → K8 S' := fun S' hS => by
    refine hK8 _ ?_; clear hK8
    refine awp_cov hS ?_; clear hS
    (refine awp_if fun T F hT hF=>?_;simp[go_sem];refine BR.intro (fun h9=>hT ?_) (fun h9=>hF ?_);all_goals clear hT hF T F;try simp at h9) 
    ·refine awp_skip ?_
     refine hK7 _ ?_; clear hK7
     refine awp_seq_k fun K10 hK10 => ?_
     generalize hsv : readV v = sv at *
     (refine awp_sr fun Y Yh=>?_;simp[go_sem];((repeat' (first|(refine ag_x ?_;simp[go_sem])|intro _|apply And.intro|(apply Yh;clear Yh Y)));all_goals first|apply Hold.mk|omega|assumption|skip))
     ((try refine CallT.toA ?_);refine callT_m (.inl ⟨rfl,rfl⟩) (by simp[go_sem]) ?_;intro args ha;simp[go_sem] at ha;subst ha;refine ⟨_, R2, ?_⟩;rintro _ rfl;simp[go_sem];((repeat' (first|(refine ag_x ?_;simp[go_sem])|intro _|apply And.intro|(apply Yh;clear Yh Y)));all_goals first|apply Hold.mk|omega|assumption|skip))
     cases sv with
     | none =>
      (refine awp_if fun T F hT hF=>?_;simp[go_sem];refine hT ?_;clear hT hF T F)
      (refine awp_sr fun Y Yh=>?_;simp[go_sem];((repeat' (first|(refine ag_x ?_;simp[go_sem])|intro _|apply And.intro|(apply Yh;clear Yh Y)));all_goals first|apply Hold.mk|omega|assumption|skip))
      (refine awp_ret ?_;simp[go_sem, hbad (by rw [hcc]; simp)])
     | some l =>
      obtain ⟨hvo, hvt, hvl⟩ := hrk rfl
      have his : is = true := by
       cases is with
       | true => rfl
       | false =>
        have := (hms rfl).1
        subst this
        rw [readV_nil] at hsv
        cases hsv
      subst his
      simp only [h9, true_and, if_true, Option.map_some] at hcc
      (refine awp_if fun T F hT hF=>?_;simp[go_sem];refine hF ?_;clear hT hF T F)
      refine awp_skip ?_
      refine hK10 _ ?_; clear hK10
      (refine awp_r fun Y Yh=>?_;simp[go_sem];((repeat' (first|(refine ag_x ?_;simp[go_sem])|intro _|apply And.intro|(apply Yh;clear Yh Y)));all_goals first|apply Hold.mk|omega|assumption|skip))
      refine hK6 _ ?_; clear hK6
      (refine awp_r fun Y Yh=>?_;simp[go_sem];((repeat' (first|(refine ag_x ?_;simp[go_sem])|intro _|apply And.intro|(apply Yh;clear Yh Y)));all_goals first|apply Hold.mk|omega|assumption|skip))
      rename_i g28 g'
      have e : ps.take (i + 1) = ps.take i ++ [p] := by rw [List.take_add_one, hp]; rfl
      refine ⟨(i + 1, out ++ [(o, l)], g'), ?_, ⟨by simp only; omega, by simp [ho], ?_⟩, by simp only; omega⟩
      ·(refine cov_of ?_ ?_ <;> simp[go_sem, hvt])
      ·simp only [e]
       exact hsn _ hcc
    ·(refine awp_sr fun Y Yh=>?_;simp[go_sem];((repeat' (first|(refine ag_x ?_;simp[go_sem])|intro _|apply And.intro|(apply Yh;clear Yh Y)));all_goals first|apply Hold.mk|omega|assumption|skip))
     (refine awp_ret ?_;simp[go_sem, hbad (by rw [hcc]; simp [h9])])
   clear hK8
   (refine awp_sr fun Y Yh=>?_;simp[go_sem];((repeat' (first|(refine ag_x ?_;simp[go_sem])|intro _|apply And.intro|(apply Yh;clear Yh Y)));all_goals first|apply Hold.mk|omega|assumption|skip))
   (refine awp_if fun T F hT hF=>?_;simp[go_sem];refine BR.intro (fun h12=>hT ?_) (fun h12=>hF ?_);all_goals clear hT hF T F;try simp at h12) 
   ·refine awp_skip ?_
    refine tl8 _ ?_
    (refine cov_of ?_ ?_ <;> simp[go_sem, h12, opsV])
   ·(refine awp_sr fun Y Yh=>?_;simp[go_sem];((repeat' (first|(refine ag_x ?_;simp[go_sem])|intro _|apply And.intro|(apply Yh;clear Yh Y)));all_goals first|apply Hold.mk|omega|assumption|skip))
    (refine awp_if fun T F hT hF=>?_;simp[go_sem];refine BR.intro (fun h13=>hT ?_) (fun h13=>hF ?_);all_goals clear hT hF T F;try simp at h13) 
    ·refine awp_skip ?_
     refine tl8 _ ?_
     (refine cov_of ?_ ?_ <;> simp[go_sem, h13, opsV])
    ·(refine awp_sr fun Y Yh=>?_;simp[go_sem];((repeat' (first|(refine ag_x ?_;simp[go_sem])|intro _|apply And.intro|(apply Yh;clear Yh Y)));all_goals first|apply Hold.mk|omega|assumption|skip))
     (refine awp_if fun T F hT hF=>?_;simp[go_sem];refine BR.intro (fun h14=>hT ?_) (fun h14=>hF ?_);all_goals clear hT hF T F;try simp at h14) 
     ·refine awp_skip ?_
      refine tl8 _ ?_
      (refine cov_of ?_ ?_ <;> simp[go_sem, h14, opsV])
     ·(refine awp_sr fun Y Yh=>?_;simp[go_sem];((repeat' (first|(refine ag_x ?_;simp[go_sem])|intro _|apply And.intro|(apply Yh;clear Yh Y)));all_goals first|apply Hold.mk|omega|assumption|skip))
      (refine awp_if fun T F hT hF=>?_;simp[go_sem];refine BR.intro (fun h15=>hT ?_) (fun h15=>hF ?_);all_goals clear hT hF T F;try simp at h15) 
      ·refine awp_skip ?_
       refine tl8 _ ?_
       (refine cov_of ?_ ?_ <;> simp[go_sem, h15, opsV])
      ·(refine awp_sr fun Y Yh=>?_;simp[go_sem];((repeat' (first|(refine ag_x ?_;simp[go_sem])|intro _|apply And.intro|(apply Yh;clear Yh Y)));all_goals first|apply Hold.mk|omega|assumption|skip))
       (refine awp_if fun T F hT hF=>?_;simp[go_sem];refine BR.intro (fun h16=>hT ?_) (fun h16=>hF ?_);all_goals clear hT hF T F;try simp at h16) 
       ·refine awp_skip ?_
        refine tl8 _ ?_
        (refine cov_of ?_ ?_ <;> simp[go_sem, h16, opsV])
       ·(refine awp_sr fun Y Yh=>?_;simp[go_sem];((repeat' (first|(refine ag_x ?_;simp[go_sem])|intro _|apply And.intro|(apply Yh;clear Yh Y)));all_goals first|apply Hold.mk|omega|assumption|skip))
        (refine awp_if fun T F hT hF=>?_;simp[go_sem];refine BR.intro (fun h17=>hT ?_) (fun h17=>hF ?_);all_goals clear hT hF T F;try simp at h17) 
        ·refine awp_skip ?_
         refine tl8 _ ?_
         (refine cov_of ?_ ?_ <;> simp[go_sem, h17, opsV])
        ·(refine awp_r fun Y Yh=>?_;simp[go_sem];((repeat' (first|(refine ag_x ?_;simp[go_sem])|intro _|apply And.intro|(apply Yh;clear Yh Y)));all_goals first|apply Hold.mk|omega|assumption|skip))
         refine tl8 _ ?_
         (refine cov_of ?_ ?_ <;> simp[go_sem, h12, h13, h14, h15, h16, h17, opsV])
         rw [Bool.eq_iff_iff]; simp
  ·refine awp_exit ?_
   simp only [go_sem]
   refine hK3 _ ?_; clear hK3
   have hie : i = ps.length := by omega
   subst hie
   rw [List.take_length] at hs
   (refine awp_sr fun Y Yh=>?_;simp[go_sem];((repeat' (first|(refine ag_x ?_;simp[go_sem])|intro _|apply And.intro|(apply Yh;clear Yh Y)));all_goals first|apply Hold.mk|omega|assumption|skip))
   (refine awp_ret ?_;simp[go_sem, hs])
   split
   ·rename_i hq
    simp; omega
   ·rename_i hq
    simp; omega
theorem rCompare_spec (v w : List UInt8) (hv : v.length ≤ 1000000) (hw : w.length ≤ 1000000) : PCall Tryz.prog 55 [dS v, dS w] fun r => r = .tup [dI (compareP v w), dI (codeP ((readV v).isSome && (readV w).isSome))] := by 
 refine pcall_of Tryz.func55 rfl rfl Tryz.ntmps55 (rs := [.tmp 4, .tmp 5]) (tys := [3, 35]) rfl rfl (by simp) ?_
 have R1 := rread_spec v (by omega)
 have R2 := rread_spec w (by omega)
 have h1 := @read_ok v
 have h2 := @read_ok w
 unfold compareP codeP
 unfold readR at R1 R2
 generalize readP v = a at *
 generalize readP w = b at *
 have C := fun (p : (readV v).isSome = true) (q : (readV w).isSome = true) => rorder_spec a b (by have := (h1 p).2.1.1; omega) (by have := (h2 q).2.1.1; omega) (wz_ok (h1 p).2.1) (wz_ok (h2 q).2.1)
 generalize (readV v).isSome = x at *
 generalize (readV w).isSome = y at *
 (refine awp_sr fun Y Yh=>?_;simp[go_sem];((repeat' (first|(refine ag_x ?_;simp[go_sem])|intro _|apply And.intro|(apply Yh;clear Yh Y)));all_goals first|apply Hold.mk|omega|assumption|skip))
 (refine awp_sr fun Y Yh=>?_;simp[go_sem];((repeat' (first|(refine ag_x ?_;simp[go_sem])|intro _|apply And.intro|(apply Yh;clear Yh Y)));all_goals first|apply Hold.mk|omega|assumption|skip))
 ((try refine CallT.toA ?_);refine callT_m (.inl ⟨rfl,rfl⟩) (by simp[go_sem]) ?_;intro args ha;simp[go_sem] at ha;subst ha;refine ⟨_, R1, ?_⟩;rintro _ rfl;simp[go_sem];((repeat' (first|(refine ag_x ?_;simp[go_sem])|intro _|apply And.intro|(apply Yh;clear Yh Y)));all_goals first|apply Hold.mk|omega|assumption|skip))
 (refine awp_sr fun Y Yh=>?_;simp[go_sem];((repeat' (first|(refine ag_x ?_;simp[go_sem])|intro _|apply And.intro|(apply Yh;clear Yh Y)));all_goals first|apply Hold.mk|omega|assumption|skip))
 ((try refine CallT.toA ?_);refine callT_m (.inl ⟨rfl,rfl⟩) (by simp[go_sem]) ?_;intro args ha;simp[go_sem] at ha;subst ha;refine ⟨_, R2, ?_⟩;rintro _ rfl;simp[go_sem];((repeat' (first|(refine ag_x ?_;simp[go_sem])|intro _|apply And.intro|(apply Yh;clear Yh Y)));all_goals first|apply Hold.mk|omega|assumption|skip))
 refine awp_seq_k fun K1 hK1 => ?_
 cases x with
 | false =>
  (refine awp_sr fun Y Yh=>?_;simp[go_sem];((repeat' (first|(refine ag_false (by simp[go_sem, undef]) (by simp[go_sem]) ?_;simp[go_sem])|intro _|apply And.intro|(apply Yh;clear Yh Y)));all_goals first|apply Hold.mk|omega|assumption|skip))
  (refine awp_if fun T F hT hF=>?_;simp[go_sem];refine hT ?_;clear hT hF T F)
  (refine awp_sr fun Y Yh=>?_;simp[go_sem];((repeat' (first|(refine ag_x ?_;simp[go_sem])|intro _|apply And.intro|(apply Yh;clear Yh Y)));all_goals first|apply Hold.mk|omega|assumption|skip))
  (refine awp_ret ?_;simp[go_sem])
 | true =>
  cases y with
  | false =>
   (refine awp_sr fun Y Yh=>?_;simp[go_sem];((repeat' (first|(refine ag_x ?_;simp[go_sem])|intro _|apply And.intro|(apply Yh;clear Yh Y)));all_goals first|apply Hold.mk|omega|assumption|skip))
   (refine awp_if fun T F hT hF=>?_;simp[go_sem];refine hT ?_;clear hT hF T F)
   (refine awp_sr fun Y Yh=>?_;simp[go_sem];((repeat' (first|(refine ag_x ?_;simp[go_sem])|intro _|apply And.intro|(apply Yh;clear Yh Y)));all_goals first|apply Hold.mk|omega|assumption|skip))
   (refine awp_ret ?_;simp[go_sem])
  | true =>
   simp only [if_true] at R1 R2
   (refine awp_sr fun Y Yh=>?_;simp[go_sem];((repeat' (first|(refine ag_x ?_;simp[go_sem])|intro _|apply And.intro|(apply Yh;clear Yh Y)));all_goals first|apply Hold.mk|omega|assumption|skip))
   (refine awp_if fun T F hT hF=>?_;simp[go_sem];refine hF ?_;clear hT hF T F)
   refine awp_skip ?_
   refine hK1 _ ?_; clear hK1
   (refine awp_sr fun Y Yh=>?_;simp[go_sem];((repeat' (first|(refine ag_x ?_;simp[go_sem])|intro _|apply And.intro|(apply Yh;clear Yh Y)));all_goals first|apply Hold.mk|omega|assumption|skip))
   ((try refine CallT.toA ?_);refine callT_m (.inl ⟨rfl,rfl⟩) (by simp[go_sem]) ?_;intro args ha;simp[go_sem] at ha;subst ha;refine ⟨_, (C rfl rfl), ?_⟩;rintro _ rfl;simp[go_sem];((repeat' (first|(refine ag_x ?_;simp[go_sem])|intro _|apply And.intro|(apply Yh;clear Yh Y)));all_goals first|apply Hold.mk|omega|assumption|skip))
   (refine awp_ret ?_;simp[go_sem])
theorem Check_spec (r : List UInt8) (hl : r.length ≤ 1000000) : PCall Tryz.prog 165 [dS r] fun y => y = dI (codeP (condsV r).isSome) := by 
 refine pcall_of Tryz.func165 rfl rfl Tryz.ntmps165 (rs := [.tmp 2]) (tys := [35]) rfl rfl (by simp) ?_
 have R1 := conditions_spec r (by omega)
 unfold codeP
 generalize (condsV r).isSome = x at *
 (refine awp_sr fun Y Yh=>?_;simp[go_sem];((repeat' (first|(refine ag_x ?_;simp[go_sem])|intro _|apply And.intro|(apply Yh;clear Yh Y)));all_goals first|apply Hold.mk|omega|assumption|skip))
 refine awp_seq_k fun K1 hK1 => ?_
 (refine awp_sr fun Y Yh=>?_;simp[go_sem];((repeat' (first|(refine ag_x ?_;simp[go_sem])|intro _|apply And.intro|(apply Yh;clear Yh Y)));all_goals first|apply Hold.mk|omega|assumption|skip))
 ((try refine CallT.toA ?_);refine callT_m (.inl ⟨rfl,rfl⟩) (by simp[go_sem]) ?_;intro args ha;simp[go_sem] at ha;subst ha;refine ⟨_, R1, ?_⟩;rintro _ rfl;simp[go_sem];((repeat' (first|(refine ag_x ?_;simp[go_sem])|intro _|apply And.intro|(apply Yh;clear Yh Y)));all_goals first|apply Hold.mk|omega|assumption|skip))
 (refine awp_sr fun Y Yh=>?_;simp[go_sem];((repeat' (first|(refine ag_x ?_;simp[go_sem])|intro _|apply And.intro|(apply Yh;clear Yh Y)));all_goals first|apply Hold.mk|omega|assumption|skip))
 (refine awp_if fun T F hT hF=>?_;simp[go_sem];refine BR.intro (fun h2=>hT ?_) (fun h2=>hF ?_);all_goals clear hT hF T F;try simp at h2) 
 ·(refine awp_sr fun Y Yh=>?_;simp[go_sem];((repeat' (first|(refine ag_x ?_;simp[go_sem])|intro _|apply And.intro|(apply Yh;clear Yh Y)));all_goals first|apply Hold.mk|omega|assumption|skip))
  (refine awp_ret ?_;simp[go_sem, h2])
 ·refine awp_skip ?_
  refine hK1 _ ?_; clear hK1
  (refine awp_sr fun Y Yh=>?_;simp[go_sem];((repeat' (first|(refine ag_x ?_;simp[go_sem])|intro _|apply And.intro|(apply Yh;clear Yh Y)));all_goals first|apply Hold.mk|omega|assumption|skip))
  (refine awp_ret ?_;simp[go_sem, h2])
theorem rCheck_spec (r : List UInt8) (hl : r.length ≤ 1000000) : PCall Tryz.prog 146 [dS r] fun y => y = dI (codeP (condsV r).isSome) := by 
 refine pcall_of Tryz.func146 rfl rfl Tryz.ntmps146 (rs := [.tmp 2]) (tys := [35]) rfl rfl (by simp) ?_
 have R1 := rconditions_spec r (by omega)
 unfold codeP
 generalize (condsV r).isSome = x at *
 (refine awp_sr fun Y Yh=>?_;simp[go_sem];((repeat' (first|(refine ag_x ?_;simp[go_sem])|intro _|apply And.intro|(apply Yh;clear Yh Y)));all_goals first|apply Hold.mk|omega|assumption|skip))
 refine awp_seq_k fun K1 hK1 => ?_
 (refine awp_sr fun Y Yh=>?_;simp[go_sem];((repeat' (first|(refine ag_x ?_;simp[go_sem])|intro _|apply And.intro|(apply Yh;clear Yh Y)));all_goals first|apply Hold.mk|omega|assumption|skip))
 ((try refine CallT.toA ?_);refine callT_m (.inl ⟨rfl,rfl⟩) (by simp[go_sem]) ?_;intro args ha;simp[go_sem] at ha;subst ha;refine ⟨_, R1, ?_⟩;rintro _ rfl;simp[go_sem];((repeat' (first|(refine ag_x ?_;simp[go_sem])|intro _|apply And.intro|(apply Yh;clear Yh Y)));all_goals first|apply Hold.mk|omega|assumption|skip))
 (refine awp_sr fun Y Yh=>?_;simp[go_sem];((repeat' (first|(refine ag_x ?_;simp[go_sem])|intro _|apply And.intro|(apply Yh;clear Yh Y)));all_goals first|apply Hold.mk|omega|assumption|skip))
 (refine awp_if fun T F hT hF=>?_;simp[go_sem];refine BR.intro (fun h2=>hT ?_) (fun h2=>hF ?_);all_goals clear hT hF T F;try simp at h2) 
 ·(refine awp_sr fun Y Yh=>?_;simp[go_sem];((repeat' (first|(refine ag_x ?_;simp[go_sem])|intro _|apply And.intro|(apply Yh;clear Yh Y)));all_goals first|apply Hold.mk|omega|assumption|skip))
  (refine awp_ret ?_;simp[go_sem, h2])
 ·refine awp_skip ?_
  refine hK1 _ ?_; clear hK1
  (refine awp_sr fun Y Yh=>?_;simp[go_sem];((repeat' (first|(refine ag_x ?_;simp[go_sem])|intro _|apply And.intro|(apply Yh;clear Yh Y)));all_goals first|apply Hold.mk|omega|assumption|skip))
  (refine awp_ret ?_;simp[go_sem, h2])
end Go.Proofs.YteekfnhhlcmcgaaGreatDoor
namespace Go.Ver
open Go.Lib Go.Wh
end Go.Ver
namespace Go.Ver
/-! what the code of stable sorting does with lists -/
variable {α : Type} {lt : α → α → Bool}
theorem two_at {P Q R : List α} {x y : α} {p q : Nat} (hp : p = P.length) (hq : q = P.length + 1 + Q.length) :
  (P ++ x :: (Q ++ y :: R))[p]? = some x ∧ (P ++ x :: (Q ++ y :: R))[q]? = some y := by
 subst hp hq
 refine ⟨by simp, ?_⟩
 rw [List.getElem?_append_right (by omega)]
 rw [show P.length + 1 + Q.length - P.length = Q.length + 1 by omega, List.getElem?_cons_succ]
 simp
theorem two_set {P Q R : List α} {x y : α} {p q : Nat} (hp : p = P.length) (hq : q = P.length + 1 + Q.length) :
  ((P ++ x :: (Q ++ y :: R)).set p y).set q x = P ++ y :: (Q ++ x :: R) := by
 subst hp hq
 rw [List.set_append_right _ _ (by omega), Nat.sub_self, List.set_cons_zero]
 rw [List.set_append_right _ _ (by omega), show P.length + 1 + Q.length - P.length = Q.length + 1 by omega, List.set_cons_succ]
 rw [List.set_append_right _ _ (by omega), Nat.sub_self, List.set_cons_zero]
theorem two_setR {P Q R : List α} {x y : α} {p q : Nat} (hp : p = P.length) (hq : q = P.length + 1 + Q.length) :
  ((P ++ x :: (Q ++ y :: R)).set q x).set p y = P ++ y :: (Q ++ x :: R) := by
 rw [List.set_comm _ _ (by omega)]
 exact two_set hp hq
theorem srt_app {A B : List α} (h : Srt lt (A ++ B)) : Srt lt A ∧ Srt lt B ∧ ∀ x ∈ A, ∀ y ∈ B, lt y x = false := by
 obtain ⟨h1, h2, h3⟩ := List.pairwise_append.1 h
 exact ⟨h1, h2, h3⟩
theorem srt_before (w : Weakly lt) {A : List α} {y z : α} (h : Srt lt (A ++ [y])) (hz : lt z y = false) : ∀ x ∈ A ++ [y], lt z x = false := by
 intro x hx
 rcases List.mem_append.1 hx with hx | hx
 ·exact w.neg x y z ((srt_app h).2.2 x hx y (by simp)) hz
 ·simp at hx; subst hx; exact hz
theorem sort_len : ∀ (l : List α), (sortL lt l).length = l.length
 | [] => rfl
 | x :: l => by
  show (mergeL lt [x] (sortL lt l)).length = _
  rw [merge_len, sort_len l]; simp; omega
where merge_len : ∀ {L R : List α}, (mergeL lt L R).length = L.length + R.length
 | [], R => by simp [merge_nil_l]
 | l :: L, [] => by simp [merge_nil_r]
 | l :: L, r :: R => by
  rw [merge_cons]
  split
  ·simp only [List.length_cons]; rw [merge_len]; simp only [List.length_cons]; omega
  ·simp only [List.length_cons]; rw [merge_len]; simp only [List.length_cons]; omega
termination_by L R => L.length + R.length
theorem merge_len (L R : List α) : (mergeL lt L R).length = L.length + R.length := sort_len.merge_len
theorem sort_mem {l : List α} {x : α} : x ∈ sortL lt l ↔ x ∈ l := by
 induction l with
 | nil => simp [sortL]
 | cons y l ih =>
  show x ∈ mergeL lt [y] (sortL lt l) ↔ _
  rw [merge_mem, ih]; simp
/-! blocks that are sorted each -/
variable {α : Type} {lt : α → α → Bool}
end Go.Ver
namespace Go.Ver
open Go.Lib Go.Wh
/-! lists of versions -/
def cV (x y : List UInt8) : Int := cmpV (readP x) (readP y)
/-! made versions in lists -/
end Go.Ver
namespace Go.Lk
open Go.Lib Go.Wh Go.Ver
/-! locks: names, needs, sums -/
abbrev Bs := List UInt8
abbrev Prs := Bs × Bs
def nmC (c : UInt8) : Bool := isL c || isD c || decide (c.toNat = 95) || decide (c.toNat = 45)
def nameV (s : Bs) : Bool := match s with
 | [] => false
 | c :: r => isL c && r.all nmC && decide (r.length < 20)
def nmAt (i : Nat) (c : UInt8) : Bool := isL c || (decide (i ≠ 0) && nmC c)
def nmTo (s : Bs) : Nat → Bool
 | 0 => true
 | n + 1 => nmTo s n && (match s[n]? with | some c => nmAt n c | none => true)
theorem nmTo_step {s : Bs} {n : Nat} {c : UInt8} (h : s[n]? = some c) : nmTo s (n + 1) = (nmTo s n && nmAt n c) := by
 simp only [nmTo, h]
theorem nmTo_all : ∀ (s : Bs) (c : UInt8) (n : Nat), nmTo (c :: s) (n + 1) = (isL c && (s.take n).all nmC)
 | s, c, 0 => by simp [nmTo, nmAt]
 | s, c, n + 1 => by
  rw [nmTo, nmTo_all s c n]
  simp only [List.getElem?_cons_succ]
  rw [List.take_add_one, List.all_append, Bool.and_assoc]
  congr 2
  cases h : s[n]? with
  | none => simp
  | some d => simp [nmAt, nmC]; cases isL d <;> simp
theorem nameV_nm (s : Bs) : nameV s = (nmTo s s.length && (decide (s ≠ []) && decide (s.length ≤ 20))) := by
 cases s with
 | nil => simp [nameV, nmTo]
 | cons c r =>
  rw [List.length_cons, nmTo_all, List.take_length]
  simp [nameV]
  congr 1
  cases h : decide (r.length < 20) <;> simp at h <;> simp <;> omega
theorem nmTo_bad {s : Bs} {n : Nat} (h : nmTo s n = false) : ∀ m, n ≤ m → nmTo s m = false
 | 0, hm => by
  have : n = 0 := by omega
  subst this; exact h
 | m + 1, hm => by
  by_cases e : n = m + 1
  ·subst e; exact h
  ·rw [nmTo, nmTo_bad h m (by omega)]; rfl
/-! needs in a list: each named and asked rightly, ascending -/
def needAt (l : List Prs) (i : Nat) : Bool := match l[i]? with
 | some x => nameV x.1 && (condsV x.2).isSome && (decide (i = 0) || (match l[i - 1]? with | some y => Op.bytesLess y.1 x.1 | none => true))
 | none => true
def needTo (l : List Prs) : Nat → Bool
 | 0 => true
 | n + 1 => needTo l n && needAt l n
theorem needTo_bad {l : List Prs} {n : Nat} (h : needTo l n = false) : ∀ m, n ≤ m → needTo l m = false
 | 0, hm => by
  have : n = 0 := by omega
  subst this; exact h
 | m + 1, hm => by
  by_cases e : n = m + 1
  ·subst e; exact h
  ·rw [needTo, needTo_bad h m (by omega)]; rfl
def needsV (most : Nat) (l : List Prs) : Bool := needTo l l.length && decide (l.length ≤ most)
abbrev Lck := List Prs × List (List Prs) × List Prs
def pickAt (L : Lck) (i : Nat) : Bool := match L.1[i]? with
 | some x => nameV x.1 && (readV x.2).isSome && (decide (i = 0) || (match L.1[i - 1]? with | some y => Op.bytesLess y.1 x.1 | none => true)) && needsV 6 (L.2.1.getD i [])
 | none => true
def pickTo (L : Lck) : Nat → Bool
 | 0 => true
 | n + 1 => pickTo L n && pickAt L n
theorem pickTo_bad {L : Lck} {n : Nat} (h : pickTo L n = false) : ∀ m, n ≤ m → pickTo L m = false
 | 0, hm => by
  have : n = 0 := by omega
  subst this; exact h
 | m + 1, hm => by
  by_cases e : n = m + 1
  ·subst e; exact h
  ·rw [pickTo, pickTo_bad h m (by omega)]; rfl
def lockV (L : Lck) : Bool := decide (L.1.length ≤ 60) && decide (L.2.1.length = L.1.length) && needsV 8 L.2.2 && pickTo L L.1.length
/-! the sum -/
def sumV (s : Bs) : Nat → Nat
 | 0 => 0
 | n + 1 => (sumV s n + (s.getD n 0).toNat * ((n + 1) % 1000003)) % 1000003
theorem sumV_lt (s : Bs) : ∀ n, sumV s n < 1000003
 | 0 => by simp [sumV]
 | n + 1 => by unfold sumV; exact Nat.mod_lt _ (by omega)
/-! a line: a name, and what stands in brackets behind it -/
def nmdV (s : Bs) : Option (Bs × Bs × Bool) :=
 let c := cut s [32, 40]
 if c.1 = [] ∨ c.1.all nmC = false then none
 else if c.2.2 = false then some (c.1, [], false)
 else
  let d := cut c.2.1 [41]
  if d.2.2 = true ∧ d.2.1 = [] ∧ d.1 ≠ [] then some (c.1, d.1, true) else none
structure PS where
 part : Nat
 picks : List Prs
 needs : List (List Prs)
 wish : List Prs
 sum : Bs
def pre4 : Bs := [32, 32, 32, 32]
def pre2 : Bs := [32, 32]
def preSum : Bs := [83, 85, 77, 32]
def entryV (p : PS) (s : Bs) : Option PS :=
 if pre4.isPrefixOf s = true then
  match nmdV (s.drop 4) with
  | some (n, i, _) => if p.part = 3 ∨ p.picks = [] then none
   else some { p with needs := p.needs.set (p.picks.length - 1) (p.needs.getD (p.picks.length - 1) [] ++ [(n, i)]) }
  | none => none
 else if pre2.isPrefixOf s = true then
  match nmdV (s.drop 2) with
  | some (n, i, b) => if p.part = 1 ∧ b = false then none
   else if p.part = 3 then some { p with wish := p.wish ++ [(n, i)] }
   else some { p with picks := p.picks ++ [(n, i)], needs := p.needs ++ [[]] }
  | none => none
 else none
def digV (d : Bs) : Bool := decide (d ≠ []) && d.all isD && (decide (d = [48]) || decide (d.head? ≠ some 48))
def gemsT : Bs := [71, 69, 77, 83]
def wishT : Bs := [87, 73, 83, 72]
def lineV (p : PS) (s : Bs) : Option PS :=
 match p.part with
 | 0 => if s = gemsT then some { p with part := 1 } else none
 | 1 => if s = [] then some { p with part := 2 } else entryV p s
 | 2 => if s = wishT then some { p with part := 3 } else none
 | 3 => if s = [] then some { p with part := 4 } else entryV p s
 | 4 => if preSum.isPrefixOf s = true ∧ digV (s.drop 4) = true then some { p with part := 5, sum := s.drop 4 } else none
 | _ => none
theorem cut_cases (s sep : Bs) : (∃ a r, cut s sep = (a, r, true) ∧ s = a ++ (sep ++ r)) ∨ (cut s sep = (s, [], false) ∧ ∀ j, j ≤ s.length → occAt s sep j = false) := by
 rcases index_spec s sep with ⟨h1, h2⟩ | ⟨i, h1, h2, h3, _⟩
 ·right
  refine ⟨?_, h2⟩
  unfold cut; rw [h1]; simp
 ·left
  refine ⟨s.take i, s.drop (i + sep.length), ?_, ?_⟩
  ·unfold cut; rw [h1, if_pos (by omega)]; simp
  ·unfold occAt at h3
   obtain ⟨t, ht⟩ := List.isPrefixOf_iff_prefix.1 h3
   have e : s.drop (i + sep.length) = t := by rw [← List.drop_drop, ← ht]; simp
   rw [e, ht, List.take_append_drop]
end Go.Lk
namespace Go.Proofs.YteekfnhhlcmcgaaGreatDoor
open Go.Eng Go.Wh Go.Ver Go.Lk
set_option maxRecDepth 20000
attribute [local irreducible] AG CallA CallT AWp PCall ACall AgC
@[go_sem] abbrev cB (b : UInt8) : List D := [.v (.int .u8 b.toNat)]
@[go_sem] abbrev cP (x : Prs) : List D := [dS x.1, dS x.2]
@[go_sem] abbrev dP (x : Prs) : D := .agg [dS x.1, dS x.2]
@[go_sem] abbrev dPs (l : List Prs) : D := .sl 2 (l.map cP)
@[go_sem] abbrev dNs (l : List (List Prs)) : D := .sl 1 (l.map fun n => [dPs n])
@[go_sem] abbrev dLk (L : Lck) : D := .agg [dPs L.1, dNs L.2.1, dPs L.2.2]
theorem ba_drop (s : List UInt8) (n : Nat) : ({ data := s.toArray } : ByteArray).extract n s.length = { data := (s.drop n).toArray } := by
 apply ByteArray.ext
 simp
 rw [List.take_of_length_le (by simp)]
theorem hasPre1 (s p : List UInt8) (hs : s.length ≤ 9223372036854775807) (hp : p.length ≤ 9223372036854775807) : PCall Tryz.prog 240 [dS s, dS p] fun r => r = dB (p.isPrefixOf s) := by 
 refine pcall_of Tryz.func240 rfl rfl Tryz.ntmps240 (rs := [.tmp 4]) (tys := [4]) rfl rfl (by simp) ?_
 have h1 : p.length ≤ s.length → (s.take p.length = p ↔ p.isPrefixOf s = true) := fun h => by
  rw [List.isPrefixOf_iff_prefix, List.prefix_iff_eq_take]; exact eq_comm
 have h2 : ¬ p.length ≤ s.length → p.isPrefixOf s = false := fun h => by
  rw [Bool.eq_false_iff]; intro q
  exact h (List.isPrefixOf_iff_prefix.1 q).length_le
 generalize p.isPrefixOf s = b at *
 (refine awp_sr fun Y Yh=>?_;simp[go_sem];((repeat' (first|(refine ag_x ?_;simp[go_sem])|intro _|apply And.intro|(apply Yh;clear Yh Y)));all_goals first|apply Hold.mk|omega|assumption|skip))
 by_cases h : p.length ≤ s.length
 ·have h' : (p.length : Int) ≤ s.length := by omega
  have h1 := h1 h
  (refine awp_sr fun Y Yh=>?_;simp[go_sem, h'];((repeat' (first|(refine ag_x ?_;simp[go_sem, h'])|intro _|apply And.intro|(apply Yh;clear Yh Y)));all_goals first|apply Hold.mk|omega|assumption|skip))
  (refine awp_ret ?_;simp[go_sem])
  rw [Bool.eq_iff_iff, ← h1]
  simp
 ·have h' : ¬ (p.length : Int) ≤ s.length := by omega
  (refine awp_sr fun Y Yh=>?_;simp[go_sem, h'];((repeat' (first|(refine ag_false (by simp[go_sem, undef, h']) (by simp[go_sem]) ?_;simp[go_sem, h'])|intro _|apply And.intro|(apply Yh;clear Yh Y)));all_goals first|apply Hold.mk|omega|assumption|skip))
  (refine awp_ret ?_;simp[go_sem, h2 h])
theorem cutPre1 (s p : List UInt8) (hs : s.length ≤ 9223372036854775807) (hp : p.length ≤ 9223372036854775807) : PCall Tryz.prog 197 [dS s, dS p] fun r => r = .tup [dS (if p.isPrefixOf s = true then s.drop p.length else s), dB (p.isPrefixOf s)] := by 
 refine pcall_of Tryz.func197 rfl rfl Tryz.ntmps197 (rs := [.tmp 4, .tmp 5]) (tys := [9, 4]) rfl rfl (by simp) ?_
 have H := hasPre1 s p hs hp
 have hle : p.isPrefixOf s = true → p.length ≤ s.length := fun q => (List.isPrefixOf_iff_prefix.1 q).length_le
 generalize p.isPrefixOf s = b at *
 (refine awp_sr fun Y Yh=>?_;simp[go_sem];((repeat' (first|(refine ag_x ?_;simp[go_sem])|intro _|apply And.intro|(apply Yh;clear Yh Y)));all_goals first|apply Hold.mk|omega|assumption|skip))
 refine awp_seq_k fun K1 hK1 => ?_
 (refine awp_sr fun Y Yh=>?_;simp[go_sem];((repeat' (first|(refine ag_x ?_;simp[go_sem])|intro _|apply And.intro|(apply Yh;clear Yh Y)));all_goals first|apply Hold.mk|omega|assumption|skip))
 ((try refine CallT.toA ?_);refine callT_m (.inl ⟨rfl,rfl⟩) (by simp[go_sem]) ?_;intro args ha;simp[go_sem] at ha;subst ha;refine ⟨_, H, ?_⟩;rintro _ rfl;simp[go_sem];((repeat' (first|(refine ag_x ?_;simp[go_sem])|intro _|apply And.intro|(apply Yh;clear Yh Y)));all_goals first|apply Hold.mk|omega|assumption|skip))
 (refine awp_if fun T F hT hF=>?_;simp[go_sem];refine BR.intro (fun h2=>hT ?_) (fun h2=>hF ?_);all_goals clear hT hF T F;try simp at h2)
 ·(refine awp_sr fun Y Yh=>?_;simp[go_sem];((repeat' (first|(refine ag_x ?_;simp[go_sem])|intro _|apply And.intro|(apply Yh;clear Yh Y)));all_goals first|apply Hold.mk|omega|assumption|skip))
  (refine awp_ret ?_;simp[go_sem, h2])
 ·have := hle h2
  refine awp_skip ?_
  refine hK1 _ ?_; clear hK1
  (refine awp_sr fun Y Yh=>?_;simp[go_sem];((repeat' (first|(refine ag_x ?_;simp[go_sem])|intro _|apply And.intro|(apply Yh;clear Yh Y)));all_goals first|apply Hold.mk|omega|assumption|skip))
  (refine awp_ret ?_;simp[go_sem, h2, ba_drop])
theorem cutPre_spec (s p : List UInt8) (hs : s.length ≤ 9223372036854775807) (hp : p.length ≤ 9223372036854775807) : PCall Tryz.prog 158 [dS s, dS p] fun r => r = .tup [dS (if p.isPrefixOf s = true then s.drop p.length else s), dB (p.isPrefixOf s)] := by
 refine pcall_of Tryz.func158 rfl rfl Tryz.ntmps158 (rs := [.tmp 4, .tmp 5]) (tys := [9, 4]) rfl rfl (by simp) ?_
 (refine awp_sr fun Y Yh=>?_;simp[go_sem];((repeat' (first|(refine ag_x ?_;simp[go_sem])|intro _|apply And.intro|(apply Yh;clear Yh Y)));all_goals first|apply Hold.mk|omega|assumption|skip))
 (refine awp_sr fun Y Yh=>?_;simp[go_sem];((repeat' (first|(refine ag_x ?_;simp[go_sem])|intro _|apply And.intro|(apply Yh;clear Yh Y)));all_goals first|apply Hold.mk|omega|assumption|skip))
 ((try refine CallT.toA ?_);refine callT_m (.inl ⟨rfl,rfl⟩) (by simp[go_sem]) ?_;intro args ha;simp[go_sem] at ha;subst ha;refine ⟨_, (cutPre1 s p hs hp), ?_⟩;rintro _ rfl;simp[go_sem];((repeat' (first|(refine ag_x ?_;simp[go_sem])|intro _|apply And.intro|(apply Yh;clear Yh Y)));all_goals first|apply Hold.mk|omega|assumption|skip))
 (refine awp_ret ?_;simp[go_sem])
theorem isName_spec (s : List UInt8) (hl : s.length ≤ 1000000000) : PCall Tryz.prog 123 [dS s] fun r => r = dB (nameV s) := by 
 refine pcall_of Tryz.func123 rfl rfl Tryz.ntmps123 (rs := [.tmp 2]) (tys := [4]) rfl rfl (by simp) ?_
 have hst := fun n c => @nmTo_step s n c
 have hbad := fun n (h : nmTo s n = false) (hn : n ≤ s.length) => nmTo_bad h s.length hn
 have hz : nmTo s 0 = true := rfl
 rw [nameV_nm]
 (refine awp_sr fun Y Yh=>?_;simp[go_sem];((repeat' (first|(refine ag_x ?_;simp[go_sem])|intro _|apply And.intro|(apply Yh;clear Yh Y)));all_goals first|apply Hold.mk|omega|assumption|skip))
 refine awp_seq_k fun K1 hK1 => ?_
 (refine awp_sr fun Y Yh=>?_;simp[go_sem];((repeat' (first|(refine ag_x ?_;simp[go_sem])|intro _|apply And.intro|(apply Yh;clear Yh Y)));all_goals first|apply Hold.mk|omega|assumption|skip))
 refine awp_block ?_
 refine awp_loop (σ := Nat) (fun i => ⟨[(0, dS s), (7, .sl 1 (s.map cB)), (8, dI s.length), (9, dI i)], []⟩) (fun i => i ≤ s.length ∧ nmTo s i = true) (fun i => s.length - i) 0 ?_ ?_ ?_
 ·(refine cov_of ?_ ?_ <;> simp[go_sem])
 ·exact ⟨by omega, hz⟩
 rintro i ⟨hi, hn⟩
 (refine awp_sr fun Y Yh=>?_;simp[go_sem];((repeat' (first|(refine ag_x ?_;simp[go_sem])|intro _|apply And.intro|(apply Yh;clear Yh Y)));all_goals first|apply Hold.mk|omega|assumption|skip))
 refine awp_seq_k fun K2 hK2 => ?_
 (refine awp_if fun T F hT hF=>?_;simp[go_sem];refine BR.intro (fun h3=>hT ?_) (fun h3=>hF ?_);all_goals clear hT hF T F;try simp at h3)
 ·refine awp_skip ?_
  refine hK2 _ ?_; clear hK2
  obtain ⟨c, hx⟩ : ∃ c, s[i]? = some c := ⟨_, List.getElem?_eq_getElem (by omega)⟩
  have hst1 := hst i c hx
  rw [hn] at hst1
  refine awp_seq_k fun K4 hK4 => ?_
  refine awp_block ?_
  (refine awp_sr fun Y Yh=>?_;simp[go_sem, hx];((repeat' (first|(refine ag_x ?_;simp[go_sem, hx])|intro _|apply And.intro|(apply Yh;clear Yh Y)));all_goals first|apply Hold.mk|omega|assumption|skip))
  (refine awp_sr fun Y Yh=>?_;simp[go_sem];((repeat' (first|(refine ag_x ?_;simp[go_sem])|intro _|apply And.intro|(apply Yh;clear Yh Y)));all_goals first|apply Hold.mk|omega|assumption|skip))
  (refine awp_sr fun Y Yh=>?_;simp[go_sem];((repeat' (first|(refine ag_x ?_;simp[go_sem])|intro _|apply And.intro|(apply Yh;clear Yh Y)));all_goals first|apply Hold.mk|omega|assumption|skip))
  (refine awp_if fun T F hT hF=>?_;simp[go_sem];refine BR.intro (fun h5=>hT ?_) (fun h5=>hF ?_);all_goals clear hT hF T F;try simp at h5)
  ·have hna : nmAt i c = false := by
    simp [nmAt, nmC, isL, isD]
    omega
   rw [hna] at hst1
   (refine awp_sr fun Y Yh=>?_;simp[go_sem];((repeat' (first|(refine ag_x ?_;simp[go_sem])|intro _|apply And.intro|(apply Yh;clear Yh Y)));all_goals first|apply Hold.mk|omega|assumption|skip))
   (refine awp_ret ?_;simp[go_sem, hbad (i + 1) hst1 (by omega)])
  ·have hna : nmAt i c = true := by
    simp [nmAt, nmC, isL, isD]
    omega
   rw [hna] at hst1
   refine awp_skip ?_
   refine hK4 _ ?_; clear hK4
   (refine awp_r fun Y Yh=>?_;simp[go_sem];((repeat' (first|(refine ag_x ?_;simp[go_sem])|intro _|apply And.intro|(apply Yh;clear Yh Y)));all_goals first|apply Hold.mk|omega|assumption|skip))
   refine ⟨i + 1, ?_, ⟨by omega, hst1⟩, by omega⟩
   (refine cov_of ?_ ?_ <;> simp[go_sem])
 ·refine awp_exit ?_
  simp only [go_sem]
  refine hK1 _ ?_; clear hK1
  have : i = s.length := by omega
  subst this
  rw [hn]
  by_cases h : s = []
  ·(refine awp_sr fun Y Yh=>?_;simp[go_sem, h];((repeat' (first|(refine ag_false (by simp[go_sem, undef, h]) (by simp[go_sem]) ?_;simp[go_sem, h])|intro _|apply And.intro|(apply Yh;clear Yh Y)));all_goals first|apply Hold.mk|omega|assumption|skip))
   (refine awp_ret ?_;simp[go_sem, h])
  ·(refine awp_sr fun Y Yh=>?_;simp[go_sem, h];((repeat' (first|(refine ag_x ?_;simp[go_sem, h])|intro _|apply And.intro|(apply Yh;clear Yh Y)));all_goals first|apply Hold.mk|omega|assumption|skip))
   (refine awp_ret ?_;simp[go_sem])
   rw [Bool.eq_iff_iff]
   simp [h]
   omega
theorem sum_spec (s : List UInt8) (hl : s.length ≤ 1000000000) : PCall Tryz.prog 116 [dS s] fun r => r = dI (sumV s s.length) := by 
 refine pcall_of Tryz.func116 rfl rfl Tryz.ntmps116 (rs := [.tmp 2]) (tys := [3]) rfl rfl (by simp) ?_
 have hlt := sumV_lt s
 have hst : ∀ (n : Nat) (c : UInt8), s[n]? = some c → ((sumV s (n + 1) : Nat) : Int) = ((sumV s n : Int) + (c.toNat : Int) * (((n : Int) + 1).tmod 1000003)).tmod 1000003 := fun n c h => by
  show (((sumV s n + (s.getD n 0).toNat * ((n + 1) % 1000003)) % 1000003 : Nat) : Int) = _
  have e : s.getD n 0 = c := by simp [List.getD, h]
  have h1 : ((n : Int) + 1).tmod 1000003 = ((n : Int) + 1) % 1000003 := Int.tmod_eq_emod_of_nonneg (by omega)
  rw [e, h1, Int.tmod_eq_emod_of_nonneg (by
   have : 0 ≤ ((n : Int) + 1) % 1000003 := Int.emod_nonneg _ (by omega)
   have := Int.mul_nonneg (Int.natCast_nonneg c.toNat) this
   omega)]
  have e2 : ((c.toNat * ((n + 1) % 1000003) : Nat) : Int) = (c.toNat : Int) * (((n : Int) + 1) % 1000003) := by
   rw [Int.natCast_mul]
   have : (((n + 1) % 1000003 : Nat) : Int) = ((n : Int) + 1) % 1000003 := by omega
   rw [this]
  rw [← e2]
  omega
 have z : sumV s 0 = 0 := rfl
 generalize sumV s = sm at *
 (refine awp_sr fun Y Yh=>?_;simp[go_sem];((repeat' (first|(refine ag_x ?_;simp[go_sem])|intro _|apply And.intro|(apply Yh;clear Yh Y)));all_goals first|apply Hold.mk|omega|assumption|skip))
 (refine awp_sr fun Y Yh=>?_;simp[go_sem];((repeat' (first|(refine ag_x ?_;simp[go_sem])|intro _|apply And.intro|(apply Yh;clear Yh Y)));all_goals first|apply Hold.mk|omega|assumption|skip))
 refine awp_seq_k fun K1 hK1 => ?_
 (refine awp_sr fun Y Yh=>?_;simp[go_sem];((repeat' (first|(refine ag_x ?_;simp[go_sem])|intro _|apply And.intro|(apply Yh;clear Yh Y)));all_goals first|apply Hold.mk|omega|assumption|skip))
 refine awp_block ?_
 refine awp_loop (σ := Nat) (fun i => ⟨[(3, dI (sm i)), (7, .sl 1 (s.map cB)), (8, dI s.length), (9, dI i)], []⟩) (fun i => i ≤ s.length) (fun i => s.length - i) 0 ?_ ?_ ?_
 ·(refine cov_of ?_ ?_ <;> simp[go_sem, z])
 ·omega
 intro i hi
 (refine awp_sr fun Y Yh=>?_;simp[go_sem];((repeat' (first|(refine ag_x ?_;simp[go_sem])|intro _|apply And.intro|(apply Yh;clear Yh Y)));all_goals first|apply Hold.mk|omega|assumption|skip))
 refine awp_seq_k fun K2 hK2 => ?_
 (refine awp_if fun T F hT hF=>?_;simp[go_sem];refine BR.intro (fun h3=>hT ?_) (fun h3=>hF ?_);all_goals clear hT hF T F;try simp at h3)
 ·refine awp_skip ?_
  refine hK2 _ ?_; clear hK2
  obtain ⟨c, hx⟩ : ∃ c, s[i]? = some c := ⟨_, List.getElem?_eq_getElem (by omega)⟩
  have hst1 := hst i c hx
  have hlt1 := hlt i
  have hc : c.toNat < 256 := c.toNat_lt
  have hm1 : 0 ≤ ((i : Int) + 1).tmod 1000003 ∧ ((i : Int) + 1).tmod 1000003 < 1000003 := by
   rw [Int.tmod_eq_emod_of_nonneg (by omega)]
   exact ⟨Int.emod_nonneg _ (by omega), Int.emod_lt_of_pos _ (by omega)⟩
  have hm2 : (c.toNat : Int) * (((i : Int) + 1).tmod 1000003) ≤ 255 * 1000003 := Int.mul_le_mul (by omega) (by omega) (by omega) (by omega)
  have hm3 : 0 ≤ (c.toNat : Int) * (((i : Int) + 1).tmod 1000003) := Int.mul_nonneg (by omega) (by omega)
  generalize sm i = n at *
  refine awp_seq_k fun K4 hK4 => ?_
  refine awp_block ?_
  (refine awp_sr fun Y Yh=>?_;simp[go_sem, hx];((repeat' (first|(refine ag_x ?_;simp[go_sem, hx])|intro _|apply And.intro|(apply Yh;clear Yh Y)));all_goals first|apply Hold.mk|omega|assumption|skip))
  (refine awp_r fun Y Yh=>?_;simp[go_sem];((repeat' (first|(refine ag_x ?_;simp[go_sem])|intro _|apply And.intro|(apply Yh;clear Yh Y)));all_goals first|apply Hold.mk|omega|assumption|skip))
  refine hK4 _ ?_; clear hK4
  (refine awp_r fun Y Yh=>?_;simp[go_sem];((repeat' (first|(refine ag_x ?_;simp[go_sem])|intro _|apply And.intro|(apply Yh;clear Yh Y)));all_goals first|apply Hold.mk|omega|assumption|skip))
  refine ⟨i + 1, ?_, by omega, by omega⟩
  rw [hst1]
  (refine cov_of ?_ ?_ <;> simp[go_sem])
 ·refine awp_exit ?_
  simp only [go_sem]
  refine hK1 _ ?_; clear hK1
  have : i = s.length := by omega
  subst this
  (refine awp_sr fun Y Yh=>?_;simp[go_sem];((repeat' (first|(refine ag_x ?_;simp[go_sem])|intro _|apply And.intro|(apply Yh;clear Yh Y)));all_goals first|apply Hold.mk|omega|assumption|skip))
  (refine awp_ret ?_;simp[go_sem])
end Go.Proofs.YteekfnhhlcmcgaaGreatDoor
namespace Go.Proofs.YteekfnhhlcmcgaaGreatDoor
open Go.Eng Go.Wh Go.Ver Go.RowKit Go.Lk
set_option maxRecDepth 20000
attribute [local irreducible] AG CallA CallT AWp PCall ACall AgC
def Tryz.laysGw17_ren : Go.Shelf.Ren := ⟨fun | 15 => 198 | 17 => 159 | 20 => 241 | n => n, fun | 23 => 237 | n => n, fun | n => n⟩
theorem Tryz.laysGw17 : Go.Proofs.LaysGw.n17 Tryz.prog Tryz.laysGw17_ren := {
 mixed := by kernel_rfl
 f15 := Tryz.func198.trans (congrArg some (by kernel_rfl))
 f17 := Tryz.func159.trans (congrArg some (by kernel_rfl))
 f20 := Tryz.func241.trans (congrArg some (by kernel_rfl))
 t0 := Tryz.underlying0
 a0 := Tryz.isAgg0
 z0 := Tryz.sizeOf0
 v0 := Tryz.zeroValue0
 i0 := by kernel_rfl
 t3 := Tryz.underlying3
 a3 := Tryz.isAgg3
 z3 := Tryz.sizeOf3
 v3 := Tryz.zeroValue3
 i3 := by kernel_rfl
 t4 := Tryz.underlying4
 a4 := Tryz.isAgg4
 z4 := Tryz.sizeOf4
 v4 := Tryz.zeroValue4
 i4 := by kernel_rfl
 t9 := Tryz.underlying9
 a9 := Tryz.isAgg9
 z9 := Tryz.sizeOf9
 v9 := Tryz.zeroValue9
 i9 := by kernel_rfl
 t21 := Tryz.underlying21
 a21 := Tryz.isAgg21
 z21 := Tryz.sizeOf21
 v21 := Tryz.zeroValue21
 i21 := by kernel_rfl
 t23 := Tryz.underlying237
 a23 := Tryz.isAgg237
 z23 := Tryz.sizeOf237
 v23 := Tryz.zeroValue237
 i23 := by kernel_rfl }
theorem idxF_neg (p : Nat → Bool) (hp : ∀ r, 128 ≤ r → p r = true) (s : ByteArray) : ∀ (f pos : Nat), s.size ≤ pos + f → (decide (0 ≤ Lib.idxFuncFrom p true s f pos) = (s.data.toList.drop pos).any fun c => p c.toNat)
 | 0, pos, h => by
  have hl : s.data.toList.length = s.size := Array.length_toList
  rw [List.drop_eq_nil_of_le (by omega)]
  simp [Lib.idxFuncFrom]
 | f + 1, pos, h => by
  have hl : s.data.toList.length = s.size := Array.length_toList
  unfold Lib.idxFuncFrom
  by_cases hs : pos < s.size
  ·rw [if_pos hs]
   have hs' : pos < s.data.toList.length := by omega
   rw [List.drop_eq_getElem_cons hs', List.any_cons]
   have e : s.data.toList[pos] = s[pos]'hs := by first | rfl | (rw [Array.getElem_toList]; rfl)
   rw [e]
   by_cases h1 : (s[pos]'hs).toNat < 128
   ·rw [decode_ascii s pos hs h1]
    cases hq : p (s[pos]'hs).toNat with
    | true => simp
    | false =>
     simp only [Bool.false_eq_true, if_false, Bool.false_or]
     exact idxF_neg p hp s f (pos + 1) (by omega)
   ·have h2 := (decode_high s pos hs (by omega)).1
    rw [hp _ h2, hp _ (show 128 ≤ (s[pos]'hs).toNat by omega), if_pos rfl, Bool.true_or, decide_eq_true_eq]
    omega
  ·rw [if_neg hs, List.drop_eq_nil_of_le (by omega)]
   simp
theorem containsF_spec (s : List UInt8) (g : Nat) (eg : ∀ args w, (callFunc g args).run Tryz.prog w = .ok (.enter g args) w) (p : Nat → Bool) (hp : ∀ r, 128 ≤ r → p r = true) (hg : ∀ w, PredAt Tryz.prog g #[] encR p w) : PCall Tryz.prog 159 [dS s, .v (.func (.func g) #[] #[])] fun r => r = dB (s.any fun c => p c.toNat) := by
 refine pcall_below ⟨_, Tryz.func159, rfl, rfl⟩ fun C w us hc' hg' hr => ?_
 obtain rfl := repL_v (us := [.string ⟨s.toArray⟩, .func (.func g) #[] #[]]) hr
 refine (Any.strings_ContainsFunc Tryz.laysGw17 g #[] eg p ⟨s.toArray⟩ w (hg w)).mono ?_
 rintro e w' ⟨rfl, hb⟩
 have h := idxF_neg p hp ⟨s.toArray⟩ (ByteArray.size ⟨s.toArray⟩) 0 (by omega)
 refine ⟨_, _, rfl, ?_, .v _, hb⟩
 unfold Lib.idxFunc
 rw [h, List.drop_zero]
theorem digit_at (w : World) : PredAt Tryz.prog 160 #[] encR (fun r => decide (r < 48) || decide (57 < r)) w := fun W r _ => by
 unfold FnGives
 by_cases h1 : r < 48 <;> by_cases h2 : 57 < r
 all_goals
  have z1 : (r : Int) < 48 ↔ r < 48 := by omega
  have z2 : (57 : Int) < (r : Int) ↔ 57 < r := by omega
  go_enter Tryz.func160, Tryz.ntmps160
  go_wp2
  all_goals first | (exfalso; omega) | (go_ret; exact ⟨by simp [h1, h2], 0, rfl⟩)
theorem notDigit_spec (s : List UInt8) : PCall Tryz.prog 159 [dS s, .v (.func (.func 160) #[] #[])] fun r => r = dB (!s.all isD) := by
 have h := containsF_spec s 160 (enters_of Tryz.func160 (by kernel_rfl) rfl) (fun r => decide (r < 48) || decide (57 < r)) (fun r hr => by
  simp only [Bool.or_eq_true, decide_eq_true_eq]; omega) digit_at
 rw [show (!s.all isD) = s.any fun c => decide (c.toNat < 48) || decide (57 < c.toNat) by
  rw [List.not_all_eq_any_not]
  congr 1
  funext c
  rw [Bool.eq_iff_iff]
  simp only [isD, Bool.not_eq_true', Bool.and_eq_false_iff, decide_eq_false_iff_not, Bool.or_eq_true, decide_eq_true_eq]
  omega]
 exact h
theorem scontains_spec (s p : List UInt8) (hl : s.length < 4294967281) : PCall Tryz.prog 164 [dS s, dS p] fun r => r = dB (Lib.contains s p) := by
 refine pcall_below ⟨_, Tryz.func164, rfl, rfl⟩ fun C w us hc hg hr => ?_
 have hg : glOk w := hg
 obtain rfl := repL_v (us := [.string ⟨s.toArray⟩, .string ⟨p.toArray⟩]) hr
 obtain ⟨m, hm⟩ := hg.2
 refine (Tryz.strings_Contains ⟨s.toArray⟩ ⟨p.toArray⟩ m w (by simpa [ByteArray.size] using hl) hm).mono ?_
 rintro e w' ⟨rfl, rfl⟩
 exact ⟨_, _, rfl, rfl, .v _, Below.refl _ _⟩
def nmL : List UInt8 := [97, 98, 99, 100, 101, 102, 103, 104, 105, 106, 107, 108, 109, 110, 111, 112, 113, 114, 115, 116, 117, 118, 119, 120, 121, 122, 48, 49, 50, 51, 52, 53, 54, 55, 56, 57, 95, 45]
theorem nmL_nm (c : UInt8) : nmL.contains c = nmC c := by
 have h := UInt8.toNat_lt c
 unfold nmC isL isD nmL
 refine Bool.eq_iff_iff.2 ?_
 simp only [List.contains_iff_mem, List.mem_cons, List.mem_nil_iff, or_false, Bool.and_eq_true, Bool.or_eq_true, decide_eq_true_eq, ← UInt8.toNat_inj]
 simp
 omega
theorem trim_nm (l : List UInt8) : (Lib.trimS l nmL = []) ↔ l.all nmC = true := by
 rw [trimS_nil]
 simp only [nmL_nm]
theorem contains_L (c : UInt8) : Lib.contains abcL [c] = isL c := by
 unfold Lib.contains
 rw [Lib.index_one, ← abcL_isL, Lib.contains_iff_indexByte]
theorem risName_spec (s : List UInt8) (hl : s.length ≤ 1000000000) : PCall Tryz.prog 121 [dS s] fun r => r = dB (nameV s) := by 
 refine pcall_of Tryz.func121 rfl rfl Tryz.ntmps121 (rs := [.tmp 2]) (tys := [4]) rfl rfl (by simp) ?_
 have T1 := trimS_spec s nmL (by omega) (by decide) (by decide)
 have ht := trim_nm s
 cases s with
 | nil =>
  (refine awp_sr fun Y Yh=>?_;simp[go_sem];((repeat' (first|(refine ag_x ?_;simp[go_sem])|intro _|apply And.intro|(apply Yh;clear Yh Y)));all_goals first|apply Hold.mk|omega|assumption|skip))
  (refine awp_sr fun Y Yh=>?_;simp[go_sem];((repeat' (first|(refine ag_false (by simp[go_sem, undef]) (by simp[go_sem]) ?_;simp[go_sem])|intro _|apply And.intro|(apply Yh;clear Yh Y)));all_goals first|apply Hold.mk|omega|assumption|skip))
  (refine awp_ret ?_;simp[go_sem, nameV])
 | cons c r =>
  have C1 := scontains_spec abcL [c] (by decide)
  rw [contains_L] at C1
  have e1 : ({ data := (c :: r).toArray } : ByteArray).extract 0 1 = { data := [c].toArray } := by apply ByteArray.ext; simp
  have h1 : (1 : Int) ≤ (r.length : Int) + 1 := by omega
  by_cases h2 : r.length < 20
  ·have h2' : ((r.length : Int) + 1 ≤ 20) := by omega
   generalize Lib.trimS (c :: r) nmL = a at *
   by_cases h3 : a = []
   ·subst h3
    have h4 := ht.1 rfl
    (refine awp_sr fun Y Yh=>?_;simp[go_sem];((repeat' (first|(refine ag_x ?_;simp[go_sem])|intro _|apply And.intro|(apply Yh;clear Yh Y)));all_goals first|apply Hold.mk|omega|assumption|skip))
    (refine awp_sr fun Y Yh=>?_;simp[go_sem, h1, h2'];((repeat' (first|(refine ag_x ?_;simp[go_sem, h1, h2'])|intro _|apply And.intro|(apply Yh;clear Yh Y)));all_goals first|apply Hold.mk|omega|assumption|skip))
    (refine agc_f (dS []) (.inl ⟨rfl,rfl⟩) ?_ rfl ?_;(intro hc args ha;simp[go_sem] at ha;subst ha;exact T1);simp[go_sem, h1, h2'];((repeat' (first|(refine ag_x ?_;simp[go_sem, h1, h2'])|intro _|apply And.intro|(apply Yh;clear Yh Y)));all_goals first|apply Hold.mk|omega|assumption|skip))
    (refine agc_f (dB (isL c)) (.inl ⟨rfl,rfl⟩) ?_ rfl ?_;(intro hc args ha;simp[go_sem] at ha;subst ha;exact (by rw [e1]; exact C1));simp[go_sem, h1, h2'];((repeat' (first|(refine ag_x ?_;simp[go_sem, h1, h2'])|intro _|apply And.intro|(apply Yh;clear Yh Y)));all_goals first|apply Hold.mk|omega|assumption|skip))
    (refine awp_ret ?_;simp[go_sem])
    simp only [List.all_cons, Bool.and_eq_true] at h4
    simp [nameV, h4.2, h2]
   ·have h4 : ¬ ((c :: r).all nmC = true) := fun q => h3 (ht.2 q)
    have h5 : nameV (c :: r) = false := by
     rw [← Bool.not_eq_true]
     intro q
     simp only [nameV, Bool.and_eq_true] at q
     exact h4 (by rw [List.all_cons, q.1.2]; simp [nmC, q.1.1])
    (refine awp_sr fun Y Yh=>?_;simp[go_sem];((repeat' (first|(refine ag_x ?_;simp[go_sem])|intro _|apply And.intro|(apply Yh;clear Yh Y)));all_goals first|apply Hold.mk|omega|assumption|skip))
    (refine awp_sr fun Y Yh=>?_;simp[go_sem, h1, h2'];((repeat' (first|(refine ag_x ?_;simp[go_sem, h1, h2'])|intro _|apply And.intro|(apply Yh;clear Yh Y)));all_goals first|apply Hold.mk|omega|assumption|skip))
    (refine agc_f (dS a) (.inl ⟨rfl,rfl⟩) ?_ rfl ?_;(intro hc args ha;simp[go_sem] at ha;subst ha;exact T1);simp[go_sem, h1, h2', h3];((repeat' (first|(refine ag_false ?_ ?_ ?_;(focus (simp[go_sem, undef, h1, h2', h3];done));(focus (simp[go_sem];done));simp[go_sem, h1, h2', h3])|(refine ag_x ?_;simp[go_sem, undef, h1, h2', h3])|intro _|apply And.intro|(apply Yh;clear Yh Y)));all_goals first|apply Hold.mk|omega|assumption|skip))
    (refine awp_ret ?_;simp[go_sem, h5])
  ·have h2' : ¬ ((r.length : Int) + 1 ≤ 20) := by omega
   have h5 : nameV (c :: r) = false := by simp [nameV, h2]
   (refine awp_sr fun Y Yh=>?_;simp[go_sem];((repeat' (first|(refine ag_x ?_;simp[go_sem])|intro _|apply And.intro|(apply Yh;clear Yh Y)));all_goals first|apply Hold.mk|omega|assumption|skip))
   (refine awp_sr fun Y Yh=>?_;simp[go_sem, h1, h2'];((repeat' (first|(refine ag_false ?_ ?_ ?_;(focus (simp[go_sem, undef, h1, h2'];done));(focus (simp[go_sem];done));simp[go_sem, h1, h2'])|(refine ag_x ?_;simp[go_sem, undef, h1, h2'])|intro _|apply And.intro|(apply Yh;clear Yh Y)));all_goals first|apply Hold.mk|omega|assumption|skip))
   (refine awp_ret ?_;simp[go_sem, h5])
theorem cut_len (s p : Bs) : (Lib.cut s p).1.length ≤ s.length ∧ (Lib.cut s p).2.1.length ≤ s.length := by
 rcases cut_cases s p with ⟨a, r, h, e⟩ | ⟨h, _⟩
 ·rw [h]
  have := congrArg List.length e
  simp only [List.length_append] at this
  simp only
  omega
 ·rw [h]; simp
theorem need_step (l : List Prs) (i : Nat) (x : Prs) (h : l[i]? = some x) : needTo l (i + 1) = (needTo l i && (nameV x.1 && (condsV x.2).isSome && (decide (i = 0) || (match l[i - 1]? with | some y => Op.bytesLess y.1 x.1 | none => true)))) := by
 rw [needTo]
 unfold needAt
 rw [h]
 all_goals rfl
set_option maxHeartbeats 4000000 in
theorem needs_spec (l : List Prs) (m : Nat) (hl : l.length ≤ 1000000) (hb : ∀ x ∈ l, x.1.length ≤ 1000000 ∧ x.2.length ≤ 1000000) : PCall Tryz.prog 122 [dPs l, dI m] fun r => r = dB (needsV m l) := by 
 refine pcall_of Tryz.func122 rfl rfl Tryz.ntmps122 (rs := [.tmp 4]) (tys := [4]) rfl rfl (by simp) ?_
 have hbad := fun n (h : needTo l n = false) (hn : n ≤ l.length) => needTo_bad h l.length hn
 have hst := need_step l
 have hz : needTo l 0 = true := rfl
 unfold needsV
 generalize needTo l = nt at *
 (refine awp_sr fun Y Yh=>?_;simp[go_sem];((repeat' (first|(refine ag_x ?_;simp[go_sem])|intro _|apply And.intro|(apply Yh;clear Yh Y)));all_goals first|apply Hold.mk|omega|assumption|skip))
 refine awp_seq_k fun K1 hK1 => ?_
 (refine awp_sr fun Y Yh=>?_;simp[go_sem];((repeat' (first|(refine ag_x ?_;simp[go_sem])|intro _|apply And.intro|(apply Yh;clear Yh Y)));all_goals first|apply Hold.mk|omega|assumption|skip))
 refine awp_block ?_
 refine awp_loop (σ := Nat) (fun i => ⟨[(0, dPs l), (1, dI m), (7, dPs l), (8, dI l.length), (9, dI i)], []⟩) (fun i => i ≤ l.length ∧ nt i = true) (fun i => l.length - i) 0 ?_ ?_ ?_
 ·(refine cov_of ?_ ?_ <;> simp[go_sem])
 ·exact ⟨by omega, hz⟩
 rintro i ⟨hi, hn⟩
 (refine awp_sr fun Y Yh=>?_;simp[go_sem];((repeat' (first|(refine ag_x ?_;simp[go_sem])|intro _|apply And.intro|(apply Yh;clear Yh Y)));all_goals first|apply Hold.mk|omega|assumption|skip))
 refine awp_seq_k fun K2 hK2 => ?_
 (refine awp_if fun T F hT hF=>?_;simp[go_sem];refine BR.intro (fun h3=>hT ?_) (fun h3=>hF ?_);all_goals clear hT hF T F;try simp at h3) 
 ·refine awp_skip ?_
  refine hK2 _ ?_; clear hK2
  obtain ⟨x, hx⟩ : ∃ x, l[i]? = some x := ⟨_, List.getElem?_eq_getElem (by omega)⟩
  have hb1 := hb x (List.mem_of_getElem? hx)
  have N1 := isName_spec x.1 (by omega)
  have C1 := Check_spec x.2 (by omega)
  have hst1 := hst i x hx
  rw [hn, Bool.true_and] at hst1
  have hbad1 := fun h => hbad (i + 1) h (by omega)
  generalize nameV x.1 = nb at *
  generalize (condsV x.2).isSome = cb at *
  refine awp_seq_k fun K4 hK4 => ?_
  refine awp_block ?_
  (refine awp_sr fun Y Yh=>?_;simp[go_sem, hx];((repeat' (first|(refine ag_x ?_;simp[go_sem, hx])|intro _|apply And.intro|(apply Yh;clear Yh Y)));all_goals first|apply Hold.mk|omega|assumption|skip))
  cases nb with
  | false =>
   have hF := hbad1 (by rw [hst1]; simp)
   ((refine awp_dr (.qs [0, 1] (.one 2 (.qs [3, 4] (.sk 5 (.sk 6 (.sk 7 (.sk 8 (.qs [9, 10] (.sk 11 (.sk 12 (.sk 13 (.sk 14 (.sk 15 (.sk 16 (.sk 17 (.sk 18 (.sk 20 (.sk 19 (.sk 21 (.sk 22 (.sk 23 (.qs [24] (.nil))))))))))))))))))))))) (by kernel_rfl) ?_ ?_ ?_ ?_);kernel_rfl;exact (by decide +kernel);kernel_rfl;intro Y Yh;((repeat' (first|(refine ag_x ?_;simp[go_sem])|refine adr_nil ?_|((first|refine adr_qs fun Y Yh=>?_|refine adr_y fun Y Yh=>?_);simp[go_sem])|intro _|apply And.intro|(apply Yh;clear Yh Y)));all_goals first|apply Hold.mk|omega|assumption|skip))
   ((try refine CallT.toA ?_);refine callT_m (.inl ⟨rfl,rfl⟩) (by simp[go_sem]) ?_;intro args ha;simp[go_sem] at ha;subst ha;refine ⟨_, N1, ?_⟩;rintro _ rfl;simp[go_sem, undef];((repeat' (first|(refine ag_x ?_;simp[go_sem, undef])|refine adr_nil ?_|((first|refine adr_qs fun Y Yh=>?_|refine adr_y fun Y Yh=>?_);simp[go_sem, undef])|intro _|apply And.intro|(apply Yh;clear Yh Y)));all_goals first|apply Hold.mk|omega|assumption|skip))
   (refine awp_if fun T F hT hF=>?_;simp[go_sem];refine hT ?_;clear hT hF T F)
   (refine awp_sr fun Y Yh=>?_;simp[go_sem];((repeat' (first|(refine ag_x ?_;simp[go_sem])|intro _|apply And.intro|(apply Yh;clear Yh Y)));all_goals first|apply Hold.mk|omega|assumption|skip))
   (refine awp_ret ?_;simp[go_sem, hF])
  | true =>
   cases cb with
   | false =>
    have hF := hbad1 (by rw [hst1]; simp)
    ((refine awp_dr (.qs [0, 1] (.one 2 (.qs [3, 4, 5, 6] (.one 7 (.qs [8, 9, 10] (.sk 11 (.sk 12 (.sk 13 (.sk 14 (.sk 15 (.sk 16 (.sk 17 (.sk 18 (.sk 20 (.sk 19 (.sk 21 (.sk 22 (.sk 23 (.qs [24] (.nil)))))))))))))))))))) (by kernel_rfl) ?_ ?_ ?_ ?_);kernel_rfl;exact (by decide +kernel);kernel_rfl;intro Y Yh;((repeat' (first|(refine ag_x ?_;simp[go_sem])|refine adr_nil ?_|((first|refine adr_qs fun Y Yh=>?_|refine adr_y fun Y Yh=>?_);simp[go_sem])|intro _|apply And.intro|(apply Yh;clear Yh Y)));all_goals first|apply Hold.mk|omega|assumption|skip))
    ((try refine CallT.toA ?_);refine callT_m (.inl ⟨rfl,rfl⟩) (by simp[go_sem]) ?_;intro args ha;simp[go_sem] at ha;subst ha;refine ⟨_, N1, ?_⟩;rintro _ rfl;simp[go_sem];((repeat' (first|(refine ag_x ?_;simp[go_sem])|refine adr_nil ?_|((first|refine adr_qs fun Y Yh=>?_|refine adr_y fun Y Yh=>?_);simp[go_sem])|intro _|apply And.intro|(apply Yh;clear Yh Y)));all_goals first|apply Hold.mk|omega|assumption|skip))
    (refine agc_f (dI (codeP false)) (.inl ⟨rfl,rfl⟩) ?_ rfl ?_;(intro hc args ha;simp[go_sem] at ha;subst ha;exact C1);simp[go_sem, undef, codeP];((repeat' (first|(refine ag_x ?_;simp[go_sem, undef, codeP])|refine adr_nil ?_|((first|refine adr_qs fun Y Yh=>?_|refine adr_y fun Y Yh=>?_);simp[go_sem, undef, codeP])|intro _|apply And.intro|(apply Yh;clear Yh Y)));all_goals first|apply Hold.mk|omega|assumption|skip))
    (refine awp_if fun T F hT hF=>?_;simp[go_sem];refine hT ?_;clear hT hF T F)
    (refine awp_sr fun Y Yh=>?_;simp[go_sem];((repeat' (first|(refine ag_x ?_;simp[go_sem])|intro _|apply And.intro|(apply Yh;clear Yh Y)));all_goals first|apply Hold.mk|omega|assumption|skip))
    (refine awp_ret ?_;simp[go_sem, hF])
   | true =>
    by_cases h0 : i = 0
    ·subst h0
     have hT : nt 1 = true := by rw [hst1]; simp
     ((refine awp_dr (.qs [0, 1] (.one 2 (.qs [3, 4, 5, 6] (.one 7 (.qs [8, 9, 10, 11, 12, 13] (.sk 14 (.sk 15 (.sk 16 (.sk 17 (.sk 18 (.sk 20 (.sk 19 (.sk 21 (.sk 22 (.qs [23, 24] (.nil)))))))))))))))) (by kernel_rfl) ?_ ?_ ?_ ?_);kernel_rfl;exact (by decide +kernel);kernel_rfl;intro Y Yh;((repeat' (first|(refine ag_x ?_;simp[go_sem])|refine adr_nil ?_|((first|refine adr_qs fun Y Yh=>?_|refine adr_y fun Y Yh=>?_);simp[go_sem])|intro _|apply And.intro|(apply Yh;clear Yh Y)));all_goals first|apply Hold.mk|omega|assumption|skip))
     ((try refine CallT.toA ?_);refine callT_m (.inl ⟨rfl,rfl⟩) (by simp[go_sem]) ?_;intro args ha;simp[go_sem] at ha;subst ha;refine ⟨_, N1, ?_⟩;rintro _ rfl;simp[go_sem];((repeat' (first|(refine ag_x ?_;simp[go_sem])|refine adr_nil ?_|((first|refine adr_qs fun Y Yh=>?_|refine adr_y fun Y Yh=>?_);simp[go_sem])|intro _|apply And.intro|(apply Yh;clear Yh Y)));all_goals first|apply Hold.mk|omega|assumption|skip))
     (refine agc_f (dI (codeP true)) (.inl ⟨rfl,rfl⟩) ?_ rfl ?_;(intro hc args ha;simp[go_sem] at ha;subst ha;exact C1);simp[go_sem, undef, codeP];((repeat' (first|(refine ag_x ?_;simp[go_sem, undef, codeP])|refine adr_nil ?_|((first|refine adr_qs fun Y Yh=>?_|refine adr_y fun Y Yh=>?_);simp[go_sem, undef, codeP])|intro _|apply And.intro|(apply Yh;clear Yh Y)));all_goals first|apply Hold.mk|omega|assumption|skip))
     (refine awp_if fun T F hT hF=>?_;simp[go_sem];refine hF ?_;clear hT hF T F)
     refine awp_skip ?_
     refine hK4 _ ?_; clear hK4
     (refine awp_r fun Y Yh=>?_;simp[go_sem];((repeat' (first|(refine ag_x ?_;simp[go_sem])|intro _|apply And.intro|(apply Yh;clear Yh Y)));all_goals first|apply Hold.mk|omega|assumption|skip))
     refine ⟨1, ?_, ⟨by omega, hT⟩, by omega⟩
     (refine cov_of ?_ ?_ <;> simp[go_sem])
    ·obtain ⟨j, rfl⟩ : ∃ j, i = j + 1 := ⟨i - 1, by omega⟩
     obtain ⟨y, hy⟩ : ∃ y, l[j]? = some y := ⟨_, List.getElem?_eq_getElem (by omega)⟩
     have hi1 : ((j : Int) + 1 - 1).toNat = j := by omega
     have hi2 : (j : Int) + 1 - 1 = j := by omega
     have hpos : (0 : Int) < (j : Int) + 1 := by omega
     simp only [Nat.add_sub_cancel, hy] at hst1
     have ec : codeP true = 0 := rfl
     have hm1 := hb y (List.mem_of_getElem? hy)
     ((refine awp_dr (.qs [0, 1] (.one 2 (.qs [3, 4, 5, 6] (.one 7 (.qs [8, 9, 10, 11, 12, 13, 14, 15, 16, 17, 18, 20, 19, 21, 22, 23, 24] (.nil)))))) (by kernel_rfl) ?_ ?_ ?_ ?_);kernel_rfl;exact (by decide +kernel);kernel_rfl;intro Y Yh;((repeat' (first|(refine ag_x ?_;simp[go_sem, hy, hi1, hi2, hpos])|refine adr_nil ?_|((first|refine adr_qs fun Y Yh=>?_|refine adr_y fun Y Yh=>?_);simp[go_sem, hy, hi1, hi2, hpos])|intro _|apply And.intro|(apply Yh;clear Yh Y)));all_goals first|apply Hold.mk|omega|assumption|skip))
     ((try refine CallT.toA ?_);refine callT_m (.inl ⟨rfl,rfl⟩) (by simp[go_sem]) ?_;intro args ha;simp[go_sem] at ha;subst ha;refine ⟨_, N1, ?_⟩;rintro _ rfl;simp[go_sem, hy, hi1, hi2, hpos];((repeat' (first|(refine ag_x ?_;simp[go_sem, hy, hi1, hi2, hpos])|refine adr_nil ?_|((first|refine adr_qs fun Y Yh=>?_|refine adr_y fun Y Yh=>?_);simp[go_sem, hy, hi1, hi2, hpos])|intro _|apply And.intro|(apply Yh;clear Yh Y)));all_goals first|apply Hold.mk|omega|assumption|skip))
     (refine agc_f (dI (codeP true)) (.inl ⟨rfl,rfl⟩) ?_ rfl ?_;(intro hc args ha;simp[go_sem] at ha;subst ha;exact C1);simp[go_sem, hy, hi1, hi2, hpos, ec];((repeat' (first|(refine ag_x ?_;simp[go_sem, hy, hi1, hi2, hpos, ec])|refine adr_nil ?_|((first|refine adr_qs fun Y Yh=>?_|refine adr_y fun Y Yh=>?_);simp[go_sem, hy, hi1, hi2, hpos, ec])|intro _|apply And.intro|(apply Yh;clear Yh Y)));all_goals first|apply Hold.mk|omega|assumption|skip))
     (refine awp_if fun T F hT hF=>?_;simp[go_sem];refine BR.intro (fun h5=>hT ?_) (fun h5=>hF ?_);all_goals clear hT hF T F;try simp at h5)
     ·have hF := hbad1 (by rw [hst1]; simp [h5])
      (refine awp_sr fun Y Yh=>?_;simp[go_sem];((repeat' (first|(refine ag_x ?_;simp[go_sem])|intro _|apply And.intro|(apply Yh;clear Yh Y)));all_goals first|apply Hold.mk|omega|assumption|skip))
      (refine awp_ret ?_;simp[go_sem, hF])
     ·have hT : nt (j + 1 + 1) = true := by rw [hst1]; simp [h5]
      refine awp_skip ?_
      refine hK4 _ ?_; clear hK4
      (refine awp_r fun Y Yh=>?_;simp[go_sem];((repeat' (first|(refine ag_x ?_;simp[go_sem])|intro _|apply And.intro|(apply Yh;clear Yh Y)));all_goals first|apply Hold.mk|omega|assumption|skip))
      refine ⟨j + 1 + 1, ?_, ⟨by omega, hT⟩, by omega⟩
      (refine cov_of ?_ ?_ <;> simp[go_sem])
 ·refine awp_exit ?_
  simp only [go_sem]
  refine hK1 _ ?_; clear hK1
  have : i = l.length := by omega
  subst this
  rw [hn]
  (refine awp_sr fun Y Yh=>?_;simp[go_sem];((repeat' (first|(refine ag_x ?_;simp[go_sem])|intro _|apply And.intro|(apply Yh;clear Yh Y)));all_goals first|apply Hold.mk|omega|assumption|skip))
  (refine awp_ret ?_;simp[go_sem])
abbrev PrOk (x : Prs) : Prop := x.1.length ≤ 1000000 ∧ x.2.length ≤ 1000000
def LkOk (L : Lck) : Prop := L.1.length ≤ 1000000 ∧ L.2.1.length ≤ 1000000 ∧ L.2.2.length ≤ 1000000 ∧ (∀ x ∈ L.1, PrOk x) ∧ (∀ r ∈ L.2.1, r.length ≤ 1000000 ∧ ∀ x ∈ r, PrOk x) ∧ (∀ x ∈ L.2.2, PrOk x)
theorem pick_step (L : Lck) (i : Nat) (x : Prs) (r : List Prs) (h : L.1[i]? = some x) (hr : L.2.1[i]? = some r) : pickTo L (i + 1) = (pickTo L i && (nameV x.1 && (readV x.2).isSome && (decide (i = 0) || (match L.1[i - 1]? with | some y => Op.bytesLess y.1 x.1 | none => true)) && needsV 6 r)) := by
 rw [pickTo]
 unfold pickAt
 rw [h]
 have e : L.2.1.getD i [] = r := by simp [List.getD, hr]
 rw [e]
 all_goals rfl
set_option maxHeartbeats 8000000 in
theorem lCheck_spec (L : Lck) (hL : LkOk L) : PCall Tryz.prog 59 [dLk L] fun r => r = dI (if lockV L = true then 0 else 1) := by 
 refine pcall_of Tryz.func59 rfl rfl Tryz.ntmps59 (rs := [.tmp 2]) (tys := [35]) rfl rfl (by simp) ?_
 have hbad := fun n (h : pickTo L n = false) (hn : n ≤ L.1.length) => pickTo_bad h L.1.length hn
 have hst := pick_step L
 have hz : pickTo L 0 = true := rfl
 unfold lockV
 obtain ⟨P, N, W⟩ := L
 obtain ⟨hP, hN, hW, hP1, hN1, hW1⟩ := hL
 simp only at hP hN hW hP1 hN1 hW1 hbad hst hz ⊢
 generalize pickTo (P, N, W) = nt at *
 have W1 := needs_spec W 8 hW hW1
 generalize needsV 8 W = wb at *
 (refine awp_sr fun Y Yh=>?_;simp[go_sem];((repeat' (first|(refine ag_x ?_;simp[go_sem])|intro _|apply And.intro|(apply Yh;clear Yh Y)));all_goals first|apply Hold.mk|omega|assumption|skip))
 rename_i g1
 refine awp_seq_k fun K1 hK1 => ?_
 by_cases h1 : P.length ≤ 60
 ·have h1' : ¬ (60 : Int) < P.length := by omega
  by_cases h2 : N.length = P.length
  ·have h2' : (N.length : Int) = P.length := by omega
   (refine awp_sr fun Y Yh=>?_;simp[go_sem, h1', h2, h2'];((repeat' (first|(refine ag_x ?_;simp[go_sem, h1', h2, h2'])|intro _|apply And.intro|(apply Yh;clear Yh Y)));all_goals first|apply Hold.mk|omega|assumption|skip))
   (refine agc_f (dB wb) (.inl ⟨rfl,rfl⟩) ?_ rfl ?_;(intro hc args ha;simp[go_sem] at ha;subst ha;exact W1);simp[go_sem, h1', h2, h2'];((repeat' (first|(refine ag_x ?_;simp[go_sem, h1', h2, h2'])|intro _|apply And.intro|(apply Yh;clear Yh Y)));all_goals first|apply Hold.mk|omega|assumption|skip))
   cases wb with
   | false =>
    (refine awp_if fun T F hT hF=>?_;simp[go_sem, h1', h2, h2'];refine hT ?_;clear hT hF T F)
    (refine awp_sr fun Y Yh=>?_;simp[go_sem];((repeat' (first|(refine ag_x ?_;simp[go_sem])|intro _|apply And.intro|(apply Yh;clear Yh Y)));all_goals first|apply Hold.mk|omega|assumption|skip))
    (refine awp_ret ?_;simp[go_sem, h1, h2])
   | true =>
    (refine awp_if fun T F hT hF=>?_;simp[go_sem, h1', h2, h2'];refine hF ?_;clear hT hF T F)
    refine awp_skip ?_
    refine hK1 _ ?_; clear hK1
    refine awp_seq_k fun K3 hK3 => ?_
    (refine awp_sr fun Y Yh=>?_;simp[go_sem];((repeat' (first|(refine ag_x ?_;simp[go_sem])|intro _|apply And.intro|(apply Yh;clear Yh Y)));all_goals first|apply Hold.mk|omega|assumption|skip))
    refine awp_block ?_
    refine awp_loop (σ := Nat) (fun i => ⟨[(1, .ptr 1 g1 0), (25, dPs P), (26, dI P.length), (27, dI i)], [(1, g1, .box [dPs P, dNs N, dPs W])]⟩) (fun i => i ≤ P.length ∧ nt i = true) (fun i => P.length - i) 0 ?_ ?_ ?_
    ·(refine cov_of ?_ ?_ <;> simp[go_sem])
    ·exact ⟨by omega, hz⟩
    rintro i ⟨hi, hn⟩
    (refine awp_sr fun Y Yh=>?_;simp[go_sem];((repeat' (first|(refine ag_x ?_;simp[go_sem])|intro _|apply And.intro|(apply Yh;clear Yh Y)));all_goals first|apply Hold.mk|omega|assumption|skip))
    refine awp_seq_k fun K4 hK4 => ?_
    (refine awp_if fun T F hT hF=>?_;simp[go_sem];refine BR.intro (fun h5=>hT ?_) (fun h5=>hF ?_);all_goals clear hT hF T F;try simp at h5)
    ·refine awp_skip ?_
     refine hK4 _ ?_; clear hK4
     obtain ⟨x, hx⟩ : ∃ x, P[i]? = some x := ⟨_, List.getElem?_eq_getElem (by omega)⟩
     obtain ⟨r, hr⟩ : ∃ r, N[i]? = some r := ⟨_, List.getElem?_eq_getElem (by omega)⟩
     have hb1 := hP1 x (List.mem_of_getElem? hx)
     have hb2 := hN1 r (List.mem_of_getElem? hr)
     have N1 := isName_spec x.1 (by omega)
     have C1 := Valid_spec x.2 (by omega)
     have Q1 := needs_spec r 6 hb2.1 hb2.2
     have hst1 := hst i x r hx hr
     rw [hn, Bool.true_and] at hst1
     have hbad1 := fun h => hbad (i + 1) h (by omega)
     generalize nameV x.1 = nb at *
     generalize (readV x.2).isSome = cb at *
     generalize needsV 6 r = qb at *
     refine awp_seq_k fun K6 hK6 => ?_
     refine awp_block ?_
     (refine awp_sr fun Y Yh=>?_;simp[go_sem, hx];((repeat' (first|(refine ag_x ?_;simp[go_sem, hx])|intro _|apply And.intro|(apply Yh;clear Yh Y)));all_goals first|apply Hold.mk|omega|assumption|skip))
     cases nb with
     | false =>
      have hF := hbad1 (by rw [hst1]; simp)
      ((refine awp_dr (.qs [0, 1] (.one 2 (.qs [3, 4] (.sk 5 (.sk 6 (.sk 7 (.sk 8 (.qs [9, 10] (.sk 11 (.sk 12 (.sk 13 (.sk 14 (.sk 16 (.sk 17 (.sk 21 (.sk 15 (.sk 18 (.sk 19 (.sk 20 (.sk 22 (.sk 23 (.sk 24 (.qs [25, 26] (.sk 27 (.sk 29 (.sk 28 (.sk 30 (.sk 31 (.sk 32 (.sk 33 (.qs [34] (.nil)))))))))))))))))))))))))))))))) (by kernel_rfl) ?_ ?_ ?_ ?_);kernel_rfl;exact (by decide +kernel);kernel_rfl;intro Y Yh;((repeat' (first|(refine ag_x ?_;simp[go_sem])|refine adr_nil ?_|((first|refine adr_qs fun Y Yh=>?_|refine adr_y fun Y Yh=>?_);simp[go_sem])|intro _|apply And.intro|(apply Yh;clear Yh Y)));all_goals first|apply Hold.mk|omega|assumption|skip))
      ((try refine CallT.toA ?_);refine callT_m (.inl ⟨rfl,rfl⟩) (by simp[go_sem]) ?_;intro args ha;simp[go_sem] at ha;subst ha;refine ⟨_, N1, ?_⟩;rintro _ rfl;simp[go_sem, undef];((repeat' (first|(refine ag_x ?_;simp[go_sem, undef])|refine adr_nil ?_|((first|refine adr_qs fun Y Yh=>?_|refine adr_y fun Y Yh=>?_);simp[go_sem, undef])|intro _|apply And.intro|(apply Yh;clear Yh Y)));all_goals first|apply Hold.mk|omega|assumption|skip))
      (refine awp_if fun T F hT hF=>?_;simp[go_sem];refine hT ?_;clear hT hF T F)
      (refine awp_sr fun Y Yh=>?_;simp[go_sem];((repeat' (first|(refine ag_x ?_;simp[go_sem])|intro _|apply And.intro|(apply Yh;clear Yh Y)));all_goals first|apply Hold.mk|omega|assumption|skip))
      (refine awp_ret ?_;simp[go_sem, hF, h1, h2])
     | true =>
      cases cb with
      | false =>
       have hF := hbad1 (by rw [hst1]; simp)
       ((refine awp_dr (.qs [0, 1] (.one 2 (.qs [3, 4, 5, 6] (.one 7 (.qs [8, 9, 10] (.sk 11 (.sk 12 (.sk 13 (.sk 14 (.sk 16 (.sk 17 (.sk 21 (.sk 15 (.sk 18 (.sk 19 (.sk 20 (.sk 22 (.sk 23 (.sk 24 (.qs [25, 26] (.sk 27 (.sk 29 (.sk 28 (.sk 30 (.sk 31 (.sk 32 (.sk 33 (.qs [34] (.nil))))))))))))))))))))))))))))) (by kernel_rfl) ?_ ?_ ?_ ?_);kernel_rfl;exact (by decide +kernel);kernel_rfl;intro Y Yh;((repeat' (first|(refine ag_x ?_;simp[go_sem])|refine adr_nil ?_|((first|refine adr_qs fun Y Yh=>?_|refine adr_y fun Y Yh=>?_);simp[go_sem])|intro _|apply And.intro|(apply Yh;clear Yh Y)));all_goals first|apply Hold.mk|omega|assumption|skip))
       ((try refine CallT.toA ?_);refine callT_m (.inl ⟨rfl,rfl⟩) (by simp[go_sem]) ?_;intro args ha;simp[go_sem] at ha;subst ha;refine ⟨_, N1, ?_⟩;rintro _ rfl;simp[go_sem];((repeat' (first|(refine ag_x ?_;simp[go_sem])|refine adr_nil ?_|((first|refine adr_qs fun Y Yh=>?_|refine adr_y fun Y Yh=>?_);simp[go_sem])|intro _|apply And.intro|(apply Yh;clear Yh Y)));all_goals first|apply Hold.mk|omega|assumption|skip))
       (refine agc_f (dB false) (.inl ⟨rfl,rfl⟩) ?_ rfl ?_;(intro hc args ha;simp[go_sem] at ha;subst ha;exact C1);simp[go_sem, undef];((repeat' (first|(refine ag_x ?_;simp[go_sem, undef])|refine adr_nil ?_|((first|refine adr_qs fun Y Yh=>?_|refine adr_y fun Y Yh=>?_);simp[go_sem, undef])|intro _|apply And.intro|(apply Yh;clear Yh Y)));all_goals first|apply Hold.mk|omega|assumption|skip))
       (refine awp_if fun T F hT hF=>?_;simp[go_sem];refine hT ?_;clear hT hF T F)
       (refine awp_sr fun Y Yh=>?_;simp[go_sem];((repeat' (first|(refine ag_x ?_;simp[go_sem])|intro _|apply And.intro|(apply Yh;clear Yh Y)));all_goals first|apply Hold.mk|omega|assumption|skip))
       (refine awp_ret ?_;simp[go_sem, hF, h1, h2])
      | true =>
       by_cases h0 : i = 0
       ·subst h0
        ((refine awp_dr (.qs [0, 1] (.one 2 (.qs [3, 4, 5, 6] (.one 7 (.qs [8, 9, 10, 11, 12, 13] (.sk 14 (.sk 16 (.sk 17 (.sk 21 (.sk 15 (.sk 18 (.sk 19 (.sk 20 (.sk 22 (.sk 23 (.qs [24, 25, 26, 27, 29, 28, 30, 31] (.one 32 (.qs [33, 34] (.nil))))))))))))))))))) (by kernel_rfl) ?_ ?_ ?_ ?_);kernel_rfl;exact (by decide +kernel);kernel_rfl;intro Y Yh;((repeat' (first|(refine ag_x ?_;simp[go_sem, hr])|refine adr_nil ?_|((first|refine adr_qs fun Y Yh=>?_|refine adr_y fun Y Yh=>?_);simp[go_sem, hr])|intro _|apply And.intro|(apply Yh;clear Yh Y)));all_goals first|apply Hold.mk|omega|assumption|skip))
        ((try refine CallT.toA ?_);refine callT_m (.inl ⟨rfl,rfl⟩) (by simp[go_sem]) ?_;intro args ha;simp[go_sem] at ha;subst ha;refine ⟨_, N1, ?_⟩;rintro _ rfl;simp[go_sem, hr];((repeat' (first|(refine ag_x ?_;simp[go_sem, hr])|refine adr_nil ?_|((first|refine adr_qs fun Y Yh=>?_|refine adr_y fun Y Yh=>?_);simp[go_sem, hr])|intro _|apply And.intro|(apply Yh;clear Yh Y)));all_goals first|apply Hold.mk|omega|assumption|skip))
        (refine agc_f (dB true) (.inl ⟨rfl,rfl⟩) ?_ rfl ?_;(intro hc args ha;simp[go_sem] at ha;subst ha;exact C1);simp[go_sem, undef, hr];((repeat' (first|(refine ag_x ?_;simp[go_sem, undef, hr])|refine adr_nil ?_|((first|refine adr_qs fun Y Yh=>?_|refine adr_y fun Y Yh=>?_);simp[go_sem, undef, hr])|intro _|apply And.intro|(apply Yh;clear Yh Y)));all_goals first|apply Hold.mk|omega|assumption|skip))
        (refine agc_f (dB qb) (.inl ⟨rfl,rfl⟩) ?_ rfl ?_;(intro hc args ha;simp[go_sem] at ha;subst ha;exact Q1);simp[go_sem, undef, hr];((repeat' (first|(refine ag_x ?_;simp[go_sem, undef, hr])|refine adr_nil ?_|((first|refine adr_qs fun Y Yh=>?_|refine adr_y fun Y Yh=>?_);simp[go_sem, undef, hr])|intro _|apply And.intro|(apply Yh;clear Yh Y)));all_goals first|apply Hold.mk|omega|assumption|skip))
        cases qb with
        | false =>
         have hF := hbad1 (by rw [hst1]; simp)
         (refine awp_if fun T F hT hF=>?_;simp[go_sem];refine hT ?_;clear hT hF T F)
         (refine awp_sr fun Y Yh=>?_;simp[go_sem];((repeat' (first|(refine ag_x ?_;simp[go_sem])|intro _|apply And.intro|(apply Yh;clear Yh Y)));all_goals first|apply Hold.mk|omega|assumption|skip))
         (refine awp_ret ?_;simp[go_sem, hF, h1, h2])
        | true =>
         have hT : nt 1 = true := by rw [hst1]; simp
         (refine awp_if fun T F hT hF=>?_;simp[go_sem];refine hF ?_;clear hT hF T F)
         refine awp_skip ?_
         refine hK6 _ ?_; clear hK6
         (refine awp_r fun Y Yh=>?_;simp[go_sem];((repeat' (first|(refine ag_x ?_;simp[go_sem])|intro _|apply And.intro|(apply Yh;clear Yh Y)));all_goals first|apply Hold.mk|omega|assumption|skip))
         refine ⟨1, ?_, ⟨by omega, hT⟩, by omega⟩
         (refine cov_of ?_ ?_ <;> simp[go_sem])
       ·obtain ⟨j, rfl⟩ : ∃ j, i = j + 1 := ⟨i - 1, by omega⟩
        obtain ⟨y, hy⟩ : ∃ y, P[j]? = some y := ⟨_, List.getElem?_eq_getElem (by omega)⟩
        have hi1 : ((j : Int) + 1 - 1).toNat = j := by omega
        have hi2 : (j : Int) + 1 - 1 = j := by omega
        have hi3 : ((j : Int) + 1).toNat = j + 1 := by omega
        have hpos : (0 : Int) < (j : Int) + 1 := by omega
        simp only [Nat.add_sub_cancel, hy] at hst1
        have hm1 := hP1 y (List.mem_of_getElem? hy)
        generalize hlb : Op.bytesLess y.1 x.1 = lb at *
        cases lb with
        | false =>
         have hF := hbad1 (by rw [hst1]; simp)
         ((refine awp_dr (.qs [0, 1] (.one 2 (.qs [3, 4, 5, 6] (.one 7 (.qs [8, 9, 10, 11, 12, 13, 14, 16, 17, 21, 15, 18, 19, 20, 22, 23, 24, 25, 26] (.sk 27 (.sk 29 (.sk 28 (.sk 30 (.sk 31 (.sk 32 (.sk 33 (.qs [34] (.nil)))))))))))))) (by kernel_rfl) ?_ ?_ ?_ ?_);kernel_rfl;exact (by decide +kernel);kernel_rfl;intro Y Yh;((repeat' (first|(refine ag_x ?_;simp[go_sem, hr, hy, hi1, hi2, hi3, hpos])|refine adr_nil ?_|((first|refine adr_qs fun Y Yh=>?_|refine adr_y fun Y Yh=>?_);simp[go_sem, hr, hy, hi1, hi2, hi3, hpos])|intro _|apply And.intro|(apply Yh;clear Yh Y)));all_goals first|apply Hold.mk|omega|assumption|skip))
         ((try refine CallT.toA ?_);refine callT_m (.inl ⟨rfl,rfl⟩) (by simp[go_sem]) ?_;intro args ha;simp[go_sem] at ha;subst ha;refine ⟨_, N1, ?_⟩;rintro _ rfl;simp[go_sem, hr, hy, hi1, hi2, hi3, hpos];((repeat' (first|(refine ag_x ?_;simp[go_sem, hr, hy, hi1, hi2, hi3, hpos])|refine adr_nil ?_|((first|refine adr_qs fun Y Yh=>?_|refine adr_y fun Y Yh=>?_);simp[go_sem, hr, hy, hi1, hi2, hi3, hpos])|intro _|apply And.intro|(apply Yh;clear Yh Y)));all_goals first|apply Hold.mk|omega|assumption|skip))
         (refine agc_f (dB true) (.inl ⟨rfl,rfl⟩) ?_ rfl ?_;(intro hc args ha;simp[go_sem] at ha;subst ha;exact C1);simp[go_sem, undef, hr, hy, hi1, hi2, hi3, hpos, hlb];((repeat' (first|(refine ag_x ?_;simp[go_sem, undef, hr, hy, hi1, hi2, hi3, hpos, hlb])|refine adr_nil ?_|((first|refine adr_qs fun Y Yh=>?_|refine adr_y fun Y Yh=>?_);simp[go_sem, undef, hr, hy, hi1, hi2, hi3, hpos, hlb])|intro _|apply And.intro|(apply Yh;clear Yh Y)));all_goals first|apply Hold.mk|omega|assumption|skip))
         (refine awp_if fun T F hT hF=>?_;simp[go_sem];refine hT ?_;clear hT hF T F)
         (refine awp_sr fun Y Yh=>?_;simp[go_sem];((repeat' (first|(refine ag_x ?_;simp[go_sem])|intro _|apply And.intro|(apply Yh;clear Yh Y)));all_goals first|apply Hold.mk|omega|assumption|skip))
         (refine awp_ret ?_;simp[go_sem, hF, h1, h2])
        | true =>
         ((refine awp_dr (.qs [0, 1] (.one 2 (.qs [3, 4, 5, 6] (.one 7 (.qs [8, 9, 10, 11, 12, 13, 14, 16, 17, 21, 15, 18, 19, 20, 22, 23, 24, 25, 26, 27, 29, 28, 30, 31] (.one 32 (.qs [33, 34] (.nil)))))))) (by kernel_rfl) ?_ ?_ ?_ ?_);kernel_rfl;exact (by decide +kernel);kernel_rfl;intro Y Yh;((repeat' (first|(refine ag_x ?_;simp[go_sem, hr, hy, hi1, hi2, hi3, hpos])|refine adr_nil ?_|((first|refine adr_qs fun Y Yh=>?_|refine adr_y fun Y Yh=>?_);simp[go_sem, hr, hy, hi1, hi2, hi3, hpos])|intro _|apply And.intro|(apply Yh;clear Yh Y)));all_goals first|apply Hold.mk|omega|assumption|skip))
         ((try refine CallT.toA ?_);refine callT_m (.inl ⟨rfl,rfl⟩) (by simp[go_sem]) ?_;intro args ha;simp[go_sem] at ha;subst ha;refine ⟨_, N1, ?_⟩;rintro _ rfl;simp[go_sem, hr, hy, hi1, hi2, hi3, hpos];((repeat' (first|(refine ag_x ?_;simp[go_sem, hr, hy, hi1, hi2, hi3, hpos])|refine adr_nil ?_|((first|refine adr_qs fun Y Yh=>?_|refine adr_y fun Y Yh=>?_);simp[go_sem, hr, hy, hi1, hi2, hi3, hpos])|intro _|apply And.intro|(apply Yh;clear Yh Y)));all_goals first|apply Hold.mk|omega|assumption|skip))
         (refine agc_f (dB true) (.inl ⟨rfl,rfl⟩) ?_ rfl ?_;(intro hc args ha;simp[go_sem] at ha;subst ha;exact C1);simp[go_sem, hr, hy, hi1, hi2, hi3, hpos, hlb];((repeat' (first|(refine ag_x ?_;simp[go_sem, hr, hy, hi1, hi2, hi3, hpos, hlb])|refine adr_nil ?_|((first|refine adr_qs fun Y Yh=>?_|refine adr_y fun Y Yh=>?_);simp[go_sem, hr, hy, hi1, hi2, hi3, hpos, hlb])|intro _|apply And.intro|(apply Yh;clear Yh Y)));all_goals first|apply Hold.mk|omega|assumption|skip))
         (refine agc_f (dB qb) (.inl ⟨rfl,rfl⟩) ?_ rfl ?_;(intro hc args ha;simp[go_sem] at ha;subst ha;exact Q1);simp[go_sem, hr, hy, hi1, hi2, hi3, hpos, hlb];((repeat' (first|(refine ag_x ?_;simp[go_sem, hr, hy, hi1, hi2, hi3, hpos, hlb])|refine adr_nil ?_|((first|refine adr_qs fun Y Yh=>?_|refine adr_y fun Y Yh=>?_);simp[go_sem, hr, hy, hi1, hi2, hi3, hpos, hlb])|intro _|apply And.intro|(apply Yh;clear Yh Y)));all_goals first|apply Hold.mk|omega|assumption|skip))
         cases qb with
         | false =>
          have hF := hbad1 (by rw [hst1]; simp)
          (refine awp_if fun T F hT hF=>?_;simp[go_sem];refine hT ?_;clear hT hF T F)
          (refine awp_sr fun Y Yh=>?_;simp[go_sem];((repeat' (first|(refine ag_x ?_;simp[go_sem])|intro _|apply And.intro|(apply Yh;clear Yh Y)));all_goals first|apply Hold.mk|omega|assumption|skip))
          (refine awp_ret ?_;simp[go_sem, hF, h1, h2])
         | true =>
          have hT : nt (j + 1 + 1) = true := by rw [hst1]; simp
          (refine awp_if fun T F hT hF=>?_;simp[go_sem];refine hF ?_;clear hT hF T F)
          refine awp_skip ?_
          refine hK6 _ ?_; clear hK6
          (refine awp_r fun Y Yh=>?_;simp[go_sem];((repeat' (first|(refine ag_x ?_;simp[go_sem])|intro _|apply And.intro|(apply Yh;clear Yh Y)));all_goals first|apply Hold.mk|omega|assumption|skip))
          refine ⟨j + 1 + 1, ?_, ⟨by omega, hT⟩, by omega⟩
          (refine cov_of ?_ ?_ <;> simp[go_sem])
    ·refine awp_exit ?_
     simp only [go_sem]
     refine hK3 _ ?_; clear hK3
     have : i = P.length := by omega
     subst this
     rw [hn]
     (refine awp_sr fun Y Yh=>?_;simp[go_sem];((repeat' (first|(refine ag_x ?_;simp[go_sem])|intro _|apply And.intro|(apply Yh;clear Yh Y)));all_goals first|apply Hold.mk|omega|assumption|skip))
     (refine awp_ret ?_;simp[go_sem, h1, h2])
  ·have h2' : ¬ (N.length : Int) = P.length := by omega
   (refine awp_sr fun Y Yh=>?_;simp[go_sem, h1', h2, h2'];((repeat' (first|(refine ag_false ?_ ?_ ?_;(focus (simp[go_sem, undef, h1', h2, h2'];done));(focus (simp[go_sem];done));simp[go_sem, h1', h2, h2'])|(refine ag_x ?_;simp[go_sem, undef, h1', h2, h2'])|intro _|apply And.intro|(apply Yh;clear Yh Y)));all_goals first|apply Hold.mk|omega|assumption|skip))
   (refine awp_if fun T F hT hF=>?_;simp[go_sem, h1', h2, h2'];refine hT ?_;clear hT hF T F)
   (refine awp_sr fun Y Yh=>?_;simp[go_sem];((repeat' (first|(refine ag_x ?_;simp[go_sem])|intro _|apply And.intro|(apply Yh;clear Yh Y)));all_goals first|apply Hold.mk|omega|assumption|skip))
   (refine awp_ret ?_;simp[go_sem, h1, h2])
 ·have h1' : (60 : Int) < P.length := by omega
  (refine awp_sr fun Y Yh=>?_;simp[go_sem, h1', undef];((repeat' (first|(refine ag_false ?_ ?_ ?_;(focus (simp[go_sem, undef, h1', undef];done));(focus (simp[go_sem];done));simp[go_sem, h1', undef])|(refine ag_x ?_;simp[go_sem, undef, h1', undef])|intro _|apply And.intro|(apply Yh;clear Yh Y)));all_goals first|apply Hold.mk|omega|assumption|skip))
  (refine awp_if fun T F hT hF=>?_;simp[go_sem, h1'];refine hT ?_;clear hT hF T F)
  (refine awp_sr fun Y Yh=>?_;simp[go_sem];((repeat' (first|(refine ag_x ?_;simp[go_sem])|intro _|apply And.intro|(apply Yh;clear Yh Y)));all_goals first|apply Hold.mk|omega|assumption|skip))
  (refine awp_ret ?_;simp[go_sem, h1])
end Go.Proofs.YteekfnhhlcmcgaaGreatDoor
namespace Go.Eng
set_option linter.unusedSectionVars false
variable {P : Program} [HasGlob P] {n : Nat} {S : St} {Q : Exit → St → Prop}
end Go.Eng
namespace Go.Proofs.YteekfnhhlcmcgaaGreatDoor
open Go.Eng Go.Wh Go.Ver Go.RowKit Go.Lk
set_option maxRecDepth 20000
attribute [local irreducible] AG CallA CallT AWp PCall ACall AgC
theorem take_eq_step {α : Type} {a b : List α} {i : Nat} {x y : α} (hx : a[i]? = some x) (hy : b[i]? = some y) (h : a.take i = b.take i) : a.take (i + 1) = b.take (i + 1) ↔ x = y := by
 rw [List.take_add_one, List.take_add_one, hx, hy, h]
 simp
theorem take_ne {α : Type} {a b : List α} {i : Nat} {x y : α} (hx : a[i]? = some x) (hy : b[i]? = some y) (h : ¬ x = y) : ¬ a = b := fun q => by
 subst q; rw [hx] at hy; exact h (Option.some.inj hy)
theorem take_all {α : Type} {a b : List α} (hl : a.length = b.length) (h : a.take a.length = b.take a.length) : a = b := by
 rw [List.take_length, hl, List.take_length] at h; exact h
end Go.Proofs.YteekfnhhlcmcgaaGreatDoor
namespace Go.Lk
open Go.Lib Go.Wh Go.Ver
/-! a whole text: its lines, where they begin, what reading all of them gives -/
def goL : PS → Nat → List Bs → Option PS × Nat
 | p, i, [] => (some p, i)
 | p, i, [l] => if l = [] then (some p, i) else (none, i + 1)
 | p, i, l :: m :: r => match lineV p l with
  | some q => goL q (i + 1) (m :: r)
  | none => (none, i + 1)
abbrev lk0 : Lck := ([], [], [])
structure SzOk (p : PS) (k m : Nat) : Prop where
 nl : p.needs.length = p.picks.length
 pl : p.picks.length ≤ k
 wl : p.wish.length ≤ k
 rl : ∀ r ∈ p.needs, r.length ≤ k
 ps : ∀ x ∈ p.picks, x.1.length ≤ m ∧ x.2.length ≤ m
 ns : ∀ r ∈ p.needs, ∀ x ∈ r, x.1.length ≤ m ∧ x.2.length ≤ m
 ws : ∀ x ∈ p.wish, x.1.length ≤ m ∧ x.2.length ≤ m
theorem cut_len (s sep : Bs) : (cut s sep).1.length ≤ s.length ∧ (cut s sep).2.1.length ≤ s.length := by
 rcases cut_cases s sep with ⟨a, r, h1, h2⟩ | ⟨h1, _⟩
 ·rw [h1]
  have := congrArg List.length h2
  simp at this
  simp; omega
 ·rw [h1]; simp
theorem SzOk.up {p : PS} {k k' m : Nat} (h : SzOk p k m) (hk : k ≤ k') : SzOk p k' m :=
 ⟨h.nl, by have := h.pl; omega, by have := h.wl; omega, fun r hr => by have := h.rl r hr; omega, h.ps, h.ns, h.ws⟩
/-! a lock's text -/
def wantL (ind : Bs) (n : Prs) : Bs := if n.2 = [] then ind ++ (n.1 ++ [10]) else ind ++ (n.1 ++ ([32, 40] ++ (n.2 ++ [41, 10])))
def pickL (p : Prs) : Bs := [32, 32] ++ (p.1 ++ ([32, 40] ++ (p.2 ++ [41, 10])))
def gemsH : Bs := [71, 69, 77, 83, 10]
def wishH : Bs := [10, 87, 73, 83, 72, 10]
def ndsT (ind : Bs) (l : List Prs) (k : Nat) : Bs := (l.take k).flatMap (wantL ind)
def pksT (L : Lck) : Nat → Bs
 | 0 => gemsH
 | i + 1 => pksT L i ++ (pickL (L.1.getD i ([], [])) ++ ndsT pre4 (L.2.1.getD i []) (L.2.1.getD i []).length)
def headT (L : Lck) : Bs := pksT L L.1.length ++ (wishH ++ (ndsT pre2 L.2.2 L.2.2.length ++ [10]))
def textV (L : Lck) : Bs := headT L ++ (preSum ++ (itoa (sumV (headT L) (headT L).length : Nat) ++ [10]))
theorem lockV_parts {L : Lck} (h : lockV L = true) : L.1.length ≤ 60 ∧ L.2.1.length = L.1.length ∧ needsV 8 L.2.2 = true ∧ pickTo L L.1.length = true := by
 unfold lockV at h
 simp only [Bool.and_eq_true, decide_eq_true_eq] at h
 exact ⟨h.1.1.1, h.1.1.2, h.1.2, h.2⟩
theorem pickTo_at {L : Lck} : ∀ {n i : Nat}, pickTo L n = true → i < n → pickAt L i = true
 | 0, i, _, h => absurd h (by omega)
 | n + 1, i, h, hi => by
  rw [pickTo, Bool.and_eq_true] at h
  by_cases e : i = n
  ·subst e; exact h.2
  ·exact pickTo_at h.1 (by omega)
theorem needTo_at {l : List Prs} : ∀ {n i : Nat}, needTo l n = true → i < n → needAt l i = true
 | 0, i, _, h => absurd h (by omega)
 | n + 1, i, h, hi => by
  rw [needTo, Bool.and_eq_true] at h
  by_cases e : i = n
  ·subst e; exact h.2
  ·exact needTo_at h.1 (by omega)
theorem lockV_pick {L : Lck} (h : lockV L = true) {i : Nat} {x : Prs} {r : List Prs} (hx : L.1[i]? = some x) (hr : L.2.1[i]? = some r) : nameV x.1 = true ∧ (readV x.2).isSome = true ∧ needsV 6 r = true := by
 obtain ⟨_, _, _, h4⟩ := lockV_parts h
 have := pickTo_at h4 (List.getElem?_eq_some_iff.1 hx).1
 unfold pickAt at this
 rw [hx] at this
 have e2 : L.2.1.getD i [] = r := by simp [List.getD, hr]
 simp only [e2, Bool.and_eq_true] at this
 exact ⟨this.1.1.1, this.1.1.2, this.2⟩
theorem needsV_len {m : Nat} {l : List Prs} (h : needsV m l = true) : l.length ≤ m := by
 unfold needsV at h; simp at h; exact h.2
/-! a lock's text is read as the lock -/
theorem readV_ne {v : Bs} (h : (readV v).isSome = true) : v ≠ [] := fun q => by
 subst q
 have : readV [] = none := by decide
 rw [this] at h; cases h
theorem name_nm {g : Bs} (h : nameV g = true) : g ≠ [] ∧ g.all nmC = true ∧ g.length ≤ 20 := by
 cases g with
 | nil => simp [nameV] at h
 | cons c r =>
  simp only [nameV, Bool.and_eq_true, decide_eq_true_eq] at h
  refine ⟨by simp, ?_, by simp; omega⟩
  simp only [List.all_cons, Bool.and_eq_true]
  refine ⟨?_, h.1.2⟩
  unfold nmC; simp [h.1.1]
def Reads (p : PS) (t : Bs) (q : PS) : Prop := ∀ i s, ∃ j, goL p i (dots 10 (t ++ s)) = goL q j (dots 10 s)
theorem Reads.nil (p : PS) : Reads p [] p := fun i s => ⟨i, rfl⟩
theorem Reads.trans {p q r : PS} {t u : Bs} (h : Reads p t q) (k : Reads q u r) : Reads p (t ++ u) r := fun i s => by
 obtain ⟨j, hj⟩ := h i (u ++ s)
 obtain ⟨m, hm⟩ := k j s
 exact ⟨m, by rw [List.append_assoc, hj, hm]⟩
theorem Reads.line {p q : PS} {l : Bs} (h : 10 ∉ l) (hq : lineV p l = some q) : Reads p (l ++ [10]) q := fun i s => by
 refine ⟨i + 1, ?_⟩
 rw [List.append_assoc, show ([10] : Bs) ++ s = 10 :: s from rfl, dots_app _ h]
 obtain ⟨m, r, hm⟩ : ∃ m r, dots 10 s = m :: r := by
  cases hd : dots 10 s with
  | nil => exact absurd hd (dots_ne 10 s)
  | cons m r => exact ⟨m, r, rfl⟩
 rw [hm]
 conv => lhs; unfold goL
 rw [hq]
theorem needsV_each {m : Nat} {l : List Prs} (h : needsV m l = true) : ∀ n ∈ l, nameV n.1 = true ∧ (condsV n.2).isSome = true := fun n hn => by
 unfold needsV at h
 rw [Bool.and_eq_true] at h
 obtain ⟨i, hi⟩ := List.getElem?_of_mem hn
 have := needTo_at h.1 (List.getElem?_eq_some_iff.1 hi).1
 unfold needAt at this
 rw [hi] at this
 simp only [Bool.and_eq_true] at this
 exact this.1
/-! sources: gems, versions, needs -/
abbrev Vrs := Bs × List Prs
abbrev Gm := Bs × List Vrs
abbrev Src := List Gm
def upTo (f : Nat → Bool) : Nat → Bool
 | 0 => true
 | n + 1 => upTo f n && f n
theorem upTo_bad {f : Nat → Bool} {n : Nat} (h : upTo f n = false) : ∀ m, n ≤ m → upTo f m = false
 | 0, hm => by
  have : n = 0 := by omega
  subst this; exact h
 | m + 1, hm => by
  by_cases e : n = m + 1
  ·subst e; exact h
  ·rw [upTo, upTo_bad h m (by omega)]; rfl
theorem upTo_at {f : Nat → Bool} : ∀ {n i : Nat}, upTo f n = true → i < n → f i = true
 | 0, i, _, h => absurd h (by omega)
 | n + 1, i, h, hi => by
  rw [upTo, Bool.and_eq_true] at h
  by_cases e : i = n
  ·subst e; exact h.2
  ·exact upTo_at h.1 (by omega)
theorem upTo_of {f : Nat → Bool} : ∀ {n : Nat}, (∀ i, i < n → f i = true) → upTo f n = true
 | 0, _ => rfl
 | n + 1, h => by rw [upTo, upTo_of (fun i hi => h i (by omega)), h n (by omega)]; rfl
theorem upTo_step {f : Nat → Bool} {n : Nat} (h : upTo f n = true) : upTo f (n + 1) = f n := by rw [upTo, h]; rfl
def apartAt (l : List Prs) (x : Prs) (k : Nat) : Bool := match l[k]? with
 | some y => decide (y.1 ≠ x.1)
 | none => true
def nuAt (l : List Prs) (i : Nat) : Bool := match l[i]? with
 | some x => nameV x.1 && (condsV x.2).isSome && upTo (apartAt l x) i
 | none => true
def nuV (most : Nat) (l : List Prs) : Bool := decide (l.length ≤ most) && upTo (nuAt l) l.length
theorem apart_step {l : List Prs} {x y : Prs} {k : Nat} (h : l[k]? = some y) (ht : upTo (apartAt l x) k = true) : upTo (apartAt l x) (k + 1) = decide (y.1 ≠ x.1) := by
 rw [upTo_step ht]; unfold apartAt; rw [h]
theorem nu_step {l : List Prs} {x : Prs} {i : Nat} (h : l[i]? = some x) (ht : upTo (nuAt l) i = true) : upTo (nuAt l) (i + 1) = (nameV x.1 && (condsV x.2).isSome && upTo (apartAt l x) i) := by
 rw [upTo_step ht]; unfold nuAt; rw [h]
def rankAt (l : List Vrs) (x : Vrs) (k : Nat) : Bool := match l[k]? with
 | some y => decide (compareP y.1 x.1 ≠ 0)
 | none => true
def vuAt (l : List Vrs) (i : Nat) : Bool := match l[i]? with
 | some x => (readV x.1).isSome && nuV 6 x.2 && upTo (rankAt l x) i
 | none => true
def vuV (l : List Vrs) : Bool := decide (l.length ≤ 12) && upTo (vuAt l) l.length
theorem rank_step {l : List Vrs} {x y : Vrs} {k : Nat} (h : l[k]? = some y) (ht : upTo (rankAt l x) k = true) : upTo (rankAt l x) (k + 1) = decide (compareP y.1 x.1 ≠ 0) := by
 rw [upTo_step ht]; unfold rankAt; rw [h]
theorem vu_step {l : List Vrs} {x : Vrs} {i : Nat} (h : l[i]? = some x) (ht : upTo (vuAt l) i = true) : upTo (vuAt l) (i + 1) = ((readV x.1).isSome && nuV 6 x.2 && upTo (rankAt l x) i) := by
 rw [upTo_step ht]; unfold vuAt; rw [h]
def suAt (s : Src) (i : Nat) : Bool := match s[i]? with
 | some g => nameV g.1 && (decide (i = 0) || (match s[i - 1]? with | some y => Op.bytesLess y.1 g.1 | none => true)) && vuV g.2
 | none => true
def suV (s : Src) : Bool := decide (s.length ≤ 15) && upTo (suAt s) s.length
theorem su_step {s : Src} {g : Gm} {i : Nat} (h : s[i]? = some g) (ht : upTo (suAt s) i = true) : upTo (suAt s) (i + 1) = (nameV g.1 && (decide (i = 0) || (match s[i - 1]? with | some y => Op.bytesLess y.1 g.1 | none => true)) && vuV g.2) := by
 rw [upTo_step ht]; unfold suAt; rw [h]
def chkV (s : Src) (w : List Prs) : Bool := suV s && nuV 8 w
/-! sizes -/
def Sz1 (x : Prs) : Prop := x.1.length ≤ 1000000 ∧ x.2.length ≤ 1000000
def SzN (l : List Prs) : Prop := l.length ≤ 1000000 ∧ ∀ x ∈ l, Sz1 x
def SzV (v : Vrs) : Prop := v.1.length ≤ 1000000 ∧ SzN v.2
def SzG (g : Gm) : Prop := g.1.length ≤ 1000000 ∧ g.2.length ≤ 1000000 ∧ ∀ v ∈ g.2, SzV v
def SzS (s : Src) : Prop := s.length ≤ 1000000 ∧ ∀ g ∈ s, SzG g
end Go.Lk
