/- Part of a proof: see the last text. -/
import Derived.Test.YteekfnhhlcmcgaaGreatDoorG06
import Derived.Test.YteekfnhhlcmcgaaGreatDoorG03
import Derived.Lib.IndexMore
import Derived.Lib.IndexLaws
import Derived.Laws.RangeAny
import Derived.Shelf.GgClosure.StringsIndexFuncTop
import Derived.Test.YteekfnhhlcmcgaaGreatDoorG04
import Derived.Lib.LastIndexLaws
set_option linter.unusedVariables false
set_option linter.unusedSimpArgs false
namespace Go.Proofs.YteekfnhhlcmcgaaGreatDoor
open Go.Eng Go.Wh Go.Ver
set_option maxRecDepth 20000
attribute [local irreducible] AG CallA CallT AWp PCall ACall AgC
theorem rbump_spec (l : List Seg) (hl : l.length ≤ 1000) (h1 : 1 ≤ wordsV l) (hn : ∀ x ∈ l, 0 ≤ x.2 ∧ x.2 ≤ 1000000000) : PCall Tryz.prog 304 [dGs l] fun r => r = dGs (bumpV l) := by 
 refine pcall_of Tryz.func304 rfl rfl Tryz.ntmps304 (rs := [.tmp 2]) (tys := [183]) rfl rfl (by simp) ?_
 have W := rwords_spec l (by omega)
 have hwl := wordsV_le l
 have hbl := bumpN_le l
 obtain ⟨x, hx, hml, hm1, hxm, hb⟩ := bump_last h1
 have hxn := hn x hxm
 rw [hb]
 have hdrop : 1 < wordsV l → (l.take (wordsV l)).take (wordsV l - 1) = l.take (bumpN l) := by
  intro h; unfold bumpN; rw [if_pos h, List.take_take]; congr 1; omega
 have hsame : ¬ 1 < wordsV l → l.take (wordsV l) = l.take (bumpN l) := by
  intro h; unfold bumpN; rw [if_neg h]
 have hlen : (l.take (wordsV l)).length = wordsV l := by simp; omega
 have hlen' : min (wordsV l) l.length = wordsV l := by omega
 generalize hm : l.take (bumpN l) = m at *
 (refine awp_sr fun Y Yh=>?_;simp[go_sem];((repeat' (first|(refine ag_x ?_;simp[go_sem])|intro _|apply And.intro|(apply Yh;clear Yh Y)));all_goals first|apply Hold.mk|omega|assumption|skip))
 (refine awp_sr fun Y Yh=>?_;simp[go_sem];((repeat' (first|(refine ag_x ?_;simp[go_sem])|intro _|apply And.intro|(apply Yh;clear Yh Y)));all_goals first|apply Hold.mk|omega|assumption|skip))
 ((try refine CallT.toA ?_);refine callT_m (.inl ⟨rfl,rfl⟩) (by simp[go_sem]) ?_;intro args ha;simp[go_sem] at ha;subst ha;refine ⟨_, W, ?_⟩;rintro _ rfl;simp[go_sem];((repeat' (first|(refine ag_x ?_;simp[go_sem])|intro _|apply And.intro|(apply Yh;clear Yh Y)));all_goals first|apply Hold.mk|omega|assumption|skip))
 rename_i g4 gw
 refine awp_seq_k fun K1 hK1 => ?_
 have tl1 : ∀ S' g, Cov S' ⟨[(3, .own 4 g)], [(4, g, .row 229 2 (m.map cG))]⟩ → K1 S' := fun S' g hS => by
  refine hK1 _ ?_
  refine awp_cov hS ?_; clear hS
  have hidx : ((m.length : Int) - 1).toNat = m.length - 1 := by omega
  (refine awp_sr fun Y Yh=>?_;simp[go_sem, hx, hidx];((repeat' (first|(refine ag_x ?_;simp[go_sem, hx, hidx])|intro _|apply And.intro|(apply Yh;clear Yh Y)));all_goals first|apply Hold.mk|omega|assumption|skip))
  (refine awp_sr fun Y Yh=>?_;simp[go_sem];((repeat' (first|(refine ag_x ?_;simp[go_sem])|intro _|apply And.intro|(apply Yh;clear Yh Y)));all_goals first|apply Hold.mk|omega|assumption|skip))
  (refine awp_ret ?_;simp[go_sem, hx, hidx])
 (refine awp_sr fun Y Yh=>?_;simp[go_sem, hlen'];((repeat' (first|(refine ag_x ?_;simp[go_sem, hlen'])|intro _|apply And.intro|(apply Yh;clear Yh Y)));all_goals first|apply Hold.mk|omega|assumption|skip))
 (refine awp_if fun T F hT hF=>?_;simp[go_sem];refine BR.intro (fun h2=>hT ?_) (fun h2=>hF ?_);all_goals clear hT hF T F;try simp at h2) 
 ·(refine awp_r fun Y Yh=>?_;simp[go_sem, hlen'];((repeat' (first|(refine ag_x ?_;simp[go_sem, hlen'])|intro _|apply And.intro|(apply Yh;clear Yh Y)));all_goals first|apply Hold.mk|omega|assumption|skip))
  rename_i g'
  refine tl1 _ g' ?_
  rw [← hdrop (by omega)]
  (refine cov_of ?_ ?_ <;> simp[go_sem, hlen'])
  all_goals omega
 ·refine awp_skip ?_
  refine tl1 _ gw ?_
  rw [← hsame (by omega)]
  (refine cov_of ?_ ?_ <;> simp[go_sem])
theorem rValid_spec (v : List UInt8) (hl : v.length ≤ 1000000000) : PCall Tryz.prog 108 [dS v] fun r => r = dB (readV v).isSome := by 
 refine pcall_of Tryz.func108 rfl rfl Tryz.ntmps108 (rs := [.tmp 2]) (tys := [4]) rfl rfl (by simp) ?_
 have R1 := rread_spec v hl
 (refine awp_sr fun Y Yh=>?_;simp[go_sem];((repeat' (first|(refine ag_x ?_;simp[go_sem])|intro _|apply And.intro|(apply Yh;clear Yh Y)));all_goals first|apply Hold.mk|omega|assumption|skip))
 (refine awp_sr fun Y Yh=>?_;simp[go_sem];((repeat' (first|(refine ag_x ?_;simp[go_sem])|intro _|apply And.intro|(apply Yh;clear Yh Y)));all_goals first|apply Hold.mk|omega|assumption|skip))
 ((try refine CallT.toA ?_);refine callT_m (.inl ⟨rfl,rfl⟩) (by simp[go_sem]) ?_;intro args ha;simp[go_sem] at ha;subst ha;refine ⟨_, R1, ?_⟩;rintro _ rfl;simp[go_sem];((repeat' (first|(refine ag_x ?_;simp[go_sem])|intro _|apply And.intro|(apply Yh;clear Yh Y)));all_goals first|apply Hold.mk|omega|assumption|skip))
 (refine awp_sr fun Y Yh=>?_;simp[go_sem];((repeat' (first|(refine ag_x ?_;simp[go_sem])|intro _|apply And.intro|(apply Yh;clear Yh Y)));all_goals first|apply Hold.mk|omega|assumption|skip))
 (refine awp_ret ?_;simp[go_sem])
theorem Valid_spec (v : List UInt8) (hl : v.length ≤ 1000000000) : PCall Tryz.prog 124 [dS v] fun r => r = dB (readV v).isSome := by 
 refine pcall_of Tryz.func124 rfl rfl Tryz.ntmps124 (rs := [.tmp 2]) (tys := [4]) rfl rfl (by simp) ?_
 have R1 := read_spec v hl
 (refine awp_sr fun Y Yh=>?_;simp[go_sem];((repeat' (first|(refine ag_x ?_;simp[go_sem])|intro _|apply And.intro|(apply Yh;clear Yh Y)));all_goals first|apply Hold.mk|omega|assumption|skip))
 (refine awp_sr fun Y Yh=>?_;simp[go_sem];((repeat' (first|(refine ag_x ?_;simp[go_sem])|intro _|apply And.intro|(apply Yh;clear Yh Y)));all_goals first|apply Hold.mk|omega|assumption|skip))
 ((try refine CallT.toA ?_);refine callT_m (.inl ⟨rfl,rfl⟩) (by simp[go_sem]) ?_;intro args ha;simp[go_sem] at ha;subst ha;refine ⟨_, R1, ?_⟩;rintro _ rfl;simp[go_sem];((repeat' (first|(refine ag_x ?_;simp[go_sem])|intro _|apply And.intro|(apply Yh;clear Yh Y)));all_goals first|apply Hold.mk|omega|assumption|skip))
 (refine awp_sr fun Y Yh=>?_;simp[go_sem];((repeat' (first|(refine ag_x ?_;simp[go_sem])|intro _|apply And.intro|(apply Yh;clear Yh Y)));all_goals first|apply Hold.mk|omega|assumption|skip))
 (refine awp_ret ?_;simp[go_sem])
@[go_sem] abbrev cRC (c : Cnd) : List D := [dS c.1, dS (textV c.2)]
@[go_sem] abbrev dRC (c : Cnd) : D := .agg [dS c.1, dS (textV c.2)]
@[go_sem] abbrev dRCs (l : List Cnd) : D := .sl 2 (l.map cRC)
set_option maxHeartbeats 8000000 in
theorem rconditions_spec (r : List UInt8) (hl : r.length ≤ 1000000) : PCall Tryz.prog 188 [dS r] fun x => x = .tup [dRCs (condsP r), dB (condsV r).isSome] := by 
 refine pcall_of Tryz.func188 rfl rfl Tryz.ntmps188 (rs := [.tmp 2, .tmp 3]) (tys := [263, 4]) rfl rfl (by simp) ?_
 have S1 := split_spec r [44, 32] (by omega) (by simp)
 rw [split_csv] at S1
 have hdl := csv_len 44 32 r
 have hdp := csv_part 44 32 r
 have hdn := csv_ne 44 32 r
 unfold condsP condsV
 (refine awp_sr fun Y Yh=>?_;simp[go_sem];((repeat' (first|(refine ag_x ?_;simp[go_sem])|intro _|apply And.intro|(apply Yh;clear Yh Y)));all_goals first|apply Hold.mk|omega|assumption|skip))
 refine awp_seq_k fun K1 hK1 => ?_
 (refine awp_sr fun Y Yh=>?_;simp[go_sem];((repeat' (first|(refine ag_x ?_;simp[go_sem])|intro _|apply And.intro|(apply Yh;clear Yh Y)));all_goals first|apply Hold.mk|omega|assumption|skip))
 (refine awp_if fun T F hT hF=>?_;simp[go_sem];refine BR.intro (fun h2=>hT ?_) (fun h2=>hF ?_);all_goals clear hT hF T F;try simp at h2) 
 ·(refine awp_sr fun Y Yh=>?_;simp[go_sem];((repeat' (first|(refine ag_x ?_;simp[go_sem])|intro _|apply And.intro|(apply Yh;clear Yh Y)));all_goals first|apply Hold.mk|omega|assumption|skip))
  (refine awp_ret ?_;simp[go_sem, h2])
 ·refine awp_skip ?_
  refine hK1 _ ?_; clear hK1
  simp only [h2, if_false]
  generalize hps : csv 44 32 r = ps at *
  (refine awp_sr fun Y Yh=>?_;simp[go_sem];((repeat' (first|(refine ag_x ?_;simp[go_sem])|intro _|apply And.intro|(apply Yh;clear Yh Y)));all_goals first|apply Hold.mk|omega|assumption|skip))
  ((try refine CallT.toA ?_);refine callT_m (.inl ⟨rfl,rfl⟩) (by simp[go_sem]) ?_;intro args ha;simp[go_sem] at ha;subst ha;refine ⟨_, S1, ?_⟩;rintro _ rfl;simp[go_sem];((repeat' (first|(refine ag_x ?_;simp[go_sem])|intro _|apply And.intro|(apply Yh;clear Yh Y)));all_goals first|apply Hold.mk|omega|assumption|skip))
  (refine awp_sr fun Y Yh=>?_;simp[go_sem];((repeat' (first|(refine ag_x ?_;simp[go_sem])|intro _|apply And.intro|(apply Yh;clear Yh Y)));all_goals first|apply Hold.mk|omega|assumption|skip))
  refine awp_nilslot 5 5 304 2 rfl fun g5 => ?_
  simp only [go_sem]
  refine awp_seq_k fun K3 hK3 => ?_
  (refine awp_sr fun Y Yh=>?_;simp[go_sem];((repeat' (first|(refine ag_x ?_;simp[go_sem])|intro _|apply And.intro|(apply Yh;clear Yh Y)));all_goals first|apply Hold.mk|omega|assumption|skip))
  refine awp_block ?_
  refine awp_loop (σ := Nat × List Cnd × Nat) (fun x => ⟨[(4, dSs ps), (5, .own 5 x.2.2), (6, dI x.1)], [(5, x.2.2, .row 304 2 (x.2.1.map cRC))]⟩) (fun x => x.1 ≤ ps.length ∧ x.2.1.length = x.1 ∧ cndsV (ps.take x.1) = some x.2.1) (fun x => ps.length - x.1) (0, [], g5) ?_ ?_ ?_
  ·(refine cov_of ?_ ?_ <;> simp[go_sem])
  ·exact ⟨by omega, rfl, rfl⟩
  rintro ⟨i, out, g⟩ ⟨hi, ho, hs⟩
  simp only at hi ho hs
  refine awp_seq_k fun K4 hK4 => ?_
  (refine awp_sr fun Y Yh=>?_;simp[go_sem];((repeat' (first|(refine ag_x ?_;simp[go_sem])|intro _|apply And.intro|(apply Yh;clear Yh Y)));all_goals first|apply Hold.mk|omega|assumption|skip))
  (refine awp_if fun T F hT hF=>?_;simp[go_sem];refine BR.intro (fun h5=>hT ?_) (fun h5=>hF ?_);all_goals clear hT hF T F;try simp at h5) 
  ·refine awp_skip ?_
   refine hK4 _ ?_; clear hK4
   have hi' : i < ps.length := by omega
   obtain ⟨p, hp⟩ : ∃ p, ps[i]? = some p := ⟨_, List.getElem?_eq_getElem hi'⟩
   have hpm : p ∈ ps := List.mem_of_getElem? hp
   have hpl := hdp p hpm
   have R1 := cut_spec p [32] (by omega)
   have hbad := cndsV_bad hpm
   have hsn := fun (x : Cnd) (h : cndV p = some x) => cndsV_snoc hs h
   obtain ⟨o, v, is, hcut⟩ : ∃ o v is, Lib.cut p [32] = (o, v, is) := ⟨_, _, _, rfl⟩
   rw [hcut] at R1
   simp only at R1
   have hcc := cut_cnd hcut
   have hcl := cut_len hcut
   have hms := fun (h : is = false) => cut_miss (p := p) (o := o) (v := v) (by rw [← h]; exact hcut)
   have R2 := rValid_spec v (by omega)
   have hrk := @readV_ok v
   refine awp_seq_k fun K6 hK6 => ?_
   refine awp_block ?_
   (refine awp_sr fun Y Yh=>?_;simp[go_sem, hp];((repeat' (first|(refine ag_x ?_;simp[go_sem, hp])|intro _|apply And.intro|(apply Yh;clear Yh Y)));all_goals first|apply Hold.mk|omega|assumption|skip))
   ((try refine CallT.toA ?_);refine callT_m (.inl ⟨rfl,rfl⟩) (by simp[go_sem]) ?_;intro args ha;simp[go_sem] at ha;subst ha;refine ⟨_, R1, ?_⟩;rintro _ rfl;simp[go_sem];((repeat' (first|(refine ag_x ?_;simp[go_sem])|intro _|apply And.intro|(apply Yh;clear Yh Y)));all_goals first|apply Hold.mk|omega|assumption|skip))
   refine awp_seq_k fun K7 hK7 => ?_
   (refine awp_sr fun Y Yh=>?_;simp[go_sem];((repeat' (first|(refine ag_x ?_;simp[go_sem])|intro _|apply And.intro|(apply Yh;clear Yh Y)));all_goals first|apply Hold.mk|omega|assumption|skip))
   refine awp_block ?_
   refine awp_seq_k fun K8 hK8 => ?_
   have tl8 : ∀ S', Cov S' ⟨[(4, dSs ps), (5, .own 5 g), (6, dI i), (7, dS o), (8, dS v), (30, dB (decide (o ∈ opsV)))], [(5, g, .row 304 2 (out.map cRC))]⟩ → K8 S' := fun S' hS => by
    refine hK8 _ ?_; clear hK8
    refine awp_cov hS ?_; clear hS
    (refine awp_if fun T F hT hF=>?_;simp[go_sem];refine BR.intro (fun h9=>hT ?_) (fun h9=>hF ?_);all_goals clear hT hF T F;try simp at h9) 
    ·refine awp_skip ?_
     refine hK7 _ ?_; clear hK7
     refine awp_seq_k fun K10 hK10 => ?_
     generalize hsv : readV v = sv at *
     (refine awp_sr fun Y Yh=>?_;simp[go_sem];((repeat' (first|(refine ag_x ?_;simp[go_sem])|intro _|apply And.intro|(apply Yh;clear Yh Y)));all_goals first|apply Hold.mk|omega|assumption|skip))
     ((try refine CallT.toA ?_);refine callT_m (.inl ⟨rfl,rfl⟩) (by simp[go_sem]) ?_;intro args ha;simp[go_sem] at ha;subst ha;refine ⟨_, R2, ?_⟩;rintro _ rfl;simp[go_sem];((repeat' (first|(refine ag_x ?_;simp[go_sem])|intro _|apply And.intro|(apply Yh;clear Yh Y)));all_goals first|apply Hold.mk|omega|assumption|skip))
     cases sv with
     | none =>
      (refine awp_if fun T F hT hF=>?_;simp[go_sem];refine hT ?_;clear hT hF T F)
      (refine awp_sr fun Y Yh=>?_;simp[go_sem];((repeat' (first|(refine ag_x ?_;simp[go_sem])|intro _|apply And.intro|(apply Yh;clear Yh Y)));all_goals first|apply Hold.mk|omega|assumption|skip))
      (refine awp_ret ?_;simp[go_sem, hbad (by rw [hcc]; simp)])
     | some l =>
      obtain ⟨hvo, hvt, hvl⟩ := hrk rfl
      have his : is = true := by
       cases is with
       | true => rfl
       | false =>
        have := (hms rfl).1
        subst this
        rw [readV_nil] at hsv
        cases hsv
      subst his
      simp only [h9, true_and, if_true, Option.map_some] at hcc
      (refine awp_if fun T F hT hF=>?_;simp[go_sem];refine hF ?_;clear hT hF T F)
      refine awp_skip ?_
      refine hK10 _ ?_; clear hK10
      (refine awp_r fun Y Yh=>?_;simp[go_sem];((repeat' (first|(refine ag_x ?_;simp[go_sem])|intro _|apply And.intro|(apply Yh;clear Yh Y)));all_goals first|apply Hold.mk|omega|assumption|skip))
      refine hK6 _ ?_; clear hK6
      (refine awp_r fun Y Yh=>?_;simp[go_sem];((repeat' (first|(refine ag_x ?_;simp[go_sem])|intro _|apply And.intro|(apply Yh;clear Yh Y)));all_goals first|apply Hold.mk|omega|assumption|skip))
      rename_i g28 g'
      have e : ps.take (i + 1) = ps.take i ++ [p] := by rw [List.take_add_one, hp]; rfl
      refine ⟨(i + 1, out ++ [(o, l)], g'), ?_, ⟨by simp only; omega, by simp [ho], ?_⟩, by simp only; omega⟩
      ·(refine cov_of ?_ ?_ <;> simp[go_sem, hvt])
      ·simp only [e]
       exact hsn _ hcc
    ·(refine awp_sr fun Y Yh=>?_;simp[go_sem];((repeat' (first|(refine ag_x ?_;simp[go_sem])|intro _|apply And.intro|(apply Yh;clear Yh Y)));all_goals first|apply Hold.mk|omega|assumption|skip))
     (refine awp_ret ?_;simp[go_sem, hbad (by rw [hcc]; simp [h9])])
   clear hK8
   (refine awp_sr fun Y Yh=>?_;simp[go_sem];((repeat' (first|(refine ag_x ?_;simp[go_sem])|intro _|apply And.intro|(apply Yh;clear Yh Y)));all_goals first|apply Hold.mk|omega|assumption|skip))
   (refine awp_if fun T F hT hF=>?_;simp[go_sem];refine BR.intro (fun h12=>hT ?_) (fun h12=>hF ?_);all_goals clear hT hF T F;try simp at h12) 
   ·refine awp_skip ?_
    refine tl8 _ ?_
    (refine cov_of ?_ ?_ <;> simp[go_sem, h12, opsV])
   ·(refine awp_sr fun Y Yh=>?_;simp[go_sem];((repeat' (first|(refine ag_x ?_;simp[go_sem])|intro _|apply And.intro|(apply Yh;clear Yh Y)));all_goals first|apply Hold.mk|omega|assumption|skip))
    (refine awp_if fun T F hT hF=>?_;simp[go_sem];refine BR.intro (fun h13=>hT ?_) (fun h13=>hF ?_);all_goals clear hT hF T F;try simp at h13) 
    ·refine awp_skip ?_
     refine tl8 _ ?_
     (refine cov_of ?_ ?_ <;> simp[go_sem, h13, opsV])
    ·(refine awp_sr fun Y Yh=>?_;simp[go_sem];((repeat' (first|(refine ag_x ?_;simp[go_sem])|intro _|apply And.intro|(apply Yh;clear Yh Y)));all_goals first|apply Hold.mk|omega|assumption|skip))
     (refine awp_if fun T F hT hF=>?_;simp[go_sem];refine BR.intro (fun h14=>hT ?_) (fun h14=>hF ?_);all_goals clear hT hF T F;try simp at h14) 
     ·refine awp_skip ?_
      refine tl8 _ ?_
      (refine cov_of ?_ ?_ <;> simp[go_sem, h14, opsV])
     ·(refine awp_sr fun Y Yh=>?_;simp[go_sem];((repeat' (first|(refine ag_x ?_;simp[go_sem])|intro _|apply And.intro|(apply Yh;clear Yh Y)));all_goals first|apply Hold.mk|omega|assumption|skip))
      (refine awp_if fun T F hT hF=>?_;simp[go_sem];refine BR.intro (fun h15=>hT ?_) (fun h15=>hF ?_);all_goals clear hT hF T F;try simp at h15) 
      ·refine awp_skip ?_
       refine tl8 _ ?_
       (refine cov_of ?_ ?_ <;> simp[go_sem, h15, opsV])
      ·(refine awp_sr fun Y Yh=>?_;simp[go_sem];((repeat' (first|(refine ag_x ?_;simp[go_sem])|intro _|apply And.intro|(apply Yh;clear Yh Y)));all_goals first|apply Hold.mk|omega|assumption|skip))
       (refine awp_if fun T F hT hF=>?_;simp[go_sem];refine BR.intro (fun h16=>hT ?_) (fun h16=>hF ?_);all_goals clear hT hF T F;try simp at h16) 
       ·refine awp_skip ?_
        refine tl8 _ ?_
        (refine cov_of ?_ ?_ <;> simp[go_sem, h16, opsV])
       ·(refine awp_sr fun Y Yh=>?_;simp[go_sem];((repeat' (first|(refine ag_x ?_;simp[go_sem])|intro _|apply And.intro|(apply Yh;clear Yh Y)));all_goals first|apply Hold.mk|omega|assumption|skip))
        (refine awp_if fun T F hT hF=>?_;simp[go_sem];refine BR.intro (fun h17=>hT ?_) (fun h17=>hF ?_);all_goals clear hT hF T F;try simp at h17) 
        ·refine awp_skip ?_
         refine tl8 _ ?_
         (refine cov_of ?_ ?_ <;> simp[go_sem, h17, opsV])
        ·(refine awp_r fun Y Yh=>?_;simp[go_sem];((repeat' (first|(refine ag_x ?_;simp[go_sem])|intro _|apply And.intro|(apply Yh;clear Yh Y)));all_goals first|apply Hold.mk|omega|assumption|skip))
         refine tl8 _ ?_
         (refine cov_of ?_ ?_ <;> simp[go_sem, h12, h13, h14, h15, h16, h17, opsV])
         rw [Bool.eq_iff_iff]; simp
  ·refine awp_exit ?_
   simp only [go_sem]
   refine hK3 _ ?_; clear hK3
   have hie : i = ps.length := by omega
   subst hie
   rw [List.take_length] at hs
   (refine awp_sr fun Y Yh=>?_;simp[go_sem];((repeat' (first|(refine ag_x ?_;simp[go_sem])|intro _|apply And.intro|(apply Yh;clear Yh Y)));all_goals first|apply Hold.mk|omega|assumption|skip))
   (refine awp_ret ?_;simp[go_sem, hs])
   split
   ·rename_i hq
    simp; omega
   ·rename_i hq
    simp; omega
theorem rmet_spec (l : List Seg) (c : Cnd) (hc : COk c) (hl : l.length ≤ 1000) (wl : ∀ x ∈ l, wz x) : PCall Tryz.prog 286 [dGs l, dRC c] fun r => r = dB (metV l c) := by 
 refine pcall_of Tryz.func286 rfl rfl Tryz.ntmps286 (rs := [.tmp 4]) (tys := [4]) rfl rfl (by simp) ?_
 have hcl := hc.2.1.1
 have R1 := rread_spec (textV c.2) (by have := hc.2.2; omega)
 have er := readV_text hc.2.1 hc.2.2
 rw [readR_of er, er] at R1
 simp only [Option.isSome_some] at R1
 have C1 := rorder_spec l c.2 (by omega) (by omega) wl (wz_ok hc.2.1)
 have B1 := rbump_spec c.2 (by omega) (wordsV_pos hc.2.1) (VOk.num hc.2.1)
 have hbl : (bumpV c.2).length ≤ 1000 := by rw [bumpV_len]; have := bumpN_le c.2; have := wordsV_le c.2; omega
 have C2 := rorder_spec l (bumpV c.2) (by omega) (by omega) wl (fun x hx q => absurd (bumpV_mem hc.2.1 hx).1 q)
 unfold metV
 generalize cmpV l c.2 = n at *
 generalize cmpV l (bumpV c.2) = k at *
 generalize bumpV c.2 = bu at *
 (refine awp_sr fun Y Yh=>?_;simp[go_sem];((repeat' (first|(refine ag_x ?_;simp[go_sem])|intro _|apply And.intro|(apply Yh;clear Yh Y)));all_goals first|apply Hold.mk|omega|assumption|skip))
 (refine awp_sr fun Y Yh=>?_;simp[go_sem];((repeat' (first|(refine ag_x ?_;simp[go_sem])|intro _|apply And.intro|(apply Yh;clear Yh Y)));all_goals first|apply Hold.mk|omega|assumption|skip))
 ((try refine CallT.toA ?_);refine callT_m (.inl ⟨rfl,rfl⟩) (by simp[go_sem]) ?_;intro args ha;simp[go_sem] at ha;subst ha;refine ⟨_, R1, ?_⟩;rintro _ rfl;simp[go_sem];((repeat' (first|(refine ag_x ?_;simp[go_sem])|intro _|apply And.intro|(apply Yh;clear Yh Y)));all_goals first|apply Hold.mk|omega|assumption|skip))
 (refine awp_sr fun Y Yh=>?_;simp[go_sem];((repeat' (first|(refine ag_x ?_;simp[go_sem])|intro _|apply And.intro|(apply Yh;clear Yh Y)));all_goals first|apply Hold.mk|omega|assumption|skip))
 ((try refine CallT.toA ?_);refine callT_m (.inl ⟨rfl,rfl⟩) (by simp[go_sem]) ?_;intro args ha;simp[go_sem] at ha;subst ha;refine ⟨_, C1, ?_⟩;rintro _ rfl;simp[go_sem];((repeat' (first|(refine ag_x ?_;simp[go_sem])|intro _|apply And.intro|(apply Yh;clear Yh Y)));all_goals first|apply Hold.mk|omega|assumption|skip))
 refine awp_seq_k fun K1 hK1 => ?_
 (refine awp_sr fun Y Yh=>?_;simp[go_sem];((repeat' (first|(refine ag_x ?_;simp[go_sem])|intro _|apply And.intro|(apply Yh;clear Yh Y)));all_goals first|apply Hold.mk|omega|assumption|skip))
 refine awp_block ?_
 (refine awp_sr fun Y Yh=>?_;simp[go_sem];((repeat' (first|(refine ag_x ?_;simp[go_sem])|intro _|apply And.intro|(apply Yh;clear Yh Y)));all_goals first|apply Hold.mk|omega|assumption|skip))
 (refine awp_if fun T F hT hF=>?_;simp[go_sem];refine BR.intro (fun h2=>hT ?_) (fun h2=>hF ?_);all_goals clear hT hF T F;try simp at h2) 
 ·(refine awp_sr fun Y Yh=>?_;simp[go_sem];((repeat' (first|(refine ag_x ?_;simp[go_sem])|intro _|apply And.intro|(apply Yh;clear Yh Y)));all_goals first|apply Hold.mk|omega|assumption|skip))
  (refine awp_ret ?_;simp[go_sem, h2])
 ·(refine awp_sr fun Y Yh=>?_;simp[go_sem];((repeat' (first|(refine ag_x ?_;simp[go_sem])|intro _|apply And.intro|(apply Yh;clear Yh Y)));all_goals first|apply Hold.mk|omega|assumption|skip))
  (refine awp_if fun T F hT hF=>?_;simp[go_sem];refine BR.intro (fun h3=>hT ?_) (fun h3=>hF ?_);all_goals clear hT hF T F;try simp at h3) 
  ·(refine awp_sr fun Y Yh=>?_;simp[go_sem];((repeat' (first|(refine ag_x ?_;simp[go_sem])|intro _|apply And.intro|(apply Yh;clear Yh Y)));all_goals first|apply Hold.mk|omega|assumption|skip))
   (refine awp_ret ?_;simp[go_sem, h2, h3])
  ·(refine awp_sr fun Y Yh=>?_;simp[go_sem];((repeat' (first|(refine ag_x ?_;simp[go_sem])|intro _|apply And.intro|(apply Yh;clear Yh Y)));all_goals first|apply Hold.mk|omega|assumption|skip))
   (refine awp_if fun T F hT hF=>?_;simp[go_sem];refine BR.intro (fun h4=>hT ?_) (fun h4=>hF ?_);all_goals clear hT hF T F;try simp at h4) 
   ·(refine awp_sr fun Y Yh=>?_;simp[go_sem];((repeat' (first|(refine ag_x ?_;simp[go_sem])|intro _|apply And.intro|(apply Yh;clear Yh Y)));all_goals first|apply Hold.mk|omega|assumption|skip))
    (refine awp_ret ?_;simp[go_sem, h2, h3, h4])
   ·(refine awp_sr fun Y Yh=>?_;simp[go_sem];((repeat' (first|(refine ag_x ?_;simp[go_sem])|intro _|apply And.intro|(apply Yh;clear Yh Y)));all_goals first|apply Hold.mk|omega|assumption|skip))
    (refine awp_if fun T F hT hF=>?_;simp[go_sem];refine BR.intro (fun h5=>hT ?_) (fun h5=>hF ?_);all_goals clear hT hF T F;try simp at h5) 
    ·(refine awp_sr fun Y Yh=>?_;simp[go_sem];((repeat' (first|(refine ag_x ?_;simp[go_sem])|intro _|apply And.intro|(apply Yh;clear Yh Y)));all_goals first|apply Hold.mk|omega|assumption|skip))
     (refine awp_ret ?_;simp[go_sem, h2, h3, h4, h5])
    ·(refine awp_sr fun Y Yh=>?_;simp[go_sem];((repeat' (first|(refine ag_x ?_;simp[go_sem])|intro _|apply And.intro|(apply Yh;clear Yh Y)));all_goals first|apply Hold.mk|omega|assumption|skip))
     (refine awp_if fun T F hT hF=>?_;simp[go_sem];refine BR.intro (fun h6=>hT ?_) (fun h6=>hF ?_);all_goals clear hT hF T F;try simp at h6) 
     ·(refine awp_sr fun Y Yh=>?_;simp[go_sem];((repeat' (first|(refine ag_x ?_;simp[go_sem])|intro _|apply And.intro|(apply Yh;clear Yh Y)));all_goals first|apply Hold.mk|omega|assumption|skip))
      (refine awp_ret ?_;simp[go_sem, h2, h3, h4, h5, h6])
     ·(refine awp_sr fun Y Yh=>?_;simp[go_sem];((repeat' (first|(refine ag_x ?_;simp[go_sem])|intro _|apply And.intro|(apply Yh;clear Yh Y)));all_goals first|apply Hold.mk|omega|assumption|skip))
      (refine awp_if fun T F hT hF=>?_;simp[go_sem];refine BR.intro (fun h7=>hT ?_) (fun h7=>hF ?_);all_goals clear hT hF T F;try simp at h7) 
      ·(refine awp_sr fun Y Yh=>?_;simp[go_sem];((repeat' (first|(refine ag_x ?_;simp[go_sem])|intro _|apply And.intro|(apply Yh;clear Yh Y)));all_goals first|apply Hold.mk|omega|assumption|skip))
       (refine awp_ret ?_;simp[go_sem, h2, h3, h4, h5, h6, h7])
      ·refine awp_skip ?_
       refine hK1 _ ?_; clear hK1
       simp only [h2, h3, h4, h5, h6, h7, if_false]
       by_cases h8 : 0 ≤ n
       ·(refine awp_sr fun Y Yh=>?_;simp[go_sem, h8];((repeat' (first|(refine ag_x ?_;simp[go_sem, h8])|intro _|apply And.intro|(apply Yh;clear Yh Y)));all_goals first|apply Hold.mk|omega|assumption|skip))
        (refine agc_m (dGs bu) (.inl ⟨rfl,rfl⟩) (by simp[go_sem]) ?_ ?_;(intro hc args ha;simp[go_sem] at ha;subst ha;exact B1);simp[go_sem];((repeat' (first|(refine ag_x ?_;simp[go_sem])|intro _|apply And.intro|(apply Yh;clear Yh Y)));all_goals first|apply Hold.mk|omega|assumption|skip))
        (refine agc_f (dI k) (.inl ⟨rfl,rfl⟩) ?_ rfl ?_;(intro hc args ha;simp[go_sem] at ha;subst ha;exact C2);simp[go_sem];((repeat' (first|(refine ag_x ?_;simp[go_sem])|intro _|apply And.intro|(apply Yh;clear Yh Y)));all_goals first|apply Hold.mk|omega|assumption|skip))
        (refine awp_ret ?_;simp[go_sem, h8])
       ·(refine awp_sr fun Y Yh=>?_;simp[go_sem, h8];((repeat' (first|(refine ag_false (by simp[go_sem, undef, h8]) (by simp[go_sem]) ?_;simp[go_sem, h8])|intro _|apply And.intro|(apply Yh;clear Yh Y)));all_goals first|apply Hold.mk|omega|assumption|skip))
        (refine awp_ret ?_;simp[go_sem, h8])
def anyPre (cs : List Cnd) (i : Nat) : Bool := (cs.take i).any fun c => preV c.2
theorem anyPre_zero (cs : List Cnd) : anyPre cs 0 = false := rfl
theorem anyPre_all (cs : List Cnd) : anyPre cs cs.length = cs.any fun c => preV c.2 := by unfold anyPre; rw [List.take_length]
set_option maxHeartbeats 8000000 in
theorem rall_spec (l : List Seg) (cs : List Cnd) (hl : l.length ≤ 1000) (wl : ∀ x ∈ l, wz x) (hcs : cs.length ≤ 1000) (hc : ∀ c ∈ cs, COk c) : PCall Tryz.prog 252 [dGs l, dRCs cs] fun r => r = dB (meetsV l cs) := by 
 refine pcall_of Tryz.func252 rfl rfl Tryz.ntmps252 (rs := [.tmp 4]) (tys := [4]) rfl rfl (by simp) ?_
 have W := rwords_spec l (by omega)
 have e := words_eq l
 have M := fun c h => rmet_spec l c (hc c h) hl wl
 have RW := fun c h => rwords_spec (c : Cnd).2 (by have := (hc c h).2.1.1; omega)
 have RE := fun (c : Cnd) => wordsV_lt c.2
 have RR := fun c h => rread_spec (textV (c : Cnd).2) (by have := (hc c h).2.2; omega)
 have ER := fun c h => readV_text (hc c h).2.1 (hc c h).2.2
 have EP := fun c h => readR_of (ER c h)
 have hbad : ∀ c ∈ cs, metV l c = false → meetsV l cs = false := by
  intro c h hm
  unfold meetsV
  have : cs.all (metV l) = false := by
   rw [List.all_eq_false]; exact ⟨c, h, by simp [hm]⟩
  rw [this]; rfl
 have hok : cs.all (metV l) = true → meetsV l cs = (!preV l || cs.any fun c => preV c.2) := by
  intro h; unfold meetsV; rw [h]; rfl
 have hall : ∀ i c, cs[i]? = some c → (cs.take i).all (metV l) = true → metV l c = true → (cs.take (i + 1)).all (metV l) = true := by
  intro i c h h1 h2
  rw [List.take_add_one, h, List.all_append, h1]; simpa using h2
 have hany : ∀ i c, cs[i]? = some c → anyPre cs (i + 1) = (anyPre cs i || preV c.2) := fun i c h => any_take h
 generalize meetsV l cs = res at *
 generalize preV l = pr at *
 generalize wordsV l = wl at *
 (refine awp_sr fun Y Yh=>?_;simp[go_sem];((repeat' (first|(refine ag_x ?_;simp[go_sem])|intro _|apply And.intro|(apply Yh;clear Yh Y)));all_goals first|apply Hold.mk|omega|assumption|skip))
 (refine awp_sr fun Y Yh=>?_;simp[go_sem];((repeat' (first|(refine ag_x ?_;simp[go_sem])|intro _|apply And.intro|(apply Yh;clear Yh Y)));all_goals first|apply Hold.mk|omega|assumption|skip))
 ((try refine CallT.toA ?_);refine callT_m (.inl ⟨rfl,rfl⟩) (by simp[go_sem]) ?_;intro args ha;simp[go_sem] at ha;subst ha;refine ⟨_, W, ?_⟩;rintro _ rfl;simp[go_sem];((repeat' (first|(refine ag_x ?_;simp[go_sem])|intro _|apply And.intro|(apply Yh;clear Yh Y)));all_goals first|apply Hold.mk|omega|assumption|skip))
 refine awp_seq_k fun K1 hK1 => ?_
 (refine awp_sr fun Y Yh=>?_;simp[go_sem];((repeat' (first|(refine ag_x ?_;simp[go_sem])|intro _|apply And.intro|(apply Yh;clear Yh Y)));all_goals first|apply Hold.mk|omega|assumption|skip))
 refine awp_block ?_
 refine awp_loop (σ := Nat) (fun i => ⟨[(0, dGs l), (1, dRCs cs), (5, dB (!pr || anyPre cs i)), (6, dI i)], []⟩) (fun i => i ≤ cs.length ∧ (cs.take i).all (metV l) = true) (fun i => cs.length - i) 0 ?_ ?_ ?_
 ·(refine cov_of ?_ ?_ <;> simp[go_sem, e, anyPre_zero])
 ·exact ⟨by omega, by simp⟩
 rintro i ⟨hi, ha⟩
 refine awp_seq_k fun K2 hK2 => ?_
 (refine awp_sr fun Y Yh=>?_;simp[go_sem];((repeat' (first|(refine ag_x ?_;simp[go_sem])|intro _|apply And.intro|(apply Yh;clear Yh Y)));all_goals first|apply Hold.mk|omega|assumption|skip))
 (refine awp_if fun T F hT hF=>?_;simp[go_sem];refine BR.intro (fun h3=>hT ?_) (fun h3=>hF ?_);all_goals clear hT hF T F;try simp at h3) 
 ·refine awp_skip ?_
  refine hK2 _ ?_; clear hK2
  obtain ⟨c, hx⟩ : ∃ c, cs[i]? = some c := ⟨_, List.getElem?_eq_getElem (by omega)⟩
  have hm := List.mem_of_getElem? hx
  have M1 := M c hm
  have hb := hbad c hm
  have ha2 := hall i c hx ha
  have W2 := RW c hm
  have E2 := RE c
  have R2 := RR c hm
  rw [ER c hm, EP c hm] at R2
  simp only [Option.isSome_some] at R2
  have A2 := hany i c hx
  have hE3 : decide ((wordsV c.2 : Int) < (c.2.length : Int)) = preV c.2 := by rw [← E2]; congr 1; apply propext; omega
  generalize hmv : metV l c = mc at *
  generalize hq : anyPre cs i = q at *
  generalize hpc : preV c.2 = pc at *
  generalize wordsV c.2 = wc at *
  refine awp_seq_k fun K4 hK4 => ?_
  refine awp_block ?_
  (refine awp_sr fun Y Yh=>?_;simp[go_sem, hx];((repeat' (first|(refine ag_x ?_;simp[go_sem, hx])|intro _|apply And.intro|(apply Yh;clear Yh Y)));all_goals first|apply Hold.mk|omega|assumption|skip))
  ((try refine CallT.toA ?_);refine callT_m (.inl ⟨rfl,rfl⟩) (by simp[go_sem]) ?_;intro args ha;simp[go_sem] at ha;subst ha;refine ⟨_, R2, ?_⟩;rintro _ rfl;simp[go_sem];((repeat' (first|(refine ag_x ?_;simp[go_sem])|intro _|apply And.intro|(apply Yh;clear Yh Y)));all_goals first|apply Hold.mk|omega|assumption|skip))
  cases hm2 : (!pr || q) with
  | true =>
   have hm3 : (!pr || (q || pc)) = true := by rw [← Bool.or_assoc, hm2]; rfl
   (refine awp_sr fun Y Yh=>?_;simp[go_sem, hm2];((repeat' (first|(refine ag_false (by simp[go_sem, undef, hm2]) (by simp[go_sem]) ?_;simp[go_sem, hm2])|intro _|apply And.intro|(apply Yh;clear Yh Y)));all_goals first|apply Hold.mk|omega|assumption|skip))
   (refine awp_sr fun Y Yh=>?_;simp[go_sem, hx];((repeat' (first|(refine ag_x ?_;simp[go_sem, hx])|intro _|apply And.intro|(apply Yh;clear Yh Y)));all_goals first|apply Hold.mk|omega|assumption|skip))
   ((try refine CallT.toA ?_);refine callT_m (.inl ⟨rfl,rfl⟩) (by simp[go_sem]) ?_;intro args ha;simp[go_sem] at ha;subst ha;refine ⟨_, M1, ?_⟩;rintro _ rfl;simp[go_sem];((repeat' (first|(refine ag_x ?_;simp[go_sem])|intro _|apply And.intro|(apply Yh;clear Yh Y)));all_goals first|apply Hold.mk|omega|assumption|skip))
   (refine awp_if fun T F hT hF=>?_;simp[go_sem];refine BR.intro (fun h5=>hT ?_) (fun h5=>hF ?_);all_goals clear hT hF T F;try simp at h5)
   ·(refine awp_sr fun Y Yh=>?_;simp[go_sem];((repeat' (first|(refine ag_x ?_;simp[go_sem])|intro _|apply And.intro|(apply Yh;clear Yh Y)));all_goals first|apply Hold.mk|omega|assumption|skip))
    (refine awp_ret ?_;simp[go_sem, hb h5])
   ·refine awp_skip ?_
    refine hK4 _ ?_; clear hK4
    (refine awp_r fun Y Yh=>?_;simp[go_sem];((repeat' (first|(refine ag_x ?_;simp[go_sem])|intro _|apply And.intro|(apply Yh;clear Yh Y)));all_goals first|apply Hold.mk|omega|assumption|skip))
    refine ⟨i + 1, ?_, ⟨by omega, ha2 h5⟩, by omega⟩
    rw [A2, hm3]
    (refine cov_of ?_ ?_ <;> simp[go_sem])
  | false =>
   have hm3 : (!pr || (q || pc)) = pc := by rw [← Bool.or_assoc, hm2]; rfl
   (refine awp_sr fun Y Yh=>?_;simp[go_sem, hm2];((repeat' (first|(refine ag_x ?_;simp[go_sem, hm2])|intro _|apply And.intro|(apply Yh;clear Yh Y)));all_goals first|apply Hold.mk|omega|assumption|skip))
   (refine agc_f (dI wc) (.inl ⟨rfl,rfl⟩) ?_ rfl ?_;(intro hc args ha;simp[go_sem] at ha;subst ha;exact W2);simp[go_sem];((repeat' (first|(refine ag_x ?_;simp[go_sem])|intro _|apply And.intro|(apply Yh;clear Yh Y)));all_goals first|apply Hold.mk|omega|assumption|skip))
   (refine awp_sr fun Y Yh=>?_;simp[go_sem, hx];((repeat' (first|(refine ag_x ?_;simp[go_sem, hx])|intro _|apply And.intro|(apply Yh;clear Yh Y)));all_goals first|apply Hold.mk|omega|assumption|skip))
   ((try refine CallT.toA ?_);refine callT_m (.inl ⟨rfl,rfl⟩) (by simp[go_sem]) ?_;intro args ha;simp[go_sem] at ha;subst ha;refine ⟨_, M1, ?_⟩;rintro _ rfl;simp[go_sem];((repeat' (first|(refine ag_x ?_;simp[go_sem])|intro _|apply And.intro|(apply Yh;clear Yh Y)));all_goals first|apply Hold.mk|omega|assumption|skip))
   (refine awp_if fun T F hT hF=>?_;simp[go_sem];refine BR.intro (fun h5=>hT ?_) (fun h5=>hF ?_);all_goals clear hT hF T F;try simp at h5)
   ·(refine awp_sr fun Y Yh=>?_;simp[go_sem];((repeat' (first|(refine ag_x ?_;simp[go_sem])|intro _|apply And.intro|(apply Yh;clear Yh Y)));all_goals first|apply Hold.mk|omega|assumption|skip))
    (refine awp_ret ?_;simp[go_sem, hb h5])
   ·refine awp_skip ?_
    refine hK4 _ ?_; clear hK4
    (refine awp_r fun Y Yh=>?_;simp[go_sem];((repeat' (first|(refine ag_x ?_;simp[go_sem])|intro _|apply And.intro|(apply Yh;clear Yh Y)));all_goals first|apply Hold.mk|omega|assumption|skip))
    refine ⟨i + 1, ?_, ⟨by omega, ha2 h5⟩, by omega⟩
    rw [A2, hm3]
    (refine cov_of ?_ ?_ <;> simp[go_sem, E2])
 ·refine awp_exit ?_
  simp only [go_sem]
  refine hK1 _ ?_; clear hK1
  have : i = cs.length := by omega
  subst this
  rw [List.take_length] at ha
  rw [hok ha, ← anyPre_all]
  (refine awp_sr fun Y Yh=>?_;simp[go_sem];((repeat' (first|(refine ag_x ?_;simp[go_sem])|intro _|apply And.intro|(apply Yh;clear Yh Y)));all_goals first|apply Hold.mk|omega|assumption|skip))
  (refine awp_ret ?_;simp[go_sem])
theorem rCompare_spec (v w : List UInt8) (hv : v.length ≤ 1000000) (hw : w.length ≤ 1000000) : PCall Tryz.prog 55 [dS v, dS w] fun r => r = .tup [dI (compareP v w), dI (codeP ((readV v).isSome && (readV w).isSome))] := by 
 refine pcall_of Tryz.func55 rfl rfl Tryz.ntmps55 (rs := [.tmp 4, .tmp 5]) (tys := [3, 35]) rfl rfl (by simp) ?_
 have R1 := rread_spec v (by omega)
 have R2 := rread_spec w (by omega)
 have h1 := @read_ok v
 have h2 := @read_ok w
 unfold compareP codeP
 unfold readR at R1 R2
 generalize readP v = a at *
 generalize readP w = b at *
 have C := fun (p : (readV v).isSome = true) (q : (readV w).isSome = true) => rorder_spec a b (by have := (h1 p).2.1.1; omega) (by have := (h2 q).2.1.1; omega) (wz_ok (h1 p).2.1) (wz_ok (h2 q).2.1)
 generalize (readV v).isSome = x at *
 generalize (readV w).isSome = y at *
 (refine awp_sr fun Y Yh=>?_;simp[go_sem];((repeat' (first|(refine ag_x ?_;simp[go_sem])|intro _|apply And.intro|(apply Yh;clear Yh Y)));all_goals first|apply Hold.mk|omega|assumption|skip))
 (refine awp_sr fun Y Yh=>?_;simp[go_sem];((repeat' (first|(refine ag_x ?_;simp[go_sem])|intro _|apply And.intro|(apply Yh;clear Yh Y)));all_goals first|apply Hold.mk|omega|assumption|skip))
 ((try refine CallT.toA ?_);refine callT_m (.inl ⟨rfl,rfl⟩) (by simp[go_sem]) ?_;intro args ha;simp[go_sem] at ha;subst ha;refine ⟨_, R1, ?_⟩;rintro _ rfl;simp[go_sem];((repeat' (first|(refine ag_x ?_;simp[go_sem])|intro _|apply And.intro|(apply Yh;clear Yh Y)));all_goals first|apply Hold.mk|omega|assumption|skip))
 (refine awp_sr fun Y Yh=>?_;simp[go_sem];((repeat' (first|(refine ag_x ?_;simp[go_sem])|intro _|apply And.intro|(apply Yh;clear Yh Y)));all_goals first|apply Hold.mk|omega|assumption|skip))
 ((try refine CallT.toA ?_);refine callT_m (.inl ⟨rfl,rfl⟩) (by simp[go_sem]) ?_;intro args ha;simp[go_sem] at ha;subst ha;refine ⟨_, R2, ?_⟩;rintro _ rfl;simp[go_sem];((repeat' (first|(refine ag_x ?_;simp[go_sem])|intro _|apply And.intro|(apply Yh;clear Yh Y)));all_goals first|apply Hold.mk|omega|assumption|skip))
 refine awp_seq_k fun K1 hK1 => ?_
 cases x with
 | false =>
  (refine awp_sr fun Y Yh=>?_;simp[go_sem];((repeat' (first|(refine ag_false (by simp[go_sem, undef]) (by simp[go_sem]) ?_;simp[go_sem])|intro _|apply And.intro|(apply Yh;clear Yh Y)));all_goals first|apply Hold.mk|omega|assumption|skip))
  (refine awp_if fun T F hT hF=>?_;simp[go_sem];refine hT ?_;clear hT hF T F)
  (refine awp_sr fun Y Yh=>?_;simp[go_sem];((repeat' (first|(refine ag_x ?_;simp[go_sem])|intro _|apply And.intro|(apply Yh;clear Yh Y)));all_goals first|apply Hold.mk|omega|assumption|skip))
  (refine awp_ret ?_;simp[go_sem])
 | true =>
  cases y with
  | false =>
   (refine awp_sr fun Y Yh=>?_;simp[go_sem];((repeat' (first|(refine ag_x ?_;simp[go_sem])|intro _|apply And.intro|(apply Yh;clear Yh Y)));all_goals first|apply Hold.mk|omega|assumption|skip))
   (refine awp_if fun T F hT hF=>?_;simp[go_sem];refine hT ?_;clear hT hF T F)
   (refine awp_sr fun Y Yh=>?_;simp[go_sem];((repeat' (first|(refine ag_x ?_;simp[go_sem])|intro _|apply And.intro|(apply Yh;clear Yh Y)));all_goals first|apply Hold.mk|omega|assumption|skip))
   (refine awp_ret ?_;simp[go_sem])
  | true =>
   simp only [if_true] at R1 R2
   (refine awp_sr fun Y Yh=>?_;simp[go_sem];((repeat' (first|(refine ag_x ?_;simp[go_sem])|intro _|apply And.intro|(apply Yh;clear Yh Y)));all_goals first|apply Hold.mk|omega|assumption|skip))
   (refine awp_if fun T F hT hF=>?_;simp[go_sem];refine hF ?_;clear hT hF T F)
   refine awp_skip ?_
   refine hK1 _ ?_; clear hK1
   (refine awp_sr fun Y Yh=>?_;simp[go_sem];((repeat' (first|(refine ag_x ?_;simp[go_sem])|intro _|apply And.intro|(apply Yh;clear Yh Y)));all_goals first|apply Hold.mk|omega|assumption|skip))
   ((try refine CallT.toA ?_);refine callT_m (.inl ⟨rfl,rfl⟩) (by simp[go_sem]) ?_;intro args ha;simp[go_sem] at ha;subst ha;refine ⟨_, (C rfl rfl), ?_⟩;rintro _ rfl;simp[go_sem];((repeat' (first|(refine ag_x ?_;simp[go_sem])|intro _|apply And.intro|(apply Yh;clear Yh Y)));all_goals first|apply Hold.mk|omega|assumption|skip))
   (refine awp_ret ?_;simp[go_sem])
theorem rMeets_spec (v w : List UInt8) (hv : v.length ≤ 1000000) (hw : w.length ≤ 1000000) : PCall Tryz.prog 216 [dS v, dS w] fun r => r = .tup [dB (meetsP v w), dI (codeP ((readV v).isSome && (condsV w).isSome))] := by 
 refine pcall_of Tryz.func216 rfl rfl Tryz.ntmps216 (rs := [.tmp 4, .tmp 5]) (tys := [4, 35]) rfl rfl (by simp) ?_
 have R1 := rread_spec v (by omega)
 have R2 := rconditions_spec w (by omega)
 have h1 := @read_ok v
 have h2 := @conds_ok w
 unfold meetsP codeP
 unfold readR at R1
 generalize readP v = a at *
 generalize condsP w = b at *
 have C := fun (p : (readV v).isSome = true) (q : (condsV w).isSome = true) => rall_spec a b (by have := (h1 p).2.1.1; omega) (wz_ok (h1 p).2.1) (by have := (h2 q).2.2; omega) (h2 q).2.1
 generalize (readV v).isSome = x at *
 generalize (condsV w).isSome = y at *
 (refine awp_sr fun Y Yh=>?_;simp[go_sem];((repeat' (first|(refine ag_x ?_;simp[go_sem])|intro _|apply And.intro|(apply Yh;clear Yh Y)));all_goals first|apply Hold.mk|omega|assumption|skip))
 (refine awp_sr fun Y Yh=>?_;simp[go_sem];((repeat' (first|(refine ag_x ?_;simp[go_sem])|intro _|apply And.intro|(apply Yh;clear Yh Y)));all_goals first|apply Hold.mk|omega|assumption|skip))
 ((try refine CallT.toA ?_);refine callT_m (.inl ⟨rfl,rfl⟩) (by simp[go_sem]) ?_;intro args ha;simp[go_sem] at ha;subst ha;refine ⟨_, R1, ?_⟩;rintro _ rfl;simp[go_sem];((repeat' (first|(refine ag_x ?_;simp[go_sem])|intro _|apply And.intro|(apply Yh;clear Yh Y)));all_goals first|apply Hold.mk|omega|assumption|skip))
 (refine awp_sr fun Y Yh=>?_;simp[go_sem];((repeat' (first|(refine ag_x ?_;simp[go_sem])|intro _|apply And.intro|(apply Yh;clear Yh Y)));all_goals first|apply Hold.mk|omega|assumption|skip))
 ((try refine CallT.toA ?_);refine callT_m (.inl ⟨rfl,rfl⟩) (by simp[go_sem]) ?_;intro args ha;simp[go_sem] at ha;subst ha;refine ⟨_, R2, ?_⟩;rintro _ rfl;simp[go_sem];((repeat' (first|(refine ag_x ?_;simp[go_sem])|intro _|apply And.intro|(apply Yh;clear Yh Y)));all_goals first|apply Hold.mk|omega|assumption|skip))
 refine awp_seq_k fun K1 hK1 => ?_
 cases x with
 | false =>
  (refine awp_sr fun Y Yh=>?_;simp[go_sem];((repeat' (first|(refine ag_false (by simp[go_sem, undef]) (by simp[go_sem]) ?_;simp[go_sem])|intro _|apply And.intro|(apply Yh;clear Yh Y)));all_goals first|apply Hold.mk|omega|assumption|skip))
  (refine awp_if fun T F hT hF=>?_;simp[go_sem];refine hT ?_;clear hT hF T F)
  (refine awp_sr fun Y Yh=>?_;simp[go_sem];((repeat' (first|(refine ag_x ?_;simp[go_sem])|intro _|apply And.intro|(apply Yh;clear Yh Y)));all_goals first|apply Hold.mk|omega|assumption|skip))
  (refine awp_ret ?_;simp[go_sem])
 | true =>
  cases y with
  | false =>
   (refine awp_sr fun Y Yh=>?_;simp[go_sem];((repeat' (first|(refine ag_x ?_;simp[go_sem])|intro _|apply And.intro|(apply Yh;clear Yh Y)));all_goals first|apply Hold.mk|omega|assumption|skip))
   (refine awp_if fun T F hT hF=>?_;simp[go_sem];refine hT ?_;clear hT hF T F)
   (refine awp_sr fun Y Yh=>?_;simp[go_sem];((repeat' (first|(refine ag_x ?_;simp[go_sem])|intro _|apply And.intro|(apply Yh;clear Yh Y)));all_goals first|apply Hold.mk|omega|assumption|skip))
   (refine awp_ret ?_;simp[go_sem])
  | true =>
   simp only [if_true] at R1
   (refine awp_sr fun Y Yh=>?_;simp[go_sem];((repeat' (first|(refine ag_x ?_;simp[go_sem])|intro _|apply And.intro|(apply Yh;clear Yh Y)));all_goals first|apply Hold.mk|omega|assumption|skip))
   (refine awp_if fun T F hT hF=>?_;simp[go_sem];refine hF ?_;clear hT hF T F)
   refine awp_skip ?_
   refine hK1 _ ?_; clear hK1
   (refine awp_sr fun Y Yh=>?_;simp[go_sem];((repeat' (first|(refine ag_x ?_;simp[go_sem])|intro _|apply And.intro|(apply Yh;clear Yh Y)));all_goals first|apply Hold.mk|omega|assumption|skip))
   ((try refine CallT.toA ?_);refine callT_m (.inl ⟨rfl,rfl⟩) (by simp[go_sem]) ?_;intro args ha;simp[go_sem] at ha;subst ha;refine ⟨_, (C rfl rfl), ?_⟩;rintro _ rfl;simp[go_sem];((repeat' (first|(refine ag_x ?_;simp[go_sem])|intro _|apply And.intro|(apply Yh;clear Yh Y)));all_goals first|apply Hold.mk|omega|assumption|skip))
   (refine awp_ret ?_;simp[go_sem])
theorem Check_spec (r : List UInt8) (hl : r.length ≤ 1000000) : PCall Tryz.prog 165 [dS r] fun y => y = dI (codeP (condsV r).isSome) := by 
 refine pcall_of Tryz.func165 rfl rfl Tryz.ntmps165 (rs := [.tmp 2]) (tys := [35]) rfl rfl (by simp) ?_
 have R1 := conditions_spec r (by omega)
 unfold codeP
 generalize (condsV r).isSome = x at *
 (refine awp_sr fun Y Yh=>?_;simp[go_sem];((repeat' (first|(refine ag_x ?_;simp[go_sem])|intro _|apply And.intro|(apply Yh;clear Yh Y)));all_goals first|apply Hold.mk|omega|assumption|skip))
 refine awp_seq_k fun K1 hK1 => ?_
 (refine awp_sr fun Y Yh=>?_;simp[go_sem];((repeat' (first|(refine ag_x ?_;simp[go_sem])|intro _|apply And.intro|(apply Yh;clear Yh Y)));all_goals first|apply Hold.mk|omega|assumption|skip))
 ((try refine CallT.toA ?_);refine callT_m (.inl ⟨rfl,rfl⟩) (by simp[go_sem]) ?_;intro args ha;simp[go_sem] at ha;subst ha;refine ⟨_, R1, ?_⟩;rintro _ rfl;simp[go_sem];((repeat' (first|(refine ag_x ?_;simp[go_sem])|intro _|apply And.intro|(apply Yh;clear Yh Y)));all_goals first|apply Hold.mk|omega|assumption|skip))
 (refine awp_sr fun Y Yh=>?_;simp[go_sem];((repeat' (first|(refine ag_x ?_;simp[go_sem])|intro _|apply And.intro|(apply Yh;clear Yh Y)));all_goals first|apply Hold.mk|omega|assumption|skip))
 (refine awp_if fun T F hT hF=>?_;simp[go_sem];refine BR.intro (fun h2=>hT ?_) (fun h2=>hF ?_);all_goals clear hT hF T F;try simp at h2) 
 ·(refine awp_sr fun Y Yh=>?_;simp[go_sem];((repeat' (first|(refine ag_x ?_;simp[go_sem])|intro _|apply And.intro|(apply Yh;clear Yh Y)));all_goals first|apply Hold.mk|omega|assumption|skip))
  (refine awp_ret ?_;simp[go_sem, h2])
 ·refine awp_skip ?_
  refine hK1 _ ?_; clear hK1
  (refine awp_sr fun Y Yh=>?_;simp[go_sem];((repeat' (first|(refine ag_x ?_;simp[go_sem])|intro _|apply And.intro|(apply Yh;clear Yh Y)));all_goals first|apply Hold.mk|omega|assumption|skip))
  (refine awp_ret ?_;simp[go_sem, h2])
theorem rCheck_spec (r : List UInt8) (hl : r.length ≤ 1000000) : PCall Tryz.prog 146 [dS r] fun y => y = dI (codeP (condsV r).isSome) := by 
 refine pcall_of Tryz.func146 rfl rfl Tryz.ntmps146 (rs := [.tmp 2]) (tys := [35]) rfl rfl (by simp) ?_
 have R1 := rconditions_spec r (by omega)
 unfold codeP
 generalize (condsV r).isSome = x at *
 (refine awp_sr fun Y Yh=>?_;simp[go_sem];((repeat' (first|(refine ag_x ?_;simp[go_sem])|intro _|apply And.intro|(apply Yh;clear Yh Y)));all_goals first|apply Hold.mk|omega|assumption|skip))
 refine awp_seq_k fun K1 hK1 => ?_
 (refine awp_sr fun Y Yh=>?_;simp[go_sem];((repeat' (first|(refine ag_x ?_;simp[go_sem])|intro _|apply And.intro|(apply Yh;clear Yh Y)));all_goals first|apply Hold.mk|omega|assumption|skip))
 ((try refine CallT.toA ?_);refine callT_m (.inl ⟨rfl,rfl⟩) (by simp[go_sem]) ?_;intro args ha;simp[go_sem] at ha;subst ha;refine ⟨_, R1, ?_⟩;rintro _ rfl;simp[go_sem];((repeat' (first|(refine ag_x ?_;simp[go_sem])|intro _|apply And.intro|(apply Yh;clear Yh Y)));all_goals first|apply Hold.mk|omega|assumption|skip))
 (refine awp_sr fun Y Yh=>?_;simp[go_sem];((repeat' (first|(refine ag_x ?_;simp[go_sem])|intro _|apply And.intro|(apply Yh;clear Yh Y)));all_goals first|apply Hold.mk|omega|assumption|skip))
 (refine awp_if fun T F hT hF=>?_;simp[go_sem];refine BR.intro (fun h2=>hT ?_) (fun h2=>hF ?_);all_goals clear hT hF T F;try simp at h2) 
 ·(refine awp_sr fun Y Yh=>?_;simp[go_sem];((repeat' (first|(refine ag_x ?_;simp[go_sem])|intro _|apply And.intro|(apply Yh;clear Yh Y)));all_goals first|apply Hold.mk|omega|assumption|skip))
  (refine awp_ret ?_;simp[go_sem, h2])
 ·refine awp_skip ?_
  refine hK1 _ ?_; clear hK1
  (refine awp_sr fun Y Yh=>?_;simp[go_sem];((repeat' (first|(refine ag_x ?_;simp[go_sem])|intro _|apply And.intro|(apply Yh;clear Yh Y)));all_goals first|apply Hold.mk|omega|assumption|skip))
  (refine awp_ret ?_;simp[go_sem, h2])
end Go.Proofs.YteekfnhhlcmcgaaGreatDoor
namespace Go.Ver
open Go.Lib Go.Wh
end Go.Ver
namespace Go.Ver
/-! what the code of stable sorting does with lists -/
variable {α : Type} {lt : α → α → Bool}
theorem two_at {P Q R : List α} {x y : α} {p q : Nat} (hp : p = P.length) (hq : q = P.length + 1 + Q.length) :
  (P ++ x :: (Q ++ y :: R))[p]? = some x ∧ (P ++ x :: (Q ++ y :: R))[q]? = some y := by
 subst hp hq
 refine ⟨by simp, ?_⟩
 rw [List.getElem?_append_right (by omega)]
 rw [show P.length + 1 + Q.length - P.length = Q.length + 1 by omega, List.getElem?_cons_succ]
 simp
theorem two_set {P Q R : List α} {x y : α} {p q : Nat} (hp : p = P.length) (hq : q = P.length + 1 + Q.length) :
  ((P ++ x :: (Q ++ y :: R)).set p y).set q x = P ++ y :: (Q ++ x :: R) := by
 subst hp hq
 rw [List.set_append_right _ _ (by omega), Nat.sub_self, List.set_cons_zero]
 rw [List.set_append_right _ _ (by omega), show P.length + 1 + Q.length - P.length = Q.length + 1 by omega, List.set_cons_succ]
 rw [List.set_append_right _ _ (by omega), Nat.sub_self, List.set_cons_zero]
theorem two_setR {P Q R : List α} {x y : α} {p q : Nat} (hp : p = P.length) (hq : q = P.length + 1 + Q.length) :
  ((P ++ x :: (Q ++ y :: R)).set q x).set p y = P ++ y :: (Q ++ x :: R) := by
 rw [List.set_comm _ _ (by omega)]
 exact two_set hp hq
theorem srt_app {A B : List α} (h : Srt lt (A ++ B)) : Srt lt A ∧ Srt lt B ∧ ∀ x ∈ A, ∀ y ∈ B, lt y x = false := by
 obtain ⟨h1, h2, h3⟩ := List.pairwise_append.1 h
 exact ⟨h1, h2, h3⟩
theorem srt_before (w : Weakly lt) {A : List α} {y z : α} (h : Srt lt (A ++ [y])) (hz : lt z y = false) : ∀ x ∈ A ++ [y], lt z x = false := by
 intro x hx
 rcases List.mem_append.1 hx with hx | hx
 ·exact w.neg x y z ((srt_app h).2.2 x hx y (by simp)) hz
 ·simp at hx; subst hx; exact hz
theorem sort_len : ∀ (l : List α), (sortL lt l).length = l.length
 | [] => rfl
 | x :: l => by
  show (mergeL lt [x] (sortL lt l)).length = _
  rw [merge_len, sort_len l]; simp; omega
where merge_len : ∀ {L R : List α}, (mergeL lt L R).length = L.length + R.length
 | [], R => by simp [merge_nil_l]
 | l :: L, [] => by simp [merge_nil_r]
 | l :: L, r :: R => by
  rw [merge_cons]
  split
  ·simp only [List.length_cons]; rw [merge_len]; simp only [List.length_cons]; omega
  ·simp only [List.length_cons]; rw [merge_len]; simp only [List.length_cons]; omega
termination_by L R => L.length + R.length
theorem merge_len (L R : List α) : (mergeL lt L R).length = L.length + R.length := sort_len.merge_len
theorem sort_mem {l : List α} {x : α} : x ∈ sortL lt l ↔ x ∈ l := by
 induction l with
 | nil => simp [sortL]
 | cons y l ih =>
  show x ∈ mergeL lt [y] (sortL lt l) ↔ _
  rw [merge_mem, ih]; simp
/-! blocks that are sorted each -/
variable {α : Type} {lt : α → α → Bool}
end Go.Ver
namespace Go.Ver
open Go.Lib Go.Wh
/-! lists of versions -/
def cV (x y : List UInt8) : Int := cmpV (readP x) (readP y)
/-! made versions in lists -/
end Go.Ver
namespace Go.Lk
open Go.Lib Go.Wh Go.Ver
/-! locks: names, needs, sums -/
abbrev Bs := List UInt8
abbrev Prs := Bs × Bs
def nmC (c : UInt8) : Bool := isL c || isD c || decide (c.toNat = 95) || decide (c.toNat = 45)
def nameV (s : Bs) : Bool := match s with
 | [] => false
 | c :: r => isL c && r.all nmC && decide (r.length < 20)
def nmAt (i : Nat) (c : UInt8) : Bool := isL c || (decide (i ≠ 0) && nmC c)
def nmTo (s : Bs) : Nat → Bool
 | 0 => true
 | n + 1 => nmTo s n && (match s[n]? with | some c => nmAt n c | none => true)
theorem nmTo_step {s : Bs} {n : Nat} {c : UInt8} (h : s[n]? = some c) : nmTo s (n + 1) = (nmTo s n && nmAt n c) := by
 simp only [nmTo, h]
theorem nmTo_all : ∀ (s : Bs) (c : UInt8) (n : Nat), nmTo (c :: s) (n + 1) = (isL c && (s.take n).all nmC)
 | s, c, 0 => by simp [nmTo, nmAt]
 | s, c, n + 1 => by
  rw [nmTo, nmTo_all s c n]
  simp only [List.getElem?_cons_succ]
  rw [List.take_add_one, List.all_append, Bool.and_assoc]
  congr 2
  cases h : s[n]? with
  | none => simp
  | some d => simp [nmAt, nmC]; cases isL d <;> simp
theorem nameV_nm (s : Bs) : nameV s = (nmTo s s.length && (decide (s ≠ []) && decide (s.length ≤ 20))) := by
 cases s with
 | nil => simp [nameV, nmTo]
 | cons c r =>
  rw [List.length_cons, nmTo_all, List.take_length]
  simp [nameV]
  congr 1
  cases h : decide (r.length < 20) <;> simp at h <;> simp <;> omega
theorem nmTo_bad {s : Bs} {n : Nat} (h : nmTo s n = false) : ∀ m, n ≤ m → nmTo s m = false
 | 0, hm => by
  have : n = 0 := by omega
  subst this; exact h
 | m + 1, hm => by
  by_cases e : n = m + 1
  ·subst e; exact h
  ·rw [nmTo, nmTo_bad h m (by omega)]; rfl
/-! needs in a list: each named and asked rightly, ascending -/
abbrev Lck := List Prs × List (List Prs) × List Prs
/-! the sum -/
def sumV (s : Bs) : Nat → Nat
 | 0 => 0
 | n + 1 => (sumV s n + (s.getD n 0).toNat * ((n + 1) % 1000003)) % 1000003
/-! a line: a name, and what stands in brackets behind it -/
def nmdV (s : Bs) : Option (Bs × Bs × Bool) :=
 let c := cut s [32, 40]
 if c.1 = [] ∨ c.1.all nmC = false then none
 else if c.2.2 = false then some (c.1, [], false)
 else
  let d := cut c.2.1 [41]
  if d.2.2 = true ∧ d.2.1 = [] ∧ d.1 ≠ [] then some (c.1, d.1, true) else none
structure PS where
 part : Nat
 picks : List Prs
 needs : List (List Prs)
 wish : List Prs
 sum : Bs
def pre4 : Bs := [32, 32, 32, 32]
def pre2 : Bs := [32, 32]
def preSum : Bs := [83, 85, 77, 32]
def entryV (p : PS) (s : Bs) : Option PS :=
 if pre4.isPrefixOf s = true then
  match nmdV (s.drop 4) with
  | some (n, i, _) => if p.part = 3 ∨ p.picks = [] then none
   else some { p with needs := p.needs.set (p.picks.length - 1) (p.needs.getD (p.picks.length - 1) [] ++ [(n, i)]) }
  | none => none
 else if pre2.isPrefixOf s = true then
  match nmdV (s.drop 2) with
  | some (n, i, b) => if p.part = 1 ∧ b = false then none
   else if p.part = 3 then some { p with wish := p.wish ++ [(n, i)] }
   else some { p with picks := p.picks ++ [(n, i)], needs := p.needs ++ [[]] }
  | none => none
 else none
def digV (d : Bs) : Bool := decide (d ≠ []) && d.all isD && (decide (d = [48]) || decide (d.head? ≠ some 48))
def gemsT : Bs := [71, 69, 77, 83]
def wishT : Bs := [87, 73, 83, 72]
def lineV (p : PS) (s : Bs) : Option PS :=
 match p.part with
 | 0 => if s = gemsT then some { p with part := 1 } else none
 | 1 => if s = [] then some { p with part := 2 } else entryV p s
 | 2 => if s = wishT then some { p with part := 3 } else none
 | 3 => if s = [] then some { p with part := 4 } else entryV p s
 | 4 => if preSum.isPrefixOf s = true ∧ digV (s.drop 4) = true then some { p with part := 5, sum := s.drop 4 } else none
 | _ => none
theorem cut_cases (s sep : Bs) : (∃ a r, cut s sep = (a, r, true) ∧ s = a ++ (sep ++ r)) ∨ (cut s sep = (s, [], false) ∧ ∀ j, j ≤ s.length → occAt s sep j = false) := by
 rcases index_spec s sep with ⟨h1, h2⟩ | ⟨i, h1, h2, h3, _⟩
 ·right
  refine ⟨?_, h2⟩
  unfold cut; rw [h1]; simp
 ·left
  refine ⟨s.take i, s.drop (i + sep.length), ?_, ?_⟩
  ·unfold cut; rw [h1, if_pos (by omega)]; simp
  ·unfold occAt at h3
   obtain ⟨t, ht⟩ := List.isPrefixOf_iff_prefix.1 h3
   have e : s.drop (i + sep.length) = t := by rw [← List.drop_drop, ← ht]; simp
   rw [e, ht, List.take_append_drop]
end Go.Lk
namespace Go.Proofs.YteekfnhhlcmcgaaGreatDoor
open Go.Eng Go.Wh Go.Ver Go.Lk
set_option maxRecDepth 20000
attribute [local irreducible] AG CallA CallT AWp PCall ACall AgC
@[go_sem] abbrev cB (b : UInt8) : List D := [.v (.int .u8 b.toNat)]
@[go_sem] abbrev cP (x : Prs) : List D := [dS x.1, dS x.2]
@[go_sem] abbrev dP (x : Prs) : D := .agg [dS x.1, dS x.2]
@[go_sem] abbrev dPs (l : List Prs) : D := .sl 2 (l.map cP)
@[go_sem] abbrev dNs (l : List (List Prs)) : D := .sl 1 (l.map fun n => [dPs n])
theorem isName_spec (s : List UInt8) (hl : s.length ≤ 1000000000) : PCall Tryz.prog 123 [dS s] fun r => r = dB (nameV s) := by 
 refine pcall_of Tryz.func123 rfl rfl Tryz.ntmps123 (rs := [.tmp 2]) (tys := [4]) rfl rfl (by simp) ?_
 have hst := fun n c => @nmTo_step s n c
 have hbad := fun n (h : nmTo s n = false) (hn : n ≤ s.length) => nmTo_bad h s.length hn
 have hz : nmTo s 0 = true := rfl
 rw [nameV_nm]
 (refine awp_sr fun Y Yh=>?_;simp[go_sem];((repeat' (first|(refine ag_x ?_;simp[go_sem])|intro _|apply And.intro|(apply Yh;clear Yh Y)));all_goals first|apply Hold.mk|omega|assumption|skip))
 refine awp_seq_k fun K1 hK1 => ?_
 (refine awp_sr fun Y Yh=>?_;simp[go_sem];((repeat' (first|(refine ag_x ?_;simp[go_sem])|intro _|apply And.intro|(apply Yh;clear Yh Y)));all_goals first|apply Hold.mk|omega|assumption|skip))
 refine awp_block ?_
 refine awp_loop (σ := Nat) (fun i => ⟨[(0, dS s), (7, .sl 1 (s.map cB)), (8, dI s.length), (9, dI i)], []⟩) (fun i => i ≤ s.length ∧ nmTo s i = true) (fun i => s.length - i) 0 ?_ ?_ ?_
 ·(refine cov_of ?_ ?_ <;> simp[go_sem])
 ·exact ⟨by omega, hz⟩
 rintro i ⟨hi, hn⟩
 (refine awp_sr fun Y Yh=>?_;simp[go_sem];((repeat' (first|(refine ag_x ?_;simp[go_sem])|intro _|apply And.intro|(apply Yh;clear Yh Y)));all_goals first|apply Hold.mk|omega|assumption|skip))
 refine awp_seq_k fun K2 hK2 => ?_
 (refine awp_if fun T F hT hF=>?_;simp[go_sem];refine BR.intro (fun h3=>hT ?_) (fun h3=>hF ?_);all_goals clear hT hF T F;try simp at h3)
 ·refine awp_skip ?_
  refine hK2 _ ?_; clear hK2
  obtain ⟨c, hx⟩ : ∃ c, s[i]? = some c := ⟨_, List.getElem?_eq_getElem (by omega)⟩
  have hst1 := hst i c hx
  rw [hn] at hst1
  refine awp_seq_k fun K4 hK4 => ?_
  refine awp_block ?_
  (refine awp_sr fun Y Yh=>?_;simp[go_sem, hx];((repeat' (first|(refine ag_x ?_;simp[go_sem, hx])|intro _|apply And.intro|(apply Yh;clear Yh Y)));all_goals first|apply Hold.mk|omega|assumption|skip))
  (refine awp_sr fun Y Yh=>?_;simp[go_sem];((repeat' (first|(refine ag_x ?_;simp[go_sem])|intro _|apply And.intro|(apply Yh;clear Yh Y)));all_goals first|apply Hold.mk|omega|assumption|skip))
  (refine awp_sr fun Y Yh=>?_;simp[go_sem];((repeat' (first|(refine ag_x ?_;simp[go_sem])|intro _|apply And.intro|(apply Yh;clear Yh Y)));all_goals first|apply Hold.mk|omega|assumption|skip))
  (refine awp_if fun T F hT hF=>?_;simp[go_sem];refine BR.intro (fun h5=>hT ?_) (fun h5=>hF ?_);all_goals clear hT hF T F;try simp at h5)
  ·have hna : nmAt i c = false := by
    simp [nmAt, nmC, isL, isD]
    omega
   rw [hna] at hst1
   (refine awp_sr fun Y Yh=>?_;simp[go_sem];((repeat' (first|(refine ag_x ?_;simp[go_sem])|intro _|apply And.intro|(apply Yh;clear Yh Y)));all_goals first|apply Hold.mk|omega|assumption|skip))
   (refine awp_ret ?_;simp[go_sem, hbad (i + 1) hst1 (by omega)])
  ·have hna : nmAt i c = true := by
    simp [nmAt, nmC, isL, isD]
    omega
   rw [hna] at hst1
   refine awp_skip ?_
   refine hK4 _ ?_; clear hK4
   (refine awp_r fun Y Yh=>?_;simp[go_sem];((repeat' (first|(refine ag_x ?_;simp[go_sem])|intro _|apply And.intro|(apply Yh;clear Yh Y)));all_goals first|apply Hold.mk|omega|assumption|skip))
   refine ⟨i + 1, ?_, ⟨by omega, hst1⟩, by omega⟩
   (refine cov_of ?_ ?_ <;> simp[go_sem])
 ·refine awp_exit ?_
  simp only [go_sem]
  refine hK1 _ ?_; clear hK1
  have : i = s.length := by omega
  subst this
  rw [hn]
  by_cases h : s = []
  ·(refine awp_sr fun Y Yh=>?_;simp[go_sem, h];((repeat' (first|(refine ag_false (by simp[go_sem, undef, h]) (by simp[go_sem]) ?_;simp[go_sem, h])|intro _|apply And.intro|(apply Yh;clear Yh Y)));all_goals first|apply Hold.mk|omega|assumption|skip))
   (refine awp_ret ?_;simp[go_sem, h])
  ·(refine awp_sr fun Y Yh=>?_;simp[go_sem, h];((repeat' (first|(refine ag_x ?_;simp[go_sem, h])|intro _|apply And.intro|(apply Yh;clear Yh Y)));all_goals first|apply Hold.mk|omega|assumption|skip))
   (refine awp_ret ?_;simp[go_sem])
   rw [Bool.eq_iff_iff]
   simp [h]
   omega
end Go.Proofs.YteekfnhhlcmcgaaGreatDoor
namespace Go.Proofs.YteekfnhhlcmcgaaGreatDoor
open Go.Eng Go.Wh Go.Ver Go.RowKit Go.Lk
set_option maxRecDepth 20000
attribute [local irreducible] AG CallA CallT AWp PCall ACall AgC
theorem scontains_spec (s p : List UInt8) (hl : s.length < 4294967281) : PCall Tryz.prog 164 [dS s, dS p] fun r => r = dB (Lib.contains s p) := by
 refine pcall_below ⟨_, Tryz.func164, rfl, rfl⟩ fun C w us hc hg hr => ?_
 have hg : glOk w := hg
 obtain rfl := repL_v (us := [.string ⟨s.toArray⟩, .string ⟨p.toArray⟩]) hr
 obtain ⟨m, hm⟩ := hg.2
 refine (Tryz.strings_Contains ⟨s.toArray⟩ ⟨p.toArray⟩ m w (by simpa [ByteArray.size] using hl) hm).mono ?_
 rintro e w' ⟨rfl, rfl⟩
 exact ⟨_, _, rfl, rfl, .v _, Below.refl _ _⟩
def nmL : List UInt8 := [97, 98, 99, 100, 101, 102, 103, 104, 105, 106, 107, 108, 109, 110, 111, 112, 113, 114, 115, 116, 117, 118, 119, 120, 121, 122, 48, 49, 50, 51, 52, 53, 54, 55, 56, 57, 95, 45]
theorem nmL_nm (c : UInt8) : nmL.contains c = nmC c := by
 have h := UInt8.toNat_lt c
 unfold nmC isL isD nmL
 refine Bool.eq_iff_iff.2 ?_
 simp only [List.contains_iff_mem, List.mem_cons, List.mem_nil_iff, or_false, Bool.and_eq_true, Bool.or_eq_true, decide_eq_true_eq, ← UInt8.toNat_inj]
 simp
 omega
theorem trim_nm (l : List UInt8) : (Lib.trimS l nmL = []) ↔ l.all nmC = true := by
 rw [trimS_nil]
 simp only [nmL_nm]
theorem contains_L (c : UInt8) : Lib.contains abcL [c] = isL c := by
 unfold Lib.contains
 rw [Lib.index_one, ← abcL_isL, Lib.contains_iff_indexByte]
theorem risName_spec (s : List UInt8) (hl : s.length ≤ 1000000000) : PCall Tryz.prog 121 [dS s] fun r => r = dB (nameV s) := by 
 refine pcall_of Tryz.func121 rfl rfl Tryz.ntmps121 (rs := [.tmp 2]) (tys := [4]) rfl rfl (by simp) ?_
 have T1 := trimS_spec s nmL (by omega) (by decide) (by decide)
 have ht := trim_nm s
 cases s with
 | nil =>
  (refine awp_sr fun Y Yh=>?_;simp[go_sem];((repeat' (first|(refine ag_x ?_;simp[go_sem])|intro _|apply And.intro|(apply Yh;clear Yh Y)));all_goals first|apply Hold.mk|omega|assumption|skip))
  (refine awp_sr fun Y Yh=>?_;simp[go_sem];((repeat' (first|(refine ag_false (by simp[go_sem, undef]) (by simp[go_sem]) ?_;simp[go_sem])|intro _|apply And.intro|(apply Yh;clear Yh Y)));all_goals first|apply Hold.mk|omega|assumption|skip))
  (refine awp_ret ?_;simp[go_sem, nameV])
 | cons c r =>
  have C1 := scontains_spec abcL [c] (by decide)
  rw [contains_L] at C1
  have e1 : ({ data := (c :: r).toArray } : ByteArray).extract 0 1 = { data := [c].toArray } := by apply ByteArray.ext; simp
  have h1 : (1 : Int) ≤ (r.length : Int) + 1 := by omega
  by_cases h2 : r.length < 20
  ·have h2' : ((r.length : Int) + 1 ≤ 20) := by omega
   generalize Lib.trimS (c :: r) nmL = a at *
   by_cases h3 : a = []
   ·subst h3
    have h4 := ht.1 rfl
    (refine awp_sr fun Y Yh=>?_;simp[go_sem];((repeat' (first|(refine ag_x ?_;simp[go_sem])|intro _|apply And.intro|(apply Yh;clear Yh Y)));all_goals first|apply Hold.mk|omega|assumption|skip))
    (refine awp_sr fun Y Yh=>?_;simp[go_sem, h1, h2'];((repeat' (first|(refine ag_x ?_;simp[go_sem, h1, h2'])|intro _|apply And.intro|(apply Yh;clear Yh Y)));all_goals first|apply Hold.mk|omega|assumption|skip))
    (refine agc_f (dS []) (.inl ⟨rfl,rfl⟩) ?_ rfl ?_;(intro hc args ha;simp[go_sem] at ha;subst ha;exact T1);simp[go_sem, h1, h2'];((repeat' (first|(refine ag_x ?_;simp[go_sem, h1, h2'])|intro _|apply And.intro|(apply Yh;clear Yh Y)));all_goals first|apply Hold.mk|omega|assumption|skip))
    (refine agc_f (dB (isL c)) (.inl ⟨rfl,rfl⟩) ?_ rfl ?_;(intro hc args ha;simp[go_sem] at ha;subst ha;exact (by rw [e1]; exact C1));simp[go_sem, h1, h2'];((repeat' (first|(refine ag_x ?_;simp[go_sem, h1, h2'])|intro _|apply And.intro|(apply Yh;clear Yh Y)));all_goals first|apply Hold.mk|omega|assumption|skip))
    (refine awp_ret ?_;simp[go_sem])
    simp only [List.all_cons, Bool.and_eq_true] at h4
    simp [nameV, h4.2, h2]
   ·have h4 : ¬ ((c :: r).all nmC = true) := fun q => h3 (ht.2 q)
    have h5 : nameV (c :: r) = false := by
     rw [← Bool.not_eq_true]
     intro q
     simp only [nameV, Bool.and_eq_true] at q
     exact h4 (by rw [List.all_cons, q.1.2]; simp [nmC, q.1.1])
    (refine awp_sr fun Y Yh=>?_;simp[go_sem];((repeat' (first|(refine ag_x ?_;simp[go_sem])|intro _|apply And.intro|(apply Yh;clear Yh Y)));all_goals first|apply Hold.mk|omega|assumption|skip))
    (refine awp_sr fun Y Yh=>?_;simp[go_sem, h1, h2'];((repeat' (first|(refine ag_x ?_;simp[go_sem, h1, h2'])|intro _|apply And.intro|(apply Yh;clear Yh Y)));all_goals first|apply Hold.mk|omega|assumption|skip))
    (refine agc_f (dS a) (.inl ⟨rfl,rfl⟩) ?_ rfl ?_;(intro hc args ha;simp[go_sem] at ha;subst ha;exact T1);simp[go_sem, h1, h2', h3];((repeat' (first|(refine ag_false ?_ ?_ ?_;(focus (simp[go_sem, undef, h1, h2', h3];done));(focus (simp[go_sem];done));simp[go_sem, h1, h2', h3])|(refine ag_x ?_;simp[go_sem, undef, h1, h2', h3])|intro _|apply And.intro|(apply Yh;clear Yh Y)));all_goals first|apply Hold.mk|omega|assumption|skip))
    (refine awp_ret ?_;simp[go_sem, h5])
  ·have h2' : ¬ ((r.length : Int) + 1 ≤ 20) := by omega
   have h5 : nameV (c :: r) = false := by simp [nameV, h2]
   (refine awp_sr fun Y Yh=>?_;simp[go_sem];((repeat' (first|(refine ag_x ?_;simp[go_sem])|intro _|apply And.intro|(apply Yh;clear Yh Y)));all_goals first|apply Hold.mk|omega|assumption|skip))
   (refine awp_sr fun Y Yh=>?_;simp[go_sem, h1, h2'];((repeat' (first|(refine ag_false ?_ ?_ ?_;(focus (simp[go_sem, undef, h1, h2'];done));(focus (simp[go_sem];done));simp[go_sem, h1, h2'])|(refine ag_x ?_;simp[go_sem, undef, h1, h2'])|intro _|apply And.intro|(apply Yh;clear Yh Y)));all_goals first|apply Hold.mk|omega|assumption|skip))
   (refine awp_ret ?_;simp[go_sem, h5])
theorem cut_len (s p : Bs) : (Lib.cut s p).1.length ≤ s.length ∧ (Lib.cut s p).2.1.length ≤ s.length := by
 rcases cut_cases s p with ⟨a, r, h, e⟩ | ⟨h, _⟩
 ·rw [h]
  have := congrArg List.length e
  simp only [List.length_append] at this
  simp only
  omega
 ·rw [h]; simp
end Go.Proofs.YteekfnhhlcmcgaaGreatDoor
namespace Go.Eng
set_option linter.unusedSectionVars false
variable {P : Program} [HasGlob P] {n : Nat} {S : St} {Q : Exit → St → Prop}
end Go.Eng
namespace Go.Proofs.YteekfnhhlcmcgaaGreatDoor
open Go.Eng Go.Wh Go.Ver Go.RowKit Go.Lk
set_option maxRecDepth 20000
attribute [local irreducible] AG CallA CallT AWp PCall ACall AgC
theorem take_eq_step {α : Type} {a b : List α} {i : Nat} {x y : α} (hx : a[i]? = some x) (hy : b[i]? = some y) (h : a.take i = b.take i) : a.take (i + 1) = b.take (i + 1) ↔ x = y := by
 rw [List.take_add_one, List.take_add_one, hx, hy, h]
 simp
theorem take_ne {α : Type} {a b : List α} {i : Nat} {x y : α} (hx : a[i]? = some x) (hy : b[i]? = some y) (h : ¬ x = y) : ¬ a = b := fun q => by
 subst q; rw [hx] at hy; exact h (Option.some.inj hy)
theorem take_all {α : Type} {a b : List α} (hl : a.length = b.length) (h : a.take a.length = b.take a.length) : a = b := by
 rw [List.take_length, hl, List.take_length] at h; exact h
end Go.Proofs.YteekfnhhlcmcgaaGreatDoor
namespace Go.Lk
open Go.Lib Go.Wh Go.Ver
/-! a whole text: its lines, where they begin, what reading all of them gives -/
def goL : PS → Nat → List Bs → Option PS × Nat
 | p, i, [] => (some p, i)
 | p, i, [l] => if l = [] then (some p, i) else (none, i + 1)
 | p, i, l :: m :: r => match lineV p l with
  | some q => goL q (i + 1) (m :: r)
  | none => (none, i + 1)
structure SzOk (p : PS) (k m : Nat) : Prop where
 nl : p.needs.length = p.picks.length
 pl : p.picks.length ≤ k
 wl : p.wish.length ≤ k
 rl : ∀ r ∈ p.needs, r.length ≤ k
 ps : ∀ x ∈ p.picks, x.1.length ≤ m ∧ x.2.length ≤ m
 ns : ∀ r ∈ p.needs, ∀ x ∈ r, x.1.length ≤ m ∧ x.2.length ≤ m
 ws : ∀ x ∈ p.wish, x.1.length ≤ m ∧ x.2.length ≤ m
theorem cut_len (s sep : Bs) : (cut s sep).1.length ≤ s.length ∧ (cut s sep).2.1.length ≤ s.length := by
 rcases cut_cases s sep with ⟨a, r, h1, h2⟩ | ⟨h1, _⟩
 ·rw [h1]
  have := congrArg List.length h2
  simp at this
  simp; omega
 ·rw [h1]; simp
/-! a lock's text -/
def wantL (ind : Bs) (n : Prs) : Bs := if n.2 = [] then ind ++ (n.1 ++ [10]) else ind ++ (n.1 ++ ([32, 40] ++ (n.2 ++ [41, 10])))
def pickL (p : Prs) : Bs := [32, 32] ++ (p.1 ++ ([32, 40] ++ (p.2 ++ [41, 10])))
def gemsH : Bs := [71, 69, 77, 83, 10]
def wishH : Bs := [10, 87, 73, 83, 72, 10]
def ndsT (ind : Bs) (l : List Prs) (k : Nat) : Bs := (l.take k).flatMap (wantL ind)
def pksT (L : Lck) : Nat → Bs
 | 0 => gemsH
 | i + 1 => pksT L i ++ (pickL (L.1.getD i ([], [])) ++ ndsT pre4 (L.2.1.getD i []) (L.2.1.getD i []).length)
def headT (L : Lck) : Bs := pksT L L.1.length ++ (wishH ++ (ndsT pre2 L.2.2 L.2.2.length ++ [10]))
def textV (L : Lck) : Bs := headT L ++ (preSum ++ (itoa (sumV (headT L) (headT L).length : Nat) ++ [10]))
/-! a lock's text is read as the lock -/
theorem readV_ne {v : Bs} (h : (readV v).isSome = true) : v ≠ [] := fun q => by
 subst q
 have : readV [] = none := by decide
 rw [this] at h; cases h
theorem name_nm {g : Bs} (h : nameV g = true) : g ≠ [] ∧ g.all nmC = true ∧ g.length ≤ 20 := by
 cases g with
 | nil => simp [nameV] at h
 | cons c r =>
  simp only [nameV, Bool.and_eq_true, decide_eq_true_eq] at h
  refine ⟨by simp, ?_, by simp; omega⟩
  simp only [List.all_cons, Bool.and_eq_true]
  refine ⟨?_, h.1.2⟩
  unfold nmC; simp [h.1.1]
def Reads (p : PS) (t : Bs) (q : PS) : Prop := ∀ i s, ∃ j, goL p i (dots 10 (t ++ s)) = goL q j (dots 10 s)
theorem Reads.nil (p : PS) : Reads p [] p := fun i s => ⟨i, rfl⟩
theorem Reads.trans {p q r : PS} {t u : Bs} (h : Reads p t q) (k : Reads q u r) : Reads p (t ++ u) r := fun i s => by
 obtain ⟨j, hj⟩ := h i (u ++ s)
 obtain ⟨m, hm⟩ := k j s
 exact ⟨m, by rw [List.append_assoc, hj, hm]⟩
theorem Reads.line {p q : PS} {l : Bs} (h : 10 ∉ l) (hq : lineV p l = some q) : Reads p (l ++ [10]) q := fun i s => by
 refine ⟨i + 1, ?_⟩
 rw [List.append_assoc, show ([10] : Bs) ++ s = 10 :: s from rfl, dots_app _ h]
 obtain ⟨m, r, hm⟩ : ∃ m r, dots 10 s = m :: r := by
  cases hd : dots 10 s with
  | nil => exact absurd hd (dots_ne 10 s)
  | cons m r => exact ⟨m, r, rfl⟩
 rw [hm]
 conv => lhs; unfold goL
 rw [hq]
/-! sources: gems, versions, needs -/
abbrev Vrs := Bs × List Prs
abbrev Gm := Bs × List Vrs
abbrev Src := List Gm
def upTo (f : Nat → Bool) : Nat → Bool
 | 0 => true
 | n + 1 => upTo f n && f n
theorem upTo_bad {f : Nat → Bool} {n : Nat} (h : upTo f n = false) : ∀ m, n ≤ m → upTo f m = false
 | 0, hm => by
  have : n = 0 := by omega
  subst this; exact h
 | m + 1, hm => by
  by_cases e : n = m + 1
  ·subst e; exact h
  ·rw [upTo, upTo_bad h m (by omega)]; rfl
theorem upTo_at {f : Nat → Bool} : ∀ {n i : Nat}, upTo f n = true → i < n → f i = true
 | 0, i, _, h => absurd h (by omega)
 | n + 1, i, h, hi => by
  rw [upTo, Bool.and_eq_true] at h
  by_cases e : i = n
  ·subst e; exact h.2
  ·exact upTo_at h.1 (by omega)
theorem upTo_of {f : Nat → Bool} : ∀ {n : Nat}, (∀ i, i < n → f i = true) → upTo f n = true
 | 0, _ => rfl
 | n + 1, h => by rw [upTo, upTo_of (fun i hi => h i (by omega)), h n (by omega)]; rfl
theorem upTo_step {f : Nat → Bool} {n : Nat} (h : upTo f n = true) : upTo f (n + 1) = f n := by rw [upTo, h]; rfl
def apartAt (l : List Prs) (x : Prs) (k : Nat) : Bool := match l[k]? with
 | some y => decide (y.1 ≠ x.1)
 | none => true
def nuAt (l : List Prs) (i : Nat) : Bool := match l[i]? with
 | some x => nameV x.1 && (condsV x.2).isSome && upTo (apartAt l x) i
 | none => true
def nuV (most : Nat) (l : List Prs) : Bool := decide (l.length ≤ most) && upTo (nuAt l) l.length
theorem apart_step {l : List Prs} {x y : Prs} {k : Nat} (h : l[k]? = some y) (ht : upTo (apartAt l x) k = true) : upTo (apartAt l x) (k + 1) = decide (y.1 ≠ x.1) := by
 rw [upTo_step ht]; unfold apartAt; rw [h]
theorem nu_step {l : List Prs} {x : Prs} {i : Nat} (h : l[i]? = some x) (ht : upTo (nuAt l) i = true) : upTo (nuAt l) (i + 1) = (nameV x.1 && (condsV x.2).isSome && upTo (apartAt l x) i) := by
 rw [upTo_step ht]; unfold nuAt; rw [h]
def rankAt (l : List Vrs) (x : Vrs) (k : Nat) : Bool := match l[k]? with
 | some y => decide (compareP y.1 x.1 ≠ 0)
 | none => true
def vuAt (l : List Vrs) (i : Nat) : Bool := match l[i]? with
 | some x => (readV x.1).isSome && nuV 6 x.2 && upTo (rankAt l x) i
 | none => true
def vuV (l : List Vrs) : Bool := decide (l.length ≤ 12) && upTo (vuAt l) l.length
theorem rank_step {l : List Vrs} {x y : Vrs} {k : Nat} (h : l[k]? = some y) (ht : upTo (rankAt l x) k = true) : upTo (rankAt l x) (k + 1) = decide (compareP y.1 x.1 ≠ 0) := by
 rw [upTo_step ht]; unfold rankAt; rw [h]
theorem vu_step {l : List Vrs} {x : Vrs} {i : Nat} (h : l[i]? = some x) (ht : upTo (vuAt l) i = true) : upTo (vuAt l) (i + 1) = ((readV x.1).isSome && nuV 6 x.2 && upTo (rankAt l x) i) := by
 rw [upTo_step ht]; unfold vuAt; rw [h]
def suAt (s : Src) (i : Nat) : Bool := match s[i]? with
 | some g => nameV g.1 && (decide (i = 0) || (match s[i - 1]? with | some y => Op.bytesLess y.1 g.1 | none => true)) && vuV g.2
 | none => true
def suV (s : Src) : Bool := decide (s.length ≤ 15) && upTo (suAt s) s.length
theorem su_step {s : Src} {g : Gm} {i : Nat} (h : s[i]? = some g) (ht : upTo (suAt s) i = true) : upTo (suAt s) (i + 1) = (nameV g.1 && (decide (i = 0) || (match s[i - 1]? with | some y => Op.bytesLess y.1 g.1 | none => true)) && vuV g.2) := by
 rw [upTo_step ht]; unfold suAt; rw [h]
def chkV (s : Src) (w : List Prs) : Bool := suV s && nuV 8 w
/-! sizes -/
def Sz1 (x : Prs) : Prop := x.1.length ≤ 1000000 ∧ x.2.length ≤ 1000000
def SzN (l : List Prs) : Prop := l.length ≤ 1000000 ∧ ∀ x ∈ l, Sz1 x
def SzV (v : Vrs) : Prop := v.1.length ≤ 1000000 ∧ SzN v.2
def SzG (g : Gm) : Prop := g.1.length ≤ 1000000 ∧ g.2.length ≤ 1000000 ∧ ∀ v ∈ g.2, SzV v
def SzS (s : Src) : Prop := s.length ≤ 1000000 ∧ ∀ g ∈ s, SzG g
end Go.Lk
namespace Go.Proofs.YteekfnhhlcmcgaaGreatDoor
open Go.Eng Go.Wh Go.Ver Go.RowKit Go.Lk
set_option maxRecDepth 20000
attribute [local irreducible] AG CallA CallT AWp PCall ACall AgC
@[go_sem] abbrev cVr (v : Vrs) : List D := [dS v.1, dPs v.2]
@[go_sem] abbrev dVr (v : Vrs) : D := .agg [dS v.1, dPs v.2]
@[go_sem] abbrev dVrs (l : List Vrs) : D := .sl 2 (l.map cVr)
@[go_sem] abbrev cGm (g : Gm) : List D := [dS g.1, dVrs g.2]
@[go_sem] abbrev dGms (s : Src) : D := .sl 2 (s.map cGm)
@[go_sem] abbrev dSrc (s : Src) : D := .agg [dGms s]
theorem codeP_b (b : Bool) : codeP b = if b = true then 0 else 4 := rfl
set_option maxHeartbeats 8000000 in
theorem nu_spec (l : List Prs) (most : Nat) (hl : SzN l) (hm : most ≤ 1000000) : PCall Tryz.prog 107 [dPs l, dI most] fun r => r = dB (nuV most l) := by 
 refine pcall_of Tryz.func107 rfl rfl Tryz.ntmps107 (rs := [.tmp 4]) (tys := [4]) rfl rfl (by simp) ?_
 obtain ⟨hl0, hl1⟩ := hl
 have hbad := fun n (h : upTo (nuAt l) n = false) (hn : n ≤ l.length) => upTo_bad h l.length hn
 have hst := fun i x => @nu_step l x i
 have hz : upTo (nuAt l) 0 = true := rfl
 unfold nuV
 generalize upTo (nuAt l) = nt at *
 (refine awp_sr fun Y Yh=>?_;simp[go_sem];((repeat' (first|(refine ag_x ?_;simp[go_sem])|intro _|apply And.intro|(apply Yh;clear Yh Y)));all_goals first|apply Hold.mk|omega|assumption|skip))
 refine awp_seq_k fun K1 hK1 => ?_
 (refine awp_sr fun Y Yh=>?_;simp[go_sem];((repeat' (first|(refine ag_x ?_;simp[go_sem])|intro _|apply And.intro|(apply Yh;clear Yh Y)));all_goals first|apply Hold.mk|omega|assumption|skip))
 (refine awp_if fun T F hT hF=>?_;simp[go_sem];refine BR.intro (fun h2=>hT ?_) (fun h2=>hF ?_);all_goals clear hT hF T F;try simp at h2) 
 ·have : ¬ l.length ≤ most := by omega
  (refine awp_sr fun Y Yh=>?_;simp[go_sem];((repeat' (first|(refine ag_x ?_;simp[go_sem])|intro _|apply And.intro|(apply Yh;clear Yh Y)));all_goals first|apply Hold.mk|omega|assumption|skip))
  (refine awp_ret ?_;simp[go_sem, this])
 ·have hle : l.length ≤ most := by omega
  refine awp_skip ?_
  refine hK1 _ ?_; clear hK1
  refine awp_seq_k fun K3 hK3 => ?_
  (refine awp_sr fun Y Yh=>?_;simp[go_sem];((repeat' (first|(refine ag_x ?_;simp[go_sem])|intro _|apply And.intro|(apply Yh;clear Yh Y)));all_goals first|apply Hold.mk|omega|assumption|skip))
  refine awp_block ?_
  refine awp_loop (σ := Nat) (fun i => ⟨[(0, dPs l), (1, dI most), (5, dI i)], []⟩) (fun i => i ≤ l.length ∧ nt i = true) (fun i => l.length - i) 0 ?_ ?_ ?_
  ·(refine cov_of ?_ ?_ <;> simp[go_sem])
  ·exact ⟨by omega, hz⟩
  rintro i ⟨hi, hn⟩
  refine awp_seq_k fun K4 hK4 => ?_
  (refine awp_sr fun Y Yh=>?_;simp[go_sem];((repeat' (first|(refine ag_x ?_;simp[go_sem])|intro _|apply And.intro|(apply Yh;clear Yh Y)));all_goals first|apply Hold.mk|omega|assumption|skip))
  (refine awp_if fun T F hT hF=>?_;simp[go_sem];refine BR.intro (fun h5=>hT ?_) (fun h5=>hF ?_);all_goals clear hT hF T F;try simp at h5) 
  ·refine awp_skip ?_
   refine hK4 _ ?_; clear hK4
   obtain ⟨x, hx⟩ : ∃ x, l[i]? = some x := ⟨_, List.getElem?_eq_getElem (by omega)⟩
   have hxl := hl1 x (List.mem_of_getElem? hx)
   obtain ⟨hx1, hx2⟩ := hxl
   have N1 := risName_spec x.1 (by omega)
   have C1 := rCheck_spec x.2 hx2
   rw [codeP_b] at C1
   have hst1 := hst i x hx hn
   have hbad1 := fun h => hbad (i + 1) h (by omega)
   have hap := fun k y => @apart_step l x y k
   have hap0 : upTo (apartAt l x) 0 = true := rfl
   have hapb := fun n (h : upTo (apartAt l x) n = false) (hn : n ≤ i) => upTo_bad h i hn
   generalize upTo (apartAt l x) = ap at *
   generalize nameV x.1 = nb at *
   generalize (condsV x.2).isSome = cb at *
   refine awp_seq_k fun K6 hK6 => ?_
   refine awp_block ?_
   refine awp_seq_k fun K7 hK7 => ?_
   (refine awp_sr fun Y Yh=>?_;simp[go_sem, hx];((repeat' (first|(refine ag_x ?_;simp[go_sem, hx])|intro _|apply And.intro|(apply Yh;clear Yh Y)));all_goals first|apply Hold.mk|omega|assumption|skip))
   ((try refine CallT.toA ?_);refine callT_m (.inl ⟨rfl,rfl⟩) (by simp[go_sem]) ?_;intro args ha;simp[go_sem] at ha;subst ha;refine ⟨_, N1, ?_⟩;rintro _ rfl;simp[go_sem, hx];((repeat' (first|(refine ag_x ?_;simp[go_sem, hx])|intro _|apply And.intro|(apply Yh;clear Yh Y)));all_goals first|apply Hold.mk|omega|assumption|skip))
   (refine agc_f (dI (if cb = true then 0 else 4)) (.inl ⟨rfl,rfl⟩) ?_ rfl ?_;(intro hc args ha;simp[go_sem] at ha;subst ha;exact C1);simp[go_sem, hx];((repeat' (first|(refine ag_x ?_;simp[go_sem, hx])|intro _|apply And.intro|(apply Yh;clear Yh Y)));all_goals first|apply Hold.mk|omega|assumption|skip))
   cases nb with
   | false =>
    have hF := hbad1 (by rw [hst1]; simp)
    (refine awp_if fun T F hT hF=>?_;simp[go_sem];refine hT ?_;clear hT hF T F)
    (refine awp_sr fun Y Yh=>?_;simp[go_sem];((repeat' (first|(refine ag_x ?_;simp[go_sem])|intro _|apply And.intro|(apply Yh;clear Yh Y)));all_goals first|apply Hold.mk|omega|assumption|skip))
    (refine awp_ret ?_;simp[go_sem, hF])
   | true =>
    cases cb with
    | false =>
     have hF := hbad1 (by rw [hst1]; simp)
     (refine awp_if fun T F hT hF=>?_;simp[go_sem];refine hT ?_;clear hT hF T F)
     (refine awp_sr fun Y Yh=>?_;simp[go_sem];((repeat' (first|(refine ag_x ?_;simp[go_sem])|intro _|apply And.intro|(apply Yh;clear Yh Y)));all_goals first|apply Hold.mk|omega|assumption|skip))
     (refine awp_ret ?_;simp[go_sem, hF])
    | true =>
     (refine awp_if fun T F hT hF=>?_;simp[go_sem];refine hF ?_;clear hT hF T F)
     refine awp_skip ?_
     refine hK7 _ ?_; clear hK7
     simp only [Bool.true_and] at hst1
     (refine awp_sr fun Y Yh=>?_;simp[go_sem];((repeat' (first|(refine ag_x ?_;simp[go_sem])|intro _|apply And.intro|(apply Yh;clear Yh Y)));all_goals first|apply Hold.mk|omega|assumption|skip))
     refine awp_block ?_
     refine awp_loop (σ := Nat) (fun k => ⟨[(0, dPs l), (1, dI most), (5, dI i), (6, dI k)], []⟩) (fun k => k ≤ i ∧ ap k = true) (fun k => i - k) 0 ?_ ?_ ?_
     ·(refine cov_of ?_ ?_ <;> simp[go_sem])
     ·exact ⟨by omega, hap0⟩
     rintro k ⟨hk, ha⟩
     refine awp_seq_k fun K8 hK8 => ?_
     (refine awp_sr fun Y Yh=>?_;simp[go_sem];((repeat' (first|(refine ag_x ?_;simp[go_sem])|intro _|apply And.intro|(apply Yh;clear Yh Y)));all_goals first|apply Hold.mk|omega|assumption|skip))
     (refine awp_if fun T F hT hF=>?_;simp[go_sem];refine BR.intro (fun h9=>hT ?_) (fun h9=>hF ?_);all_goals clear hT hF T F;try simp at h9) 
     ·refine awp_skip ?_
      refine hK8 _ ?_; clear hK8
      obtain ⟨y, hy⟩ : ∃ y, l[k]? = some y := ⟨_, List.getElem?_eq_getElem (by omega)⟩
      have hap1 := hap k y hy ha
      refine awp_seq_k fun K10 hK10 => ?_
      refine awp_block ?_
      ((refine awp_dr (.qs [0, 1, 2, 3, 5, 6, 7, 8, 4, 9, 10] (.nil)) (by kernel_rfl) ?_ ?_ ?_ ?_);kernel_rfl;exact (by decide +kernel);kernel_rfl;intro Y Yh;((repeat' (first|(refine ag_x ?_;simp[go_sem, hx, hy])|refine adr_nil ?_|((first|refine adr_qs fun Y Yh=>?_|refine adr_y fun Y Yh=>?_);simp[go_sem, hx, hy])|intro _|apply And.intro|(apply Yh;clear Yh Y)));all_goals first|apply Hold.mk|omega|assumption|skip))
      (refine awp_if fun T F hT hF=>?_;simp[go_sem];refine BR.intro (fun h11=>hT ?_) (fun h11=>hF ?_);all_goals clear hT hF T F;try simp at h11) 
      ·have hF := hbad1 (by rw [hst1]; exact hapb (k + 1) (by rw [hap1]; simp [h11]) (by omega))
       (refine awp_sr fun Y Yh=>?_;simp[go_sem];((repeat' (first|(refine ag_x ?_;simp[go_sem])|intro _|apply And.intro|(apply Yh;clear Yh Y)));all_goals first|apply Hold.mk|omega|assumption|skip))
       (refine awp_ret ?_;simp[go_sem, hF])
      ·refine awp_skip ?_
       refine hK10 _ ?_; clear hK10
       (refine awp_r fun Y Yh=>?_;simp[go_sem];((repeat' (first|(refine ag_x ?_;simp[go_sem])|intro _|apply And.intro|(apply Yh;clear Yh Y)));all_goals first|apply Hold.mk|omega|assumption|skip))
       refine ⟨k + 1, ?_, ⟨by omega, by rw [hap1]; simp [h11]⟩, by omega⟩
       (refine cov_of ?_ ?_ <;> simp[go_sem])
     ·refine awp_exit ?_
      simp only [go_sem]
      have hki : k = i := by omega
      subst hki
      refine hK6 _ ?_; clear hK6
      (refine awp_r fun Y Yh=>?_;simp[go_sem];((repeat' (first|(refine ag_x ?_;simp[go_sem])|intro _|apply And.intro|(apply Yh;clear Yh Y)));all_goals first|apply Hold.mk|omega|assumption|skip))
      refine ⟨k + 1, ?_, ⟨by omega, by rw [hst1]; exact ha⟩, by omega⟩
      (refine cov_of ?_ ?_ <;> simp[go_sem])
  ·refine awp_exit ?_
   simp only [go_sem]
   refine hK3 _ ?_; clear hK3
   have : i = l.length := by omega
   subst this
   (refine awp_sr fun Y Yh=>?_;simp[go_sem];((repeat' (first|(refine ag_x ?_;simp[go_sem])|intro _|apply And.intro|(apply Yh;clear Yh Y)));all_goals first|apply Hold.mk|omega|assumption|skip))
   (refine awp_ret ?_;simp[go_sem, hle, hn])
set_option maxHeartbeats 8000000 in
theorem versions_spec (l : List Vrs) (hl : l.length ≤ 1000000) (hv : ∀ v ∈ l, SzV v) : PCall Tryz.prog 51 [dVrs l] fun r => r = dB (vuV l) := by 
 refine pcall_of Tryz.func51 rfl rfl Tryz.ntmps51 (rs := [.tmp 2]) (tys := [4]) rfl rfl (by simp) ?_
 have hbad := fun n (h : upTo (vuAt l) n = false) (hn : n ≤ l.length) => upTo_bad h l.length hn
 have hst := fun i x => @vu_step l x i
 have hz : upTo (vuAt l) 0 = true := rfl
 unfold vuV
 generalize upTo (vuAt l) = nt at *
 (refine awp_sr fun Y Yh=>?_;simp[go_sem];((repeat' (first|(refine ag_x ?_;simp[go_sem])|intro _|apply And.intro|(apply Yh;clear Yh Y)));all_goals first|apply Hold.mk|omega|assumption|skip))
 refine awp_seq_k fun K1 hK1 => ?_
 (refine awp_sr fun Y Yh=>?_;simp[go_sem];((repeat' (first|(refine ag_x ?_;simp[go_sem])|intro _|apply And.intro|(apply Yh;clear Yh Y)));all_goals first|apply Hold.mk|omega|assumption|skip))
 (refine awp_if fun T F hT hF=>?_;simp[go_sem];refine BR.intro (fun h2=>hT ?_) (fun h2=>hF ?_);all_goals clear hT hF T F;try simp at h2)
 ·have : ¬ l.length ≤ 12 := by omega
  (refine awp_sr fun Y Yh=>?_;simp[go_sem];((repeat' (first|(refine ag_x ?_;simp[go_sem])|intro _|apply And.intro|(apply Yh;clear Yh Y)));all_goals first|apply Hold.mk|omega|assumption|skip))
  (refine awp_ret ?_;simp[go_sem, this])
 ·have hle : l.length ≤ 12 := by omega
  refine awp_skip ?_
  refine hK1 _ ?_; clear hK1
  refine awp_seq_k fun K3 hK3 => ?_
  (refine awp_sr fun Y Yh=>?_;simp[go_sem];((repeat' (first|(refine ag_x ?_;simp[go_sem])|intro _|apply And.intro|(apply Yh;clear Yh Y)));all_goals first|apply Hold.mk|omega|assumption|skip))
  refine awp_block ?_
  refine awp_loop (σ := Nat) (fun i => ⟨[(0, dVrs l), (3, dI i)], []⟩) (fun i => i ≤ l.length ∧ nt i = true) (fun i => l.length - i) 0 ?_ ?_ ?_
  ·(refine cov_of ?_ ?_ <;> simp[go_sem])
  ·exact ⟨by omega, hz⟩
  rintro i ⟨hi, hn⟩
  refine awp_seq_k fun K4 hK4 => ?_
  (refine awp_sr fun Y Yh=>?_;simp[go_sem];((repeat' (first|(refine ag_x ?_;simp[go_sem])|intro _|apply And.intro|(apply Yh;clear Yh Y)));all_goals first|apply Hold.mk|omega|assumption|skip))
  (refine awp_if fun T F hT hF=>?_;simp[go_sem];refine BR.intro (fun h5=>hT ?_) (fun h5=>hF ?_);all_goals clear hT hF T F;try simp at h5)
  ·refine awp_skip ?_
   refine hK4 _ ?_; clear hK4
   obtain ⟨x, hx⟩ : ∃ x, l[i]? = some x := ⟨_, List.getElem?_eq_getElem (by omega)⟩
   obtain ⟨hx1, hx2⟩ := hv x (List.mem_of_getElem? hx)
   have N1 := rValid_spec x.1 (by omega)
   have C1 := nu_spec x.2 6 hx2 (by decide)
   have hst1 := hst i x hx hn
   have hbad1 := fun h => hbad (i + 1) h (by omega)
   have hap := fun k y => @rank_step l x y k
   have hap0 : upTo (rankAt l x) 0 = true := rfl
   have hapb := fun n (h : upTo (rankAt l x) n = false) (hn : n ≤ i) => upTo_bad h i hn
   generalize upTo (rankAt l x) = ap at *
   generalize hnb : (readV x.1).isSome = nb at *
   generalize nuV 6 x.2 = cb at *
   refine awp_seq_k fun K6 hK6 => ?_
   refine awp_block ?_
   refine awp_seq_k fun K7 hK7 => ?_
   (refine awp_sr fun Y Yh=>?_;simp[go_sem, hx];((repeat' (first|(refine ag_x ?_;simp[go_sem, hx])|intro _|apply And.intro|(apply Yh;clear Yh Y)));all_goals first|apply Hold.mk|omega|assumption|skip))
   ((try refine CallT.toA ?_);refine callT_m (.inl ⟨rfl,rfl⟩) (by simp[go_sem]) ?_;intro args ha;simp[go_sem] at ha;subst ha;refine ⟨_, N1, ?_⟩;rintro _ rfl;simp[go_sem, hx];((repeat' (first|(refine ag_x ?_;simp[go_sem, hx])|intro _|apply And.intro|(apply Yh;clear Yh Y)));all_goals first|apply Hold.mk|omega|assumption|skip))
   (refine agc_f (dB cb) (.inl ⟨rfl,rfl⟩) ?_ rfl ?_;(intro hc args ha;simp[go_sem] at ha;subst ha;exact C1);simp[go_sem, hx];((repeat' (first|(refine ag_x ?_;simp[go_sem, hx])|intro _|apply And.intro|(apply Yh;clear Yh Y)));all_goals first|apply Hold.mk|omega|assumption|skip))
   cases nb with
   | false =>
    have hF := hbad1 (by rw [hst1]; simp)
    (refine awp_if fun T F hT hF=>?_;simp[go_sem];refine hT ?_;clear hT hF T F)
    (refine awp_sr fun Y Yh=>?_;simp[go_sem];((repeat' (first|(refine ag_x ?_;simp[go_sem])|intro _|apply And.intro|(apply Yh;clear Yh Y)));all_goals first|apply Hold.mk|omega|assumption|skip))
    (refine awp_ret ?_;simp[go_sem, hF])
   | true =>
    cases cb with
    | false =>
     have hF := hbad1 (by rw [hst1]; simp)
     (refine awp_if fun T F hT hF=>?_;simp[go_sem];refine hT ?_;clear hT hF T F)
     (refine awp_sr fun Y Yh=>?_;simp[go_sem];((repeat' (first|(refine ag_x ?_;simp[go_sem])|intro _|apply And.intro|(apply Yh;clear Yh Y)));all_goals first|apply Hold.mk|omega|assumption|skip))
     (refine awp_ret ?_;simp[go_sem, hF])
    | true =>
     (refine awp_if fun T F hT hF=>?_;simp[go_sem];refine hF ?_;clear hT hF T F)
     refine awp_skip ?_
     refine hK7 _ ?_; clear hK7
     simp only [Bool.true_and] at hst1
     (refine awp_sr fun Y Yh=>?_;simp[go_sem];((repeat' (first|(refine ag_x ?_;simp[go_sem])|intro _|apply And.intro|(apply Yh;clear Yh Y)));all_goals first|apply Hold.mk|omega|assumption|skip))
     refine awp_block ?_
     refine awp_loop (σ := Nat) (fun k => ⟨[(0, dVrs l), (3, dI i), (4, dI k)], []⟩) (fun k => k ≤ i ∧ ap k = true) (fun k => i - k) 0 ?_ ?_ ?_
     ·(refine cov_of ?_ ?_ <;> simp[go_sem])
     ·exact ⟨by omega, hap0⟩
     rintro k ⟨hk, ha⟩
     refine awp_seq_k fun K8 hK8 => ?_
     (refine awp_sr fun Y Yh=>?_;simp[go_sem];((repeat' (first|(refine ag_x ?_;simp[go_sem])|intro _|apply And.intro|(apply Yh;clear Yh Y)));all_goals first|apply Hold.mk|omega|assumption|skip))
     (refine awp_if fun T F hT hF=>?_;simp[go_sem];refine BR.intro (fun h9=>hT ?_) (fun h9=>hF ?_);all_goals clear hT hF T F;try simp at h9)
     ·refine awp_skip ?_
      refine hK8 _ ?_; clear hK8
      obtain ⟨y, hy⟩ : ∃ y, l[k]? = some y := ⟨_, List.getElem?_eq_getElem (by omega)⟩
      have hap1 := hap k y hy ha
      have CM := rCompare_spec y.1 x.1 (hv y (List.mem_of_getElem? hy)).1 hx1
      generalize codeP ((readV y.1).isSome && (readV x.1).isSome) = cc at *
      generalize compareP y.1 x.1 = cp at *
      refine awp_seq_k fun K10 hK10 => ?_
      refine awp_block ?_
      ((refine awp_dr (.qs [0, 1, 2, 3, 5, 6, 7, 8, 4, 9] (.one 10 (.qs [11, 12, 13, 14, 15] (.nil)))) (by kernel_rfl) ?_ ?_ ?_ ?_);kernel_rfl;exact (by decide +kernel);kernel_rfl;intro Y Yh;((repeat' (first|(refine ag_x ?_;simp[go_sem, hx, hy])|refine adr_nil ?_|((first|refine adr_qs fun Y Yh=>?_|refine adr_y fun Y Yh=>?_);simp[go_sem, hx, hy])|intro _|apply And.intro|(apply Yh;clear Yh Y)));all_goals first|apply Hold.mk|omega|assumption|skip))
      ((try refine CallT.toA ?_);refine callT_m (.inl ⟨rfl,rfl⟩) (by simp[go_sem]) ?_;intro args ha;simp[go_sem] at ha;subst ha;refine ⟨_, CM, ?_⟩;rintro _ rfl;simp[go_sem];((repeat' (first|(refine ag_x ?_;simp[go_sem])|refine adr_nil ?_|((first|refine adr_qs fun Y Yh=>?_|refine adr_y fun Y Yh=>?_);simp[go_sem])|intro _|apply And.intro|(apply Yh;clear Yh Y)));all_goals first|apply Hold.mk|omega|assumption|skip))
      (refine awp_sr fun Y Yh=>?_;simp[go_sem];((repeat' (first|(refine ag_x ?_;simp[go_sem])|intro _|apply And.intro|(apply Yh;clear Yh Y)));all_goals first|apply Hold.mk|omega|assumption|skip))
      (refine awp_if fun T F hT hF=>?_;simp[go_sem];refine BR.intro (fun h11=>hT ?_) (fun h11=>hF ?_);all_goals clear hT hF T F;try simp at h11)
      ·have hF := hbad1 (by rw [hst1]; exact hapb (k + 1) (by rw [hap1]; simp [h11]) (by omega))
       (refine awp_sr fun Y Yh=>?_;simp[go_sem];((repeat' (first|(refine ag_x ?_;simp[go_sem])|intro _|apply And.intro|(apply Yh;clear Yh Y)));all_goals first|apply Hold.mk|omega|assumption|skip))
       (refine awp_ret ?_;simp[go_sem, hF])
      ·refine awp_skip ?_
       refine hK10 _ ?_; clear hK10
       (refine awp_r fun Y Yh=>?_;simp[go_sem];((repeat' (first|(refine ag_x ?_;simp[go_sem])|intro _|apply And.intro|(apply Yh;clear Yh Y)));all_goals first|apply Hold.mk|omega|assumption|skip))
       refine ⟨k + 1, ?_, ⟨by omega, by rw [hap1]; simp [h11]⟩, by omega⟩
       (refine cov_of ?_ ?_ <;> simp[go_sem])
     ·refine awp_exit ?_
      simp only [go_sem]
      have hki : k = i := by omega
      subst hki
      refine hK6 _ ?_; clear hK6
      (refine awp_r fun Y Yh=>?_;simp[go_sem];((repeat' (first|(refine ag_x ?_;simp[go_sem])|intro _|apply And.intro|(apply Yh;clear Yh Y)));all_goals first|apply Hold.mk|omega|assumption|skip))
      refine ⟨k + 1, ?_, ⟨by omega, by rw [hst1]; exact ha⟩, by omega⟩
      (refine cov_of ?_ ?_ <;> simp[go_sem])
  ·refine awp_exit ?_
   simp only [go_sem]
   refine hK3 _ ?_; clear hK3
   have : i = l.length := by omega
   subst this
   (refine awp_sr fun Y Yh=>?_;simp[go_sem];((repeat' (first|(refine ag_x ?_;simp[go_sem])|intro _|apply And.intro|(apply Yh;clear Yh Y)));all_goals first|apply Hold.mk|omega|assumption|skip))
   (refine awp_ret ?_;simp[go_sem, hle, hn])
end Go.Proofs.YteekfnhhlcmcgaaGreatDoor
set_option maxRecDepth 20000
namespace Go.Lk
open Go.Lib Go.Wh Go.Ver
/-! what is found in a source, what is needed, what is picked -/
def fndG (p : Prs) (g : Gm) : Option Vrs := if g.1 = p.1 then g.2.find? (fun v => decide (v.1 = p.2)) else none
def fndV (s : Src) (p : Prs) : Option Vrs := s.findSome? (fndG p)
theorem drop_cons {α : Type} {l : List α} {i : Nat} {x : α} (h : l[i]? = some x) : l.drop i = x :: l.drop (i + 1) := by
 obtain ⟨h1, h2⟩ := List.getElem?_eq_some_iff.1 h
 rw [List.drop_eq_getElem_cons h1, h2]
theorem fnd_step {s : Src} {p : Prs} {i : Nat} {g : Gm} (h : s[i]? = some g) : (s.drop i).findSome? (fndG p) = (match fndG p g with | some v => some v | none => (s.drop (i + 1)).findSome? (fndG p)) := by
 rw [drop_cons h, List.findSome?_cons]
 cases fndG p g <;> rfl
theorem fnd_end (s : Src) (p : Prs) : (s.drop s.length).findSome? (fndG p) = none := by rw [List.drop_length]; rfl
theorem find_step {l : List Vrs} {n : Bs} {k : Nat} {v : Vrs} (h : l[k]? = some v) : (l.drop k).find? (fun v => decide (v.1 = n)) = if v.1 = n then some v else (l.drop (k + 1)).find? (fun v => decide (v.1 = n)) := by
 rw [drop_cons h, List.find?_cons]
 by_cases e : v.1 = n
 ·rw [if_pos e]; simp [e]
 ·rw [if_neg e]; simp [e]
def fndP (s : Src) (p : Prs) : Vrs := (fndV s p).getD ([], [])
theorem fndG_mem {p : Prs} {g : Gm} {v : Vrs} (h : fndG p g = some v) : v ∈ g.2 ∧ v.1 = p.2 ∧ g.1 = p.1 := by
 unfold fndG at h
 split at h
 ·rename_i e
  have h1 := List.mem_of_find?_eq_some h
  have h2 := List.find?_some h
  exact ⟨h1, by simpa using h2, e⟩
 ·cases h
theorem fndV_mem {s : Src} {p : Prs} {v : Vrs} (h : fndV s p = some v) : ∃ g ∈ s, g.1 = p.1 ∧ v ∈ g.2 ∧ v.1 = p.2 := by
 unfold fndV at h
 obtain ⟨g, hg, h2⟩ := List.exists_of_findSome?_eq_some h
 obtain ⟨a, b, c⟩ := fndG_mem h2
 exact ⟨g, hg, c, a, b⟩
theorem fndP_sz {s : Src} (hs : SzS s) (p : Prs) : SzV (fndP s p) := by
 unfold fndP
 cases h : fndV s p with
 | none => simp [SzV, SzN]
 | some v =>
  obtain ⟨g, hg, _, hv, _⟩ := fndV_mem h
  exact (hs.2 g hg).2.2 v hv
def pkdV (l : List Prs) (n : Bs) : Bs := ((l.find? (fun x => decide (x.1 = n))).map (·.2)).getD []
theorem pkd_step {l : List Prs} {n : Bs} {k : Nat} {v : Prs} (h : l[k]? = some v) : (l.drop k).find? (fun x => decide (x.1 = n)) = if v.1 = n then some v else (l.drop (k + 1)).find? (fun x => decide (x.1 = n)) := by
 rw [drop_cons h, List.find?_cons]
 by_cases e : v.1 = n
 ·rw [if_pos e]; simp [e]
 ·rw [if_neg e]; simp [e]
def allN (s : Src) (w l : List Prs) : List Prs := w ++ l.flatMap fun p => (fndP s p).2
theorem allN_nil (s : Src) (w : List Prs) : allN s w [] = w := by simp [allN]
theorem allN_step {s : Src} {w l : List Prs} {i : Nat} {p : Prs} (h : l[i]? = some p) : allN s w (l.take (i + 1)) = allN s w (l.take i) ++ (fndP s p).2 := by
 unfold allN; rw [List.take_add_one, h]; simp
theorem allN_snoc (s : Src) (w l : List Prs) (p : Prs) : allN s w (l ++ [p]) = allN s w l ++ (fndP s p).2 := by simp [allN]
theorem allN_mem {s : Src} {w l : List Prs} (hs : SzS s) (hw : ∀ x ∈ w, Sz1 x) : ∀ x ∈ allN s w l, Sz1 x := fun x hx => by
 unfold allN at hx
 rcases List.mem_append.1 hx with h | h
 ·exact hw x h
 ·obtain ⟨p, _, hp⟩ := List.mem_flatMap.1 h
  exact (fndP_sz hs p).2.2 x hp
theorem allN_len {s : Src} {w : List Prs} (hs : SzS s) : ∀ l : List Prs, (allN s w l).length ≤ w.length + l.length * 1000000
 | [] => by simp [allN]
 | p :: l => by
  have ih := allN_len (w := w) hs l
  have hp := (fndP_sz hs p).2.1
  unfold allN at ih ⊢
  simp only [List.length_append, List.flatMap_cons, List.length_cons] at ih ⊢
  have e : (l.length + 1) * 1000000 = l.length * 1000000 + 1000000 := Nat.succ_mul _ _
  rw [e]
  omega
end Go.Lk
