/- Part of a proof: see the last text. -/
import Derived.Test.YtelhdhofnohkcaaGreatDoorG07
import Derived.Test.YtelhdhofnohkcaaGreatDoorG06
import Derived.Test.YtelhdhofnohkcaaGreatDoorG05
import Derived.Lib.FrozenHead2
import Derived.Shelf.RegionOpenPlain
import Derived.Test.YtelhdhofnohkcaaGreatDoorG03
set_option linter.unusedVariables false
set_option linter.unusedSimpArgs false
namespace Go.Proofs.YtelhdhofnohkcaaGreatDoor
open Go.Eng Go.Fm
set_option maxRecDepth 20000
attribute [local irreducible] AG CallA CallT AWp PCall ACall AgC
set_option maxHeartbeats 32000000 in
theorem fill_np (args : List Ag) (u g : Nat) (f : Fld) (hA : AgsOk args) (hu : u ≤ args.length) (hf : FdOk f) (h0 : f.lt ≠ 0) (hl : f.lt ∈ lets) (hp : f.lt ≠ 112) :
  ACall Tryz.prog 49 [.ptr 900004 g 0, dF f] [fiB g args u] [900004]
   fun ps r => ps = [(g, .box [dAs args, dI (fillV args u f).2.2])] ∧ r = .tup [dS (fillV args u f).1, dI (fillV args u f).2.1] := by 
 refine qY Tryz.func49 rfl rfl Tryz.ntmps49 (rs := [.tmp 4, .tmp 5]) (tys := [9, 34]) rfl rfl (by simp) (by simp [qO]) ?_
 have hS := fun gf => jG args u g gf f hu hA.1
 have hsl := stars_le hu f
 have hso := fun h => stars_ok (args := args) (u := u) hf h
 have eV : fillV args u f = (if (starsV args u f).1 ≠ 0 then ([], (starsV args u f).1, (starsV args u f).2.1) else
  if (ofA args (starsV args u f).2.1 f.nm).2.1 ≠ 0 then ([], (ofA args (starsV args u f).2.1 f.nm).2.1, (ofA args (starsV args u f).2.1 f.nm).2.2) else
  match putV (starsV args u f).2.2 (ofA args (starsV args u f).2.1 f.nm).1 with
  | none => ([], 1, (ofA args (starsV args u f).2.1 f.nm).2.2)
  | some t => (t, 0, (ofA args (starsV args u f).2.1 f.nm).2.2)) := by unfold fillV; rw [if_neg h0]; rfl
 generalize hV : fillV args u f = V at *
 generalize starsV args u f = S at *
 obtain ⟨se, su, sf⟩ := S
 simp only at hS hsl hso eV ⊢
 by_cases he : se = 0
 ·subst he
  obtain ⟨⟨hw, hpr⟩, hlt, hnm⟩ := hso rfl
  have hO := vZ args su g sf hsl hA.1
  have hoa := ofA_ok hA su sf.nm
  rw [hnm] at hO hoa
  rw [if_neg (by simp)] at eV
  generalize ofA args su f.nm = O at *
  obtain ⟨oa, oe, ou⟩ := O
  simp only at hO hoa eV
  (refine qc fun Y Yh => ?_; simp [go_sem]; ((repeat' (first|(refine qf ?_;simp [go_sem])|intro _|apply And.intro|(apply Yh;clear Yh Y)));all_goals first|apply QS|omega|with_reducible assumption|skip))
  refine zf 3 900003 rfl rfl (by decide) fun gf => ?_
  simp only [go_sem]
  refine qh fun K1 hK1 => ?_
  (refine qc fun Y Yh => ?_; simp [go_sem]; ((repeat' (first|(refine qf ?_;simp [go_sem])|intro _|apply And.intro|(apply Yh;clear Yh Y)));all_goals first|apply QS|omega|with_reducible assumption|skip))
  (refine qN [900004, 900003] (.inl ⟨rfl,rfl⟩) (by simp [go_sem]) ?_; intro args ha; simp [go_sem] at ha; subst ha; refine ⟨_, _, (hS gf), (by simp [go_sem]), ?_⟩; rintro ps r hps ⟨rfl, rfl⟩; simp [go_sem]; ((repeat' (first|(refine qf ?_;simp [go_sem])|intro _|apply And.intro|(apply Yh;clear Yh Y)));all_goals first|apply QS|omega|with_reducible assumption|skip))
  (refine qc fun Y Yh => ?_; simp [go_sem]; ((repeat' (first|(refine qf ?_;simp [go_sem])|intro _|apply And.intro|(apply Yh;clear Yh Y)));all_goals first|apply QS|omega|with_reducible assumption|skip))
  (refine qg fun T F hT hF => ?_; simp [go_sem]; refine hF ?_; clear hT hF T F)
  refine qi ?_
  refine hK1 _ ?_; clear hK1
  (refine qc fun Y Yh => ?_; simp [go_sem]; ((repeat' (first|(refine qf ?_;simp [go_sem])|intro _|apply And.intro|(apply Yh;clear Yh Y)));all_goals first|apply QS|omega|with_reducible assumption|skip))
  (refine qN [900004] (.inl ⟨rfl,rfl⟩) (by simp [go_sem]) ?_; intro args ha; simp [go_sem] at ha; subst ha; refine ⟨_, _, hO, (by simp [go_sem]), ?_⟩; rintro ps r hps ⟨rfl, rfl⟩; simp [go_sem]; ((repeat' (first|(refine qf ?_;simp [go_sem])|intro _|apply And.intro|(apply Yh;clear Yh Y)));all_goals first|apply QS|omega|with_reducible assumption|skip))
  refine qh fun K3 hK3 => ?_
  by_cases hoe : oe = 0
  ·subst hoe
   rw [if_neg (by simp)] at eV
   (refine qc fun Y Yh => ?_; simp [go_sem]; ((repeat' (first|(refine qf ?_;simp [go_sem])|intro _|apply And.intro|(apply Yh;clear Yh Y)));all_goals first|apply QS|omega|with_reducible assumption|skip))
   (refine qg fun T F hT hF => ?_; simp [go_sem]; refine hF ?_; clear hT hF T F)
   refine qi ?_
   refine hK3 _ ?_; clear hK3
   refine qh fun K5 hK5 => ?_
   have b115 : decide ((sf.lt.toNat : Int) = 115) = decide (sf.lt = 115) := u8_eqb _ 115 (by decide)
   have b112 : decide ((sf.lt.toNat : Int) = 112) = decide (sf.lt = 112) := u8_eqb _ 112 (by decide)
   have b99 : decide ((sf.lt.toNat : Int) = 99) = decide (sf.lt = 99) := u8_eqb _ 99 (by decide)
   (refine qc fun Y Yh => ?_; simp [go_sem]; ((repeat' (first|(refine qf ?_;simp [go_sem])|intro _|apply And.intro|(apply Yh;clear Yh Y)));all_goals first|apply QS|omega|with_reducible assumption|skip))
   refine qo ?_
   (refine qc fun Y Yh => ?_; simp [go_sem, b115]; ((repeat' (first|(refine qf ?_;simp [go_sem, b115])|intro _|apply And.intro|(apply Yh;clear Yh Y)));all_goals first|apply QS|omega|with_reducible assumption|skip))
   by_cases h115 : sf.lt = 115
   ·have e2 : putV sf oa = some (paddedV sf (shortV sf (textV oa))) := by unfold putV; rw [if_pos h115]
    rw [e2] at eV
    simp only at eV
    have hT := xe oa hoa.1
    have hSh := jH sf (textV oa)
    have htl := text_len hoa
    have hsl2 := short_len sf (textV oa)
    have hPd := zD sf (shortV sf (textV oa)) (by omega) (by omega)
    (refine qg fun T F hT hF => ?_; simp [go_sem, h115]; refine hT ?_; clear hT hF T F)
    ((refine qX (.qs [0, 1, 2] (.kp 3 (.kp 4 (.kp 5 (.qs [6, 7] (.nil)))))) (by kernel_rfl) ?_ ?_ ?_ ?_); (kernel_rfl); (exact (by decide +kernel)); (kernel_rfl); intro Y Yh; ((repeat' (first|(refine qf ?_;simp [go_sem])|refine qC ?_|((first|refine qJ fun Y Yh=>?_|refine qR fun Y Yh=>?_);simp [go_sem])|intro _|apply And.intro|(apply Yh;clear Yh Y)));all_goals first|apply QS|omega|with_reducible assumption|skip))
    ((try refine QT ?_); refine qU (.inl ⟨rfl,rfl⟩) ?_; intro args ha; simp [go_sem] at ha; subst ha; refine ⟨_, hT, ?_⟩; rintro _ rfl; refine ⟨rfl, ?_⟩; simp [go_sem]; ((repeat' (first|(refine qf ?_;simp [go_sem])|refine qC ?_|((first|refine qJ fun Y Yh=>?_|refine qR fun Y Yh=>?_);simp [go_sem])|intro _|apply And.intro|(apply Yh;clear Yh Y)));all_goals first|apply QS|omega|with_reducible assumption|skip))
    ((try refine QT ?_); refine qU (.inl ⟨rfl,rfl⟩) ?_; intro args ha; simp [go_sem] at ha; subst ha; refine ⟨_, hSh, ?_⟩; rintro _ rfl; refine ⟨rfl, ?_⟩; simp [go_sem]; ((repeat' (first|(refine qf ?_;simp [go_sem])|refine qC ?_|((first|refine qJ fun Y Yh=>?_|refine qR fun Y Yh=>?_);simp [go_sem])|intro _|apply And.intro|(apply Yh;clear Yh Y)));all_goals first|apply QS|omega|with_reducible assumption|skip))
    ((try refine QT ?_); refine qU (.inl ⟨rfl,rfl⟩) ?_; intro args ha; simp [go_sem] at ha; subst ha; refine ⟨_, hPd, ?_⟩; rintro _ rfl; refine ⟨rfl, ?_⟩; simp [go_sem]; ((repeat' (first|(refine qf ?_;simp [go_sem])|refine qC ?_|((first|refine qJ fun Y Yh=>?_|refine qR fun Y Yh=>?_);simp [go_sem])|intro _|apply And.intro|(apply Yh;clear Yh Y)));all_goals first|apply QS|omega|with_reducible assumption|skip))
    (refine qj ?_; simp [go_sem, eV])
   ·(refine qg fun T F hT hF => ?_; simp [go_sem, h115]; refine hF ?_; clear hT hF T F)
    (refine qc fun Y Yh => ?_; simp [go_sem, b112]; ((repeat' (first|(refine qf ?_;simp [go_sem, b112])|intro _|apply And.intro|(apply Yh;clear Yh Y)));all_goals first|apply QS|omega|with_reducible assumption|skip))
    have h112 : ¬ sf.lt = 112 := by rw [hlt]; exact hp
    (refine qg fun T F hT hF => ?_; simp [go_sem, h112]; refine hF ?_; clear hT hF T F)
    (refine qc fun Y Yh => ?_; simp [go_sem, b99]; ((repeat' (first|(refine qf ?_;simp [go_sem, b99])|intro _|apply And.intro|(apply Yh;clear Yh Y)));all_goals first|apply QS|omega|with_reducible assumption|skip))
    by_cases h99 : sf.lt = 99
    ·have e2 : putV sf oa = if oa.is then (if oa.tx = [] then none else some (paddedV sf (oa.tx.take 1))) else if oa.int < 0 ∨ 255 < oa.int then none else some (paddedV sf [UInt8.ofNat oa.int.toNat]) := by
      unfold putV; rw [if_neg h115, if_neg h112, if_pos h99]
     rw [e2] at eV
     (refine qg fun T F hT hF => ?_; simp [go_sem, h99]; refine hT ?_; clear hT hF T F)
     refine qh fun K9 hK9 => ?_
     refine qo ?_
     cases his : oa.is with
     | true =>
      rw [his] at eV
      simp only [if_true] at eV
      cases htx : oa.tx with
      | nil =>
       rw [htx] at eV
       simp only [if_true] at eV
       (refine qc fun Y Yh => ?_; simp [go_sem, his, htx]; ((repeat' (first|(refine qf ?_;simp [go_sem, his, htx])|intro _|apply And.intro|(apply Yh;clear Yh Y)));all_goals first|apply QS|omega|with_reducible assumption|skip))
       (refine qg fun T F hT hF => ?_; simp [go_sem]; refine hF ?_; clear hT hF T F)
       (refine qc fun Y Yh => ?_; simp [go_sem, his, htx]; ((repeat' (first|(refine qf ?_;simp [go_sem, his, htx])|intro _|apply And.intro|(apply Yh;clear Yh Y)));all_goals first|apply QS|omega|with_reducible assumption|skip))
       (refine qg fun T F hT hF => ?_; simp [go_sem]; refine hT ?_; clear hT hF T F)
       (refine qc fun Y Yh => ?_; simp [go_sem]; ((repeat' (first|(refine qf ?_;simp [go_sem])|intro _|apply And.intro|(apply Yh;clear Yh Y)));all_goals first|apply QS|omega|with_reducible assumption|skip))
       (refine qj ?_; simp [go_sem, eV])
      | cons c0 r0 =>
       rw [htx] at eV
       simp only [reduceCtorEq, if_false, List.take_succ_cons, List.take_zero] at eV
       have hPd := zD sf [c0] (by omega) (by simp)
       have hcut : ({ data := (c0 :: r0).toArray } : ByteArray).extract 0 1 = { data := [c0].toArray } := by rw [ba_cut]; rfl
       (refine qc fun Y Yh => ?_; simp [go_sem, his, htx]; ((repeat' (first|(refine qf ?_;simp [go_sem, his, htx])|intro _|apply And.intro|(apply Yh;clear Yh Y)));all_goals first|apply QS|omega|with_reducible assumption|skip))
       (refine qg fun T F hT hF => ?_; simp [go_sem]; refine hT ?_; clear hT hF T F)
       ((refine qX (.qs [1, 0, 2, 3] (.one 4 (.qs [5, 6] (.nil)))) (by kernel_rfl) ?_ ?_ ?_ ?_); (kernel_rfl); (exact (by decide +kernel)); (kernel_rfl); intro Y Yh; ((repeat' (first|(refine qf ?_;simp [go_sem, htx, ba_size, hcut])|refine qC ?_|((first|refine qJ fun Y Yh=>?_|refine qR fun Y Yh=>?_);simp [go_sem, htx, ba_size, hcut])|intro _|apply And.intro|(apply Yh;clear Yh Y)));all_goals first|apply QS|omega|with_reducible assumption|skip))
       ((try refine QT ?_); refine qU (.inl ⟨rfl,rfl⟩) ?_; intro args ha; simp [go_sem] at ha; subst ha; refine ⟨_, hPd, ?_⟩; rintro _ rfl; refine ⟨rfl, ?_⟩; simp [go_sem]; ((repeat' (first|(refine qf ?_;simp [go_sem])|refine qC ?_|((first|refine qJ fun Y Yh=>?_|refine qR fun Y Yh=>?_);simp [go_sem])|intro _|apply And.intro|(apply Yh;clear Yh Y)));all_goals first|apply QS|omega|with_reducible assumption|skip))
       (refine qj ?_; simp [go_sem, eV])
     | false =>
      rw [his] at eV
      simp only [Bool.false_eq_true, if_false] at eV
      by_cases hr : oa.int < 0 ∨ 255 < oa.int
      ·rw [if_pos hr] at eV
       have hb : (decide (oa.int < 0) || decide (255 < oa.int)) = true := by simpa using hr
       (refine qc fun Y Yh => ?_; simp [go_sem, his]; ((repeat' (first|(refine qf ?_;simp [go_sem, his])|intro _|apply And.intro|(apply Yh;clear Yh Y)));all_goals first|apply QS|omega|with_reducible assumption|skip))
       (refine qg fun T F hT hF => ?_; simp [go_sem]; refine hF ?_; clear hT hF T F)
       (refine qc fun Y Yh => ?_; simp [go_sem, his]; ((repeat' (first|(refine qf ?_;simp [go_sem, his])|intro _|apply And.intro|(apply Yh;clear Yh Y)));all_goals first|apply QS|omega|with_reducible assumption|skip))
       (refine qg fun T F hT hF => ?_; simp [go_sem, hb]; refine hT ?_; clear hT hF T F)
       (refine qc fun Y Yh => ?_; simp [go_sem]; ((repeat' (first|(refine qf ?_;simp [go_sem])|intro _|apply And.intro|(apply Yh;clear Yh Y)));all_goals first|apply QS|omega|with_reducible assumption|skip))
       (refine qj ?_; simp [go_sem, eV])
      ·rw [if_neg hr] at eV
       have hb : (decide (oa.int < 0) || decide (255 < oa.int)) = false := by rw [Bool.eq_false_iff]; intro q; exact hr (by simpa using q)
       have hwr : IntKind.u8.wrap oa.int = oa.int := by rw [IntKind.wrap_u8]; omega
       have hbd : bytesD [[D.v (.int .u8 oa.int)]] = some [UInt8.ofNat oa.int.toNat] := by
        have e : ((UInt8.ofNat oa.int.toNat).toNat : Int) = oa.int := by simp; omega
        have := bytesD_map [UInt8.ofNat oa.int.toNat]
        simp only [List.map_cons, List.map_nil, e] at this
        exact this
       have hPd := zD sf [UInt8.ofNat oa.int.toNat] (by omega) (by simp)
       (refine qc fun Y Yh => ?_; simp [go_sem, his]; ((repeat' (first|(refine qf ?_;simp [go_sem, his])|intro _|apply And.intro|(apply Yh;clear Yh Y)));all_goals first|apply QS|omega|with_reducible assumption|skip))
       (refine qg fun T F hT hF => ?_; simp [go_sem]; refine hF ?_; clear hT hF T F)
       (refine qc fun Y Yh => ?_; simp [go_sem, his]; ((repeat' (first|(refine qf ?_;simp [go_sem, his])|intro _|apply And.intro|(apply Yh;clear Yh Y)));all_goals first|apply QS|omega|with_reducible assumption|skip))
       (refine qg fun T F hT hF => ?_; simp [go_sem, hb]; refine hF ?_; clear hT hF T F)
       refine qi ?_
       refine hK9 _ ?_; clear hK9
       (refine qc fun Y Yh => ?_; simp [go_sem, hwr, hbd]; ((repeat' (first|(refine qf ?_;simp [go_sem, hwr, hbd])|intro _|apply And.intro|(apply Yh;clear Yh Y)));all_goals first|apply QS|omega|with_reducible assumption|skip))
       ((try refine QT ?_); refine qU (.inl ⟨rfl,rfl⟩) ?_; intro args ha; simp [go_sem] at ha; subst ha; refine ⟨_, hPd, ?_⟩; rintro _ rfl; refine ⟨rfl, ?_⟩; simp [go_sem]; ((repeat' (first|(refine qf ?_;simp [go_sem])|intro _|apply And.intro|(apply Yh;clear Yh Y)));all_goals first|apply QS|omega|with_reducible assumption|skip))
       (refine qj ?_; simp [go_sem, eV])
    ·have hNL : NL sf.lt := by
      have h := hl
      rw [← hlt] at h
      simp only [lets, List.mem_cons, List.not_mem_nil, or_false] at h
      unfold NL
      rcases h with h | h | h | h | h | h | h | h
      ·exact .inl h
      ·exact .inr (.inl h)
      ·exact .inr (.inr (.inl h))
      ·exact .inr (.inr (.inr (.inl h)))
      ·exact .inr (.inr (.inr (.inr h)))
      ·exact absurd h h115
      ·exact absurd h h99
      ·exact absurd h h112
     have e2 : putV sf oa = (numA oa).map (numV sf) := by unfold putV; rw [if_neg h115, if_neg h112, if_neg h99]
     rw [e2] at eV
     have hNs := kH oa hoa.1 hoa.2
     unfold numQ at hNs
     (refine qg fun T F hT hF => ?_; simp [go_sem, h99]; refine hF ?_; clear hT hF T F)
     refine qi ?_
     refine hK5 _ ?_; clear hK5
     cases hna : numA oa with
     | none =>
      rw [hna] at eV hNs
      simp only [Option.map_none] at eV
      (refine qc fun Y Yh => ?_; simp [go_sem]; ((repeat' (first|(refine qf ?_;simp [go_sem])|intro _|apply And.intro|(apply Yh;clear Yh Y)));all_goals first|apply QS|omega|with_reducible assumption|skip))
      ((try refine QT ?_); refine qU (.inl ⟨rfl,rfl⟩) ?_; intro args ha; simp [go_sem] at ha; subst ha; refine ⟨_, hNs, ?_⟩; rintro _ rfl; refine ⟨rfl, ?_⟩; simp [go_sem]; ((repeat' (first|(refine qf ?_;simp [go_sem])|intro _|apply And.intro|(apply Yh;clear Yh Y)));all_goals first|apply QS|omega|with_reducible assumption|skip))
      refine qh fun K12 hK12 => ?_
      (refine qc fun Y Yh => ?_; simp [go_sem]; ((repeat' (first|(refine qf ?_;simp [go_sem])|intro _|apply And.intro|(apply Yh;clear Yh Y)));all_goals first|apply QS|omega|with_reducible assumption|skip))
      (refine qg fun T F hT hF => ?_; simp [go_sem]; refine hT ?_; clear hT hF T F)
      (refine qc fun Y Yh => ?_; simp [go_sem]; ((repeat' (first|(refine qf ?_;simp [go_sem])|intro _|apply And.intro|(apply Yh;clear Yh Y)));all_goals first|apply QS|omega|with_reducible assumption|skip))
      (refine qj ?_; simp [go_sem, eV])
     | some n =>
      rw [hna] at eV hNs
      simp only [Option.map_some] at eV
      have hNu := Qn sf n (numA_in hoa hna) hNL hw (by omega)
      (refine qc fun Y Yh => ?_; simp [go_sem]; ((repeat' (first|(refine qf ?_;simp [go_sem])|intro _|apply And.intro|(apply Yh;clear Yh Y)));all_goals first|apply QS|omega|with_reducible assumption|skip))
      ((try refine QT ?_); refine qU (.inl ⟨rfl,rfl⟩) ?_; intro args ha; simp [go_sem] at ha; subst ha; refine ⟨_, hNs, ?_⟩; rintro _ rfl; refine ⟨rfl, ?_⟩; simp [go_sem]; ((repeat' (first|(refine qf ?_;simp [go_sem])|intro _|apply And.intro|(apply Yh;clear Yh Y)));all_goals first|apply QS|omega|with_reducible assumption|skip))
      refine qh fun K12 hK12 => ?_
      (refine qc fun Y Yh => ?_; simp [go_sem]; ((repeat' (first|(refine qf ?_;simp [go_sem])|intro _|apply And.intro|(apply Yh;clear Yh Y)));all_goals first|apply QS|omega|with_reducible assumption|skip))
      (refine qg fun T F hT hF => ?_; simp [go_sem]; refine hF ?_; clear hT hF T F)
      refine qi ?_
      refine hK12 _ ?_; clear hK12
      (refine qc fun Y Yh => ?_; simp [go_sem]; ((repeat' (first|(refine qf ?_;simp [go_sem])|intro _|apply And.intro|(apply Yh;clear Yh Y)));all_goals first|apply QS|omega|with_reducible assumption|skip))
      ((try refine QT ?_); refine qU (.inl ⟨rfl,rfl⟩) ?_; intro args ha; simp [go_sem] at ha; subst ha; refine ⟨_, hNu, ?_⟩; rintro _ rfl; refine ⟨rfl, ?_⟩; simp [go_sem]; ((repeat' (first|(refine qf ?_;simp [go_sem])|intro _|apply And.intro|(apply Yh;clear Yh Y)));all_goals first|apply QS|omega|with_reducible assumption|skip))
      (refine qj ?_; simp [go_sem, eV])
  ·rw [if_pos (by simpa using hoe)] at eV
   (refine qc fun Y Yh => ?_; simp [go_sem]; ((repeat' (first|(refine qf ?_;simp [go_sem])|intro _|apply And.intro|(apply Yh;clear Yh Y)));all_goals first|apply QS|omega|with_reducible assumption|skip))
   (refine qg fun T F hT hF => ?_; simp [go_sem, hoe]; refine hT ?_; clear hT hF T F)
   (refine qc fun Y Yh => ?_; simp [go_sem]; ((repeat' (first|(refine qf ?_;simp [go_sem])|intro _|apply And.intro|(apply Yh;clear Yh Y)));all_goals first|apply QS|omega|with_reducible assumption|skip))
   (refine qj ?_; simp [go_sem, eV])
 ·rw [if_pos (by simpa using he)] at eV
  (refine qc fun Y Yh => ?_; simp [go_sem]; ((repeat' (first|(refine qf ?_;simp [go_sem])|intro _|apply And.intro|(apply Yh;clear Yh Y)));all_goals first|apply QS|omega|with_reducible assumption|skip))
  refine zf 3 900003 rfl rfl (by decide) fun gf => ?_
  simp only [go_sem]
  refine qh fun K1 hK1 => ?_
  (refine qc fun Y Yh => ?_; simp [go_sem]; ((repeat' (first|(refine qf ?_;simp [go_sem])|intro _|apply And.intro|(apply Yh;clear Yh Y)));all_goals first|apply QS|omega|with_reducible assumption|skip))
  (refine qN [900004, 900003] (.inl ⟨rfl,rfl⟩) (by simp [go_sem]) ?_; intro args ha; simp [go_sem] at ha; subst ha; refine ⟨_, _, (hS gf), (by simp [go_sem]), ?_⟩; rintro ps r hps ⟨rfl, rfl⟩; simp [go_sem]; ((repeat' (first|(refine qf ?_;simp [go_sem])|intro _|apply And.intro|(apply Yh;clear Yh Y)));all_goals first|apply QS|omega|with_reducible assumption|skip))
  (refine qc fun Y Yh => ?_; simp [go_sem]; ((repeat' (first|(refine qf ?_;simp [go_sem])|intro _|apply And.intro|(apply Yh;clear Yh Y)));all_goals first|apply QS|omega|with_reducible assumption|skip))
  (refine qg fun T F hT hF => ?_; simp [go_sem, he]; refine hT ?_; clear hT hF T F)
  (refine qc fun Y Yh => ?_; simp [go_sem]; ((repeat' (first|(refine qf ?_;simp [go_sem])|intro _|apply And.intro|(apply Yh;clear Yh Y)));all_goals first|apply QS|omega|with_reducible assumption|skip))
  (refine qj ?_; simp [go_sem, eV])
end Go.Proofs.YtelhdhofnohkcaaGreatDoor
namespace Go.Proofs.YtelhdhofnohkcaaGreatDoor
open Go.Eng Go.Fm
set_option maxRecDepth 20000
def FrOk (f : Fld) : Prop := FdOk f ∧ (f.lt = 0 ∨ f.lt ∈ lets) ∧ f.tx.length ≤ 2000
theorem fdT_ok {t : Bs} (h : t.length ≤ 2000) : FrOk (fdT t) := ⟨⟨.inr (by simp [fdT]), .inr (by simp [fdT])⟩, .inl rfl, h⟩
theorem jM {m : Int} (hm : -1 ≤ m ∧ m ≤ 1000) {s : Bs} (h : (digitsV m s).2.1 = true) : (digitsV m s).1 = -2 ∨ (-1 ≤ (digitsV m s).1 ∧ (digitsV m s).1 ≤ 1000) := by
 unfold digitsV at h ⊢
 by_cases h42 : pk s = 42
 ·rw [if_pos h42]; exact .inl rfl
 ·rw [if_neg h42] at h ⊢
  simp only at h ⊢
  by_cases ha : (digR 0 false s).2.1 = true
  ·rw [if_pos ha] at h ⊢
   simp only [decide_eq_true_eq] at h
   exact .inr ⟨by simp only; omega, by simp only; omega⟩
  ·rw [if_neg ha]; exact .inr hm
theorem wS {s r : Bs} {f : Fld} (h : fieldV s = some (f, r)) : FrOk f := by
 unfold fieldV at h
 split at h
 ·cases h
 ·rename_i nm s1 hn
  simp only at h
  have ht : (flagR { fd0 with nm := nm } s1).1.tx = [] := by rw [flag_same]; rfl
  generalize flagR { fd0 with nm := nm } s1 = q at *
  have h3 := @jM (-1) (by decide) q.2
  generalize digitsV (-1) q.2 = w at *
  have h4 : (precV w.2.2).2.1 = true → (precV w.2.2).1 = -2 ∨ (-1 ≤ (precV w.2.2).1 ∧ (precV w.2.2).1 ≤ 1000) := by
   unfold precV
   split
   ·exact jM (by decide)
   ·intro _; exact .inr ⟨by simp only; omega, by simp only; omega⟩
  generalize precV w.2.2 = p at *
  split at h
  ·cases h
  ·split at h
   ·cases h
   ·rename_i hw hp
    split at h
    ·rename_i hc
     cases h
     refine ⟨⟨h3 (by simpa using hw), h4 (by simpa using hp)⟩, .inr hc.2.1, ?_⟩
     simp only [ht]; simp
    ·cases h
theorem readF_ok : ∀ (k : Nat) (s : Bs) (out : List Fld) (a b : Bool) (L : List Fld), (∀ f ∈ out, FrOk f) → s.length ≤ 2000 → readF k s out a b = some L → ∀ f ∈ L, FrOk f := by
 intro k
 induction k with
 | zero => intro s out a b L _ _ h; simp [readF] at h
 | succ k ih =>
  intro s out a b L ho hs h
  have snoc : ∀ g, FrOk g → ∀ f ∈ out ++ [g], FrOk f := fun g hg f hf => by
   rcases List.mem_append.1 hf with hf | hf
   ·exact ho f hf
   ·rw [List.mem_singleton.1 hf]; exact hg
  rw [readF] at h
  split at h
  ·split at h
   ·cases h
   ·cases h; exact ho
  ·simp only at h
   split at h
   ·split at h
    ·cases h
    ·cases h; exact snoc _ (fdT_ok hs)
   ·split at h
    ·exact ih _ _ _ _ _ (snoc _ (fdT_ok (by rw [List.length_take]; omega))) (by rw [List.length_drop]; omega) h
    ·split at h
     ·exact ih _ _ _ _ _ (snoc _ (fdT_ok (by simp))) (by rw [List.length_drop]; omega) h
     ·split at h
      ·cases h
      ·rename_i f r hf
       have := zJ hf
       exact ih _ _ _ _ _ (snoc _ (wS hf)) (by rw [List.length_tail] at this; omega) h
theorem jJ {s : Bs} {L : List Fld} (h : readV s = some L) : ∀ f ∈ L, FrOk f := by
 unfold readV at h
 split at h
 ·cases h
 ·exact readF_ok _ s [] _ _ L (by simp) (by omega) h
theorem padded_len {f : Fld} (hw : f.wd ≤ 1000) (s : Bs) : (paddedV f s).length ≤ s.length + 1000 := by
 unfold paddedV
 split
 ·omega
 ·split <;> rw [List.length_append, rep_len] <;> omega
theorem quo_len (s : Bs) : (quoV s).length ≤ 2 * s.length + 2 := by
 have : (s.flatMap quoC).length ≤ 2 * s.length := by
  induction s with
  | nil => simp
  | cons c r ih =>
   rw [List.flatMap_cons, List.length_append, List.length_cons]
   have : (quoC c).length ≤ 2 := by unfold quoC; (repeat' split) <;> simp
   omega
 unfold quoV
 rw [List.length_append, List.length_cons]
 simp only [List.length_cons, List.length_nil]
 omega
theorem num_len {f : Fld} {n : Int} (hn : InR n) (hw : f.wd ≤ 1000) (hp : f.pr ≤ 1000) : (numV f n).length ≤ 100000 := by
 have hd : (digsV f n).length ≤ 1100 := by
  have hl := txt_len (b := baseV f.lt) (by unfold baseV; (repeat' split) <;> omega) (n := n.natAbs) (by simp only [InR] at hn; omega)
  unfold digsV
  simp only
  have h1 : (if f.lt = 88 then (txtB (baseV f.lt) n.natAbs).map upC else txtB (baseV f.lt) n.natAbs).length ≤ 64 := by split <;> simpa using hl
  generalize (if f.lt = 88 then (txtB (baseV f.lt) n.natAbs).map upC else txtB (baseV f.lt) n.natAbs) = d at *
  have h2 : (if f.pr = 0 ∧ n = 0 then [] else d).length ≤ 64 := by
   split
   ·simp
   ·exact h1
  generalize (if f.pr = 0 ∧ n = 0 then [] else d) = d2 at *
  split
  ·rw [List.length_append, rep_len]; omega
  ·omega
 have hs : (signV f n).length ≤ 1 := by
  unfold signV
  (repeat' split) <;> simp
 have hpl : (if f.ha ∧ n ≠ 0 ∧ f.lt ≠ 100 then preV f.lt (digsV f n) else []).length ≤ 2 := by
  unfold preV
  (repeat' split) <;> simp
 unfold numV
 simp only
 generalize digsV f n = d at *
 generalize (if f.ha ∧ n ≠ 0 ∧ f.lt ≠ 100 then preV f.lt d else []) = q at *
 generalize signV f n = sg at *
 refine Nat.le_trans (padded_len hw _) ?_
 have hfr : (sg ++ q).length ≤ 3 := by rw [List.length_append]; omega
 generalize sg ++ q = fr at *
 rw [List.length_append]
 split
 ·rw [List.length_append, rep_len]; omega
 ·omega
theorem fill_len {args : List Ag} {u : Nat} {f : Fld} (hA : AgsOk args) (hf : FrOk f) : (fillV args u f).1.length ≤ 3000000 := by
 unfold fillV
 split
 ·have := hf.2.2; simp only; omega
 ·simp only
  split
  ·simp
  ·rename_i hs
   split
   ·simp
   ·have hso := stars_ok (args := args) (u := u) hf.1 (by simpa using hs)
    have hoa := ofA_ok hA (starsV args u f).2.1 f.nm
    generalize (starsV args u f).2.2 = sf at *
    generalize (ofA args (starsV args u f).2.1 f.nm).1 = oa at *
    obtain ⟨⟨hw, hp⟩, _, _⟩ := hso
    have htl := text_len hoa
    cases hq : putV sf oa with
    | none => simp
    | some t =>
     simp only
     unfold putV at hq
     split at hq
     ·cases hq
      have h1 := padded_len hw.2 (shortV sf (textV oa))
      have h2 := short_len sf (textV oa)
      omega
     ·split at hq
      ·cases hq
       have h1 := padded_len hw.2 (shortV sf (quoV (textV oa)))
       have h2 := short_len sf (quoV (textV oa))
       have h3 := quo_len (textV oa)
       omega
      ·split at hq
       ·split at hq
        ·split at hq
         ·cases hq
         ·cases hq
          have h1 := padded_len hw.2 (oa.tx.take 1)
          have h2 : (oa.tx.take 1).length ≤ 1 := by rw [List.length_take]; omega
          omega
        ·split at hq
         ·cases hq
         ·cases hq
          have h1 := padded_len hw.2 [UInt8.ofNat oa.int.toNat]
          simp at h1
          omega
       ·cases hna : numA oa with
        | none => rw [hna] at hq; cases hq
        | some n =>
         rw [hna] at hq
         cases hq
         have := num_len (f := sf) (numA_in hoa hna) hw.2 hp.2
         omega
theorem fill_le {args : List Ag} {u : Nat} (h : u ≤ args.length) (f : Fld) : (fillV args u f).2.2 ≤ args.length := by
 have h1 := stars_le h f
 have h2 := ofA_le h1 f.nm
 unfold fillV
 split
 ·exact h
 ·simp only
  split
  ·exact h1
  ·split
   ·exact h2
   ·cases putV (starsV args u f).2.2 (ofA args (starsV args u f).2.1 f.nm).1 <;> exact h2
end Go.Proofs.YtelhdhofnohkcaaGreatDoor
namespace Go.Proofs.YtelhdhofnohkcaaGreatDoor
open Go.RowKit
theorem bX : Builder.Extra Tryz.prog Tryz.lays169_ren := Tryz.Builder_Extra_169
set_option maxHeartbeats 1000000 in
set_option maxRecDepth 100000 in
theorem cc_used (b : Nat) (w : World) (h0 : w.cell? ⟨b, 0, none⟩ = some (.pointer (some ⟨b, 0, none⟩))) :
  Calls Tryz.prog 58 #[.pointer (some ⟨b, 0, none⟩)] w fun e w' => e = .returned (.tuple #[]) ∧ w' = w := by
 obtain ⟨j, hj, _⟩ := Option.map_eq_some_iff.1 bX.sizeBuilder
 go_enter Tryz.func58, Tryz.ntmps58
 go_wp2
 rw [Lib.run_neq_ptr_same w _ Tryz.underlying67 hj]
 go_wp2
 go_end0
 exact ⟨rfl, rfl⟩
set_option maxHeartbeats 1000000 in
set_option maxRecDepth 100000 in
theorem cc_fresh (b : Nat) (w : World) (h0 : w.cell? ⟨b, 0, none⟩ = some (.pointer none)) (hsh : w.shape? b = some (70, 2)) (hfz : w.frozen? ⟨b, 0, none⟩ = false) :
  Calls Tryz.prog 58 #[.pointer (some ⟨b, 0, none⟩)] w fun e w' => e = .returned (.tuple #[]) ∧ w' = w.setCell ⟨b, 0, none⟩ (.pointer (some ⟨b, 0, none⟩)) := by
 obtain ⟨j, hj, hjs⟩ := Option.map_eq_some_iff.1 bX.sizeBuilder
 go_enter Tryz.func58, Tryz.ntmps58
 go_wp2
 rw [Lib.run_to_unsafe w ⟨b, 0, none⟩ Tryz.underlying67 Tryz.underlying151 hj (by rw [hjs]; decide) hsh (Nat.zero_lt_succ 1)]
 simp only [Result.andThen]
 rw [Oper.upon_value]
 go_wp2
 rw [run_callFunc_extern Tryz.func91 (by kernel_rfl) (by kernel_rfl) (by kernel_rfl) (e := Extern.AbiNoEscape.same) (by kernel_rfl)]
 rw [Lib.run_noEscape]
 simp only [Result.andThen]
 rw [Oper.upon_value]
 go_wp2
 rw [Lib.run_from_unsafe w ⟨b, 0, none⟩ Tryz.underlying151 Tryz.underlying67 hj hsh bX.liesBuilder]
 simp only [Result.andThen]
 rw [Oper.upon_value]
 go_wp2
 go_end0
 exact ⟨rfl, rfl⟩
section
variable {P : Program} {w : World}
theorem app_exact (t u e : TypeId) (i : TypeInfo) (ht : P.underlying t = some (.slice e)) (hu : P.underlying u = some .string) (hi : P.info? e = some i) (hz : i.zero = some (.int .u8 0))
  (hsize : i.size = 1) (hby : i.bytes = 1) (v : Value) (n : Nat) (xs : List Value) (hown : w.ownsRowF 0 e 1 v n xs) (s : ByteArray) (h63 : n + s.size ≤ maxLen) (hbytes : n + s.size ≤ 140737488355328) :
  ∃ v' w', (∀ ty, (Builtin.append_ #[t, u] ty #[v, .string s]).run P w = .ok v' w') ∧ w'.ownsRowF 0 e 1 v' (n + s.size) (xs ++ Lib.strCells s) ∧ w.grownBy w' v.ownBlock ∧
   (v'.ownBlock = v.ownBlock ∨ ∀ k, v'.ownBlock = some k → w.heap.size ≤ k) := by
 obtain ⟨v', w', h1, h2, h3, _⟩ := Lib.run_append_own_stringF (P := P) w 0 t u t e i ht hu hi hz hsize hby v n xs hown s h63 hbytes (Nat.zero_le _)
 refine ⟨v', w', fun _ => h1, h2, h3, ?_⟩
 have hsmall : n + s.size ≤ 9223372036854775807 := by simp only [maxLen] at h63; omega
 rcases hown.2 with ⟨rfl, rfl⟩ | ⟨g, cap, cur, fz, rfl, hbg, hg, hfz, hnc, hcm, hcs, htake⟩
 ·obtain ⟨v2, w2, q1, q2, _, _⟩ := Lib.run_append_own_string (P := P) w w.heap.size t u t e i ht hu hi hz hsize hby (.slice none 0 0) 0 xs ⟨hown.1, .inl ⟨rfl, rfl⟩⟩ s h63 hbytes (Nat.le_refl _)
  rw [h1] at q1
  injection q1 with q1 q1'
  subst q1 q1'
  refine .inr fun k hk => ?_
  rcases q2.2 with ⟨hv, _⟩ | ⟨g, cap, cur, hv, hb, _⟩
  ·rw [hv] at hk; cases hk
  ·rw [hv] at hk
   simp only [Value.ownBlock, Option.some.injEq] at hk
   omega
 ·have hxl : xs.length = n := by simpa using hown.1
  by_cases hroom : n + s.size ≤ cap
  ·have hr := Lib.run_append_room_stringF (P := P) w t u t e i ht hu hi hsize g n cap cur fz hg (by simpa using hfz) s hroom (by omega)
   rw [h1] at hr
   injection hr with q1 q1'
   subst q1
   exact .inl rfl
  ·have holds : ∀ j u, xs[j]? = some u → w.cell? ((⟨g, 0, none⟩ : Addr).add j) = some u := hown.cells (g := g) rfl
   have hr := Lib.run_append_grow_string (P := P) w t u t e i (.int .u8 0) ht hu hi hz ⟨g, 0, none⟩ n cap xs (by rw [hsize]; simpa using hxl) holds s (by omega) (by omega) (by rw [hby]; exact growslice_fits (by omega) (by omega))
   rw [h1] at hr
   injection hr with q1 q1'
   subst q1
   refine .inr fun k hk => ?_
   simp [Value.ownBlock] at hk
   omega
theorem wpList_app {ops : Array Oper} {rest : List Oper} {o : Oper} {a : Act} {Q : Exit → Act → World → Prop} (hgd : o.guard = none) (sl x : Operand) (t u : TypeId)
  (ho : o.op = .call { callee := .builtin .append, args := #[sl, x], argTypes := #[t, u] }) (v : Value) (hs : a.eval sl = v) (s : ByteArray) (hx : a.eval x = .string s)
  {v' : Value} {w' : World} (hr : ∀ ty, (Builtin.append_ #[t, u] ty #[v, .string s]).run P w = .ok v' w') (h : wpList P ops Q rest (a.put o.dst v') w') : wpList P ops Q (o :: rest) a w := by
 refine wpList_plain hgd fun K hK => ?_
 unfold Oper.wp execOp
 simp only [ho, resolve, invoke, builtin, Sem.run_bind, Sem.run_pure, Result.andThen_ok, List.map_toArray, List.map_cons, List.map_nil, hs, hx, hr]
 exact hK _ _ h
end
set_option maxHeartbeats 2000000 in
set_option maxRecDepth 100000 in
theorem ws_calls (b : Nat) (p v : Value) (l : List UInt8) (s : ByteArray) (w : World) (hb : w.heap[b]? = some (.cells #[p, v] 70 (0, 0))) (hp : p = .pointer none ∨ p = .pointer (some ⟨b, 0, none⟩))
  (hown : w.ownsRowF 0 5 1 v l.length (Lib.byteCells l)) (hne : v.ownBlock ≠ some b) (hlen : l.length + s.size ≤ 140737488355328) :
  Calls Tryz.prog 37 #[.pointer (some ⟨b, 0, none⟩), .string s] w fun e w' => e = .returned (.tuple #[.int .i64 s.size, .nilIface]) ∧
   ∃ v', w'.heap[b]? = some (.cells #[.pointer (some ⟨b, 0, none⟩), v'] 70 (0, 0)) ∧ w'.ownsRowF 0 5 1 v' (l.length + s.size) (Lib.byteCells l ++ Lib.strCells s) ∧
    (v'.ownBlock = v.ownBlock ∨ ∀ k, v'.ownBlock = some k → w.heap.size ≤ k) ∧ v'.ownBlock ≠ some b ∧
    w'.os = w.os ∧ w'.tape = w.tape ∧ w'.output = w.output ∧ w.heap.size ≤ w'.heap.size ∧ ∀ k, k < w.heap.size → k ≠ b → v.ownBlock ≠ some k → w'.heap[k]? = w.heap[k]? := by
 obtain ⟨i0, hi, hz0, hz1, hz2⟩ := info_parts bX.infoByte
 have hlt : b < w.heap.size := by
  rcases Nat.lt_or_ge b w.heap.size with h' | h'
  ·exact h'
  ·simp [Array.getElem?_eq_none h'] at hb
 have hcc : Calls Tryz.prog 58 #[.pointer (some ⟨b, 0, none⟩)] w fun e w' => e = .returned (.tuple #[]) ∧ w'.heap[b]? = some (.cells #[.pointer (some ⟨b, 0, none⟩), v] 70 (0, 0)) ∧ w'.os = w.os ∧ w'.tape = w.tape ∧ w'.output = w.output ∧ w'.heap.size = w.heap.size ∧
   ∀ k, k ≠ b → w'.heap[k]? = w.heap[k]? := by
  rcases hp with rfl | rfl
  ·refine (cc_fresh b w (by rw [Lib.cell_of_heap hb]; rfl) (by simp [World.shape?, hb]) (Lib.frozen_of_heap hb 0)).mono ?_
   rintro e w' ⟨rfl, rfl⟩
   exact ⟨rfl, heap_setCell_same _ _ _ _ _ _ hb, rfl, rfl, rfl, by simp, fun k hk => heap_setCell_other _ _ _ _ hk⟩
  ·refine (cc_used b w (by rw [Lib.cell_of_heap hb]; rfl)).mono ?_
   rintro e w' ⟨rfl, rfl⟩
   exact ⟨rfl, hb, rfl, rfl, rfl, rfl, fun _ _ => rfl⟩
 go_enter Tryz.func37, Tryz.ntmps37
 go_wp2_with (go_at_call 58; refine hcc.mono ?_)
 rintro e w1 ⟨rfl, hbk, ho1, ho2, ho3, hs1, hk1⟩
 have hown1 : w1.ownsRowF 0 5 1 v l.length (Lib.byteCells l) :=
  hown.kept (row := some b) ⟨ho1, ho2, ho3, by omega, fun k _ hk => hk1 k (fun e => hk (by simp [e]))⟩ (Or.inr hne)
 have c0 : w1.cell? ⟨b, 0, none⟩ = some (.pointer (some ⟨b, 0, none⟩)) := by rw [Lib.cell_of_heap hbk]; rfl
 have c1 : w1.cell? ⟨b, 1, none⟩ = some v := by rw [Lib.cell_of_heap hbk]; rfl
 obtain ⟨v', w2, hrun, hown', hgrow, hat⟩ := app_exact (P := Tryz.prog) (w := w1) 68 9 5 i0 Tryz.underlying68 Tryz.underlying9 hi hz0 hz1 hz2 v l.length _ hown1 s (by unfold maxLen; omega) hlen
 have hlt1 : b < w1.heap.size := by omega
 have hb2 : w2.heap[b]? = some (.cells #[.pointer (some ⟨b, 0, none⟩), v] 70 (0, 0)) := by
  rw [hgrow.block b hlt1 (fun e => hne e.symm)]
  exact hbk
 have d0 : w2.cell? ⟨b, 0, none⟩ = some (.pointer (some ⟨b, 0, none⟩)) := by rw [Lib.cell_of_heap hb2]; rfl
 have d1 : w2.cell? ⟨b, 1, none⟩ = some v := by rw [Lib.cell_of_heap hb2]; rfl
 have f1 : w2.frozen? ⟨b, 1, none⟩ = false := Lib.frozen_of_heap hb2 1
 have hne' : v'.ownBlock ≠ some b := by
  rcases hat with h | h
  ·rw [h]; exact hne
  ·intro e; have := h b e; omega
 obtain ⟨ao, n', cap, rfl⟩ : ∃ ao n' cap, v' = .slice ao n' cap := by
  rcases hown'.2 with ⟨hv, _⟩ | ⟨g, cap, cur, fz, hv, _⟩
  ·exact ⟨_, _, _, hv⟩
  ·exact ⟨_, _, _, hv⟩
 go_wp2_with (at_builtin; refine wpList_app rfl _ _ 68 9 rfl _ rfl s rfl hrun ?_)
 go_ret2
 refine ⟨rfl, _, heap_setCell_same _ _ _ _ _ _ hb2, ?_, ?_, hne', hgrow.os.trans ho1, hgrow.tape.trans ho2, hgrow.output.trans ho3, ?_, ?_⟩
 ·exact hown'.kept (row := some b) ⟨rfl, rfl, rfl, by simp, fun k _ hk => heap_setCell_other _ _ _ _ (fun e => hk (by simp [e]))⟩ (Or.inr hne')
 ·rcases hat with h | h
  ·exact .inl h
  ·exact .inr fun k hk => by have := h k hk; omega
 ·have := hgrow.size; simp; omega
 ·intro k hk hkb hkv
  rw [heap_setCell_other _ _ _ _ hkb, hgrow.block k (by omega) (fun e => hkv e.symm), hk1 k hkb]
theorem freeze_other (w : World) (ad : Addr) (m k : Nat) (h : k ≠ ad.block) : (w.freeze ad m).heap[k]? = w.heap[k]? := by
 unfold World.freeze
 by_cases hm : m = 0
 ·simp [hm]
 ·rw [if_neg hm]
  simp only [Array.getElem?_modify]
  rw [if_neg (fun e => h e.symm)]
theorem freeze_rest (w : World) (ad : Addr) (m : Nat) : (w.freeze ad m).heap.size = w.heap.size ∧ (w.freeze ad m).os = w.os ∧ (w.freeze ad m).tape = w.tape ∧ (w.freeze ad m).output = w.output := by
 unfold World.freeze
 by_cases hm : m = 0
 ·simp [hm]
 ·rw [if_neg hm]
  exact ⟨by simp, rfl, rfl, rfl⟩
set_option maxHeartbeats 2000000 in
set_option maxRecDepth 100000 in
theorem str_calls (b : Nat) (p v : Value) (l : List UInt8) (w : World) (hbk : w.heap[b]? = some (.cells #[p, v] 70 (0, 0))) (hown : w.ownsRowF 0 5 1 v l.length (Lib.byteCells l)) (hne : v.ownBlock ≠ some b) (h0 : l ≠ []) :
  Calls Tryz.prog 39 #[.pointer (some ⟨b, 0, none⟩)] w fun e w' => e = .returned (.string ⟨l.toArray⟩) ∧ w'.heap[b]? = some (.cells #[p, v] 70 (0, 0)) ∧ w'.ownsRowF 0 5 1 v l.length (Lib.byteCells l) ∧
   w'.os = w.os ∧ w'.tape = w.tape ∧ w'.output = w.output ∧ w.heap.size ≤ w'.heap.size ∧ ∀ k, k ≠ b → v.ownBlock ≠ some k → w'.heap[k]? = w.heap[k]? := by
 have hl0 : l.length ≠ 0 := by simpa using h0
 obtain ⟨g, cap, cur, fz, rfl, hbg, hg, hfz, hnc, hcm, hcs, htake⟩ : ∃ g cap cur fz, v = .slice (some ⟨g, 0, none⟩) l.length cap ∧ 0 ≤ g ∧ w.heap[g]? = some (.cells cur 5 fz) ∧ fz.2 ≤ l.length * 1 ∧ l.length ≤ cap ∧ cap ≤ maxLen ∧ cur.size = cap * 1 ∧ cur.toList.take (l.length * 1) = Lib.byteCells l := by
  rcases hown.2 with ⟨_, hz⟩ | ⟨g, cap, cur, fz, hv, r⟩
  ·exact absurd hz hl0
  ·exact ⟨g, cap, cur, fz, hv, r⟩
 have hgb : g ≠ b := fun e => hne (by simp [Value.ownBlock, e])
 have c1 : w.drew.cell? ⟨b, 1, none⟩ = some (.slice (some ⟨g, 0, none⟩) l.length cap) := by
  have : w.drew.heap[b]? = some (.cells #[p, .slice (some ⟨g, 0, none⟩) l.length cap] 70 (0, 0)) := hbk
  rw [Lib.cell_of_heap this]; rfl
 have hSD : (Builtin.unsafeSliceData_ #[68] 115 #[.slice (some ⟨g, 0, none⟩) l.length cap]).run Tryz.prog w.drew = .ok (.pointer (some ⟨g, 0, none⟩)) w.drew :=
  Lib.run_unsafeSliceData_row _ _ _ _ _ _ (by omega)
 have hUS : (Builtin.unsafeString_ #[115, 3] 9 #[.pointer (some ⟨g, 0, none⟩), .int .i64 l.length]).run Tryz.prog w.drew = .ok (.string ⟨l.toArray⟩) (w.drew.freeze ⟨g, 0, none⟩ l.length) := by
  refine Lib.run_unsafeString_row w.drew 115 3 9 5 Tryz.underlying115 bX.cellsByte g cur.size (by have hg' : w.drew.heap[g]? = some (.cells cur 5 fz) := hg; simp [World.shape?, hg']) l h0 (by omega) (by unfold maxLen at hcm; omega) ?_
  intro j x hx
  have := hown.cells (g := g) rfl j (.int .u8 x.toNat) (by simp [Lib.byteCells, hx])
  exact this
 have hA : Lib.BuilderAtF 70 5 0 b p (Lib.byteCells l) w.drew := ⟨Nat.zero_le _, _, hbk, by rw [Lib.byteCells_length]; exact hown, hne⟩
 have hF := hA.froze (g := g) (cap := cap) (by rw [Lib.byteCells_length]; exact c1)
 rw [Lib.byteCells_length] at hF
 obtain ⟨_, v', hb', hown', _⟩ := hF
 rw [Lib.byteCells_length] at hown'
 have hb2 : (w.drew.freeze ⟨g, 0, none⟩ l.length).heap[b]? = some (.cells #[p, .slice (some ⟨g, 0, none⟩) l.length cap] 70 (0, 0)) := (freeze_other _ _ _ _ (fun e => hgb e.symm)).trans hbk
 have hv : v' = .slice (some ⟨g, 0, none⟩) l.length cap := by
  rw [hb2] at hb'
  simp at hb'
  exact hb'.symm
 subst hv
 obtain ⟨f1, f2, f3, f4⟩ := freeze_rest w.drew ⟨g, 0, none⟩ l.length
 have hend : ∀ k, k ≠ b → (Value.slice (some ⟨g, 0, none⟩) l.length cap).ownBlock ≠ some k → (w.drew.freeze ⟨g, 0, none⟩ l.length).heap[k]? = w.heap[k]? :=
  fun k _ hk => freeze_other _ _ _ _ (fun e => hk (by simp [Value.ownBlock, e]))
 have mixed := Tryz.lays169.mixed
 go_enter Tryz.func39, Tryz.ntmps39
 go_wp2
 go_region_o
 all_goals (go_wp2; go_ret; exact ⟨rfl, hb2, hown', f2, f3, f4, Nat.le_of_eq f1.symm, hend⟩)
end Go.Proofs.YtelhdhofnohkcaaGreatDoor
namespace Go.Proofs.YtelhdhofnohkcaaGreatDoor
open Go.Eng Go.Fm
set_option maxRecDepth 20000
theorem strCells_eq (s : List UInt8) : Lib.strCells ⟨s.toArray⟩ = Lib.byteCells s := by
 simp [Lib.strCells, Lib.byteCells]
theorem Qz (nb nr gb gr : Nat) (l s : List UInt8) (h1 : 900000 ≤ nb) (h2 : 900000 ≤ nr) (hd : nb ≠ nr) (hlen : l.length + s.length ≤ 140737488355328) :
  ACall Tryz.prog 37 [.ptr nb gb 0, dS s] [(nb, (gb, .bld 70 nr gr)), (nr, (gr, .brow 5 l))] [nb, nr] fun ps r => ∃ gr', ps = [(gb, .bld 70 nr gr'), (gr', .brow 5 (l ++ s))] ∧ r = .tup [dI s.length, .v .nilIface] := by
 refine zY (xs := [.string ⟨s.toArray⟩]) (x := .tuple #[.int .i64 s.length, .nilIface]) ⟨_, Tryz.func37, rfl, rfl⟩ h1 h2 hd (fun C w => ?_) fun b p v w _ hb hp hown hne => ?_
 ·refine .tup _ _ rfl fun j c u hc hu => ?_
  match j, hc, hu with
  | 0, hc, hu => simp at hc hu; subst hc hu; exact .v _
  | 1, hc, hu => simp at hc hu; subst hc hu; exact .v _
  | j + 2, hc, hu => simp at hc
 ·refine (ws_calls b p v l ⟨s.toArray⟩ w hb hp hown hne (by simpa [ByteArray.size] using hlen)).mono ?_
  rintro e w' ⟨he, v', q1, q2, q3, q4, q5, q6, q7, q8, q9⟩
  refine ⟨by simpa [ByteArray.size] using he, _, v', q1, .inr rfl, ?_, q3, q4, q5, q6, q7, q8, q9⟩
  rw [strCells_eq] at q2
  simpa [ByteArray.size, Lib.byteCells] using q2
theorem Q8 (nb nr gb gr : Nat) (l : List UInt8) (h1 : 900000 ≤ nb) (h2 : 900000 ≤ nr) (hd : nb ≠ nr) (h0 : l ≠ []) :
  ACall Tryz.prog 39 [.ptr nb gb 0] [(nb, (gb, .bld 70 nr gr)), (nr, (gr, .brow 5 l))] [nb, nr] fun ps r => ∃ gr', ps = [(gb, .bld 70 nr gr'), (gr', .brow 5 l)] ∧ r = dS l := by
 refine zY (xs := []) (x := .string ⟨l.toArray⟩) ⟨_, Tryz.func39, rfl, rfl⟩ h1 h2 hd (fun C w => .v _) fun b p v w _ hb hp hown hne => ?_
 refine (str_calls b p v l w hb hown hne h0).mono ?_
 rintro e w' ⟨he, q1, q2, q3, q4, q5, q6, q7⟩
 exact ⟨he, p, v, q1, hp, q2, .inl rfl, hne, q3, q4, q5, q6, fun k _ => q7 k⟩
end Go.Proofs.YtelhdhofnohkcaaGreatDoor
namespace Go.Proofs.YtelhdhofnohkcaaGreatDoor
open Go.Eng Go.Fm Go.RowKit
set_option maxRecDepth 20000
theorem us_none (p : Option Addr) (w : World) : (Builtin.unsafeString_ #[115, 3] 9 #[.pointer p, .int .i64 0]).run Tryz.prog w = .ok (.string ⟨#[]⟩) w := Lib.run_unsafeString_none (P := Tryz.prog) w 115 3 9 p
set_option maxHeartbeats 4000000 in
set_option maxRecDepth 100000 in
theorem str0_calls (b : Nat) (p v : Value) (w : World) (hbk : w.heap[b]? = some (.cells #[p, v] 70 (0, 0))) (hown : w.ownsRowF 0 5 1 v 0 (Lib.byteCells [])) (hne : v.ownBlock ≠ some b) :
  Calls Tryz.prog 39 #[.pointer (some ⟨b, 0, none⟩)] w fun e w' => e = .returned (.string ⟨#[]⟩) ∧ w'.heap[b]? = some (.cells #[p, v] 70 (0, 0)) ∧ w'.ownsRowF 0 5 1 v 0 (Lib.byteCells []) ∧
   w'.os = w.os ∧ w'.tape = w.tape ∧ w'.output = w.output ∧ w.heap.size ≤ w'.heap.size ∧ ∀ k, k < w.heap.size → w'.heap[k]? = w.heap[k]? := by
 have hlt : b < w.heap.size := by
  rcases Nat.lt_or_ge b w.heap.size with h' | h'
  ·exact h'
  ·simp [Array.getElem?_eq_none h'] at hbk
 have hUS := us_none
 have mixed := Tryz.lays169.mixed
 rcases hown.2 with ⟨rfl, _⟩ | ⟨g, cap, cur, fz, rfl, hbg, hg, hfz, hnc, hcm, hcs, htake⟩
 ·have c1 : w.drew.cell? ⟨b, 1, none⟩ = some (.slice none 0 0) := by
   have : w.drew.heap[b]? = some (.cells #[p, .slice none 0 0] 70 (0, 0)) := hbk
   rw [Lib.cell_of_heap this]; rfl
  have hSD : (Builtin.unsafeSliceData_ #[68] 115 #[.slice none 0 0]).run Tryz.prog w.drew = .ok (.pointer none) w.drew := rfl
  go_enter Tryz.func39, Tryz.ntmps39
  go_wp2
  go_region_o
  all_goals (go_wp2; go_ret; exact ⟨rfl, hbk, hown, rfl, rfl, rfl, Nat.le_refl _, fun _ _ => rfl⟩)
 ·by_cases hc0 : cap = 0
  ·subst hc0
   have c1 : w.drew.cell? ⟨b, 1, none⟩ = some (.slice (some ⟨g, 0, none⟩) 0 0) := by
    have : w.drew.heap[b]? = some (.cells #[p, .slice (some ⟨g, 0, none⟩) 0 0] 70 (0, 0)) := hbk
    rw [Lib.cell_of_heap this]; rfl
   have hSD : (Builtin.unsafeSliceData_ #[68] 115 #[.slice (some ⟨g, 0, none⟩) 0 0]).run Tryz.prog w.drew = .ok (.pointer (some ⟨w.drew.heap.size, 0, none⟩)) (w.drew.alloc (.view ⟨g, 0, none⟩ 5)) :=
    Lib.run_unsafeSliceData_zero w.drew _ _ 5 Tryz.underlying115 ⟨g, 0, none⟩ 0 (5, cur.size) (by have hg' : w.drew.heap[g]? = some (.cells cur 5 fz) := hg; simp [World.shape?, hg'])
   have c2 : (w.drew.alloc (.view ⟨g, 0, none⟩ 5)).cell? ⟨b, 1, none⟩ = some (.slice (some ⟨g, 0, none⟩) 0 0) := by
    have : (w.drew.alloc (.view ⟨g, 0, none⟩ 5)).heap[b]? = _ := (Lib.alloc_old w.drew _ b hlt).trans hbk
    rw [Lib.cell_of_heap this]; rfl
   have c3 : (w.alloc (.view ⟨g, 0, none⟩ 5)).drew.cell? ⟨b, 1, none⟩ = some (.slice (some ⟨g, 0, none⟩) 0 0) := c2
   have c0 : w.cell? ⟨b, 1, none⟩ = some (.slice (some ⟨g, 0, none⟩) 0 0) := c1
   have hrest : ∀ k, k < w.heap.size → (w.drew.alloc (.view ⟨g, 0, none⟩ 5)).heap[k]? = w.heap[k]? := fun k hk => Lib.alloc_old w.drew _ k hk
   have hglt : g < w.heap.size := by
    rcases Nat.lt_or_ge g w.heap.size with h' | h'
    ·exact h'
    ·simp [Array.getElem?_eq_none h'] at hg
   have hown' : (w.drew.alloc (.view ⟨g, 0, none⟩ 5)).ownsRowF 0 5 1 (.slice (some ⟨g, 0, none⟩) 0 0) 0 (Lib.byteCells []) := ⟨hown.1, .inr ⟨g, 0, cur, fz, rfl, hbg, (hrest g hglt).trans hg, hfz, hnc, hcm, hcs, htake⟩⟩
   go_enter Tryz.func39, Tryz.ntmps39
   go_wp2
   go_region_o
   all_goals (go_wp2; go_ret; exact ⟨rfl, (hrest b hlt).trans hbk, hown', rfl, rfl, rfl, (Same.alloc w.drew _).1, hrest⟩)
  ·have c1 : w.drew.cell? ⟨b, 1, none⟩ = some (.slice (some ⟨g, 0, none⟩) 0 cap) := by
    have : w.drew.heap[b]? = some (.cells #[p, .slice (some ⟨g, 0, none⟩) 0 cap] 70 (0, 0)) := hbk
    rw [Lib.cell_of_heap this]; rfl
   have hSD : (Builtin.unsafeSliceData_ #[68] 115 #[.slice (some ⟨g, 0, none⟩) 0 cap]).run Tryz.prog w.drew = .ok (.pointer (some ⟨g, 0, none⟩)) w.drew :=
    Lib.run_unsafeSliceData_row _ _ _ _ _ _ hc0
   clear hc0
   go_enter Tryz.func39, Tryz.ntmps39
   go_wp2
   go_region_o
   all_goals (go_wp2; go_ret; exact ⟨rfl, hbk, hown, rfl, rfl, rfl, Nat.le_refl _, fun _ _ => rfl⟩)
theorem wz (nb nr gb gr : Nat) (l : List UInt8) (h1 : 900000 ≤ nb) (h2 : 900000 ≤ nr) (hd : nb ≠ nr) :
  ACall Tryz.prog 39 [.ptr nb gb 0] [(nb, (gb, .bld 70 nr gr)), (nr, (gr, .brow 5 l))] [nb, nr] fun ps r => ∃ gr', ps = [(gb, .bld 70 nr gr'), (gr', .brow 5 l)] ∧ r = dS l := by
 cases l with
 | cons x l => exact Q8 nb nr gb gr (x :: l) h1 h2 hd (by simp)
 | nil =>
  refine zY (xs := []) (x := .string ⟨#[]⟩) ⟨_, Tryz.func39, rfl, rfl⟩ h1 h2 hd (fun C w => .v _) fun b p v w _ hb hp hown hne => ?_
  refine (str0_calls b p v w hb hown hne).mono ?_
  rintro e w' ⟨he, q1, q2, q3, q4, q5, q6, q7⟩
  refine ⟨he, p, v, q1, hp, q2, .inl rfl, hne, q3, q4, q5, q6, fun k hk _ _ => q7 k hk⟩
theorem Qo (nb nr gb gr : Nat) (l : List UInt8) (h1 : 900000 ≤ nb) (h2 : 900000 ≤ nr) (hd : nb ≠ nr) :
  ACall Tryz.prog 50 [.ptr nb gb 0] [(nb, (gb, .bld 70 nr gr)), (nr, (gr, .brow 5 l))] [nb, nr] fun ps r => ∃ gr', ps = [(gb, .bld 70 nr gr'), (gr', .brow 5 l)] ∧ r = dI l.length := by
 refine zY (xs := []) (x := .int .i64 l.length) ⟨_, Tryz.func50, rfl, rfl⟩ h1 h2 hd (fun C w => .v _) fun b p v w _ hb hp hown hne => ?_
 have hA : Lib.BuilderAtF 70 5 0 b p (Lib.byteCells l) w := ⟨Nat.zero_le _, _, hb, by rw [Lib.byteCells_length]; exact hown, hne⟩
 have hI : Lib.IsBuilderF 70 5 0 b (Lib.byteCells l) w := by
  rcases hp with rfl | rfl
  ·exact .inl hA
  ·exact .inr hA
 refine (Tryz.Builder_Len_f 0 b (Lib.byteCells l) w hI).mono ?_
 rintro e w' ⟨he, rfl⟩
 exact ⟨by rw [he, Lib.byteCells_length], p, v, hb, hp, hown, .inl rfl, hne, rfl, rfl, rfl, Nat.le_refl _, fun _ _ _ _ => rfl⟩
end Go.Proofs.YtelhdhofnohkcaaGreatDoor
namespace Go.Proofs.YtelhdhofnohkcaaGreatDoor
open Go.Eng Go.Fm
set_option maxRecDepth 20000
attribute [local irreducible] AG CallA CallT AWp PCall ACall AgC
def FillC (args : List Ag) (f : Fld) : Prop := ∀ u g, u ≤ args.length → ACall Tryz.prog 49 [.ptr 900004 g 0, dF f] [fiB g args u] [900004]
 fun ps r => ps = [(g, .box [dAs args, dI (fillV args u f).2.2])] ∧ r = .tup [dS (fillV args u f).1, dI (fillV args u f).2.1]
theorem fills_at {args : List Ag} {L : List Fld} {i : Nat} {f : Fld} (h : L[i]? = some f) (u : Nat) (out : Bs) :
  fillsV args (L.drop i) u out = if (fillV args u f).2.1 ≠ 0 then ([], 0, (fillV args u f).2.1) else
   if 100000 < (out ++ (fillV args u f).1).length then ([], 0, 1) else fillsV args (L.drop (i + 1)) (fillV args u f).2.2 (out ++ (fillV args u f).1) := by
 have hlt := (List.getElem?_eq_some_iff.1 h).1
 have e : L.drop i = f :: L.drop (i + 1) := by
  rw [List.drop_eq_getElem_cons hlt]
  rw [List.getElem?_eq_getElem hlt] at h
  simp at h; rw [h]
 rw [e, fillsV]
theorem fills_end {args : List Ag} {L : List Fld} (u : Nat) (out : Bs) : fillsV args (L.drop L.length) u out = (out, u, 0) := by rw [List.drop_length]; rfl
set_option maxHeartbeats 32000000 in
theorem ku (form : Bs) (args : List Ag) (hA : AgsOk args) (hfl : form.length ≤ 9223372036854775807) (hF : ∀ L, readV form = some L → ∀ f ∈ L, f.lt ≠ 0 → FillC args f) :
  PCall Tryz.prog 32 [dS form, dAs args] fun r => r = .tup [dS (runV form args).1, dI (runV form args).2.1, dI (runV form args).2.2] := by 
 refine qB Tryz.func32 rfl rfl Tryz.ntmps32 (rs := [.tmp 4, .tmp 5, .tmp 6]) (tys := [9, 3, 34]) rfl rfl (by simp) ?_
 have hR := zL form hfl
 unfold runV
 cases hr : readV form with
 | none =>
  rw [hr] at hR
  simp only
  (refine qc fun Y Yh => ?_; simp [go_sem]; ((repeat' (first|(refine qf ?_;simp [go_sem])|intro _|apply And.intro|(apply Yh;clear Yh Y)));all_goals first|apply QS|omega|with_reducible assumption|skip))
  (refine qc fun Y Yh => ?_; simp [go_sem]; ((repeat' (first|(refine qf ?_;simp [go_sem])|intro _|apply And.intro|(apply Yh;clear Yh Y)));all_goals first|apply QS|omega|with_reducible assumption|skip))
  ((try refine QT ?_); refine qm (.inl ⟨rfl,rfl⟩) (by simp [go_sem]) ?_; intro args ha; simp [go_sem] at ha; subst ha; refine ⟨_, hR, ?_⟩; rintro _ ⟨L', rfl⟩; simp [go_sem]; ((repeat' (first|(refine qf ?_;simp [go_sem])|intro _|apply And.intro|(apply Yh;clear Yh Y)));all_goals first|apply QS|omega|with_reducible assumption|skip))
  refine qh fun K1 hK1 => ?_
  (refine qc fun Y Yh => ?_; simp [go_sem]; ((repeat' (first|(refine qf ?_;simp [go_sem])|intro _|apply And.intro|(apply Yh;clear Yh Y)));all_goals first|apply QS|omega|with_reducible assumption|skip))
  (refine qg fun T F hT hF => ?_; simp [go_sem]; refine hT ?_; clear hT hF T F)
  (refine qc fun Y Yh => ?_; simp [go_sem]; ((repeat' (first|(refine qf ?_;simp [go_sem])|intro _|apply And.intro|(apply Yh;clear Yh Y)));all_goals first|apply QS|omega|with_reducible assumption|skip))
  (refine qj ?_; simp [go_sem])
 | some L =>
  rw [hr] at hR
  have hok := jJ hr
  have hFC := hF L hr
  simp only
  generalize hV : fillsV args L 0 [] = V
  (refine qc fun Y Yh => ?_; simp [go_sem]; ((repeat' (first|(refine qf ?_;simp [go_sem])|intro _|apply And.intro|(apply Yh;clear Yh Y)));all_goals first|apply QS|omega|with_reducible assumption|skip))
  (refine qc fun Y Yh => ?_; simp [go_sem]; ((repeat' (first|(refine qf ?_;simp [go_sem])|intro _|apply And.intro|(apply Yh;clear Yh Y)));all_goals first|apply QS|omega|with_reducible assumption|skip))
  ((try refine QT ?_); refine qm (.inl ⟨rfl,rfl⟩) (by simp [go_sem]) ?_; intro args ha; simp [go_sem] at ha; subst ha; refine ⟨_, hR, ?_⟩; rintro _ rfl; simp [go_sem]; ((repeat' (first|(refine qf ?_;simp [go_sem])|intro _|apply And.intro|(apply Yh;clear Yh Y)));all_goals first|apply QS|omega|with_reducible assumption|skip))
  refine qh fun K1 hK1 => ?_
  (refine qc fun Y Yh => ?_; simp [go_sem]; ((repeat' (first|(refine qf ?_;simp [go_sem])|intro _|apply And.intro|(apply Yh;clear Yh Y)));all_goals first|apply QS|omega|with_reducible assumption|skip))
  (refine qg fun T F hT hF => ?_; simp [go_sem]; refine hF ?_; clear hT hF T F)
  refine qi ?_
  refine hK1 _ ?_; clear hK1
  (refine qc fun Y Yh => ?_; simp [go_sem]; ((repeat' (first|(refine qf ?_;simp [go_sem])|intro _|apply And.intro|(apply Yh;clear Yh Y)));all_goals first|apply QS|omega|with_reducible assumption|skip))
  refine zf 9 900004 rfl rfl (by decide) fun g => ?_
  simp only [go_sem]
  refine QH 70 5 900000 900001 (by decide) (by decide) (by kernel_rfl) fun gb gr => ?_
  refine QG 7 rfl fun hLl => ?_
  simp [lensD] at hLl
  refine qh fun K3 hK3 => ?_
  (refine qc fun Y Yh => ?_; simp [go_sem]; ((repeat' (first|(refine qf ?_;simp [go_sem])|intro _|apply And.intro|(apply Yh;clear Yh Y)));all_goals first|apply QS|omega|with_reducible assumption|skip))
  refine qo ?_
  refine qM (σ := Nat × Bs × Nat × Nat) (fun x => ⟨[(9, .ptr 900004 g 0), (10, .ptr 900000 gb 0), (25, dFs L), (26, dI L.length), (27, dI x.1)], [fiB g args x.2.2.1, (900000, (gb, .bld 70 900001 x.2.2.2)), (900001, (x.2.2.2, .brow 5 x.2.1))]⟩)
   (fun x => x.1 ≤ L.length ∧ x.2.1.length ≤ 100000 ∧ x.2.2.1 ≤ args.length ∧ fillsV args (L.drop x.1) x.2.2.1 x.2.1 = V) (fun x => L.length - x.1) (0, [], 0, gr) ?_ ?_ ?_
  ·(refine ql ?_ ?_ <;> simp [go_sem])
  ·exact ⟨by simp, by simp, by simp, by simpa using hV⟩
  rintro ⟨i, out, u, gr⟩ ⟨hi, ho, hu, hx⟩
  simp only at hi ho hu hx ⊢
  (refine qc fun Y Yh => ?_; simp [go_sem]; ((repeat' (first|(refine qf ?_;simp [go_sem])|intro _|apply And.intro|(apply Yh;clear Yh Y)));all_goals first|apply QS|omega|with_reducible assumption|skip))
  refine qh fun K4 hK4 => ?_
  by_cases hend : i < L.length
  ·(refine qg fun T F hT hF => ?_; simp [go_sem, hend]; refine hT ?_; clear hT hF T F)
   refine qi ?_
   refine hK4 _ ?_; clear hK4
   obtain ⟨f, hf⟩ : ∃ f, L[i]? = some f := ⟨_, List.getElem?_eq_getElem hend⟩
   have hfm := List.mem_of_getElem? hf
   have hfo := hok f hfm
   rw [fills_at hf] at hx
   have hfle := fill_le hu f
   have hflen := fill_len (u := u) hA hfo
   have hf0 : f.lt = 0 → fillV args u f = (f.tx, 0, u) := fun q => by unfold fillV; rw [if_pos q]
   have hFf := fun q => hFC f hfm q u g hu
   generalize fillV args u f = q at *
   obtain ⟨t, e, u'⟩ := q
   simp only at hx hfle hflen hFf
   refine qh fun K6 hK6 => ?_
   refine qo ?_
   have b0 : (f.lt.toNat = 0) = (f.lt = 0) := propext ⟨fun q => UInt8.toNat_inj.1 q, fun q => by rw [q]; rfl⟩
   (refine qc fun Y Yh => ?_; simp [go_sem, hf]; ((repeat' (first|(refine qf ?_;simp [go_sem, hf])|intro _|apply And.intro|(apply Yh;clear Yh Y)));all_goals first|apply QS|omega|with_reducible assumption|skip))
   (refine qc fun Y Yh => ?_; simp [go_sem]; ((repeat' (first|(refine qf ?_;simp [go_sem])|intro _|apply And.intro|(apply Yh;clear Yh Y)));all_goals first|apply QS|omega|with_reducible assumption|skip))
   refine qh fun K7 hK7 => ?_
   have tl7 : ∀ S', e = 0 → Cov S' ⟨[(9, .ptr 900004 g 0), (10, .ptr 900000 gb 0), (13, dS t), (25, dFs L), (26, dI L.length), (27, dI i)], [fiB g args u', (900000, (gb, .bld 70 900001 gr)), (900001, (gr, .brow 5 out))]⟩ → K7 S' := fun S' he hS => by
    refine hK7 _ ?_; clear hK7
    refine qG hS ?_; clear hS
    rw [if_neg (by simpa using he)] at hx
    have hW := Qz 900000 900001 gb gr out t (by decide) (by decide) (by decide) (by omega)
    have hLn := fun gr => Qo 900000 900001 gb gr (out ++ t) (by decide) (by decide) (by decide)
    (refine qc fun Y Yh => ?_; simp [go_sem]; ((repeat' (first|(refine qf ?_;simp [go_sem])|intro _|apply And.intro|(apply Yh;clear Yh Y)));all_goals first|apply QS|omega|with_reducible assumption|skip))
    (refine qN [900000, 900001] (.inl ⟨rfl,rfl⟩) (by simp [go_sem]) ?_; intro args ha; simp [go_sem] at ha; subst ha; refine ⟨_, _, hW, (by simp [go_sem]), ?_⟩; rintro ps r hps ⟨gr', rfl, rfl⟩; simp [go_sem]; ((repeat' (first|(refine qf ?_;simp [go_sem])|intro _|apply And.intro|(apply Yh;clear Yh Y)));all_goals first|apply QS|omega|with_reducible assumption|skip))
    (refine qc fun Y Yh => ?_; simp [go_sem]; ((repeat' (first|(refine qf ?_;simp [go_sem])|intro _|apply And.intro|(apply Yh;clear Yh Y)));all_goals first|apply QS|omega|with_reducible assumption|skip))
    (refine qN [900000, 900001] (.inl ⟨rfl,rfl⟩) (by simp [go_sem]) ?_; intro args ha; simp [go_sem] at ha; subst ha; refine ⟨_, _, (hLn gr'), (by simp [go_sem]), ?_⟩; rintro ps r hps ⟨gr'', rfl, rfl⟩; simp [go_sem]; ((repeat' (first|(refine qf ?_;simp [go_sem])|intro _|apply And.intro|(apply Yh;clear Yh Y)));all_goals first|apply QS|omega|with_reducible assumption|skip))
    by_cases h1 : 100000 < (out ++ t).length
    ·rw [if_pos h1] at hx
     have h1' : (100000 : Int) < (out.length : Int) + t.length := by rw [List.length_append] at h1; omega
     (refine qg fun T F hT hF => ?_; simp [go_sem, h1']; refine hT ?_; clear hT hF T F)
     (refine qc fun Y Yh => ?_; simp [go_sem]; ((repeat' (first|(refine qf ?_;simp [go_sem])|intro _|apply And.intro|(apply Yh;clear Yh Y)));all_goals first|apply QS|omega|with_reducible assumption|skip))
     (refine qj ?_; simp [go_sem])
     rw [← hx]
     simp
    ·rw [if_neg h1] at hx
     have h1' : ¬ (100000 : Int) < (out.length : Int) + t.length := by rw [List.length_append] at h1; omega
     (refine qg fun T F hT hF => ?_; simp [go_sem, h1']; refine hF ?_; clear hT hF T F)
     refine qi ?_
     refine hK6 _ ?_; clear hK6
     (refine qx fun Y Yh => ?_; simp [go_sem]; ((repeat' (first|(refine qf ?_;simp [go_sem])|intro _|apply And.intro|(apply Yh;clear Yh Y)));all_goals first|apply QS|omega|with_reducible assumption|skip))
     refine ⟨(i + 1, out ++ t, u', gr''), ?_, ⟨by simp; omega, by simp only; omega, hfle, hx⟩, by simp; omega⟩
     (refine ql ?_ ?_ <;> simp [go_sem])
   clear hK7
   by_cases hz : f.lt = 0
   ·have := hf0 hz
    simp only [Prod.mk.injEq] at this
    obtain ⟨rfl, rfl, rfl⟩ := this
    (refine qc fun Y Yh => ?_; simp [go_sem, b0]; ((repeat' (first|(refine qf ?_;simp [go_sem, b0])|intro _|apply And.intro|(apply Yh;clear Yh Y)));all_goals first|apply QS|omega|with_reducible assumption|skip))
    (refine qg fun T F hT hF => ?_; simp [go_sem, hz]; refine hF ?_; clear hT hF T F)
    refine qi ?_
    refine tl7 _ rfl ?_
    (refine ql ?_ ?_ <;> simp [go_sem])
   ·have hFd := hFf hz
    (refine qc fun Y Yh => ?_; simp [go_sem, b0]; ((repeat' (first|(refine qf ?_;simp [go_sem, b0])|intro _|apply And.intro|(apply Yh;clear Yh Y)));all_goals first|apply QS|omega|with_reducible assumption|skip))
    (refine qg fun T F hT hF => ?_; simp [go_sem, hz]; refine hT ?_; clear hT hF T F)
    (refine qc fun Y Yh => ?_; simp [go_sem]; ((repeat' (first|(refine qf ?_;simp [go_sem])|intro _|apply And.intro|(apply Yh;clear Yh Y)));all_goals first|apply QS|omega|with_reducible assumption|skip))
    (refine qc fun Y Yh => ?_; simp [go_sem]; ((repeat' (first|(refine qf ?_;simp [go_sem])|intro _|apply And.intro|(apply Yh;clear Yh Y)));all_goals first|apply QS|omega|with_reducible assumption|skip))
    (refine qN [900004] (.inl ⟨rfl,rfl⟩) (by simp [go_sem]) ?_; intro args ha; simp [go_sem] at ha; subst ha; refine ⟨_, _, hFd, (by simp [go_sem]), ?_⟩; rintro ps r hps ⟨rfl, rfl⟩; simp [go_sem]; ((repeat' (first|(refine qf ?_;simp [go_sem])|intro _|apply And.intro|(apply Yh;clear Yh Y)));all_goals first|apply QS|omega|with_reducible assumption|skip))
    by_cases he : e = 0
    ·(refine qc fun Y Yh => ?_; simp [go_sem]; ((repeat' (first|(refine qf ?_;simp [go_sem])|intro _|apply And.intro|(apply Yh;clear Yh Y)));all_goals first|apply QS|omega|with_reducible assumption|skip))
     (refine qg fun T F hT hF => ?_; simp [go_sem, he]; refine hF ?_; clear hT hF T F)
     refine qi ?_
     refine tl7 _ he ?_
     (refine ql ?_ ?_ <;> simp [go_sem])
    ·rw [if_pos (by simpa using he)] at hx
     (refine qc fun Y Yh => ?_; simp [go_sem]; ((repeat' (first|(refine qf ?_;simp [go_sem])|intro _|apply And.intro|(apply Yh;clear Yh Y)));all_goals first|apply QS|omega|with_reducible assumption|skip))
     (refine qg fun T F hT hF => ?_; simp [go_sem, he]; refine hT ?_; clear hT hF T F)
     (refine qc fun Y Yh => ?_; simp [go_sem]; ((repeat' (first|(refine qf ?_;simp [go_sem])|intro _|apply And.intro|(apply Yh;clear Yh Y)));all_goals first|apply QS|omega|with_reducible assumption|skip))
     (refine qj ?_; simp [go_sem])
     rw [← hx]
     simp
  ·have hi2 : i = L.length := by omega
   subst hi2
   rw [fills_end] at hx
   have hS := wz 900000 900001 gb gr out (by decide) (by decide) (by decide)
   (refine qg fun T F hT hF => ?_; simp [go_sem]; refine hF ?_; clear hT hF T F)
   refine qH ?_
   simp only [go_sem]
   refine hK3 _ ?_; clear hK3
   ((refine qX (.qs [1, 2, 3] (.kq 4 (.one 0 (.qs [5, 6, 7] (.nil))) 0 (.qs [5, 4, 6, 7] (.nil)))) (by kernel_rfl) ?_ ?_ ?_ ?_); (kernel_rfl); (exact (by decide +kernel)); (kernel_rfl); intro Y Yh; ((repeat' (first|(refine qf ?_;simp [go_sem])|refine qC ?_|refine jc ?_ ?_|((first|refine qJ fun Y Yh=>?_|refine qR fun Y Yh=>?_);simp [go_sem])|intro _|apply And.intro|(apply Yh;clear Yh Y)));all_goals first|apply QS|omega|with_reducible assumption|skip))
   all_goals (refine qN [900000, 900001] (.inl ⟨rfl,rfl⟩) (by simp [go_sem]) ?_; intro args ha; simp [go_sem] at ha; subst ha; refine ⟨_, _, hS, (by simp [go_sem]), ?_⟩; rintro ps r hps ⟨gr', rfl, rfl⟩; simp [go_sem]; ((repeat' (first|(refine qf ?_;simp [go_sem])|refine qC ?_|refine jc ?_ ?_|((first|refine qJ fun Y Yh=>?_|refine qR fun Y Yh=>?_);simp [go_sem])|intro _|apply And.intro|(apply Yh;clear Yh Y)));all_goals first|apply QS|omega|with_reducible assumption|skip))
   all_goals (refine qj ?_; simp [go_sem])
   all_goals (rw [← hx]; simp)
theorem jC (form : Bs) (args : List Ag) (hA : AgsOk args) (hfl : form.length ≤ 9223372036854775807) (hF : ∀ L, readV form = some L → ∀ f ∈ L, f.lt ≠ 0 → FillC args f) :
  PCall Tryz.prog 13 [dS form, dAs args] fun r => r = .tup [dS (runV form args).1, dI (runV form args).2.2] := by 
 refine qB Tryz.func13 rfl rfl Tryz.ntmps13 (rs := [.tmp 4, .tmp 5]) (tys := [9, 34]) rfl rfl (by simp) ?_
 have hR := ku form args hA hfl hF
 generalize runV form args = q at *
 obtain ⟨t, u, e⟩ := q
 (refine qc fun Y Yh => ?_; simp [go_sem]; ((repeat' (first|(refine qf ?_;simp [go_sem])|intro _|apply And.intro|(apply Yh;clear Yh Y)));all_goals first|apply QS|omega|with_reducible assumption|skip))
 (refine qc fun Y Yh => ?_; simp [go_sem]; ((repeat' (first|(refine qf ?_;simp [go_sem])|intro _|apply And.intro|(apply Yh;clear Yh Y)));all_goals first|apply QS|omega|with_reducible assumption|skip))
 ((try refine QT ?_); refine qm (.inl ⟨rfl,rfl⟩) (by simp [go_sem]) ?_; intro args ha; simp [go_sem] at ha; subst ha; refine ⟨_, hR, ?_⟩; rintro _ rfl; simp [go_sem]; ((repeat' (first|(refine qf ?_;simp [go_sem])|intro _|apply And.intro|(apply Yh;clear Yh Y)));all_goals first|apply QS|omega|with_reducible assumption|skip))
 (refine qc fun Y Yh => ?_; simp [go_sem]; ((repeat' (first|(refine qf ?_;simp [go_sem])|intro _|apply And.intro|(apply Yh;clear Yh Y)));all_goals first|apply QS|omega|with_reducible assumption|skip))
 (refine qj ?_; simp [go_sem])
theorem fillC_np {args : List Ag} (hA : AgsOk args) {form : Bs} (hp : ∀ L, readV form = some L → ∀ f ∈ L, f.lt ≠ 112) : ∀ L, readV form = some L → ∀ f ∈ L, f.lt ≠ 0 → FillC args f := fun L hL f hf h0 u g hu => by
 obtain ⟨h1, h2, _⟩ := jJ hL f hf
 exact fill_np args u g f hA hu h1 h0 (h2.resolve_left h0) (hp L hL f hf)
theorem xI (s : Bs) (hl : s.length ≤ 1000000) : PCall Tryz.prog 14 [dS s] fun r => r = dS (escV s) := by 
 refine qB Tryz.func14 rfl rfl Tryz.ntmps14 (rs := [.tmp 2]) (tys := [9]) rfl rfl (by simp) ?_
 (refine qc fun Y Yh => ?_; simp [go_sem]; ((repeat' (first|(refine qf ?_;simp [go_sem])|intro _|apply And.intro|(apply Yh;clear Yh Y)));all_goals first|apply QS|omega|with_reducible assumption|skip))
 (refine qc fun Y Yh => ?_; simp [go_sem]; ((repeat' (first|(refine qf ?_;simp [go_sem])|intro _|apply And.intro|(apply Yh;clear Yh Y)));all_goals first|apply QS|omega|with_reducible assumption|skip))
 ((try refine QT ?_); refine qm (.inl ⟨rfl,rfl⟩) (by simp [go_sem]) ?_; intro args ha; simp [go_sem] at ha; subst ha; refine ⟨_, (xJ s hl), ?_⟩; rintro _ rfl; simp [go_sem]; ((repeat' (first|(refine qf ?_;simp [go_sem])|intro _|apply And.intro|(apply Yh;clear Yh Y)));all_goals first|apply QS|omega|with_reducible assumption|skip))
 (refine qj ?_; simp [go_sem])
theorem readF_len : ∀ (k : Nat) (s : Bs) (out : List Fld) (a b : Bool) (L : List Fld), readF k s out a b = some L → L.length ≤ out.length + s.length := by
 intro k
 induction k with
 | zero => intro s out a b L h; simp [readF] at h
 | succ k ih =>
  intro s out a b L h
  rw [readF] at h
  split at h
  ·split at h
   ·cases h
   ·cases h; omega
  ·rename_i hs
   have hpos : 0 < s.length := List.length_pos_iff.2 hs
   simp only at h
   split at h
   ·split at h
    ·cases h
    ·cases h; rw [List.length_append]; simp; omega
   ·split at h
    ·have := ih _ _ _ _ _ h
     rw [List.length_append, List.length_drop] at this
     simp at this; omega
    ·split at h
     ·have := ih _ _ _ _ _ h
      rw [List.length_append, List.length_drop] at this
      simp at this; omega
     ·split at h
      ·cases h
      ·rename_i f r hf
       have h1 := zJ hf
       have := ih _ _ _ _ _ h
       rw [List.length_append] at this
       rw [List.length_tail] at h1
       simp at this; omega
theorem jm {s : Bs} {L : List Fld} (h : readV s = some L) : L.length ≤ 100000 := by
 unfold readV at h
 split at h
 ·cases h
 ·have := readF_len _ _ _ _ _ _ h
  simp at this; omega
theorem flds_step {L : List Fld} {i : Nat} {f : Fld} (h : L[i]? = some f) : fldsV (L.take (i + 1)) = fldsV (L.take i) + fld1 f := by
 rw [List.take_add_one, h]
 simp [fldsV]
theorem fld1_le (f : Fld) : fld1 f ≤ 3 := by
 unfold fld1
 (repeat' split) <;> omega
theorem flds_le (L : List Fld) : fldsV L ≤ 3 * L.length := by
 induction L with
 | nil => simp [fldsV]
 | cons f L ih =>
  have e : fldsV (f :: L) = fld1 f + fldsV L := by simp [fldsV]
  have := fld1_le f
  rw [e, List.length_cons]; omega
def fieldsN (form : Bs) : Nat × Nat := match readV form with
 | none => (0, 4)
 | some L => (fldsV L, 0)
set_option maxHeartbeats 16000000 in
theorem kN (form : Bs) (hfl : form.length ≤ 9223372036854775807) : PCall Tryz.prog 21 [dS form] fun r => r = .tup [dI (fieldsN form).1, dI (fieldsN form).2] := by 
 refine qB Tryz.func21 rfl rfl Tryz.ntmps21 (rs := [.tmp 2, .tmp 3]) (tys := [3, 34]) rfl rfl (by simp) ?_
 have hR := zL form hfl
 unfold fieldsN
 cases hr : readV form with
 | none =>
  rw [hr] at hR
  simp only
  (refine qc fun Y Yh => ?_; simp [go_sem]; ((repeat' (first|(refine qf ?_;simp [go_sem])|intro _|apply And.intro|(apply Yh;clear Yh Y)));all_goals first|apply QS|omega|with_reducible assumption|skip))
  (refine qc fun Y Yh => ?_; simp [go_sem]; ((repeat' (first|(refine qf ?_;simp [go_sem])|intro _|apply And.intro|(apply Yh;clear Yh Y)));all_goals first|apply QS|omega|with_reducible assumption|skip))
  ((try refine QT ?_); refine qm (.inl ⟨rfl,rfl⟩) (by simp [go_sem]) ?_; intro args ha; simp [go_sem] at ha; subst ha; refine ⟨_, hR, ?_⟩; rintro _ ⟨L', rfl⟩; simp [go_sem]; ((repeat' (first|(refine qf ?_;simp [go_sem])|intro _|apply And.intro|(apply Yh;clear Yh Y)));all_goals first|apply QS|omega|with_reducible assumption|skip))
  refine qh fun K1 hK1 => ?_
  (refine qc fun Y Yh => ?_; simp [go_sem]; ((repeat' (first|(refine qf ?_;simp [go_sem])|intro _|apply And.intro|(apply Yh;clear Yh Y)));all_goals first|apply QS|omega|with_reducible assumption|skip))
  (refine qg fun T F hT hF => ?_; simp [go_sem]; refine hT ?_; clear hT hF T F)
  (refine qc fun Y Yh => ?_; simp [go_sem]; ((repeat' (first|(refine qf ?_;simp [go_sem])|intro _|apply And.intro|(apply Yh;clear Yh Y)));all_goals first|apply QS|omega|with_reducible assumption|skip))
  (refine qj ?_; simp [go_sem])
 | some L =>
  rw [hr] at hR
  have hlen : L.length ≤ 100000 := jm hr
  simp only
  (refine qc fun Y Yh => ?_; simp [go_sem]; ((repeat' (first|(refine qf ?_;simp [go_sem])|intro _|apply And.intro|(apply Yh;clear Yh Y)));all_goals first|apply QS|omega|with_reducible assumption|skip))
  (refine qc fun Y Yh => ?_; simp [go_sem]; ((repeat' (first|(refine qf ?_;simp [go_sem])|intro _|apply And.intro|(apply Yh;clear Yh Y)));all_goals first|apply QS|omega|with_reducible assumption|skip))
  ((try refine QT ?_); refine qm (.inl ⟨rfl,rfl⟩) (by simp [go_sem]) ?_; intro args ha; simp [go_sem] at ha; subst ha; refine ⟨_, hR, ?_⟩; rintro _ rfl; simp [go_sem]; ((repeat' (first|(refine qf ?_;simp [go_sem])|intro _|apply And.intro|(apply Yh;clear Yh Y)));all_goals first|apply QS|omega|with_reducible assumption|skip))
  refine qh fun K1 hK1 => ?_
  (refine qc fun Y Yh => ?_; simp [go_sem]; ((repeat' (first|(refine qf ?_;simp [go_sem])|intro _|apply And.intro|(apply Yh;clear Yh Y)));all_goals first|apply QS|omega|with_reducible assumption|skip))
  (refine qg fun T F hT hF => ?_; simp [go_sem]; refine hF ?_; clear hT hF T F)
  refine qi ?_
  refine hK1 _ ?_; clear hK1
  (refine qc fun Y Yh => ?_; simp [go_sem]; ((repeat' (first|(refine qf ?_;simp [go_sem])|intro _|apply And.intro|(apply Yh;clear Yh Y)));all_goals first|apply QS|omega|with_reducible assumption|skip))
  refine qh fun K3 hK3 => ?_
  (refine qc fun Y Yh => ?_; simp [go_sem]; ((repeat' (first|(refine qf ?_;simp [go_sem])|intro _|apply And.intro|(apply Yh;clear Yh Y)));all_goals first|apply QS|omega|with_reducible assumption|skip))
  refine qo ?_
  refine qM (σ := Nat) (fun i => ⟨[(6, dI (fldsV (L.take i))), (16, dFs L), (17, dI L.length), (18, dI i)], []⟩) (fun i => i ≤ L.length) (fun i => L.length - i) 0 (by (refine ql ?_ ?_ <;> simp [go_sem]); rfl) (by simp) ?_
  intro i hi
  have hfi := flds_le (L.take i)
  have htl : (L.take i).length ≤ L.length := by rw [List.length_take]; omega
  (refine qc fun Y Yh => ?_; simp [go_sem]; ((repeat' (first|(refine qf ?_;simp [go_sem])|intro _|apply And.intro|(apply Yh;clear Yh Y)));all_goals first|apply QS|omega|with_reducible assumption|skip))
  refine qh fun K4 hK4 => ?_
  by_cases hend : i < L.length
  ·obtain ⟨f, hf⟩ : ∃ f, L[i]? = some f := ⟨_, List.getElem?_eq_getElem hend⟩
   have hst := flds_step hf
   generalize fldsV (L.take i) = N at *
   have b0 : (f.lt.toNat = 0) = (f.lt = 0) := propext ⟨fun q => UInt8.toNat_inj.1 q, fun q => by rw [q]; rfl⟩
   (refine qg fun T F hT hF => ?_; simp [go_sem, hend]; refine hT ?_; clear hT hF T F)
   refine qi ?_
   refine hK4 _ ?_; clear hK4
   refine zq ⟨[(6, dI (N + fld1 f : Nat)), (16, dFs L), (17, dI L.length), (18, dI i)], []⟩ ?_ ?_
   ·refine qo ?_
    (refine qc fun Y Yh => ?_; simp [go_sem, hf]; ((repeat' (first|(refine qf ?_;simp [go_sem, hf])|intro _|apply And.intro|(apply Yh;clear Yh Y)));all_goals first|apply QS|omega|with_reducible assumption|skip))
    refine qh fun K7 hK7 => ?_
    (refine qc fun Y Yh => ?_; simp [go_sem, b0]; ((repeat' (first|(refine qf ?_;simp [go_sem, b0])|intro _|apply And.intro|(apply Yh;clear Yh Y)));all_goals first|apply QS|omega|with_reducible assumption|skip))
    by_cases hz : f.lt = 0 ∨ f.nm ≠ []
    ·have e1 : fld1 f = 0 := by unfold fld1; rw [if_pos hz]
     have hb : (decide (f.lt = 0) || !f.nm.isEmpty) = true := by
      rcases hz with h | h
      ·simp [h]
      ·cases hq : f.nm with
       | nil => exact absurd hq h
       | cons _ _ => simp
     (refine qg fun T F hT hF => ?_; simp [go_sem, hb]; refine hT ?_; clear hT hF T F)
     refine qH ?_
     simp only [go_sem]
     rw [e1]
     (refine ql ?_ ?_ <;> simp [go_sem])
    ·have e1 : fld1 f = 1 + (if f.wd = -2 then 1 else 0) + (if f.pr = -2 then 1 else 0) := by unfold fld1; rw [if_neg hz]
     have hb : (decide (f.lt = 0) || !f.nm.isEmpty) = false := by
      rw [not_or, Decidable.not_not] at hz
      simp [hz.1, hz.2]
     (refine qg fun T F hT hF => ?_; simp [go_sem, hb]; refine hF ?_; clear hT hF T F)
     refine qi ?_
     refine hK7 _ ?_; clear hK7
     (refine qc fun Y Yh => ?_; simp [go_sem]; ((repeat' (first|(refine qf ?_;simp [go_sem])|intro _|apply And.intro|(apply Yh;clear Yh Y)));all_goals first|apply QS|omega|with_reducible assumption|skip))
     refine zQ 8 rfl rfl ?_
     simp only [go_sem]
     refine zq ⟨[(6, dI (N + 1 + (if f.wd = -2 then 1 else 0) : Nat)), (8, .rd (cF f)), (16, dFs L), (17, dI L.length), (18, dI i)], []⟩ ?_ ?_
     ·(refine qc fun Y Yh => ?_; simp [go_sem]; ((repeat' (first|(refine qf ?_;simp [go_sem])|intro _|apply And.intro|(apply Yh;clear Yh Y)));all_goals first|apply QS|omega|with_reducible assumption|skip))
      by_cases hw : f.wd = -2
      ·(refine qg fun T F hT hF => ?_; simp [go_sem, hw]; refine hT ?_; clear hT hF T F)
       (refine qx fun Y Yh => ?_; simp [go_sem]; ((repeat' (first|(refine qf ?_;simp [go_sem])|intro _|apply And.intro|(apply Yh;clear Yh Y)));all_goals first|apply QS|omega|with_reducible assumption|skip))
       (refine ql ?_ ?_ <;> simp [go_sem, hw])
      ·(refine qg fun T F hT hF => ?_; simp [go_sem, hw]; refine hF ?_; clear hT hF T F)
       refine qi ?_
       (refine ql ?_ ?_ <;> simp [go_sem, hw])
     ·have hW : (if f.wd = -2 then 1 else 0) ≤ 1 := by split <;> omega
      generalize (if f.wd = -2 then 1 else 0) = W at *
      rw [e1]
      (refine qc fun Y Yh => ?_; simp [go_sem]; ((repeat' (first|(refine qf ?_;simp [go_sem])|intro _|apply And.intro|(apply Yh;clear Yh Y)));all_goals first|apply QS|omega|with_reducible assumption|skip))
      by_cases hp : f.pr = -2
      ·(refine qg fun T F hT hF => ?_; simp [go_sem, hp]; refine hT ?_; clear hT hF T F)
       (refine qx fun Y Yh => ?_; simp [go_sem]; ((repeat' (first|(refine qf ?_;simp [go_sem])|intro _|apply And.intro|(apply Yh;clear Yh Y)));all_goals first|apply QS|omega|with_reducible assumption|skip))
       (refine ql ?_ ?_ <;> simp [go_sem, hp])
       omega
      ·(refine qg fun T F hT hF => ?_; simp [go_sem, hp]; refine hF ?_; clear hT hF T F)
       refine qi ?_
       (refine ql ?_ ?_ <;> simp [go_sem, hp])
       omega
   ·(refine qx fun Y Yh => ?_; simp [go_sem]; ((repeat' (first|(refine qf ?_;simp [go_sem])|intro _|apply And.intro|(apply Yh;clear Yh Y)));all_goals first|apply QS|omega|with_reducible assumption|skip))
    refine ⟨i + 1, ?_, by omega, by omega⟩
    rw [hst]
    (refine ql ?_ ?_ <;> simp [go_sem])
  ·have hi2 : i = L.length := by omega
   subst hi2
   rw [List.take_length] at *
   (refine qg fun T F hT hF => ?_; simp [go_sem]; refine hF ?_; clear hT hF T F)
   refine qH ?_
   simp only [go_sem]
   refine hK3 _ ?_; clear hK3
   (refine qc fun Y Yh => ?_; simp [go_sem]; ((repeat' (first|(refine qf ?_;simp [go_sem])|intro _|apply And.intro|(apply Yh;clear Yh Y)));all_goals first|apply QS|omega|with_reducible assumption|skip))
   (refine qj ?_; simp [go_sem])
theorem agI_ok {n : Int} (h : InR n) : AgOk (agI n) := ⟨h, by simp [agI]⟩
theorem ags1 {a : Ag} (h : AgOk a) : AgsOk [a] := ⟨by simp, fun x hx => by rw [List.mem_singleton.1 hx]; exact h⟩
theorem np_of {form : Bs} {L : List Fld} (h : readV form = some L) (h2 : ∀ f ∈ L, f.lt ≠ 112) : ∀ L, readV form = some L → ∀ f ∈ L, f.lt ≠ 112 := fun L' h' => by
 rw [h] at h'; cases h'; exact h2
theorem form_np {form : Bs} {args : List Ag} (hA : AgsOk args) (hfl : form.length ≤ 9223372036854775807) {L : List Fld} (h : readV form = some L) (h2 : ∀ f ∈ L, f.lt ≠ 112) {t : Bs} {u e : Nat} (hr : runV form args = (t, u, e)) :
  PCall Tryz.prog 13 [dS form, dAs args] fun r => r = .tup [dS t, dI e] := by
 have := jC form args hA hfl (fillC_np hA (np_of h h2))
 rw [hr] at this
 exact this
theorem rd1 : ∃ L, readV [37, 48, 53, 100] = some L ∧ ∀ f ∈ L, f.lt ≠ 112 := ⟨_, rfl, by decide⟩
theorem rd2 : ∃ L, readV [37, 35, 120] = some L ∧ ∀ f ∈ L, f.lt ≠ 112 := ⟨_, rfl, by decide⟩
theorem rd3 : ∃ L, readV [37, 45, 52, 115, 124] = some L ∧ ∀ f ∈ L, f.lt ≠ 112 := ⟨_, rfl, by decide⟩
set_option maxHeartbeats 8000000 in
theorem xh : PCall Tryz.prog 12 [] fun r => r = dB true := by 
 refine qB Tryz.func12 rfl rfl Tryz.ntmps12 (rs := [.tmp 0]) (tys := [4]) rfl rfl (by simp) ?_
 obtain ⟨L1, h1, p1⟩ := rd1
 obtain ⟨L2, h2, p2⟩ := rd2
 obtain ⟨L3, h3, p3⟩ := rd3
 have S1 := form_np (ags1 (agI_ok (n := -42) (by simp [InR]))) (by simp) h1 p1 sane1
 have S2 := form_np (ags1 (agI_ok (n := 255) (by simp [InR]))) (by simp) h2 p2 sane2
 have S3 := form_np (args := [⟨[], true, 0, [97, 98]⟩]) (ags1 ⟨by simp [InR], by simp⟩) (by simp) h3 p3 sane3
 simp only [dAs, List.map_cons, List.map_nil, agI] at S1 S2 S3
 (refine qc fun Y Yh => ?_; simp [go_sem]; ((repeat' (first|(refine qf ?_;simp [go_sem])|intro _|apply And.intro|(apply Yh;clear Yh Y)));all_goals first|apply QS|omega|with_reducible assumption|skip))
 (refine qc fun Y Yh => ?_; simp [go_sem]; ((repeat' (first|(refine qf ?_;simp [go_sem])|intro _|apply And.intro|(apply Yh;clear Yh Y)));all_goals first|apply QS|omega|with_reducible assumption|skip))
 ((try refine QT ?_); refine qU (.inl ⟨rfl,rfl⟩) ?_; intro args ha; simp [go_sem] at ha; subst ha; refine ⟨_, S1, ?_⟩; rintro _ rfl; refine ⟨rfl, ?_⟩; simp [go_sem]; ((repeat' (first|(refine qf ?_;simp [go_sem])|intro _|apply And.intro|(apply Yh;clear Yh Y)));all_goals first|apply QS|omega|with_reducible assumption|skip))
 (refine qc fun Y Yh => ?_; simp [go_sem]; ((repeat' (first|(refine qf ?_;simp [go_sem])|intro _|apply And.intro|(apply Yh;clear Yh Y)));all_goals first|apply QS|omega|with_reducible assumption|skip))
 ((try refine QT ?_); refine qU (.inl ⟨rfl,rfl⟩) ?_; intro args ha; simp [go_sem] at ha; subst ha; refine ⟨_, S2, ?_⟩; rintro _ rfl; refine ⟨rfl, ?_⟩; simp [go_sem]; ((repeat' (first|(refine qf ?_;simp [go_sem])|intro _|apply And.intro|(apply Yh;clear Yh Y)));all_goals first|apply QS|omega|with_reducible assumption|skip))
 (refine qc fun Y Yh => ?_; simp [go_sem]; ((repeat' (first|(refine qf ?_;simp [go_sem])|intro _|apply And.intro|(apply Yh;clear Yh Y)));all_goals first|apply QS|omega|with_reducible assumption|skip))
 ((try refine QT ?_); refine qU (.inl ⟨rfl,rfl⟩) ?_; intro args ha; simp [go_sem] at ha; subst ha; refine ⟨_, S3, ?_⟩; rintro _ rfl; refine ⟨rfl, ?_⟩; simp [go_sem]; ((repeat' (first|(refine qf ?_;simp [go_sem])|intro _|apply And.intro|(apply Yh;clear Yh Y)));all_goals first|apply QS|omega|with_reducible assumption|skip))
 (refine qc fun Y Yh => ?_; simp [go_sem]; ((repeat' (first|(refine qf ?_;simp [go_sem])|intro _|apply And.intro|(apply Yh;clear Yh Y)));all_goals first|apply QS|omega|with_reducible assumption|skip))
 (refine qj ?_; simp [go_sem])
end Go.Proofs.YtelhdhofnohkcaaGreatDoor
namespace Go.Fm
/-! columns: what both tell -/
end Go.Fm
namespace Go.Proofs.YtelhdhofnohkcaaGreatDoor
open Go.Eng Go.Fm
set_option maxRecDepth 20000
attribute [local irreducible] AG CallA CallT AWp PCall ACall AgC
abbrev dR (l : List Bs) : D := .sl 1 (l.map fun s => [dS s])
set_option maxHeartbeats 8000000 in
theorem kV (a : List Bs) (hl : a.length ≤ 9223372036854775807) : PCall Tryz.prog 19 [dR a, dR a] fun r => r = dB true := by 
 refine qB Tryz.func19 rfl rfl Tryz.ntmps19 (rs := [.tmp 4]) (tys := [4]) rfl rfl (by simp) ?_
 (refine qc fun Y Yh => ?_; simp [go_sem]; ((repeat' (first|(refine qf ?_;simp [go_sem])|intro _|apply And.intro|(apply Yh;clear Yh Y)));all_goals first|apply QS|omega|with_reducible assumption|skip))
 refine qh fun K1 hK1 => ?_
 (refine qc fun Y Yh => ?_; simp [go_sem]; ((repeat' (first|(refine qf ?_;simp [go_sem])|intro _|apply And.intro|(apply Yh;clear Yh Y)));all_goals first|apply QS|omega|with_reducible assumption|skip))
 (refine qg fun T F hT hF => ?_; simp [go_sem]; refine hF ?_; clear hT hF T F)
 refine qi ?_
 refine hK1 _ ?_; clear hK1
 refine qh fun K3 hK3 => ?_
 (refine qc fun Y Yh => ?_; simp [go_sem]; ((repeat' (first|(refine qf ?_;simp [go_sem])|intro _|apply And.intro|(apply Yh;clear Yh Y)));all_goals first|apply QS|omega|with_reducible assumption|skip))
 refine qo ?_
 refine qM (σ := Nat) (fun x => ⟨[(0, dR a), (1, dR a), (5, dI x)], []⟩) (fun x => x ≤ a.length) (fun x => a.length - x) 0 ?_ ?_ ?_
 ·(refine ql ?_ ?_ <;> simp [go_sem])
 ·simp
 intro x hx
 refine qh fun K4 hK4 => ?_
 (refine qc fun Y Yh => ?_; simp [go_sem]; ((repeat' (first|(refine qf ?_;simp [go_sem])|intro _|apply And.intro|(apply Yh;clear Yh Y)));all_goals first|apply QS|omega|with_reducible assumption|skip))
 by_cases h5 : x < a.length
 ·(refine qg fun T F hT hF => ?_; simp [go_sem, h5]; refine hT ?_; clear hT hF T F)
  refine qi ?_
  refine hK4 _ ?_; clear hK4
  refine qh fun K6 hK6 => ?_
  refine qo ?_
  ((refine qX (.qs [0, 1, 2, 4, 5, 6, 3, 7, 8] (.nil)) (by kernel_rfl) ?_ ?_ ?_ ?_); (kernel_rfl); (exact (by decide +kernel)); (kernel_rfl); intro Y Yh; ((repeat' (first|(refine qf ?_;simp [go_sem, h5])|refine qC ?_|((first|refine qJ fun Y Yh=>?_|refine qR fun Y Yh=>?_);simp [go_sem, h5])|intro _|apply And.intro|(apply Yh;clear Yh Y)));all_goals first|apply QS|omega|with_reducible assumption|skip))
  (refine qg fun T F hT hF => ?_; simp [go_sem]; refine hF ?_; clear hT hF T F)
  refine qi ?_
  refine hK6 _ ?_; clear hK6
  (refine qx fun Y Yh => ?_; simp [go_sem]; ((repeat' (first|(refine qf ?_;simp [go_sem])|intro _|apply And.intro|(apply Yh;clear Yh Y)));all_goals first|apply QS|omega|with_reducible assumption|skip))
  refine ⟨x + 1, ?_, by omega, by omega⟩
  (refine ql ?_ ?_ <;> simp [go_sem])
 ·(refine qg fun T F hT hF => ?_; simp [go_sem, h5]; refine hF ?_; clear hT hF T F)
  refine qH ?_
  simp only [go_sem]
  refine hK3 _ ?_; clear hK3
  (refine qc fun Y Yh => ?_; simp [go_sem]; ((repeat' (first|(refine qf ?_;simp [go_sem])|intro _|apply And.intro|(apply Yh;clear Yh Y)));all_goals first|apply QS|omega|with_reducible assumption|skip))
  (refine qj ?_; simp [go_sem])
end Go.Proofs.YtelhdhofnohkcaaGreatDoor
namespace Go.Proofs.YtelhdhofnohkcaaGreatDoor
open Go.Eng Go.WideShapes Go.Fm
set_option maxRecDepth 100000
/-! rows of texts -/
end Go.Proofs.YtelhdhofnohkcaaGreatDoor
namespace Go.Fm
/-! what is in front, of some bytes alone -/
theorem tw_step {p : UInt8 → Bool} : ∀ {s : List UInt8} {i : Nat} (h : i < s.length), i ≤ (s.takeWhile p).length → (p s[i] = true → i + 1 ≤ (s.takeWhile p).length) ∧ (p s[i] = false → i = (s.takeWhile p).length)
 | [], i, h, _ => by simp at h
 | c :: s, 0, h, _ => by
  simp only [List.getElem_cons_zero, List.takeWhile_cons]
  refine ⟨fun q => by rw [q]; simp, fun q => by rw [q]; simp⟩
 | c :: s, i + 1, h, hi => by
  by_cases hc : p c = true
  ·have e : ((c :: s).takeWhile p).length = (s.takeWhile p).length + 1 := by rw [List.takeWhile_cons, if_pos hc, List.length_cons]
   rw [e] at hi ⊢
   obtain ⟨h1, h2⟩ := tw_step (p := p) (s := s) (i := i) (by simpa using h) (by omega)
   rw [List.getElem_cons_succ]
   exact ⟨fun q => by have := h1 q; omega, fun q => by have := h2 q; omega⟩
  ·rw [List.takeWhile_cons, if_neg hc] at hi
   simp at hi
theorem tw_le {p : UInt8 → Bool} (s : List UInt8) : (s.takeWhile p).length ≤ s.length := (List.takeWhile_prefix p).length_le
theorem app_take {a b : List UInt8} : (a ++ b).take a.length = a ∧ (a ++ b).drop a.length = b := by simp
theorem tw_take {p : UInt8 → Bool} (s : List UInt8) : s.take (s.takeWhile p).length = s.takeWhile p ∧ s.drop (s.takeWhile p).length = s.dropWhile p := by
 have e := List.takeWhile_append_dropWhile (p := p) (l := s)
 have h := app_take (a := s.takeWhile p) (b := s.dropWhile p)
 rw [e] at h
 exact h
end Go.Fm
namespace Go.Proofs.YtelhdhofnohkcaaGreatDoor
open Go.Eng Go.Fm
set_option maxRecDepth 20000
attribute [local irreducible] AG CallA CallT AWp PCall ACall AgC
theorem idx_has (s : Bs) (c : UInt8) : 0 ≤ idxV s c ↔ s.contains c = true := by
 unfold idxV
 by_cases h : s.findIdx (· == c) < s.length
 ·rw [if_pos h]
  have := List.findIdx_lt_length.1 h
  obtain ⟨x, hx, hq⟩ := this
  simp at hq
  subst hq
  simp [hx]
 ·rw [if_neg h]
  constructor
  ·intro q; omega
  ·intro q
   exact absurd (List.findIdx_lt_length.2 ⟨c, by simpa using q, by simp⟩) h
theorem jk (s ofs : Bs) (hl : s.length ≤ 1000000000) : PCall Tryz.prog 106 [dS s, dS ofs] fun r => r = .tup [dS (s.takeWhile (ofs.contains ·)), dS (s.dropWhile (ofs.contains ·))] := by 
 refine qB Tryz.func106 rfl rfl Tryz.ntmps106 (rs := [.tmp 4, .tmp 5]) (tys := [9, 9]) rfl rfl (by simp) ?_
 have hle := tw_le (p := (ofs.contains ·)) s
 obtain ⟨e1, e2⟩ := tw_take (p := (ofs.contains ·)) s
 (refine qc fun Y Yh => ?_; simp [go_sem]; ((repeat' (first|(refine qf ?_;simp [go_sem])|intro _|apply And.intro|(apply Yh;clear Yh Y)));all_goals first|apply QS|omega|with_reducible assumption|skip))
 (refine qc fun Y Yh => ?_; simp [go_sem]; ((repeat' (first|(refine qf ?_;simp [go_sem])|intro _|apply And.intro|(apply Yh;clear Yh Y)));all_goals first|apply QS|omega|with_reducible assumption|skip))
 refine qh fun K1 hK1 => ?_
 refine qo ?_
 refine qM (σ := Nat) (fun x => ⟨[(0, dS s), (1, dS ofs), (6, dI x)], []⟩) (fun x => x ≤ (s.takeWhile (ofs.contains ·)).length) (fun x => s.length - x) 0 ?_ ?_ ?_
 ·(refine ql ?_ ?_ <;> simp [go_sem])
 ·simp
 intro x hx
 refine qh fun K2 hK2 => ?_
 have fin : x = (s.takeWhile (ofs.contains ·)).length → ∀ S', Cov S' ⟨[(0, dS s), (1, dS ofs), (6, dI x)], []⟩ → K1 S' := fun hx S' hS => by
  refine hK1 _ ?_; clear hK1
  refine qG hS ?_; clear hS
  have c1 : ({ data := s.toArray } : ByteArray).extract 0 x = { data := (s.takeWhile (ofs.contains ·)).toArray } := by rw [ba_cut, List.drop_zero, hx, e1]
  have c2 : ({ data := s.toArray } : ByteArray).extract x s.length = { data := (s.dropWhile (ofs.contains ·)).toArray } := by rw [ba_cut, List.take_of_length_le (Nat.le_refl _), hx, e2]
  have hx3 : x ≤ s.length := by omega
  ((refine qX (.qs [0, 1, 2, 3, 4, 5, 6, 7] (.nil)) (by kernel_rfl) ?_ ?_ ?_ ?_); (kernel_rfl); (exact (by decide +kernel)); (kernel_rfl); intro Y Yh; ((repeat' (first|(refine qf ?_;simp [go_sem, ba_size, c1, c2])|refine qC ?_|((first|refine qJ fun Y Yh=>?_|refine qR fun Y Yh=>?_);simp [go_sem, ba_size, c1, c2])|intro _|apply And.intro|(apply Yh;clear Yh Y)));all_goals first|apply QS|omega|with_reducible assumption|skip))
  (refine qj ?_; simp [go_sem])
 by_cases hx2 : x < s.length
 ·obtain ⟨p1, p2⟩ := tw_step (p := (ofs.contains ·)) hx2 hx
  have hI := zM ofs s[x]
  have hh := idx_has ofs s[x]
  generalize idxV ofs s[x] = v at *
  (refine qc fun Y Yh => ?_; simp [go_sem, hx2, ba_size]; ((repeat' (first|(refine qw ?_ ?_ ?_;(focus (simp [go_sem, undef, hx2, ba_size];done));(focus (simp [go_sem];done));simp [go_sem, hx2, ba_size])|(refine qp ?_ ?_;(focus (simp [go_sem, undef, hx2, ba_size];done));simp [go_sem, hx2, ba_size])|(refine qf ?_;simp [go_sem, undef, hx2, ba_size])|intro _|apply And.intro|(apply Yh;clear Yh Y)));all_goals first|apply QS|omega|with_reducible assumption|skip))
  ((try refine QT ?_); refine qm (.inl ⟨rfl,rfl⟩) (by simp [go_sem]) ?_; intro args ha; simp [go_sem] at ha; subst ha; refine ⟨_, hI, ?_⟩; rintro _ rfl; simp [go_sem, hx2, ba_size]; ((repeat' (first|(refine qw ?_ ?_ ?_;(focus (simp [go_sem, undef, hx2, ba_size];done));(focus (simp [go_sem];done));simp [go_sem, hx2, ba_size])|(refine qp ?_ ?_;(focus (simp [go_sem, undef, hx2, ba_size];done));simp [go_sem, hx2, ba_size])|(refine qf ?_;simp [go_sem, undef, hx2, ba_size])|intro _|apply And.intro|(apply Yh;clear Yh Y)));all_goals first|apply QS|omega|with_reducible assumption|skip))
  by_cases hc : ofs.contains s[x] = true
  ·have h0 := hh.2 hc
   have := p1 hc
   (refine qg fun T F hT hF => ?_; simp [go_sem, h0]; refine hT ?_; clear hT hF T F)
   refine qi ?_
   refine hK2 _ ?_; clear hK2
   refine qo ?_
   (refine qx fun Y Yh => ?_; simp [go_sem]; ((repeat' (first|(refine qf ?_;simp [go_sem])|intro _|apply And.intro|(apply Yh;clear Yh Y)));all_goals first|apply QS|omega|with_reducible assumption|skip))
   refine ⟨x + 1, ?_, by omega, by omega⟩
   (refine ql ?_ ?_ <;> simp [go_sem])
  ·have h0 : ¬ 0 ≤ v := fun q => hc (hh.1 q)
   rw [Bool.not_eq_true] at hc
   (refine qg fun T F hT hF => ?_; simp [go_sem, h0]; refine hF ?_; clear hT hF T F)
   refine qH ?_
   simp only [go_sem]
   refine fin (p2 hc) _ ?_
   (refine ql ?_ ?_ <;> simp [go_sem])
 ·(refine qc fun Y Yh => ?_; simp [go_sem, hx2, ba_size]; ((repeat' (first|(refine qw ?_ ?_ ?_;(focus (simp [go_sem, undef, hx2, ba_size];done));(focus (simp [go_sem];done));simp [go_sem, hx2, ba_size])|(refine qp ?_ ?_;(focus (simp [go_sem, undef, hx2, ba_size];done));simp [go_sem, hx2, ba_size])|(refine qf ?_;simp [go_sem, undef, hx2, ba_size])|intro _|apply And.intro|(apply Yh;clear Yh Y)));all_goals first|apply QS|omega|with_reducible assumption|skip))
  (refine qg fun T F hT hF => ?_; simp [go_sem, hx2]; refine hF ?_; clear hT hF T F)
  refine qH ?_
  simp only [go_sem]
  refine fin (by omega) _ ?_
  (refine ql ?_ ?_ <;> simp [go_sem])
theorem take_dig (s : Bs) (hl : s.length ≤ 1000000000) : PCall Tryz.prog 106 [dS s, dS tenD] fun r => r = .tup [dS (s.takeWhile isDig), dS (s.dropWhile isDig)] := by
 have h := jk s tenD hl
 have e : (tenD.contains ·) = isDig := funext tenD_isDig
 rwa [e] at h
theorem sizN_step {d : Bs} {i : Nat} (h : i < d.length) : sizN 0 (d.take (i + 1)) = min (10 * sizN 0 (d.take i) + (d[i].toNat - 48)) 100000 := by
 unfold sizN
 rw [List.take_add_one, List.getElem?_eq_getElem h, List.foldl_append]
 rfl
theorem sizN_le (d : Bs) : sizN 0 d ≤ 100000 := by
 have : ∀ n, n ≤ 100000 → sizN n d ≤ 100000 := by
  induction d with
  | nil => intro n h; exact h
  | cons c r ih => intro n h; exact ih _ (Nat.min_le_right _ _)
 exact this 0 (by omega)
theorem pre_pk (c : UInt8) (s : Bs) (hc : c ≠ 0) : [c].isPrefixOf s = decide (pk s = c) := by
 rw [Bool.eq_iff_iff, decide_eq_true_eq]
 cases s with
 | nil => exact ⟨fun q => (by cases q), fun q => absurd q.symm hc⟩
 | cons a b =>
  have e : [c].isPrefixOf (a :: b) = (c == a && true) := rfl
  rw [e, Bool.and_true, beq_iff_eq]
  exact ⟨fun q => q.symm, fun q => Eq.symm q⟩
theorem tw_all {p : UInt8 → Bool} {s : Bs} {i : Nat} (h : i < (s.takeWhile p).length) : p (s.takeWhile p)[i] = true := List.all_eq_true.1 List.all_takeWhile _ (List.getElem_mem h)
set_option maxHeartbeats 8000000 in
theorem xg (s : Bs) (m : Int) (hl : s.length ≤ 1000000) : PCall Tryz.prog 107 [dS s, dI m] fun r => r = .tup [dI (sizeV m s).1, dS (sizeV m s).2.2, dB (sizeV m s).2.1] := by 
 refine qB Tryz.func107 rfl rfl Tryz.ntmps107 (rs := [.tmp 4, .tmp 5, .tmp 6]) (tys := [3, 9, 4]) rfl rfl (by simp) ?_
 have hP := zn s [42]
 rw [pre_pk 42 s (by decide)] at hP
 have hT := take_dig s (by omega)
 generalize hS : sizeV m s = R
 obtain ⟨r1, r2, r3⟩ := R
 unfold sizeV at hS
 (refine qc fun Y Yh => ?_; simp [go_sem]; ((repeat' (first|(refine qf ?_;simp [go_sem])|intro _|apply And.intro|(apply Yh;clear Yh Y)));all_goals first|apply QS|omega|with_reducible assumption|skip))
 refine qh fun K1 hK1 => ?_
 (refine qc fun Y Yh => ?_; simp [go_sem]; ((repeat' (first|(refine qf ?_;simp [go_sem])|intro _|apply And.intro|(apply Yh;clear Yh Y)));all_goals first|apply QS|omega|with_reducible assumption|skip))
 ((try refine QT ?_); refine qm (.inl ⟨rfl,rfl⟩) (by simp [go_sem]) ?_; intro args ha; simp [go_sem] at ha; subst ha; refine ⟨_, hP, ?_⟩; rintro _ rfl; simp [go_sem]; ((repeat' (first|(refine qf ?_;simp [go_sem])|intro _|apply And.intro|(apply Yh;clear Yh Y)));all_goals first|apply QS|omega|with_reducible assumption|skip))
 by_cases h42 : pk s = 42
 ·rw [if_pos h42] at hS
  cases hS
  have hpos : 1 ≤ s.length := by
   cases s with
   | nil => exact absurd h42 (by decide)
   | cons _ _ => simp
  have hcut : ({ data := s.toArray } : ByteArray).extract 1 s.length = { data := s.tail.toArray } := by rw [ba_cut, List.take_of_length_le (Nat.le_refl _), List.drop_one]
  (refine qg fun T F hT hF => ?_; simp [go_sem, h42]; refine hT ?_; clear hT hF T F)
  ((refine qX (.qs [0, 1, 2, 3, 4] (.nil)) (by kernel_rfl) ?_ ?_ ?_ ?_); (kernel_rfl); (exact (by decide +kernel)); (kernel_rfl); intro Y Yh; ((repeat' (first|(refine qf ?_;simp [go_sem, ba_size, hpos, hcut])|refine qC ?_|((first|refine qJ fun Y Yh=>?_|refine qR fun Y Yh=>?_);simp [go_sem, ba_size, hpos, hcut])|intro _|apply And.intro|(apply Yh;clear Yh Y)));all_goals first|apply QS|omega|with_reducible assumption|skip))
  (refine qj ?_; simp [go_sem])
 ·rw [if_neg h42] at hS
  (refine qg fun T F hT hF => ?_; simp [go_sem, h42]; refine hF ?_; clear hT hF T F)
  refine qi ?_
  refine hK1 _ ?_; clear hK1
  have hall : ∀ i (h : i < (s.takeWhile isDig).length), isDig (s.takeWhile isDig)[i] = true := fun i h => tw_all h
  have htl := tw_le (p := isDig) s
  generalize s.takeWhile isDig = d at *
  generalize s.dropWhile isDig = rest at *
  (refine qc fun Y Yh => ?_; simp [go_sem]; ((repeat' (first|(refine qf ?_;simp [go_sem])|intro _|apply And.intro|(apply Yh;clear Yh Y)));all_goals first|apply QS|omega|with_reducible assumption|skip))
  ((try refine QT ?_); refine qm (.inl ⟨rfl,rfl⟩) (by simp [go_sem]) ?_; intro args ha; simp [go_sem] at ha; subst ha; refine ⟨_, hT, ?_⟩; rintro _ rfl; simp [go_sem]; ((repeat' (first|(refine qf ?_;simp [go_sem])|intro _|apply And.intro|(apply Yh;clear Yh Y)));all_goals first|apply QS|omega|with_reducible assumption|skip))
  refine qh fun K3 hK3 => ?_
  cases d with
  | nil =>
   rw [if_pos rfl] at hS
   cases hS
   (refine qc fun Y Yh => ?_; simp [go_sem]; ((repeat' (first|(refine qf ?_;simp [go_sem])|intro _|apply And.intro|(apply Yh;clear Yh Y)));all_goals first|apply QS|omega|with_reducible assumption|skip))
   (refine qg fun T F hT hF => ?_; simp [go_sem]; refine hT ?_; clear hT hF T F)
   (refine qc fun Y Yh => ?_; simp [go_sem]; ((repeat' (first|(refine qf ?_;simp [go_sem])|intro _|apply And.intro|(apply Yh;clear Yh Y)));all_goals first|apply QS|omega|with_reducible assumption|skip))
   (refine qj ?_; simp [go_sem])
  | cons c0 d0 =>
   (refine qc fun Y Yh => ?_; simp [go_sem]; ((repeat' (first|(refine qf ?_;simp [go_sem])|intro _|apply And.intro|(apply Yh;clear Yh Y)));all_goals first|apply QS|omega|with_reducible assumption|skip))
   (refine qg fun T F hT hF => ?_; simp [go_sem]; refine hF ?_; clear hT hF T F)
   refine qi ?_
   refine hK3 _ ?_; clear hK3
   generalize hd : c0 :: d0 = d at *
   rw [if_neg (by rw [← hd]; simp)] at hS
   simp only [Prod.mk.injEq] at hS
   obtain ⟨rfl, rfl, rfl⟩ := hS
   (refine qc fun Y Yh => ?_; simp [go_sem]; ((repeat' (first|(refine qf ?_;simp [go_sem])|intro _|apply And.intro|(apply Yh;clear Yh Y)));all_goals first|apply QS|omega|with_reducible assumption|skip))
   refine qh fun K5 hK5 => ?_
   (refine qc fun Y Yh => ?_; simp [go_sem]; ((repeat' (first|(refine qf ?_;simp [go_sem])|intro _|apply And.intro|(apply Yh;clear Yh Y)));all_goals first|apply QS|omega|with_reducible assumption|skip))
   refine qo ?_
   refine qM (σ := Nat) (fun i => ⟨[(7, dS d), (8, dS rest), (9, dI (sizN 0 (d.take i))), (10, dI i)], []⟩) (fun i => i ≤ d.length) (fun i => d.length - i) 0 ?_ ?_ ?_
   ·(refine ql ?_ ?_ <;> simp [go_sem])
    rfl
   ·simp
   intro i hi
   refine qh fun K6 hK6 => ?_
   have hn := sizN_le (d.take i)
   (refine qc fun Y Yh => ?_; simp [go_sem, ba_size]; ((repeat' (first|(refine qf ?_;simp [go_sem, ba_size])|intro _|apply And.intro|(apply Yh;clear Yh Y)));all_goals first|apply QS|omega|with_reducible assumption|skip))
   by_cases h7 : i < d.length
   ·have hst := sizN_step h7
    have hdg := hall i h7
    have hd2 := (isDig_iff _).1 hdg
    skip
    generalize sizN 0 (d.take i) = N at *
    generalize hc : d[i] = c at *
    have hu : (IntKind.u8.wrap ((c.toNat : Int) - 48)) = ((c.toNat - 48 : Nat) : Int) := by rw [IntKind.wrap_u8]; omega
    (refine qg fun T F hT hF => ?_; simp [go_sem, h7]; refine hT ?_; clear hT hF T F)
    refine qi ?_
    refine hK6 _ ?_; clear hK6
    refine qh fun K8 hK8 => ?_
    refine qo ?_
    (refine qx fun Y Yh => ?_; simp [go_sem, h7, hc, hu, ba_size]; ((repeat' (first|(refine qf ?_;simp [go_sem, h7, hc, hu, ba_size])|intro _|apply And.intro|(apply Yh;clear Yh Y)));all_goals first|apply QS|omega|with_reducible assumption|skip))
    refine hK8 _ ?_; clear hK8
    (refine qx fun Y Yh => ?_; simp [go_sem]; ((repeat' (first|(refine qf ?_;simp [go_sem])|intro _|apply And.intro|(apply Yh;clear Yh Y)));all_goals first|apply QS|omega|with_reducible assumption|skip))
    refine ⟨i + 1, ?_, by omega, by omega⟩
    (refine ql ?_ ?_ <;> simp [go_sem])
    rw [hst]
    omega
   ·have : i = d.length := by omega
    subst this
    rw [List.take_length] at *
    (refine qg fun T F hT hF => ?_; simp [go_sem, h7]; refine hF ?_; clear hT hF T F)
    refine qH ?_
    simp only [go_sem]
    refine hK5 _ ?_; clear hK5
    generalize sizN 0 d = N at *
    (refine qc fun Y Yh => ?_; simp [go_sem]; ((repeat' (first|(refine qf ?_;simp [go_sem])|intro _|apply And.intro|(apply Yh;clear Yh Y)));all_goals first|apply QS|omega|with_reducible assumption|skip))
    (refine qj ?_; simp [go_sem])
    omega
end Go.Proofs.YtelhdhofnohkcaaGreatDoor
namespace Go.Fm
/-! the table of the quoting -/
def spc (c : UInt8) : Bool := c == 10 || c == 34 || c == 92
def cntS (s : List UInt8) : Nat := (s.filter spc).length
theorem quoC_spc {c : UInt8} (h : spc c = true) : quoC c = [92, if c = 10 then 110 else c] := by
 unfold spc at h
 simp only [Bool.or_eq_true, beq_iff_eq] at h
 rcases h with (rfl | rfl) | rfl <;> rfl
theorem quoC_no {c : UInt8} (h : spc c = false) : quoC c = [c] := by
 unfold spc at h
 simp only [Bool.or_eq_false_iff, beq_eq_false_iff_ne] at h
 unfold quoC
 rw [if_neg (by rintro (q | q) <;> simp_all), if_neg h.1.1]
theorem quo_len (s : List UInt8) : (s.flatMap quoC).length = s.length + cntS s := by
 induction s with
 | nil => rfl
 | cons c s ih =>
  simp only [List.flatMap_cons, List.length_append, List.length_cons, ih, cntS, List.filter_cons]
  cases h : spc c
  ·rw [quoC_no h]; simp; omega
  ·rw [quoC_spc h]; simp; omega
theorem quo_none {s : List UInt8} (h : cntS s = 0) : s.flatMap quoC = s := by
 induction s with
 | nil => rfl
 | cons c s ih =>
  simp only [cntS, List.filter_cons] at h
  cases hc : spc c
  ·rw [hc] at h
   rw [List.flatMap_cons, quoC_no hc, ih (by simpa [cntS] using h)]; rfl
  ·rw [hc] at h; simp at h
theorem cntS_take {s : List UInt8} {i : Nat} (h : i < s.length) : cntS (s.take (i + 1)) = cntS (s.take i) + if spc s[i] then 1 else 0 := by
 rw [List.take_add_one, List.getElem?_eq_getElem h]
 simp only [cntS, Option.toList_some, List.filter_append, List.length_append, List.filter_cons, List.filter_nil]
 cases spc s[i] <;> rfl
theorem cntS_le (s : List UInt8) : cntS s ≤ s.length := List.length_filter_le _ _
theorem quo_take {s : List UInt8} {i : Nat} (h : i < s.length) : (s.take (i + 1)).flatMap quoC = (s.take i).flatMap quoC ++ quoC s[i] := by
 rw [List.take_add_one, List.getElem?_eq_getElem h]; simp only [Option.toList_some, List.flatMap_append, List.flatMap_cons, List.flatMap_nil, List.append_nil]
theorem vN (s : List UInt8) : s.count 10 + s.count 34 + s.count 92 = cntS s := by
 induction s with
 | nil => rfl
 | cons c s ih =>
  simp only [List.count_cons, cntS, List.filter_cons] at ih ⊢
  by_cases h1 : c = 10
  ·subst h1; simp [spc]; omega
  ·by_cases h2 : c = 34
   ·subst h2; simp [spc]; omega
   ·by_cases h3 : c = 92
    ·subst h3; simp [spc]; omega
    ·simp [spc, h1, h2, h3]; omega
theorem quo_le (s : List UInt8) (i : Nat) : ((s.take i).flatMap quoC).length ≤ (s.flatMap quoC).length := by
 have h : s.flatMap quoC = (s.take i).flatMap quoC ++ (s.drop i).flatMap quoC := by rw [← List.flatMap_append, List.take_append_drop]
 rw [h, List.length_append]
 omega
def qF (s : List UInt8) : List UInt8 := s.flatMap quoC
theorem qF_len (s : List UInt8) : (qF s).length = s.length + cntS s := quo_len s
theorem qF_none {s : List UInt8} (h : cntS s = 0) : qF s = s := quo_none h
theorem qF_take {s : List UInt8} {i : Nat} (h : i < s.length) : qF (s.take (i + 1)) = qF (s.take i) ++ quoC s[i] := quo_take h
theorem qF_le (s : List UInt8) (i : Nat) : (qF (s.take i)).length ≤ (qF s).length := quo_le s i
theorem qF_nil : qF [] = [] := rfl
theorem xK (s : List UInt8) : quoV s = 34 :: qF s ++ [34] := rfl
end Go.Fm
