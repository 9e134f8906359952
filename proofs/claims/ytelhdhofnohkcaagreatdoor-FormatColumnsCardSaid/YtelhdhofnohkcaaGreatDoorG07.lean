/- Part of a proof: see the last text. -/
import Derived.Test.YtelhdhofnohkcaaGreatDoorG06
import Derived.Test.YtelhdhofnohkcaaGreatDoorG05
import Derived.Test.YtelhdhofnohkcaaGreatDoorG04
import Derived.Lib.FrozenHead2
import Derived.Shelf.RegionOpenPlain
import Derived.Test.YtelhdhofnohkcaaGreatDoorG03
set_option linter.unusedVariables false
set_option linter.unusedSimpArgs false
namespace Go.Proofs.YtelhdhofnohkcaaGreatDoor
open Go.Eng Go.Fm
set_option maxRecDepth 20000
attribute [local irreducible] AG CallA CallT AWp PCall ACall AgC
set_option maxHeartbeats 32000000 in
theorem fill_np (args : List Ag) (u g : Nat) (f : Fld) (hA : AgsOk args) (hu : u ≤ args.length) (hf : FdOk f) (h0 : f.lt ≠ 0) (hl : f.lt ∈ lets) (hp : f.lt ≠ 112) :
  ACall Tryz.prog 49 [.ptr 900004 g 0, dF f] [fiB g args u] [900004]
   fun ps r => ps = [(g, .box [dAs args, dI (fillV args u f).2.2])] ∧ r = .tup [dS (fillV args u f).1, dI (fillV args u f).2.1] := by 
 refine acall_of Tryz.func49 rfl rfl Tryz.ntmps49 (rs := [.tmp 4, .tmp 5]) (tys := [9, 34]) rfl rfl (by simp) (by simp [notFroz]) ?_
 have hS := fun gf => stars_spec args u g gf f hu hA.1
 have hsl := stars_le hu f
 have hso := fun h => stars_ok (args := args) (u := u) hf h
 have eV : fillV args u f = (if (starsV args u f).1 ≠ 0 then ([], (starsV args u f).1, (starsV args u f).2.1) else
  if (ofA args (starsV args u f).2.1 f.nm).2.1 ≠ 0 then ([], (ofA args (starsV args u f).2.1 f.nm).2.1, (ofA args (starsV args u f).2.1 f.nm).2.2) else
  match putV (starsV args u f).2.2 (ofA args (starsV args u f).2.1 f.nm).1 with
  | none => ([], 1, (ofA args (starsV args u f).2.1 f.nm).2.2)
  | some t => (t, 0, (ofA args (starsV args u f).2.1 f.nm).2.2)) := by unfold fillV; rw [if_neg h0]; rfl
 generalize hV : fillV args u f = V at *
 generalize starsV args u f = S at *
 obtain ⟨se, su, sf⟩ := S
 simp only at hS hsl hso eV ⊢
 by_cases he : se = 0
 ·subst he
  obtain ⟨⟨hw, hpr⟩, hlt, hnm⟩ := hso rfl
  have hO := of_spec args su g sf hsl hA.1
  have hoa := ofA_ok hA su sf.nm
  rw [hnm] at hO hoa
  rw [if_neg (by simp)] at eV
  generalize ofA args su f.nm = O at *
  obtain ⟨oa, oe, ou⟩ := O
  simp only at hO hoa eV
  (refine awp_sr fun Y Yh => ?_; simp [go_sem]; ((repeat' (first|(refine ag_x ?_;simp [go_sem])|intro _|apply And.intro|(apply Yh;clear Yh Y)));all_goals first|apply Hold.mk|omega|with_reducible assumption|skip))
  refine awp_renbox 3 900003 rfl rfl (by decide) fun gf => ?_
  simp only [go_sem]
  refine awp_seq_k fun K1 hK1 => ?_
  (refine awp_sr fun Y Yh => ?_; simp [go_sem]; ((repeat' (first|(refine ag_x ?_;simp [go_sem])|intro _|apply And.intro|(apply Yh;clear Yh Y)));all_goals first|apply Hold.mk|omega|with_reducible assumption|skip))
  (refine callA_l [900004, 900003] (.inl ⟨rfl,rfl⟩) (by simp [go_sem]) ?_; intro args ha; simp [go_sem] at ha; subst ha; refine ⟨_, _, (hS gf), (by simp [go_sem]), ?_⟩; rintro ps r hps ⟨rfl, rfl⟩; simp [go_sem]; ((repeat' (first|(refine ag_x ?_;simp [go_sem])|intro _|apply And.intro|(apply Yh;clear Yh Y)));all_goals first|apply Hold.mk|omega|with_reducible assumption|skip))
  (refine awp_sr fun Y Yh => ?_; simp [go_sem]; ((repeat' (first|(refine ag_x ?_;simp [go_sem])|intro _|apply And.intro|(apply Yh;clear Yh Y)));all_goals first|apply Hold.mk|omega|with_reducible assumption|skip))
  (refine awp_if fun T F hT hF => ?_; simp [go_sem]; refine hF ?_; clear hT hF T F)
  refine awp_skip ?_
  refine hK1 _ ?_; clear hK1
  (refine awp_sr fun Y Yh => ?_; simp [go_sem]; ((repeat' (first|(refine ag_x ?_;simp [go_sem])|intro _|apply And.intro|(apply Yh;clear Yh Y)));all_goals first|apply Hold.mk|omega|with_reducible assumption|skip))
  (refine callA_l [900004] (.inl ⟨rfl,rfl⟩) (by simp [go_sem]) ?_; intro args ha; simp [go_sem] at ha; subst ha; refine ⟨_, _, hO, (by simp [go_sem]), ?_⟩; rintro ps r hps ⟨rfl, rfl⟩; simp [go_sem]; ((repeat' (first|(refine ag_x ?_;simp [go_sem])|intro _|apply And.intro|(apply Yh;clear Yh Y)));all_goals first|apply Hold.mk|omega|with_reducible assumption|skip))
  refine awp_seq_k fun K3 hK3 => ?_
  by_cases hoe : oe = 0
  ·subst hoe
   rw [if_neg (by simp)] at eV
   (refine awp_sr fun Y Yh => ?_; simp [go_sem]; ((repeat' (first|(refine ag_x ?_;simp [go_sem])|intro _|apply And.intro|(apply Yh;clear Yh Y)));all_goals first|apply Hold.mk|omega|with_reducible assumption|skip))
   (refine awp_if fun T F hT hF => ?_; simp [go_sem]; refine hF ?_; clear hT hF T F)
   refine awp_skip ?_
   refine hK3 _ ?_; clear hK3
   refine awp_seq_k fun K5 hK5 => ?_
   have b115 : decide ((sf.lt.toNat : Int) = 115) = decide (sf.lt = 115) := u8_eqb _ 115 (by decide)
   have b112 : decide ((sf.lt.toNat : Int) = 112) = decide (sf.lt = 112) := u8_eqb _ 112 (by decide)
   have b99 : decide ((sf.lt.toNat : Int) = 99) = decide (sf.lt = 99) := u8_eqb _ 99 (by decide)
   (refine awp_sr fun Y Yh => ?_; simp [go_sem]; ((repeat' (first|(refine ag_x ?_;simp [go_sem])|intro _|apply And.intro|(apply Yh;clear Yh Y)));all_goals first|apply Hold.mk|omega|with_reducible assumption|skip))
   refine awp_block ?_
   (refine awp_sr fun Y Yh => ?_; simp [go_sem, b115]; ((repeat' (first|(refine ag_x ?_;simp [go_sem, b115])|intro _|apply And.intro|(apply Yh;clear Yh Y)));all_goals first|apply Hold.mk|omega|with_reducible assumption|skip))
   by_cases h115 : sf.lt = 115
   ·have e2 : putV sf oa = some (paddedV sf (shortV sf (textV oa))) := by unfold putV; rw [if_pos h115]
    rw [e2] at eV
    simp only at eV
    have hT := text_spec oa hoa.1
    have hSh := short_spec sf (textV oa)
    have htl := text_len hoa
    have hsl2 := short_len sf (textV oa)
    have hPd := padded_spec sf (shortV sf (textV oa)) (by omega) (by omega)
    (refine awp_if fun T F hT hF => ?_; simp [go_sem, h115]; refine hT ?_; clear hT hF T F)
    ((refine awp_dr (.qs [0, 1, 2] (.kp 3 (.kp 4 (.kp 5 (.qs [6, 7] (.nil)))))) (by kernel_rfl) ?_ ?_ ?_ ?_); (kernel_rfl); (exact (by decide +kernel)); (kernel_rfl); intro Y Yh; ((repeat' (first|(refine ag_x ?_;simp [go_sem])|refine adr_nil ?_|((first|refine adr_qs fun Y Yh=>?_|refine adr_y fun Y Yh=>?_);simp [go_sem])|intro _|apply And.intro|(apply Yh;clear Yh Y)));all_goals first|apply Hold.mk|omega|with_reducible assumption|skip))
    ((try refine CallT.toA ?_); refine callT_f (.inl ⟨rfl,rfl⟩) ?_; intro args ha; simp [go_sem] at ha; subst ha; refine ⟨_, hT, ?_⟩; rintro _ rfl; refine ⟨rfl, ?_⟩; simp [go_sem]; ((repeat' (first|(refine ag_x ?_;simp [go_sem])|refine adr_nil ?_|((first|refine adr_qs fun Y Yh=>?_|refine adr_y fun Y Yh=>?_);simp [go_sem])|intro _|apply And.intro|(apply Yh;clear Yh Y)));all_goals first|apply Hold.mk|omega|with_reducible assumption|skip))
    ((try refine CallT.toA ?_); refine callT_f (.inl ⟨rfl,rfl⟩) ?_; intro args ha; simp [go_sem] at ha; subst ha; refine ⟨_, hSh, ?_⟩; rintro _ rfl; refine ⟨rfl, ?_⟩; simp [go_sem]; ((repeat' (first|(refine ag_x ?_;simp [go_sem])|refine adr_nil ?_|((first|refine adr_qs fun Y Yh=>?_|refine adr_y fun Y Yh=>?_);simp [go_sem])|intro _|apply And.intro|(apply Yh;clear Yh Y)));all_goals first|apply Hold.mk|omega|with_reducible assumption|skip))
    ((try refine CallT.toA ?_); refine callT_f (.inl ⟨rfl,rfl⟩) ?_; intro args ha; simp [go_sem] at ha; subst ha; refine ⟨_, hPd, ?_⟩; rintro _ rfl; refine ⟨rfl, ?_⟩; simp [go_sem]; ((repeat' (first|(refine ag_x ?_;simp [go_sem])|refine adr_nil ?_|((first|refine adr_qs fun Y Yh=>?_|refine adr_y fun Y Yh=>?_);simp [go_sem])|intro _|apply And.intro|(apply Yh;clear Yh Y)));all_goals first|apply Hold.mk|omega|with_reducible assumption|skip))
    (refine awp_ret ?_; simp [go_sem, eV])
   ·(refine awp_if fun T F hT hF => ?_; simp [go_sem, h115]; refine hF ?_; clear hT hF T F)
    (refine awp_sr fun Y Yh => ?_; simp [go_sem, b112]; ((repeat' (first|(refine ag_x ?_;simp [go_sem, b112])|intro _|apply And.intro|(apply Yh;clear Yh Y)));all_goals first|apply Hold.mk|omega|with_reducible assumption|skip))
    have h112 : ¬ sf.lt = 112 := by rw [hlt]; exact hp
    (refine awp_if fun T F hT hF => ?_; simp [go_sem, h112]; refine hF ?_; clear hT hF T F)
    (refine awp_sr fun Y Yh => ?_; simp [go_sem, b99]; ((repeat' (first|(refine ag_x ?_;simp [go_sem, b99])|intro _|apply And.intro|(apply Yh;clear Yh Y)));all_goals first|apply Hold.mk|omega|with_reducible assumption|skip))
    by_cases h99 : sf.lt = 99
    ·have e2 : putV sf oa = if oa.is then (if oa.tx = [] then none else some (paddedV sf (oa.tx.take 1))) else if oa.int < 0 ∨ 255 < oa.int then none else some (paddedV sf [UInt8.ofNat oa.int.toNat]) := by
      unfold putV; rw [if_neg h115, if_neg h112, if_pos h99]
     rw [e2] at eV
     (refine awp_if fun T F hT hF => ?_; simp [go_sem, h99]; refine hT ?_; clear hT hF T F)
     refine awp_seq_k fun K9 hK9 => ?_
     refine awp_block ?_
     cases his : oa.is with
     | true =>
      rw [his] at eV
      simp only [if_true] at eV
      cases htx : oa.tx with
      | nil =>
       rw [htx] at eV
       simp only [if_true] at eV
       (refine awp_sr fun Y Yh => ?_; simp [go_sem, his, htx]; ((repeat' (first|(refine ag_x ?_;simp [go_sem, his, htx])|intro _|apply And.intro|(apply Yh;clear Yh Y)));all_goals first|apply Hold.mk|omega|with_reducible assumption|skip))
       (refine awp_if fun T F hT hF => ?_; simp [go_sem]; refine hF ?_; clear hT hF T F)
       (refine awp_sr fun Y Yh => ?_; simp [go_sem, his, htx]; ((repeat' (first|(refine ag_x ?_;simp [go_sem, his, htx])|intro _|apply And.intro|(apply Yh;clear Yh Y)));all_goals first|apply Hold.mk|omega|with_reducible assumption|skip))
       (refine awp_if fun T F hT hF => ?_; simp [go_sem]; refine hT ?_; clear hT hF T F)
       (refine awp_sr fun Y Yh => ?_; simp [go_sem]; ((repeat' (first|(refine ag_x ?_;simp [go_sem])|intro _|apply And.intro|(apply Yh;clear Yh Y)));all_goals first|apply Hold.mk|omega|with_reducible assumption|skip))
       (refine awp_ret ?_; simp [go_sem, eV])
      | cons c0 r0 =>
       rw [htx] at eV
       simp only [reduceCtorEq, if_false, List.take_succ_cons, List.take_zero] at eV
       have hPd := padded_spec sf [c0] (by omega) (by simp)
       have hcut : ({ data := (c0 :: r0).toArray } : ByteArray).extract 0 1 = { data := [c0].toArray } := by rw [ba_cut]; rfl
       (refine awp_sr fun Y Yh => ?_; simp [go_sem, his, htx]; ((repeat' (first|(refine ag_x ?_;simp [go_sem, his, htx])|intro _|apply And.intro|(apply Yh;clear Yh Y)));all_goals first|apply Hold.mk|omega|with_reducible assumption|skip))
       (refine awp_if fun T F hT hF => ?_; simp [go_sem]; refine hT ?_; clear hT hF T F)
       ((refine awp_dr (.qs [1, 0, 2, 3] (.one 4 (.qs [5, 6] (.nil)))) (by kernel_rfl) ?_ ?_ ?_ ?_); (kernel_rfl); (exact (by decide +kernel)); (kernel_rfl); intro Y Yh; ((repeat' (first|(refine ag_x ?_;simp [go_sem, htx, ba_size, hcut])|refine adr_nil ?_|((first|refine adr_qs fun Y Yh=>?_|refine adr_y fun Y Yh=>?_);simp [go_sem, htx, ba_size, hcut])|intro _|apply And.intro|(apply Yh;clear Yh Y)));all_goals first|apply Hold.mk|omega|with_reducible assumption|skip))
       ((try refine CallT.toA ?_); refine callT_f (.inl ⟨rfl,rfl⟩) ?_; intro args ha; simp [go_sem] at ha; subst ha; refine ⟨_, hPd, ?_⟩; rintro _ rfl; refine ⟨rfl, ?_⟩; simp [go_sem]; ((repeat' (first|(refine ag_x ?_;simp [go_sem])|refine adr_nil ?_|((first|refine adr_qs fun Y Yh=>?_|refine adr_y fun Y Yh=>?_);simp [go_sem])|intro _|apply And.intro|(apply Yh;clear Yh Y)));all_goals first|apply Hold.mk|omega|with_reducible assumption|skip))
       (refine awp_ret ?_; simp [go_sem, eV])
     | false =>
      rw [his] at eV
      simp only [Bool.false_eq_true, if_false] at eV
      by_cases hr : oa.int < 0 ∨ 255 < oa.int
      ·rw [if_pos hr] at eV
       have hb : (decide (oa.int < 0) || decide (255 < oa.int)) = true := by simpa using hr
       (refine awp_sr fun Y Yh => ?_; simp [go_sem, his]; ((repeat' (first|(refine ag_x ?_;simp [go_sem, his])|intro _|apply And.intro|(apply Yh;clear Yh Y)));all_goals first|apply Hold.mk|omega|with_reducible assumption|skip))
       (refine awp_if fun T F hT hF => ?_; simp [go_sem]; refine hF ?_; clear hT hF T F)
       (refine awp_sr fun Y Yh => ?_; simp [go_sem, his]; ((repeat' (first|(refine ag_x ?_;simp [go_sem, his])|intro _|apply And.intro|(apply Yh;clear Yh Y)));all_goals first|apply Hold.mk|omega|with_reducible assumption|skip))
       (refine awp_if fun T F hT hF => ?_; simp [go_sem, hb]; refine hT ?_; clear hT hF T F)
       (refine awp_sr fun Y Yh => ?_; simp [go_sem]; ((repeat' (first|(refine ag_x ?_;simp [go_sem])|intro _|apply And.intro|(apply Yh;clear Yh Y)));all_goals first|apply Hold.mk|omega|with_reducible assumption|skip))
       (refine awp_ret ?_; simp [go_sem, eV])
      ·rw [if_neg hr] at eV
       have hb : (decide (oa.int < 0) || decide (255 < oa.int)) = false := by rw [Bool.eq_false_iff]; intro q; exact hr (by simpa using q)
       have hwr : IntKind.u8.wrap oa.int = oa.int := by rw [IntKind.wrap_u8]; omega
       have hbd : bytesD [[D.v (.int .u8 oa.int)]] = some [UInt8.ofNat oa.int.toNat] := by
        have e : ((UInt8.ofNat oa.int.toNat).toNat : Int) = oa.int := by simp; omega
        have := bytesD_map [UInt8.ofNat oa.int.toNat]
        simp only [List.map_cons, List.map_nil, e] at this
        exact this
       have hPd := padded_spec sf [UInt8.ofNat oa.int.toNat] (by omega) (by simp)
       (refine awp_sr fun Y Yh => ?_; simp [go_sem, his]; ((repeat' (first|(refine ag_x ?_;simp [go_sem, his])|intro _|apply And.intro|(apply Yh;clear Yh Y)));all_goals first|apply Hold.mk|omega|with_reducible assumption|skip))
       (refine awp_if fun T F hT hF => ?_; simp [go_sem]; refine hF ?_; clear hT hF T F)
       (refine awp_sr fun Y Yh => ?_; simp [go_sem, his]; ((repeat' (first|(refine ag_x ?_;simp [go_sem, his])|intro _|apply And.intro|(apply Yh;clear Yh Y)));all_goals first|apply Hold.mk|omega|with_reducible assumption|skip))
       (refine awp_if fun T F hT hF => ?_; simp [go_sem, hb]; refine hF ?_; clear hT hF T F)
       refine awp_skip ?_
       refine hK9 _ ?_; clear hK9
       (refine awp_sr fun Y Yh => ?_; simp [go_sem, hwr, hbd]; ((repeat' (first|(refine ag_x ?_;simp [go_sem, hwr, hbd])|intro _|apply And.intro|(apply Yh;clear Yh Y)));all_goals first|apply Hold.mk|omega|with_reducible assumption|skip))
       ((try refine CallT.toA ?_); refine callT_f (.inl ⟨rfl,rfl⟩) ?_; intro args ha; simp [go_sem] at ha; subst ha; refine ⟨_, hPd, ?_⟩; rintro _ rfl; refine ⟨rfl, ?_⟩; simp [go_sem]; ((repeat' (first|(refine ag_x ?_;simp [go_sem])|intro _|apply And.intro|(apply Yh;clear Yh Y)));all_goals first|apply Hold.mk|omega|with_reducible assumption|skip))
       (refine awp_ret ?_; simp [go_sem, eV])
    ·have hNL : NL sf.lt := by
      have h := hl
      rw [← hlt] at h
      simp only [lets, List.mem_cons, List.not_mem_nil, or_false] at h
      unfold NL
      rcases h with h | h | h | h | h | h | h | h
      ·exact .inl h
      ·exact .inr (.inl h)
      ·exact .inr (.inr (.inl h))
      ·exact .inr (.inr (.inr (.inl h)))
      ·exact .inr (.inr (.inr (.inr h)))
      ·exact absurd h h115
      ·exact absurd h h99
      ·exact absurd h h112
     have e2 : putV sf oa = (numA oa).map (numV sf) := by unfold putV; rw [if_neg h115, if_neg h112, if_neg h99]
     rw [e2] at eV
     have hNs := number_spec oa hoa.1 hoa.2
     unfold numQ at hNs
     (refine awp_if fun T F hT hF => ?_; simp [go_sem, h99]; refine hF ?_; clear hT hF T F)
     refine awp_skip ?_
     refine hK5 _ ?_; clear hK5
     cases hna : numA oa with
     | none =>
      rw [hna] at eV hNs
      simp only [Option.map_none] at eV
      (refine awp_sr fun Y Yh => ?_; simp [go_sem]; ((repeat' (first|(refine ag_x ?_;simp [go_sem])|intro _|apply And.intro|(apply Yh;clear Yh Y)));all_goals first|apply Hold.mk|omega|with_reducible assumption|skip))
      ((try refine CallT.toA ?_); refine callT_f (.inl ⟨rfl,rfl⟩) ?_; intro args ha; simp [go_sem] at ha; subst ha; refine ⟨_, hNs, ?_⟩; rintro _ rfl; refine ⟨rfl, ?_⟩; simp [go_sem]; ((repeat' (first|(refine ag_x ?_;simp [go_sem])|intro _|apply And.intro|(apply Yh;clear Yh Y)));all_goals first|apply Hold.mk|omega|with_reducible assumption|skip))
      refine awp_seq_k fun K12 hK12 => ?_
      (refine awp_sr fun Y Yh => ?_; simp [go_sem]; ((repeat' (first|(refine ag_x ?_;simp [go_sem])|intro _|apply And.intro|(apply Yh;clear Yh Y)));all_goals first|apply Hold.mk|omega|with_reducible assumption|skip))
      (refine awp_if fun T F hT hF => ?_; simp [go_sem]; refine hT ?_; clear hT hF T F)
      (refine awp_sr fun Y Yh => ?_; simp [go_sem]; ((repeat' (first|(refine ag_x ?_;simp [go_sem])|intro _|apply And.intro|(apply Yh;clear Yh Y)));all_goals first|apply Hold.mk|omega|with_reducible assumption|skip))
      (refine awp_ret ?_; simp [go_sem, eV])
     | some n =>
      rw [hna] at eV hNs
      simp only [Option.map_some] at eV
      have hNu := num_spec sf n (numA_in hoa hna) hNL hw (by omega)
      (refine awp_sr fun Y Yh => ?_; simp [go_sem]; ((repeat' (first|(refine ag_x ?_;simp [go_sem])|intro _|apply And.intro|(apply Yh;clear Yh Y)));all_goals first|apply Hold.mk|omega|with_reducible assumption|skip))
      ((try refine CallT.toA ?_); refine callT_f (.inl ⟨rfl,rfl⟩) ?_; intro args ha; simp [go_sem] at ha; subst ha; refine ⟨_, hNs, ?_⟩; rintro _ rfl; refine ⟨rfl, ?_⟩; simp [go_sem]; ((repeat' (first|(refine ag_x ?_;simp [go_sem])|intro _|apply And.intro|(apply Yh;clear Yh Y)));all_goals first|apply Hold.mk|omega|with_reducible assumption|skip))
      refine awp_seq_k fun K12 hK12 => ?_
      (refine awp_sr fun Y Yh => ?_; simp [go_sem]; ((repeat' (first|(refine ag_x ?_;simp [go_sem])|intro _|apply And.intro|(apply Yh;clear Yh Y)));all_goals first|apply Hold.mk|omega|with_reducible assumption|skip))
      (refine awp_if fun T F hT hF => ?_; simp [go_sem]; refine hF ?_; clear hT hF T F)
      refine awp_skip ?_
      refine hK12 _ ?_; clear hK12
      (refine awp_sr fun Y Yh => ?_; simp [go_sem]; ((repeat' (first|(refine ag_x ?_;simp [go_sem])|intro _|apply And.intro|(apply Yh;clear Yh Y)));all_goals first|apply Hold.mk|omega|with_reducible assumption|skip))
      ((try refine CallT.toA ?_); refine callT_f (.inl ⟨rfl,rfl⟩) ?_; intro args ha; simp [go_sem] at ha; subst ha; refine ⟨_, hNu, ?_⟩; rintro _ rfl; refine ⟨rfl, ?_⟩; simp [go_sem]; ((repeat' (first|(refine ag_x ?_;simp [go_sem])|intro _|apply And.intro|(apply Yh;clear Yh Y)));all_goals first|apply Hold.mk|omega|with_reducible assumption|skip))
      (refine awp_ret ?_; simp [go_sem, eV])
  ·rw [if_pos (by simpa using hoe)] at eV
   (refine awp_sr fun Y Yh => ?_; simp [go_sem]; ((repeat' (first|(refine ag_x ?_;simp [go_sem])|intro _|apply And.intro|(apply Yh;clear Yh Y)));all_goals first|apply Hold.mk|omega|with_reducible assumption|skip))
   (refine awp_if fun T F hT hF => ?_; simp [go_sem, hoe]; refine hT ?_; clear hT hF T F)
   (refine awp_sr fun Y Yh => ?_; simp [go_sem]; ((repeat' (first|(refine ag_x ?_;simp [go_sem])|intro _|apply And.intro|(apply Yh;clear Yh Y)));all_goals first|apply Hold.mk|omega|with_reducible assumption|skip))
   (refine awp_ret ?_; simp [go_sem, eV])
 ·rw [if_pos (by simpa using he)] at eV
  (refine awp_sr fun Y Yh => ?_; simp [go_sem]; ((repeat' (first|(refine ag_x ?_;simp [go_sem])|intro _|apply And.intro|(apply Yh;clear Yh Y)));all_goals first|apply Hold.mk|omega|with_reducible assumption|skip))
  refine awp_renbox 3 900003 rfl rfl (by decide) fun gf => ?_
  simp only [go_sem]
  refine awp_seq_k fun K1 hK1 => ?_
  (refine awp_sr fun Y Yh => ?_; simp [go_sem]; ((repeat' (first|(refine ag_x ?_;simp [go_sem])|intro _|apply And.intro|(apply Yh;clear Yh Y)));all_goals first|apply Hold.mk|omega|with_reducible assumption|skip))
  (refine callA_l [900004, 900003] (.inl ⟨rfl,rfl⟩) (by simp [go_sem]) ?_; intro args ha; simp [go_sem] at ha; subst ha; refine ⟨_, _, (hS gf), (by simp [go_sem]), ?_⟩; rintro ps r hps ⟨rfl, rfl⟩; simp [go_sem]; ((repeat' (first|(refine ag_x ?_;simp [go_sem])|intro _|apply And.intro|(apply Yh;clear Yh Y)));all_goals first|apply Hold.mk|omega|with_reducible assumption|skip))
  (refine awp_sr fun Y Yh => ?_; simp [go_sem]; ((repeat' (first|(refine ag_x ?_;simp [go_sem])|intro _|apply And.intro|(apply Yh;clear Yh Y)));all_goals first|apply Hold.mk|omega|with_reducible assumption|skip))
  (refine awp_if fun T F hT hF => ?_; simp [go_sem, he]; refine hT ?_; clear hT hF T F)
  (refine awp_sr fun Y Yh => ?_; simp [go_sem]; ((repeat' (first|(refine ag_x ?_;simp [go_sem])|intro _|apply And.intro|(apply Yh;clear Yh Y)));all_goals first|apply Hold.mk|omega|with_reducible assumption|skip))
  (refine awp_ret ?_; simp [go_sem, eV])
end Go.Proofs.YtelhdhofnohkcaaGreatDoor
namespace Go.Proofs.YtelhdhofnohkcaaGreatDoor
open Go.Eng Go.Fm
set_option maxRecDepth 20000
def FrOk (f : Fld) : Prop := FdOk f ∧ (f.lt = 0 ∨ f.lt ∈ lets) ∧ f.tx.length ≤ 2000
theorem fdT_ok {t : Bs} (h : t.length ≤ 2000) : FrOk (fdT t) := ⟨⟨.inr (by simp [fdT]), .inr (by simp [fdT])⟩, .inl rfl, h⟩
theorem digitsV_ok {m : Int} (hm : -1 ≤ m ∧ m ≤ 1000) {s : Bs} (h : (digitsV m s).2.1 = true) : (digitsV m s).1 = -2 ∨ (-1 ≤ (digitsV m s).1 ∧ (digitsV m s).1 ≤ 1000) := by
 unfold digitsV at h ⊢
 by_cases h42 : pk s = 42
 ·rw [if_pos h42]; exact .inl rfl
 ·rw [if_neg h42] at h ⊢
  simp only at h ⊢
  by_cases ha : (digR 0 false s).2.1 = true
  ·rw [if_pos ha] at h ⊢
   simp only [decide_eq_true_eq] at h
   exact .inr ⟨by simp only; omega, by simp only; omega⟩
  ·rw [if_neg ha]; exact .inr hm
theorem fieldV_ok {s r : Bs} {f : Fld} (h : fieldV s = some (f, r)) : FrOk f := by
 unfold fieldV at h
 split at h
 ·cases h
 ·rename_i nm s1 hn
  simp only at h
  have ht : (flagR { fd0 with nm := nm } s1).1.tx = [] := by rw [flag_same]; rfl
  generalize flagR { fd0 with nm := nm } s1 = q at *
  have h3 := @digitsV_ok (-1) (by decide) q.2
  generalize digitsV (-1) q.2 = w at *
  have h4 : (precV w.2.2).2.1 = true → (precV w.2.2).1 = -2 ∨ (-1 ≤ (precV w.2.2).1 ∧ (precV w.2.2).1 ≤ 1000) := by
   unfold precV
   split
   ·exact digitsV_ok (by decide)
   ·intro _; exact .inr ⟨by simp only; omega, by simp only; omega⟩
  generalize precV w.2.2 = p at *
  split at h
  ·cases h
  ·split at h
   ·cases h
   ·rename_i hw hp
    split at h
    ·rename_i hc
     cases h
     refine ⟨⟨h3 (by simpa using hw), h4 (by simpa using hp)⟩, .inr hc.2.1, ?_⟩
     simp only [ht]; simp
    ·cases h
theorem readF_ok : ∀ (k : Nat) (s : Bs) (out : List Fld) (a b : Bool) (L : List Fld), (∀ f ∈ out, FrOk f) → s.length ≤ 2000 → readF k s out a b = some L → ∀ f ∈ L, FrOk f := by
 intro k
 induction k with
 | zero => intro s out a b L _ _ h; simp [readF] at h
 | succ k ih =>
  intro s out a b L ho hs h
  have snoc : ∀ g, FrOk g → ∀ f ∈ out ++ [g], FrOk f := fun g hg f hf => by
   rcases List.mem_append.1 hf with hf | hf
   ·exact ho f hf
   ·rw [List.mem_singleton.1 hf]; exact hg
  rw [readF] at h
  split at h
  ·split at h
   ·cases h
   ·cases h; exact ho
  ·simp only at h
   split at h
   ·split at h
    ·cases h
    ·cases h; exact snoc _ (fdT_ok hs)
   ·split at h
    ·exact ih _ _ _ _ _ (snoc _ (fdT_ok (by rw [List.length_take]; omega))) (by rw [List.length_drop]; omega) h
    ·split at h
     ·exact ih _ _ _ _ _ (snoc _ (fdT_ok (by simp))) (by rw [List.length_drop]; omega) h
     ·split at h
      ·cases h
      ·rename_i f r hf
       have := fieldV_len hf
       exact ih _ _ _ _ _ (snoc _ (fieldV_ok hf)) (by rw [List.length_tail] at this; omega) h
theorem readV_ok {s : Bs} {L : List Fld} (h : readV s = some L) : ∀ f ∈ L, FrOk f := by
 unfold readV at h
 split at h
 ·cases h
 ·exact readF_ok _ s [] _ _ L (by simp) (by omega) h
theorem padded_len {f : Fld} (hw : f.wd ≤ 1000) (s : Bs) : (paddedV f s).length ≤ s.length + 1000 := by
 unfold paddedV
 split
 ·omega
 ·split <;> rw [List.length_append, rep_len] <;> omega
theorem quo_len (s : Bs) : (quoV s).length ≤ 2 * s.length + 2 := by
 have : (s.flatMap quoC).length ≤ 2 * s.length := by
  induction s with
  | nil => simp
  | cons c r ih =>
   rw [List.flatMap_cons, List.length_append, List.length_cons]
   have : (quoC c).length ≤ 2 := by unfold quoC; (repeat' split) <;> simp
   omega
 unfold quoV
 rw [List.length_append, List.length_cons]
 simp only [List.length_cons, List.length_nil]
 omega
theorem num_len {f : Fld} {n : Int} (hn : InR n) (hw : f.wd ≤ 1000) (hp : f.pr ≤ 1000) : (numV f n).length ≤ 100000 := by
 have hd : (digsV f n).length ≤ 1100 := by
  have hl := txt_len (b := baseV f.lt) (by unfold baseV; (repeat' split) <;> omega) (n := n.natAbs) (by simp only [InR] at hn; omega)
  unfold digsV
  simp only
  have h1 : (if f.lt = 88 then (txtB (baseV f.lt) n.natAbs).map upC else txtB (baseV f.lt) n.natAbs).length ≤ 64 := by split <;> simpa using hl
  generalize (if f.lt = 88 then (txtB (baseV f.lt) n.natAbs).map upC else txtB (baseV f.lt) n.natAbs) = d at *
  have h2 : (if f.pr = 0 ∧ n = 0 then [] else d).length ≤ 64 := by
   split
   ·simp
   ·exact h1
  generalize (if f.pr = 0 ∧ n = 0 then [] else d) = d2 at *
  split
  ·rw [List.length_append, rep_len]; omega
  ·omega
 have hs : (signV f n).length ≤ 1 := by
  unfold signV
  (repeat' split) <;> simp
 have hpl : (if f.ha ∧ n ≠ 0 ∧ f.lt ≠ 100 then preV f.lt (digsV f n) else []).length ≤ 2 := by
  unfold preV
  (repeat' split) <;> simp
 unfold numV
 simp only
 generalize digsV f n = d at *
 generalize (if f.ha ∧ n ≠ 0 ∧ f.lt ≠ 100 then preV f.lt d else []) = q at *
 generalize signV f n = sg at *
 refine Nat.le_trans (padded_len hw _) ?_
 have hfr : (sg ++ q).length ≤ 3 := by rw [List.length_append]; omega
 generalize sg ++ q = fr at *
 rw [List.length_append]
 split
 ·rw [List.length_append, rep_len]; omega
 ·omega
theorem fill_len {args : List Ag} {u : Nat} {f : Fld} (hA : AgsOk args) (hf : FrOk f) : (fillV args u f).1.length ≤ 3000000 := by
 unfold fillV
 split
 ·have := hf.2.2; simp only; omega
 ·simp only
  split
  ·simp
  ·rename_i hs
   split
   ·simp
   ·have hso := stars_ok (args := args) (u := u) hf.1 (by simpa using hs)
    have hoa := ofA_ok hA (starsV args u f).2.1 f.nm
    generalize (starsV args u f).2.2 = sf at *
    generalize (ofA args (starsV args u f).2.1 f.nm).1 = oa at *
    obtain ⟨⟨hw, hp⟩, _, _⟩ := hso
    have htl := text_len hoa
    cases hq : putV sf oa with
    | none => simp
    | some t =>
     simp only
     unfold putV at hq
     split at hq
     ·cases hq
      have h1 := padded_len hw.2 (shortV sf (textV oa))
      have h2 := short_len sf (textV oa)
      omega
     ·split at hq
      ·cases hq
       have h1 := padded_len hw.2 (shortV sf (quoV (textV oa)))
       have h2 := short_len sf (quoV (textV oa))
       have h3 := quo_len (textV oa)
       omega
      ·split at hq
       ·split at hq
        ·split at hq
         ·cases hq
         ·cases hq
          have h1 := padded_len hw.2 (oa.tx.take 1)
          have h2 : (oa.tx.take 1).length ≤ 1 := by rw [List.length_take]; omega
          omega
        ·split at hq
         ·cases hq
         ·cases hq
          have h1 := padded_len hw.2 [UInt8.ofNat oa.int.toNat]
          simp at h1
          omega
       ·cases hna : numA oa with
        | none => rw [hna] at hq; cases hq
        | some n =>
         rw [hna] at hq
         cases hq
         have := num_len (f := sf) (numA_in hoa hna) hw.2 hp.2
         omega
theorem fill_le {args : List Ag} {u : Nat} (h : u ≤ args.length) (f : Fld) : (fillV args u f).2.2 ≤ args.length := by
 have h1 := stars_le h f
 have h2 := ofA_le h1 f.nm
 unfold fillV
 split
 ·exact h
 ·simp only
  split
  ·exact h1
  ·split
   ·exact h2
   ·cases putV (starsV args u f).2.2 (ofA args (starsV args u f).2.1 f.nm).1 <;> exact h2
end Go.Proofs.YtelhdhofnohkcaaGreatDoor
namespace Go.Proofs.YtelhdhofnohkcaaGreatDoor
open Go.RowKit
theorem bX : Builder.Extra Tryz.prog Tryz.lays169_ren := Tryz.Builder_Extra_169
set_option maxHeartbeats 1000000 in
set_option maxRecDepth 100000 in
theorem cc_used (b : Nat) (w : World) (h0 : w.cell? ⟨b, 0, none⟩ = some (.pointer (some ⟨b, 0, none⟩))) :
  Calls Tryz.prog 58 #[.pointer (some ⟨b, 0, none⟩)] w fun e w' => e = .returned (.tuple #[]) ∧ w' = w := by
 obtain ⟨j, hj, _⟩ := Option.map_eq_some_iff.1 bX.sizeBuilder
 go_enter Tryz.func58, Tryz.ntmps58
 go_wp2
 rw [Lib.run_neq_ptr_same w _ Tryz.underlying67 hj]
 go_wp2
 go_end0
 exact ⟨rfl, rfl⟩
set_option maxHeartbeats 1000000 in
set_option maxRecDepth 100000 in
theorem cc_fresh (b : Nat) (w : World) (h0 : w.cell? ⟨b, 0, none⟩ = some (.pointer none)) (hsh : w.shape? b = some (70, 2)) (hfz : w.frozen? ⟨b, 0, none⟩ = false) :
  Calls Tryz.prog 58 #[.pointer (some ⟨b, 0, none⟩)] w fun e w' => e = .returned (.tuple #[]) ∧ w' = w.setCell ⟨b, 0, none⟩ (.pointer (some ⟨b, 0, none⟩)) := by
 obtain ⟨j, hj, hjs⟩ := Option.map_eq_some_iff.1 bX.sizeBuilder
 go_enter Tryz.func58, Tryz.ntmps58
 go_wp2
 rw [Lib.run_to_unsafe w ⟨b, 0, none⟩ Tryz.underlying67 Tryz.underlying151 hj (by rw [hjs]; decide) hsh (Nat.zero_lt_succ 1)]
 simp only [Result.andThen]
 rw [Oper.upon_value]
 go_wp2
 rw [run_callFunc_extern Tryz.func91 (by kernel_rfl) (by kernel_rfl) (by kernel_rfl) (e := Extern.AbiNoEscape.same) (by kernel_rfl)]
 rw [Lib.run_noEscape]
 simp only [Result.andThen]
 rw [Oper.upon_value]
 go_wp2
 rw [Lib.run_from_unsafe w ⟨b, 0, none⟩ Tryz.underlying151 Tryz.underlying67 hj hsh bX.liesBuilder]
 simp only [Result.andThen]
 rw [Oper.upon_value]
 go_wp2
 go_end0
 exact ⟨rfl, rfl⟩
section
variable {P : Program} {w : World}
theorem app_exact (t u e : TypeId) (i : TypeInfo) (ht : P.underlying t = some (.slice e)) (hu : P.underlying u = some .string) (hi : P.info? e = some i) (hz : i.zero = some (.int .u8 0))
  (hsize : i.size = 1) (hby : i.bytes = 1) (v : Value) (n : Nat) (xs : List Value) (hown : w.ownsRowF 0 e 1 v n xs) (s : ByteArray) (h63 : n + s.size ≤ maxLen) (hbytes : n + s.size ≤ 140737488355328) :
  ∃ v' w', (∀ ty, (Builtin.append_ #[t, u] ty #[v, .string s]).run P w = .ok v' w') ∧ w'.ownsRowF 0 e 1 v' (n + s.size) (xs ++ Lib.strCells s) ∧ w.grownBy w' v.ownBlock ∧
   (v'.ownBlock = v.ownBlock ∨ ∀ k, v'.ownBlock = some k → w.heap.size ≤ k) := by
 obtain ⟨v', w', h1, h2, h3, _⟩ := Lib.run_append_own_stringF (P := P) w 0 t u t e i ht hu hi hz hsize hby v n xs hown s h63 hbytes (Nat.zero_le _)
 refine ⟨v', w', fun _ => h1, h2, h3, ?_⟩
 have hsmall : n + s.size ≤ 9223372036854775807 := by simp only [maxLen] at h63; omega
 rcases hown.2 with ⟨rfl, rfl⟩ | ⟨g, cap, cur, fz, rfl, hbg, hg, hfz, hnc, hcm, hcs, htake⟩
 ·obtain ⟨v2, w2, q1, q2, _, _⟩ := Lib.run_append_own_string (P := P) w w.heap.size t u t e i ht hu hi hz hsize hby (.slice none 0 0) 0 xs ⟨hown.1, .inl ⟨rfl, rfl⟩⟩ s h63 hbytes (Nat.le_refl _)
  rw [h1] at q1
  injection q1 with q1 q1'
  subst q1 q1'
  refine .inr fun k hk => ?_
  rcases q2.2 with ⟨hv, _⟩ | ⟨g, cap, cur, hv, hb, _⟩
  ·rw [hv] at hk; cases hk
  ·rw [hv] at hk
   simp only [Value.ownBlock, Option.some.injEq] at hk
   omega
 ·have hxl : xs.length = n := by simpa using hown.1
  by_cases hroom : n + s.size ≤ cap
  ·have hr := Lib.run_append_room_stringF (P := P) w t u t e i ht hu hi hsize g n cap cur fz hg (by simpa using hfz) s hroom (by omega)
   rw [h1] at hr
   injection hr with q1 q1'
   subst q1
   exact .inl rfl
  ·have holds : ∀ j u, xs[j]? = some u → w.cell? ((⟨g, 0, none⟩ : Addr).add j) = some u := hown.cells (g := g) rfl
   have hr := Lib.run_append_grow_string (P := P) w t u t e i (.int .u8 0) ht hu hi hz ⟨g, 0, none⟩ n cap xs (by rw [hsize]; simpa using hxl) holds s (by omega) (by omega) (by rw [hby]; exact growslice_fits (by omega) (by omega))
   rw [h1] at hr
   injection hr with q1 q1'
   subst q1
   refine .inr fun k hk => ?_
   simp [Value.ownBlock] at hk
   omega
theorem wpList_app {ops : Array Oper} {rest : List Oper} {o : Oper} {a : Act} {Q : Exit → Act → World → Prop} (hgd : o.guard = none) (sl x : Operand) (t u : TypeId)
  (ho : o.op = .call { callee := .builtin .append, args := #[sl, x], argTypes := #[t, u] }) (v : Value) (hs : a.eval sl = v) (s : ByteArray) (hx : a.eval x = .string s)
  {v' : Value} {w' : World} (hr : ∀ ty, (Builtin.append_ #[t, u] ty #[v, .string s]).run P w = .ok v' w') (h : wpList P ops Q rest (a.put o.dst v') w') : wpList P ops Q (o :: rest) a w := by
 refine wpList_plain hgd fun K hK => ?_
 unfold Oper.wp execOp
 simp only [ho, resolve, invoke, builtin, Sem.run_bind, Sem.run_pure, Result.andThen_ok, List.map_toArray, List.map_cons, List.map_nil, hs, hx, hr]
 exact hK _ _ h
end
set_option maxHeartbeats 2000000 in
set_option maxRecDepth 100000 in
theorem ws_calls (b : Nat) (p v : Value) (l : List UInt8) (s : ByteArray) (w : World) (hb : w.heap[b]? = some (.cells #[p, v] 70 (0, 0))) (hp : p = .pointer none ∨ p = .pointer (some ⟨b, 0, none⟩))
  (hown : w.ownsRowF 0 5 1 v l.length (Lib.byteCells l)) (hne : v.ownBlock ≠ some b) (hlen : l.length + s.size ≤ 140737488355328) :
  Calls Tryz.prog 37 #[.pointer (some ⟨b, 0, none⟩), .string s] w fun e w' => e = .returned (.tuple #[.int .i64 s.size, .nilIface]) ∧
   ∃ v', w'.heap[b]? = some (.cells #[.pointer (some ⟨b, 0, none⟩), v'] 70 (0, 0)) ∧ w'.ownsRowF 0 5 1 v' (l.length + s.size) (Lib.byteCells l ++ Lib.strCells s) ∧
    (v'.ownBlock = v.ownBlock ∨ ∀ k, v'.ownBlock = some k → w.heap.size ≤ k) ∧ v'.ownBlock ≠ some b ∧
    w'.os = w.os ∧ w'.tape = w.tape ∧ w'.output = w.output ∧ w.heap.size ≤ w'.heap.size ∧ ∀ k, k < w.heap.size → k ≠ b → v.ownBlock ≠ some k → w'.heap[k]? = w.heap[k]? := by
 obtain ⟨i0, hi, hz0, hz1, hz2⟩ := info_parts bX.infoByte
 have hlt : b < w.heap.size := by
  rcases Nat.lt_or_ge b w.heap.size with h' | h'
  ·exact h'
  ·simp [Array.getElem?_eq_none h'] at hb
 have hcc : Calls Tryz.prog 58 #[.pointer (some ⟨b, 0, none⟩)] w fun e w' => e = .returned (.tuple #[]) ∧ w'.heap[b]? = some (.cells #[.pointer (some ⟨b, 0, none⟩), v] 70 (0, 0)) ∧ w'.os = w.os ∧ w'.tape = w.tape ∧ w'.output = w.output ∧ w'.heap.size = w.heap.size ∧
   ∀ k, k ≠ b → w'.heap[k]? = w.heap[k]? := by
  rcases hp with rfl | rfl
  ·refine (cc_fresh b w (by rw [Lib.cell_of_heap hb]; rfl) (by simp [World.shape?, hb]) (Lib.frozen_of_heap hb 0)).mono ?_
   rintro e w' ⟨rfl, rfl⟩
   exact ⟨rfl, heap_setCell_same _ _ _ _ _ _ hb, rfl, rfl, rfl, by simp, fun k hk => heap_setCell_other _ _ _ _ hk⟩
  ·refine (cc_used b w (by rw [Lib.cell_of_heap hb]; rfl)).mono ?_
   rintro e w' ⟨rfl, rfl⟩
   exact ⟨rfl, hb, rfl, rfl, rfl, rfl, fun _ _ => rfl⟩
 go_enter Tryz.func37, Tryz.ntmps37
 go_wp2_with (go_at_call 58; refine hcc.mono ?_)
 rintro e w1 ⟨rfl, hbk, ho1, ho2, ho3, hs1, hk1⟩
 have hown1 : w1.ownsRowF 0 5 1 v l.length (Lib.byteCells l) :=
  hown.kept (row := some b) ⟨ho1, ho2, ho3, by omega, fun k _ hk => hk1 k (fun e => hk (by simp [e]))⟩ (Or.inr hne)
 have c0 : w1.cell? ⟨b, 0, none⟩ = some (.pointer (some ⟨b, 0, none⟩)) := by rw [Lib.cell_of_heap hbk]; rfl
 have c1 : w1.cell? ⟨b, 1, none⟩ = some v := by rw [Lib.cell_of_heap hbk]; rfl
 obtain ⟨v', w2, hrun, hown', hgrow, hat⟩ := app_exact (P := Tryz.prog) (w := w1) 68 9 5 i0 Tryz.underlying68 Tryz.underlying9 hi hz0 hz1 hz2 v l.length _ hown1 s (by unfold maxLen; omega) hlen
 have hlt1 : b < w1.heap.size := by omega
 have hb2 : w2.heap[b]? = some (.cells #[.pointer (some ⟨b, 0, none⟩), v] 70 (0, 0)) := by
  rw [hgrow.block b hlt1 (fun e => hne e.symm)]
  exact hbk
 have d0 : w2.cell? ⟨b, 0, none⟩ = some (.pointer (some ⟨b, 0, none⟩)) := by rw [Lib.cell_of_heap hb2]; rfl
 have d1 : w2.cell? ⟨b, 1, none⟩ = some v := by rw [Lib.cell_of_heap hb2]; rfl
 have f1 : w2.frozen? ⟨b, 1, none⟩ = false := Lib.frozen_of_heap hb2 1
 have hne' : v'.ownBlock ≠ some b := by
  rcases hat with h | h
  ·rw [h]; exact hne
  ·intro e; have := h b e; omega
 obtain ⟨ao, n', cap, rfl⟩ : ∃ ao n' cap, v' = .slice ao n' cap := by
  rcases hown'.2 with ⟨hv, _⟩ | ⟨g, cap, cur, fz, hv, _⟩
  ·exact ⟨_, _, _, hv⟩
  ·exact ⟨_, _, _, hv⟩
 go_wp2_with (at_builtin; refine wpList_app rfl _ _ 68 9 rfl _ rfl s rfl hrun ?_)
 go_ret2
 refine ⟨rfl, _, heap_setCell_same _ _ _ _ _ _ hb2, ?_, ?_, hne', hgrow.os.trans ho1, hgrow.tape.trans ho2, hgrow.output.trans ho3, ?_, ?_⟩
 ·exact hown'.kept (row := some b) ⟨rfl, rfl, rfl, by simp, fun k _ hk => heap_setCell_other _ _ _ _ (fun e => hk (by simp [e]))⟩ (Or.inr hne')
 ·rcases hat with h | h
  ·exact .inl h
  ·exact .inr fun k hk => by have := h k hk; omega
 ·have := hgrow.size; simp; omega
 ·intro k hk hkb hkv
  rw [heap_setCell_other _ _ _ _ hkb, hgrow.block k (by omega) (fun e => hkv e.symm), hk1 k hkb]
theorem freeze_other (w : World) (ad : Addr) (m k : Nat) (h : k ≠ ad.block) : (w.freeze ad m).heap[k]? = w.heap[k]? := by
 unfold World.freeze
 by_cases hm : m = 0
 ·simp [hm]
 ·rw [if_neg hm]
  simp only [Array.getElem?_modify]
  rw [if_neg (fun e => h e.symm)]
theorem freeze_rest (w : World) (ad : Addr) (m : Nat) : (w.freeze ad m).heap.size = w.heap.size ∧ (w.freeze ad m).os = w.os ∧ (w.freeze ad m).tape = w.tape ∧ (w.freeze ad m).output = w.output := by
 unfold World.freeze
 by_cases hm : m = 0
 ·simp [hm]
 ·rw [if_neg hm]
  exact ⟨by simp, rfl, rfl, rfl⟩
set_option maxHeartbeats 2000000 in
set_option maxRecDepth 100000 in
theorem str_calls (b : Nat) (p v : Value) (l : List UInt8) (w : World) (hbk : w.heap[b]? = some (.cells #[p, v] 70 (0, 0))) (hown : w.ownsRowF 0 5 1 v l.length (Lib.byteCells l)) (hne : v.ownBlock ≠ some b) (h0 : l ≠ []) :
  Calls Tryz.prog 39 #[.pointer (some ⟨b, 0, none⟩)] w fun e w' => e = .returned (.string ⟨l.toArray⟩) ∧ w'.heap[b]? = some (.cells #[p, v] 70 (0, 0)) ∧ w'.ownsRowF 0 5 1 v l.length (Lib.byteCells l) ∧
   w'.os = w.os ∧ w'.tape = w.tape ∧ w'.output = w.output ∧ w.heap.size ≤ w'.heap.size ∧ ∀ k, k ≠ b → v.ownBlock ≠ some k → w'.heap[k]? = w.heap[k]? := by
 have hl0 : l.length ≠ 0 := by simpa using h0
 obtain ⟨g, cap, cur, fz, rfl, hbg, hg, hfz, hnc, hcm, hcs, htake⟩ : ∃ g cap cur fz, v = .slice (some ⟨g, 0, none⟩) l.length cap ∧ 0 ≤ g ∧ w.heap[g]? = some (.cells cur 5 fz) ∧ fz.2 ≤ l.length * 1 ∧ l.length ≤ cap ∧ cap ≤ maxLen ∧ cur.size = cap * 1 ∧ cur.toList.take (l.length * 1) = Lib.byteCells l := by
  rcases hown.2 with ⟨_, hz⟩ | ⟨g, cap, cur, fz, hv, r⟩
  ·exact absurd hz hl0
  ·exact ⟨g, cap, cur, fz, hv, r⟩
 have hgb : g ≠ b := fun e => hne (by simp [Value.ownBlock, e])
 have c1 : w.drew.cell? ⟨b, 1, none⟩ = some (.slice (some ⟨g, 0, none⟩) l.length cap) := by
  have : w.drew.heap[b]? = some (.cells #[p, .slice (some ⟨g, 0, none⟩) l.length cap] 70 (0, 0)) := hbk
  rw [Lib.cell_of_heap this]; rfl
 have hSD : (Builtin.unsafeSliceData_ #[68] 115 #[.slice (some ⟨g, 0, none⟩) l.length cap]).run Tryz.prog w.drew = .ok (.pointer (some ⟨g, 0, none⟩)) w.drew :=
  Lib.run_unsafeSliceData_row _ _ _ _ _ _ (by omega)
 have hUS : (Builtin.unsafeString_ #[115, 3] 9 #[.pointer (some ⟨g, 0, none⟩), .int .i64 l.length]).run Tryz.prog w.drew = .ok (.string ⟨l.toArray⟩) (w.drew.freeze ⟨g, 0, none⟩ l.length) := by
  refine Lib.run_unsafeString_row w.drew 115 3 9 5 Tryz.underlying115 bX.cellsByte g cur.size (by have hg' : w.drew.heap[g]? = some (.cells cur 5 fz) := hg; simp [World.shape?, hg']) l h0 (by omega) (by unfold maxLen at hcm; omega) ?_
  intro j x hx
  have := hown.cells (g := g) rfl j (.int .u8 x.toNat) (by simp [Lib.byteCells, hx])
  exact this
 have hA : Lib.BuilderAtF 70 5 0 b p (Lib.byteCells l) w.drew := ⟨Nat.zero_le _, _, hbk, by rw [Lib.byteCells_length]; exact hown, hne⟩
 have hF := hA.froze (g := g) (cap := cap) (by rw [Lib.byteCells_length]; exact c1)
 rw [Lib.byteCells_length] at hF
 obtain ⟨_, v', hb', hown', _⟩ := hF
 rw [Lib.byteCells_length] at hown'
 have hb2 : (w.drew.freeze ⟨g, 0, none⟩ l.length).heap[b]? = some (.cells #[p, .slice (some ⟨g, 0, none⟩) l.length cap] 70 (0, 0)) := (freeze_other _ _ _ _ (fun e => hgb e.symm)).trans hbk
 have hv : v' = .slice (some ⟨g, 0, none⟩) l.length cap := by
  rw [hb2] at hb'
  simp at hb'
  exact hb'.symm
 subst hv
 obtain ⟨f1, f2, f3, f4⟩ := freeze_rest w.drew ⟨g, 0, none⟩ l.length
 have hend : ∀ k, k ≠ b → (Value.slice (some ⟨g, 0, none⟩) l.length cap).ownBlock ≠ some k → (w.drew.freeze ⟨g, 0, none⟩ l.length).heap[k]? = w.heap[k]? :=
  fun k _ hk => freeze_other _ _ _ _ (fun e => hk (by simp [Value.ownBlock, e]))
 have mixed := Tryz.lays169.mixed
 go_enter Tryz.func39, Tryz.ntmps39
 go_wp2
 go_region_o
 all_goals (go_wp2; go_ret; exact ⟨rfl, hb2, hown', f2, f3, f4, Nat.le_of_eq f1.symm, hend⟩)
end Go.Proofs.YtelhdhofnohkcaaGreatDoor
namespace Go.Proofs.YtelhdhofnohkcaaGreatDoor
open Go.Eng Go.Fm
set_option maxRecDepth 20000
theorem strCells_eq (s : List UInt8) : Lib.strCells ⟨s.toArray⟩ = Lib.byteCells s := by
 simp [Lib.strCells, Lib.byteCells]
theorem ws_spec (nb nr gb gr : Nat) (l s : List UInt8) (h1 : 900000 ≤ nb) (h2 : 900000 ≤ nr) (hd : nb ≠ nr) (hlen : l.length + s.length ≤ 140737488355328) :
  ACall Tryz.prog 37 [.ptr nb gb 0, dS s] [(nb, (gb, .bld 70 nr gr)), (nr, (gr, .brow 5 l))] [nb, nr] fun ps r => ∃ gr', ps = [(gb, .bld 70 nr gr'), (gr', .brow 5 (l ++ s))] ∧ r = .tup [dI s.length, .v .nilIface] := by
 refine acall_bld (xs := [.string ⟨s.toArray⟩]) (x := .tuple #[.int .i64 s.length, .nilIface]) ⟨_, Tryz.func37, rfl, rfl⟩ h1 h2 hd (fun C w => ?_) fun b p v w _ hb hp hown hne => ?_
 ·refine .tup _ _ rfl fun j c u hc hu => ?_
  match j, hc, hu with
  | 0, hc, hu => simp at hc hu; subst hc hu; exact .v _
  | 1, hc, hu => simp at hc hu; subst hc hu; exact .v _
  | j + 2, hc, hu => simp at hc
 ·refine (ws_calls b p v l ⟨s.toArray⟩ w hb hp hown hne (by simpa [ByteArray.size] using hlen)).mono ?_
  rintro e w' ⟨he, v', q1, q2, q3, q4, q5, q6, q7, q8, q9⟩
  refine ⟨by simpa [ByteArray.size] using he, _, v', q1, .inr rfl, ?_, q3, q4, q5, q6, q7, q8, q9⟩
  rw [strCells_eq] at q2
  simpa [ByteArray.size, Lib.byteCells] using q2
theorem str_spec (nb nr gb gr : Nat) (l : List UInt8) (h1 : 900000 ≤ nb) (h2 : 900000 ≤ nr) (hd : nb ≠ nr) (h0 : l ≠ []) :
  ACall Tryz.prog 39 [.ptr nb gb 0] [(nb, (gb, .bld 70 nr gr)), (nr, (gr, .brow 5 l))] [nb, nr] fun ps r => ∃ gr', ps = [(gb, .bld 70 nr gr'), (gr', .brow 5 l)] ∧ r = dS l := by
 refine acall_bld (xs := []) (x := .string ⟨l.toArray⟩) ⟨_, Tryz.func39, rfl, rfl⟩ h1 h2 hd (fun C w => .v _) fun b p v w _ hb hp hown hne => ?_
 refine (str_calls b p v l w hb hown hne h0).mono ?_
 rintro e w' ⟨he, q1, q2, q3, q4, q5, q6, q7⟩
 exact ⟨he, p, v, q1, hp, q2, .inl rfl, hne, q3, q4, q5, q6, fun k _ => q7 k⟩
end Go.Proofs.YtelhdhofnohkcaaGreatDoor
namespace Go.Proofs.YtelhdhofnohkcaaGreatDoor
open Go.Eng Go.Fm Go.RowKit
set_option maxRecDepth 20000
theorem us_none (p : Option Addr) (w : World) : (Builtin.unsafeString_ #[115, 3] 9 #[.pointer p, .int .i64 0]).run Tryz.prog w = .ok (.string ⟨#[]⟩) w := Lib.run_unsafeString_none (P := Tryz.prog) w 115 3 9 p
set_option maxHeartbeats 4000000 in
set_option maxRecDepth 100000 in
theorem str0_calls (b : Nat) (p v : Value) (w : World) (hbk : w.heap[b]? = some (.cells #[p, v] 70 (0, 0))) (hown : w.ownsRowF 0 5 1 v 0 (Lib.byteCells [])) (hne : v.ownBlock ≠ some b) :
  Calls Tryz.prog 39 #[.pointer (some ⟨b, 0, none⟩)] w fun e w' => e = .returned (.string ⟨#[]⟩) ∧ w'.heap[b]? = some (.cells #[p, v] 70 (0, 0)) ∧ w'.ownsRowF 0 5 1 v 0 (Lib.byteCells []) ∧
   w'.os = w.os ∧ w'.tape = w.tape ∧ w'.output = w.output ∧ w.heap.size ≤ w'.heap.size ∧ ∀ k, k < w.heap.size → w'.heap[k]? = w.heap[k]? := by
 have hlt : b < w.heap.size := by
  rcases Nat.lt_or_ge b w.heap.size with h' | h'
  ·exact h'
  ·simp [Array.getElem?_eq_none h'] at hbk
 have hUS := us_none
 have mixed := Tryz.lays169.mixed
 rcases hown.2 with ⟨rfl, _⟩ | ⟨g, cap, cur, fz, rfl, hbg, hg, hfz, hnc, hcm, hcs, htake⟩
 ·have c1 : w.drew.cell? ⟨b, 1, none⟩ = some (.slice none 0 0) := by
   have : w.drew.heap[b]? = some (.cells #[p, .slice none 0 0] 70 (0, 0)) := hbk
   rw [Lib.cell_of_heap this]; rfl
  have hSD : (Builtin.unsafeSliceData_ #[68] 115 #[.slice none 0 0]).run Tryz.prog w.drew = .ok (.pointer none) w.drew := rfl
  go_enter Tryz.func39, Tryz.ntmps39
  go_wp2
  go_region_o
  all_goals (go_wp2; go_ret; exact ⟨rfl, hbk, hown, rfl, rfl, rfl, Nat.le_refl _, fun _ _ => rfl⟩)
 ·by_cases hc0 : cap = 0
  ·subst hc0
   have c1 : w.drew.cell? ⟨b, 1, none⟩ = some (.slice (some ⟨g, 0, none⟩) 0 0) := by
    have : w.drew.heap[b]? = some (.cells #[p, .slice (some ⟨g, 0, none⟩) 0 0] 70 (0, 0)) := hbk
    rw [Lib.cell_of_heap this]; rfl
   have hSD : (Builtin.unsafeSliceData_ #[68] 115 #[.slice (some ⟨g, 0, none⟩) 0 0]).run Tryz.prog w.drew = .ok (.pointer (some ⟨w.drew.heap.size, 0, none⟩)) (w.drew.alloc (.view ⟨g, 0, none⟩ 5)) :=
    Lib.run_unsafeSliceData_zero w.drew _ _ 5 Tryz.underlying115 ⟨g, 0, none⟩ 0 (5, cur.size) (by have hg' : w.drew.heap[g]? = some (.cells cur 5 fz) := hg; simp [World.shape?, hg'])
   have c2 : (w.drew.alloc (.view ⟨g, 0, none⟩ 5)).cell? ⟨b, 1, none⟩ = some (.slice (some ⟨g, 0, none⟩) 0 0) := by
    have : (w.drew.alloc (.view ⟨g, 0, none⟩ 5)).heap[b]? = _ := (Lib.alloc_old w.drew _ b hlt).trans hbk
    rw [Lib.cell_of_heap this]; rfl
   have c3 : (w.alloc (.view ⟨g, 0, none⟩ 5)).drew.cell? ⟨b, 1, none⟩ = some (.slice (some ⟨g, 0, none⟩) 0 0) := c2
   have c0 : w.cell? ⟨b, 1, none⟩ = some (.slice (some ⟨g, 0, none⟩) 0 0) := c1
   have hrest : ∀ k, k < w.heap.size → (w.drew.alloc (.view ⟨g, 0, none⟩ 5)).heap[k]? = w.heap[k]? := fun k hk => Lib.alloc_old w.drew _ k hk
   have hglt : g < w.heap.size := by
    rcases Nat.lt_or_ge g w.heap.size with h' | h'
    ·exact h'
    ·simp [Array.getElem?_eq_none h'] at hg
   have hown' : (w.drew.alloc (.view ⟨g, 0, none⟩ 5)).ownsRowF 0 5 1 (.slice (some ⟨g, 0, none⟩) 0 0) 0 (Lib.byteCells []) := ⟨hown.1, .inr ⟨g, 0, cur, fz, rfl, hbg, (hrest g hglt).trans hg, hfz, hnc, hcm, hcs, htake⟩⟩
   go_enter Tryz.func39, Tryz.ntmps39
   go_wp2
   go_region_o
   all_goals (go_wp2; go_ret; exact ⟨rfl, (hrest b hlt).trans hbk, hown', rfl, rfl, rfl, (Same.alloc w.drew _).1, hrest⟩)
  ·have c1 : w.drew.cell? ⟨b, 1, none⟩ = some (.slice (some ⟨g, 0, none⟩) 0 cap) := by
    have : w.drew.heap[b]? = some (.cells #[p, .slice (some ⟨g, 0, none⟩) 0 cap] 70 (0, 0)) := hbk
    rw [Lib.cell_of_heap this]; rfl
   have hSD : (Builtin.unsafeSliceData_ #[68] 115 #[.slice (some ⟨g, 0, none⟩) 0 cap]).run Tryz.prog w.drew = .ok (.pointer (some ⟨g, 0, none⟩)) w.drew :=
    Lib.run_unsafeSliceData_row _ _ _ _ _ _ hc0
   clear hc0
   go_enter Tryz.func39, Tryz.ntmps39
   go_wp2
   go_region_o
   all_goals (go_wp2; go_ret; exact ⟨rfl, hbk, hown, rfl, rfl, rfl, Nat.le_refl _, fun _ _ => rfl⟩)
theorem strA_spec (nb nr gb gr : Nat) (l : List UInt8) (h1 : 900000 ≤ nb) (h2 : 900000 ≤ nr) (hd : nb ≠ nr) :
  ACall Tryz.prog 39 [.ptr nb gb 0] [(nb, (gb, .bld 70 nr gr)), (nr, (gr, .brow 5 l))] [nb, nr] fun ps r => ∃ gr', ps = [(gb, .bld 70 nr gr'), (gr', .brow 5 l)] ∧ r = dS l := by
 cases l with
 | cons x l => exact str_spec nb nr gb gr (x :: l) h1 h2 hd (by simp)
 | nil =>
  refine acall_bld (xs := []) (x := .string ⟨#[]⟩) ⟨_, Tryz.func39, rfl, rfl⟩ h1 h2 hd (fun C w => .v _) fun b p v w _ hb hp hown hne => ?_
  refine (str0_calls b p v w hb hown hne).mono ?_
  rintro e w' ⟨he, q1, q2, q3, q4, q5, q6, q7⟩
  refine ⟨he, p, v, q1, hp, q2, .inl rfl, hne, q3, q4, q5, q6, fun k hk _ _ => q7 k hk⟩
theorem len_spec (nb nr gb gr : Nat) (l : List UInt8) (h1 : 900000 ≤ nb) (h2 : 900000 ≤ nr) (hd : nb ≠ nr) :
  ACall Tryz.prog 50 [.ptr nb gb 0] [(nb, (gb, .bld 70 nr gr)), (nr, (gr, .brow 5 l))] [nb, nr] fun ps r => ∃ gr', ps = [(gb, .bld 70 nr gr'), (gr', .brow 5 l)] ∧ r = dI l.length := by
 refine acall_bld (xs := []) (x := .int .i64 l.length) ⟨_, Tryz.func50, rfl, rfl⟩ h1 h2 hd (fun C w => .v _) fun b p v w _ hb hp hown hne => ?_
 have hA : Lib.BuilderAtF 70 5 0 b p (Lib.byteCells l) w := ⟨Nat.zero_le _, _, hb, by rw [Lib.byteCells_length]; exact hown, hne⟩
 have hI : Lib.IsBuilderF 70 5 0 b (Lib.byteCells l) w := by
  rcases hp with rfl | rfl
  ·exact .inl hA
  ·exact .inr hA
 refine (Tryz.Builder_Len_f 0 b (Lib.byteCells l) w hI).mono ?_
 rintro e w' ⟨he, rfl⟩
 exact ⟨by rw [he, Lib.byteCells_length], p, v, hb, hp, hown, .inl rfl, hne, rfl, rfl, rfl, Nat.le_refl _, fun _ _ _ _ => rfl⟩
end Go.Proofs.YtelhdhofnohkcaaGreatDoor
namespace Go.Proofs.YtelhdhofnohkcaaGreatDoor
open Go.Eng Go.Fm
set_option maxRecDepth 20000
attribute [local irreducible] AG CallA CallT AWp PCall ACall AgC
def FillC (args : List Ag) (f : Fld) : Prop := ∀ u g, u ≤ args.length → ACall Tryz.prog 49 [.ptr 900004 g 0, dF f] [fiB g args u] [900004]
 fun ps r => ps = [(g, .box [dAs args, dI (fillV args u f).2.2])] ∧ r = .tup [dS (fillV args u f).1, dI (fillV args u f).2.1]
theorem fills_at {args : List Ag} {L : List Fld} {i : Nat} {f : Fld} (h : L[i]? = some f) (u : Nat) (out : Bs) :
  fillsV args (L.drop i) u out = if (fillV args u f).2.1 ≠ 0 then ([], 0, (fillV args u f).2.1) else
   if 100000 < (out ++ (fillV args u f).1).length then ([], 0, 1) else fillsV args (L.drop (i + 1)) (fillV args u f).2.2 (out ++ (fillV args u f).1) := by
 have hlt := (List.getElem?_eq_some_iff.1 h).1
 have e : L.drop i = f :: L.drop (i + 1) := by
  rw [List.drop_eq_getElem_cons hlt]
  rw [List.getElem?_eq_getElem hlt] at h
  simp at h; rw [h]
 rw [e, fillsV]
theorem fills_end {args : List Ag} {L : List Fld} (u : Nat) (out : Bs) : fillsV args (L.drop L.length) u out = (out, u, 0) := by rw [List.drop_length]; rfl
set_option maxHeartbeats 32000000 in
theorem run_spec (form : Bs) (args : List Ag) (hA : AgsOk args) (hfl : form.length ≤ 9223372036854775807) (hF : ∀ L, readV form = some L → ∀ f ∈ L, f.lt ≠ 0 → FillC args f) :
  PCall Tryz.prog 32 [dS form, dAs args] fun r => r = .tup [dS (runV form args).1, dI (runV form args).2.1, dI (runV form args).2.2] := by 
 refine pcall_of Tryz.func32 rfl rfl Tryz.ntmps32 (rs := [.tmp 4, .tmp 5, .tmp 6]) (tys := [9, 3, 34]) rfl rfl (by simp) ?_
 have hR := read_spec form hfl
 unfold runV
 cases hr : readV form with
 | none =>
  rw [hr] at hR
  simp only
  (refine awp_sr fun Y Yh => ?_; simp [go_sem]; ((repeat' (first|(refine ag_x ?_;simp [go_sem])|intro _|apply And.intro|(apply Yh;clear Yh Y)));all_goals first|apply Hold.mk|omega|with_reducible assumption|skip))
  (refine awp_sr fun Y Yh => ?_; simp [go_sem]; ((repeat' (first|(refine ag_x ?_;simp [go_sem])|intro _|apply And.intro|(apply Yh;clear Yh Y)));all_goals first|apply Hold.mk|omega|with_reducible assumption|skip))
  ((try refine CallT.toA ?_); refine callT_m (.inl ⟨rfl,rfl⟩) (by simp [go_sem]) ?_; intro args ha; simp [go_sem] at ha; subst ha; refine ⟨_, hR, ?_⟩; rintro _ ⟨L', rfl⟩; simp [go_sem]; ((repeat' (first|(refine ag_x ?_;simp [go_sem])|intro _|apply And.intro|(apply Yh;clear Yh Y)));all_goals first|apply Hold.mk|omega|with_reducible assumption|skip))
  refine awp_seq_k fun K1 hK1 => ?_
  (refine awp_sr fun Y Yh => ?_; simp [go_sem]; ((repeat' (first|(refine ag_x ?_;simp [go_sem])|intro _|apply And.intro|(apply Yh;clear Yh Y)));all_goals first|apply Hold.mk|omega|with_reducible assumption|skip))
  (refine awp_if fun T F hT hF => ?_; simp [go_sem]; refine hT ?_; clear hT hF T F)
  (refine awp_sr fun Y Yh => ?_; simp [go_sem]; ((repeat' (first|(refine ag_x ?_;simp [go_sem])|intro _|apply And.intro|(apply Yh;clear Yh Y)));all_goals first|apply Hold.mk|omega|with_reducible assumption|skip))
  (refine awp_ret ?_; simp [go_sem])
 | some L =>
  rw [hr] at hR
  have hok := readV_ok hr
  have hFC := hF L hr
  simp only
  generalize hV : fillsV args L 0 [] = V
  (refine awp_sr fun Y Yh => ?_; simp [go_sem]; ((repeat' (first|(refine ag_x ?_;simp [go_sem])|intro _|apply And.intro|(apply Yh;clear Yh Y)));all_goals first|apply Hold.mk|omega|with_reducible assumption|skip))
  (refine awp_sr fun Y Yh => ?_; simp [go_sem]; ((repeat' (first|(refine ag_x ?_;simp [go_sem])|intro _|apply And.intro|(apply Yh;clear Yh Y)));all_goals first|apply Hold.mk|omega|with_reducible assumption|skip))
  ((try refine CallT.toA ?_); refine callT_m (.inl ⟨rfl,rfl⟩) (by simp [go_sem]) ?_; intro args ha; simp [go_sem] at ha; subst ha; refine ⟨_, hR, ?_⟩; rintro _ rfl; simp [go_sem]; ((repeat' (first|(refine ag_x ?_;simp [go_sem])|intro _|apply And.intro|(apply Yh;clear Yh Y)));all_goals first|apply Hold.mk|omega|with_reducible assumption|skip))
  refine awp_seq_k fun K1 hK1 => ?_
  (refine awp_sr fun Y Yh => ?_; simp [go_sem]; ((repeat' (first|(refine ag_x ?_;simp [go_sem])|intro _|apply And.intro|(apply Yh;clear Yh Y)));all_goals first|apply Hold.mk|omega|with_reducible assumption|skip))
  (refine awp_if fun T F hT hF => ?_; simp [go_sem]; refine hF ?_; clear hT hF T F)
  refine awp_skip ?_
  refine hK1 _ ?_; clear hK1
  (refine awp_sr fun Y Yh => ?_; simp [go_sem]; ((repeat' (first|(refine ag_x ?_;simp [go_sem])|intro _|apply And.intro|(apply Yh;clear Yh Y)));all_goals first|apply Hold.mk|omega|with_reducible assumption|skip))
  refine awp_renbox 9 900004 rfl rfl (by decide) fun g => ?_
  simp only [go_sem]
  refine awp_bld 70 5 900000 900001 (by decide) (by decide) (by kernel_rfl) fun gb gr => ?_
  refine awp_len 7 rfl fun hLl => ?_
  simp [lensD] at hLl
  refine awp_seq_k fun K3 hK3 => ?_
  (refine awp_sr fun Y Yh => ?_; simp [go_sem]; ((repeat' (first|(refine ag_x ?_;simp [go_sem])|intro _|apply And.intro|(apply Yh;clear Yh Y)));all_goals first|apply Hold.mk|omega|with_reducible assumption|skip))
  refine awp_block ?_
  refine awp_loop (σ := Nat × Bs × Nat × Nat) (fun x => ⟨[(9, .ptr 900004 g 0), (10, .ptr 900000 gb 0), (25, dFs L), (26, dI L.length), (27, dI x.1)], [fiB g args x.2.2.1, (900000, (gb, .bld 70 900001 x.2.2.2)), (900001, (x.2.2.2, .brow 5 x.2.1))]⟩)
   (fun x => x.1 ≤ L.length ∧ x.2.1.length ≤ 100000 ∧ x.2.2.1 ≤ args.length ∧ fillsV args (L.drop x.1) x.2.2.1 x.2.1 = V) (fun x => L.length - x.1) (0, [], 0, gr) ?_ ?_ ?_
  ·(refine cov_of ?_ ?_ <;> simp [go_sem])
  ·exact ⟨by simp, by simp, by simp, by simpa using hV⟩
  rintro ⟨i, out, u, gr⟩ ⟨hi, ho, hu, hx⟩
  simp only at hi ho hu hx ⊢
  (refine awp_sr fun Y Yh => ?_; simp [go_sem]; ((repeat' (first|(refine ag_x ?_;simp [go_sem])|intro _|apply And.intro|(apply Yh;clear Yh Y)));all_goals first|apply Hold.mk|omega|with_reducible assumption|skip))
  refine awp_seq_k fun K4 hK4 => ?_
  by_cases hend : i < L.length
  ·(refine awp_if fun T F hT hF => ?_; simp [go_sem, hend]; refine hT ?_; clear hT hF T F)
   refine awp_skip ?_
   refine hK4 _ ?_; clear hK4
   obtain ⟨f, hf⟩ : ∃ f, L[i]? = some f := ⟨_, List.getElem?_eq_getElem hend⟩
   have hfm := List.mem_of_getElem? hf
   have hfo := hok f hfm
   rw [fills_at hf] at hx
   have hfle := fill_le hu f
   have hflen := fill_len (u := u) hA hfo
   have hf0 : f.lt = 0 → fillV args u f = (f.tx, 0, u) := fun q => by unfold fillV; rw [if_pos q]
   have hFf := fun q => hFC f hfm q u g hu
   generalize fillV args u f = q at *
   obtain ⟨t, e, u'⟩ := q
   simp only at hx hfle hflen hFf
   refine awp_seq_k fun K6 hK6 => ?_
   refine awp_block ?_
   have b0 : (f.lt.toNat = 0) = (f.lt = 0) := propext ⟨fun q => UInt8.toNat_inj.1 q, fun q => by rw [q]; rfl⟩
   (refine awp_sr fun Y Yh => ?_; simp [go_sem, hf]; ((repeat' (first|(refine ag_x ?_;simp [go_sem, hf])|intro _|apply And.intro|(apply Yh;clear Yh Y)));all_goals first|apply Hold.mk|omega|with_reducible assumption|skip))
   (refine awp_sr fun Y Yh => ?_; simp [go_sem]; ((repeat' (first|(refine ag_x ?_;simp [go_sem])|intro _|apply And.intro|(apply Yh;clear Yh Y)));all_goals first|apply Hold.mk|omega|with_reducible assumption|skip))
   refine awp_seq_k fun K7 hK7 => ?_
   have tl7 : ∀ S', e = 0 → Cov S' ⟨[(9, .ptr 900004 g 0), (10, .ptr 900000 gb 0), (13, dS t), (25, dFs L), (26, dI L.length), (27, dI i)], [fiB g args u', (900000, (gb, .bld 70 900001 gr)), (900001, (gr, .brow 5 out))]⟩ → K7 S' := fun S' he hS => by
    refine hK7 _ ?_; clear hK7
    refine awp_cov hS ?_; clear hS
    rw [if_neg (by simpa using he)] at hx
    have hW := ws_spec 900000 900001 gb gr out t (by decide) (by decide) (by decide) (by omega)
    have hLn := fun gr => len_spec 900000 900001 gb gr (out ++ t) (by decide) (by decide) (by decide)
    (refine awp_sr fun Y Yh => ?_; simp [go_sem]; ((repeat' (first|(refine ag_x ?_;simp [go_sem])|intro _|apply And.intro|(apply Yh;clear Yh Y)));all_goals first|apply Hold.mk|omega|with_reducible assumption|skip))
    (refine callA_l [900000, 900001] (.inl ⟨rfl,rfl⟩) (by simp [go_sem]) ?_; intro args ha; simp [go_sem] at ha; subst ha; refine ⟨_, _, hW, (by simp [go_sem]), ?_⟩; rintro ps r hps ⟨gr', rfl, rfl⟩; simp [go_sem]; ((repeat' (first|(refine ag_x ?_;simp [go_sem])|intro _|apply And.intro|(apply Yh;clear Yh Y)));all_goals first|apply Hold.mk|omega|with_reducible assumption|skip))
    (refine awp_sr fun Y Yh => ?_; simp [go_sem]; ((repeat' (first|(refine ag_x ?_;simp [go_sem])|intro _|apply And.intro|(apply Yh;clear Yh Y)));all_goals first|apply Hold.mk|omega|with_reducible assumption|skip))
    (refine callA_l [900000, 900001] (.inl ⟨rfl,rfl⟩) (by simp [go_sem]) ?_; intro args ha; simp [go_sem] at ha; subst ha; refine ⟨_, _, (hLn gr'), (by simp [go_sem]), ?_⟩; rintro ps r hps ⟨gr'', rfl, rfl⟩; simp [go_sem]; ((repeat' (first|(refine ag_x ?_;simp [go_sem])|intro _|apply And.intro|(apply Yh;clear Yh Y)));all_goals first|apply Hold.mk|omega|with_reducible assumption|skip))
    by_cases h1 : 100000 < (out ++ t).length
    ·rw [if_pos h1] at hx
     have h1' : (100000 : Int) < (out.length : Int) + t.length := by rw [List.length_append] at h1; omega
     (refine awp_if fun T F hT hF => ?_; simp [go_sem, h1']; refine hT ?_; clear hT hF T F)
     (refine awp_sr fun Y Yh => ?_; simp [go_sem]; ((repeat' (first|(refine ag_x ?_;simp [go_sem])|intro _|apply And.intro|(apply Yh;clear Yh Y)));all_goals first|apply Hold.mk|omega|with_reducible assumption|skip))
     (refine awp_ret ?_; simp [go_sem])
     rw [← hx]
     simp
    ·rw [if_neg h1] at hx
     have h1' : ¬ (100000 : Int) < (out.length : Int) + t.length := by rw [List.length_append] at h1; omega
     (refine awp_if fun T F hT hF => ?_; simp [go_sem, h1']; refine hF ?_; clear hT hF T F)
     refine awp_skip ?_
     refine hK6 _ ?_; clear hK6
     (refine awp_r fun Y Yh => ?_; simp [go_sem]; ((repeat' (first|(refine ag_x ?_;simp [go_sem])|intro _|apply And.intro|(apply Yh;clear Yh Y)));all_goals first|apply Hold.mk|omega|with_reducible assumption|skip))
     refine ⟨(i + 1, out ++ t, u', gr''), ?_, ⟨by simp; omega, by simp only; omega, hfle, hx⟩, by simp; omega⟩
     (refine cov_of ?_ ?_ <;> simp [go_sem])
   clear hK7
   by_cases hz : f.lt = 0
   ·have := hf0 hz
    simp only [Prod.mk.injEq] at this
    obtain ⟨rfl, rfl, rfl⟩ := this
    (refine awp_sr fun Y Yh => ?_; simp [go_sem, b0]; ((repeat' (first|(refine ag_x ?_;simp [go_sem, b0])|intro _|apply And.intro|(apply Yh;clear Yh Y)));all_goals first|apply Hold.mk|omega|with_reducible assumption|skip))
    (refine awp_if fun T F hT hF => ?_; simp [go_sem, hz]; refine hF ?_; clear hT hF T F)
    refine awp_skip ?_
    refine tl7 _ rfl ?_
    (refine cov_of ?_ ?_ <;> simp [go_sem])
   ·have hFd := hFf hz
    (refine awp_sr fun Y Yh => ?_; simp [go_sem, b0]; ((repeat' (first|(refine ag_x ?_;simp [go_sem, b0])|intro _|apply And.intro|(apply Yh;clear Yh Y)));all_goals first|apply Hold.mk|omega|with_reducible assumption|skip))
    (refine awp_if fun T F hT hF => ?_; simp [go_sem, hz]; refine hT ?_; clear hT hF T F)
    (refine awp_sr fun Y Yh => ?_; simp [go_sem]; ((repeat' (first|(refine ag_x ?_;simp [go_sem])|intro _|apply And.intro|(apply Yh;clear Yh Y)));all_goals first|apply Hold.mk|omega|with_reducible assumption|skip))
    (refine awp_sr fun Y Yh => ?_; simp [go_sem]; ((repeat' (first|(refine ag_x ?_;simp [go_sem])|intro _|apply And.intro|(apply Yh;clear Yh Y)));all_goals first|apply Hold.mk|omega|with_reducible assumption|skip))
    (refine callA_l [900004] (.inl ⟨rfl,rfl⟩) (by simp [go_sem]) ?_; intro args ha; simp [go_sem] at ha; subst ha; refine ⟨_, _, hFd, (by simp [go_sem]), ?_⟩; rintro ps r hps ⟨rfl, rfl⟩; simp [go_sem]; ((repeat' (first|(refine ag_x ?_;simp [go_sem])|intro _|apply And.intro|(apply Yh;clear Yh Y)));all_goals first|apply Hold.mk|omega|with_reducible assumption|skip))
    by_cases he : e = 0
    ·(refine awp_sr fun Y Yh => ?_; simp [go_sem]; ((repeat' (first|(refine ag_x ?_;simp [go_sem])|intro _|apply And.intro|(apply Yh;clear Yh Y)));all_goals first|apply Hold.mk|omega|with_reducible assumption|skip))
     (refine awp_if fun T F hT hF => ?_; simp [go_sem, he]; refine hF ?_; clear hT hF T F)
     refine awp_skip ?_
     refine tl7 _ he ?_
     (refine cov_of ?_ ?_ <;> simp [go_sem])
    ·rw [if_pos (by simpa using he)] at hx
     (refine awp_sr fun Y Yh => ?_; simp [go_sem]; ((repeat' (first|(refine ag_x ?_;simp [go_sem])|intro _|apply And.intro|(apply Yh;clear Yh Y)));all_goals first|apply Hold.mk|omega|with_reducible assumption|skip))
     (refine awp_if fun T F hT hF => ?_; simp [go_sem, he]; refine hT ?_; clear hT hF T F)
     (refine awp_sr fun Y Yh => ?_; simp [go_sem]; ((repeat' (first|(refine ag_x ?_;simp [go_sem])|intro _|apply And.intro|(apply Yh;clear Yh Y)));all_goals first|apply Hold.mk|omega|with_reducible assumption|skip))
     (refine awp_ret ?_; simp [go_sem])
     rw [← hx]
     simp
  ·have hi2 : i = L.length := by omega
   subst hi2
   rw [fills_end] at hx
   have hS := strA_spec 900000 900001 gb gr out (by decide) (by decide) (by decide)
   (refine awp_if fun T F hT hF => ?_; simp [go_sem]; refine hF ?_; clear hT hF T F)
   refine awp_exit ?_
   simp only [go_sem]
   refine hK3 _ ?_; clear hK3
   ((refine awp_dr (.qs [1, 2, 3] (.kq 4 (.one 0 (.qs [5, 6, 7] (.nil))) 0 (.qs [5, 4, 6, 7] (.nil)))) (by kernel_rfl) ?_ ?_ ?_ ?_); (kernel_rfl); (exact (by decide +kernel)); (kernel_rfl); intro Y Yh; ((repeat' (first|(refine ag_x ?_;simp [go_sem])|refine adr_nil ?_|refine adr_kq ?_ ?_|((first|refine adr_qs fun Y Yh=>?_|refine adr_y fun Y Yh=>?_);simp [go_sem])|intro _|apply And.intro|(apply Yh;clear Yh Y)));all_goals first|apply Hold.mk|omega|with_reducible assumption|skip))
   all_goals (refine callA_l [900000, 900001] (.inl ⟨rfl,rfl⟩) (by simp [go_sem]) ?_; intro args ha; simp [go_sem] at ha; subst ha; refine ⟨_, _, hS, (by simp [go_sem]), ?_⟩; rintro ps r hps ⟨gr', rfl, rfl⟩; simp [go_sem]; ((repeat' (first|(refine ag_x ?_;simp [go_sem])|refine adr_nil ?_|refine adr_kq ?_ ?_|((first|refine adr_qs fun Y Yh=>?_|refine adr_y fun Y Yh=>?_);simp [go_sem])|intro _|apply And.intro|(apply Yh;clear Yh Y)));all_goals first|apply Hold.mk|omega|with_reducible assumption|skip))
   all_goals (refine awp_ret ?_; simp [go_sem])
   all_goals (rw [← hx]; simp)
theorem Format_spec (form : Bs) (args : List Ag) (hA : AgsOk args) (hfl : form.length ≤ 9223372036854775807) (hF : ∀ L, readV form = some L → ∀ f ∈ L, f.lt ≠ 0 → FillC args f) :
  PCall Tryz.prog 13 [dS form, dAs args] fun r => r = .tup [dS (runV form args).1, dI (runV form args).2.2] := by 
 refine pcall_of Tryz.func13 rfl rfl Tryz.ntmps13 (rs := [.tmp 4, .tmp 5]) (tys := [9, 34]) rfl rfl (by simp) ?_
 have hR := run_spec form args hA hfl hF
 generalize runV form args = q at *
 obtain ⟨t, u, e⟩ := q
 (refine awp_sr fun Y Yh => ?_; simp [go_sem]; ((repeat' (first|(refine ag_x ?_;simp [go_sem])|intro _|apply And.intro|(apply Yh;clear Yh Y)));all_goals first|apply Hold.mk|omega|with_reducible assumption|skip))
 (refine awp_sr fun Y Yh => ?_; simp [go_sem]; ((repeat' (first|(refine ag_x ?_;simp [go_sem])|intro _|apply And.intro|(apply Yh;clear Yh Y)));all_goals first|apply Hold.mk|omega|with_reducible assumption|skip))
 ((try refine CallT.toA ?_); refine callT_m (.inl ⟨rfl,rfl⟩) (by simp [go_sem]) ?_; intro args ha; simp [go_sem] at ha; subst ha; refine ⟨_, hR, ?_⟩; rintro _ rfl; simp [go_sem]; ((repeat' (first|(refine ag_x ?_;simp [go_sem])|intro _|apply And.intro|(apply Yh;clear Yh Y)));all_goals first|apply Hold.mk|omega|with_reducible assumption|skip))
 (refine awp_sr fun Y Yh => ?_; simp [go_sem]; ((repeat' (first|(refine ag_x ?_;simp [go_sem])|intro _|apply And.intro|(apply Yh;clear Yh Y)));all_goals first|apply Hold.mk|omega|with_reducible assumption|skip))
 (refine awp_ret ?_; simp [go_sem])
theorem fillC_np {args : List Ag} (hA : AgsOk args) {form : Bs} (hp : ∀ L, readV form = some L → ∀ f ∈ L, f.lt ≠ 112) : ∀ L, readV form = some L → ∀ f ∈ L, f.lt ≠ 0 → FillC args f := fun L hL f hf h0 u g hu => by
 obtain ⟨h1, h2, _⟩ := readV_ok hL f hf
 exact fill_np args u g f hA hu h1 h0 (h2.resolve_left h0) (hp L hL f hf)
theorem agI_ok {n : Int} (h : InR n) : AgOk (agI n) := ⟨h, by simp [agI]⟩
theorem ags1 {a : Ag} (h : AgOk a) : AgsOk [a] := ⟨by simp, fun x hx => by rw [List.mem_singleton.1 hx]; exact h⟩
theorem np_of {form : Bs} {L : List Fld} (h : readV form = some L) (h2 : ∀ f ∈ L, f.lt ≠ 112) : ∀ L, readV form = some L → ∀ f ∈ L, f.lt ≠ 112 := fun L' h' => by
 rw [h] at h'; cases h'; exact h2
theorem form_np {form : Bs} {args : List Ag} (hA : AgsOk args) (hfl : form.length ≤ 9223372036854775807) {L : List Fld} (h : readV form = some L) (h2 : ∀ f ∈ L, f.lt ≠ 112) {t : Bs} {u e : Nat} (hr : runV form args = (t, u, e)) :
  PCall Tryz.prog 13 [dS form, dAs args] fun r => r = .tup [dS t, dI e] := by
 have := Format_spec form args hA hfl (fillC_np hA (np_of h h2))
 rw [hr] at this
 exact this
theorem rd1 : ∃ L, readV [37, 48, 53, 100] = some L ∧ ∀ f ∈ L, f.lt ≠ 112 := ⟨_, rfl, by decide⟩
theorem rd2 : ∃ L, readV [37, 35, 120] = some L ∧ ∀ f ∈ L, f.lt ≠ 112 := ⟨_, rfl, by decide⟩
theorem rd3 : ∃ L, readV [37, 45, 52, 115, 124] = some L ∧ ∀ f ∈ L, f.lt ≠ 112 := ⟨_, rfl, by decide⟩
set_option maxHeartbeats 8000000 in
theorem sane_spec : PCall Tryz.prog 12 [] fun r => r = dB true := by 
 refine pcall_of Tryz.func12 rfl rfl Tryz.ntmps12 (rs := [.tmp 0]) (tys := [4]) rfl rfl (by simp) ?_
 obtain ⟨L1, h1, p1⟩ := rd1
 obtain ⟨L2, h2, p2⟩ := rd2
 obtain ⟨L3, h3, p3⟩ := rd3
 have S1 := form_np (ags1 (agI_ok (n := -42) (by simp [InR]))) (by simp) h1 p1 sane1
 have S2 := form_np (ags1 (agI_ok (n := 255) (by simp [InR]))) (by simp) h2 p2 sane2
 have S3 := form_np (args := [⟨[], true, 0, [97, 98]⟩]) (ags1 ⟨by simp [InR], by simp⟩) (by simp) h3 p3 sane3
 simp only [dAs, List.map_cons, List.map_nil, agI] at S1 S2 S3
 (refine awp_sr fun Y Yh => ?_; simp [go_sem]; ((repeat' (first|(refine ag_x ?_;simp [go_sem])|intro _|apply And.intro|(apply Yh;clear Yh Y)));all_goals first|apply Hold.mk|omega|with_reducible assumption|skip))
 (refine awp_sr fun Y Yh => ?_; simp [go_sem]; ((repeat' (first|(refine ag_x ?_;simp [go_sem])|intro _|apply And.intro|(apply Yh;clear Yh Y)));all_goals first|apply Hold.mk|omega|with_reducible assumption|skip))
 ((try refine CallT.toA ?_); refine callT_f (.inl ⟨rfl,rfl⟩) ?_; intro args ha; simp [go_sem] at ha; subst ha; refine ⟨_, S1, ?_⟩; rintro _ rfl; refine ⟨rfl, ?_⟩; simp [go_sem]; ((repeat' (first|(refine ag_x ?_;simp [go_sem])|intro _|apply And.intro|(apply Yh;clear Yh Y)));all_goals first|apply Hold.mk|omega|with_reducible assumption|skip))
 (refine awp_sr fun Y Yh => ?_; simp [go_sem]; ((repeat' (first|(refine ag_x ?_;simp [go_sem])|intro _|apply And.intro|(apply Yh;clear Yh Y)));all_goals first|apply Hold.mk|omega|with_reducible assumption|skip))
 ((try refine CallT.toA ?_); refine callT_f (.inl ⟨rfl,rfl⟩) ?_; intro args ha; simp [go_sem] at ha; subst ha; refine ⟨_, S2, ?_⟩; rintro _ rfl; refine ⟨rfl, ?_⟩; simp [go_sem]; ((repeat' (first|(refine ag_x ?_;simp [go_sem])|intro _|apply And.intro|(apply Yh;clear Yh Y)));all_goals first|apply Hold.mk|omega|with_reducible assumption|skip))
 (refine awp_sr fun Y Yh => ?_; simp [go_sem]; ((repeat' (first|(refine ag_x ?_;simp [go_sem])|intro _|apply And.intro|(apply Yh;clear Yh Y)));all_goals first|apply Hold.mk|omega|with_reducible assumption|skip))
 ((try refine CallT.toA ?_); refine callT_f (.inl ⟨rfl,rfl⟩) ?_; intro args ha; simp [go_sem] at ha; subst ha; refine ⟨_, S3, ?_⟩; rintro _ rfl; refine ⟨rfl, ?_⟩; simp [go_sem]; ((repeat' (first|(refine ag_x ?_;simp [go_sem])|intro _|apply And.intro|(apply Yh;clear Yh Y)));all_goals first|apply Hold.mk|omega|with_reducible assumption|skip))
 (refine awp_sr fun Y Yh => ?_; simp [go_sem]; ((repeat' (first|(refine ag_x ?_;simp [go_sem])|intro _|apply And.intro|(apply Yh;clear Yh Y)));all_goals first|apply Hold.mk|omega|with_reducible assumption|skip))
 (refine awp_ret ?_; simp [go_sem])
end Go.Proofs.YtelhdhofnohkcaaGreatDoor
namespace Go.Fm
/-! columns: what both tell -/
def rowOk (r : List (List UInt8)) : Bool := decide (r.length ≤ 200) && r.all fun s => decide (s.length ≤ 200)
def okB (rows : List (List (List UInt8))) : Bool := decide (rows.length ≤ 200) && rows.all rowOk
def wsP (rows : List (List (List UInt8))) : List Nat := rows.foldl (fun ws r => rowW ws 0 r) []
def wsR (rows : List (List (List UInt8))) : List Nat := rows.foldl (fun a r => rowA a 0 r) (List.replicate 200 0)
def lineK (w : List Nat) (gap n : Nat) : Nat → List (List UInt8) → List UInt8
 | _, [] => []
 | i, s :: r => s ++ (if i + 1 < n then List.replicate (w.getD i 0 + gap - s.length) 32 else []) ++ lineK w gap n (i + 1) r
def colsV (rows : List (List (List UInt8))) (gap : Nat) : List (List UInt8) := rows.map fun r => lineK (wsP rows) gap r.length 0 r
theorem lineK_app (w : List Nat) (gap n : Nat) (b : List (List UInt8)) : ∀ (a : List (List UInt8)) (i : Nat), lineK w gap n i (a ++ b) = lineK w gap n i a ++ lineK w gap n (i + a.length) b := by
 intro a
 induction a with
 | nil => intro i; simp [lineK]
 | cons s a ih =>
  intro i
  simp only [List.cons_append, lineK, ih, List.length_cons, List.append_assoc]
  rw [show i + 1 + a.length = i + (a.length + 1) by omega]
theorem rowW_app (b : List (List UInt8)) : ∀ (a : List (List UInt8)) (ws : List Nat) (i : Nat), rowW ws i (a ++ b) = rowW (rowW ws i a) (i + a.length) b := by
 intro a
 induction a with
 | nil => intro ws i; simp [rowW]
 | cons s a ih =>
  intro ws i
  simp only [List.cons_append, rowW, ih, List.length_cons]
  rw [show i + 1 + a.length = i + (a.length + 1) by omega]
theorem rowA_app (b : List (List UInt8)) : ∀ (a : List (List UInt8)) (ws : List Nat) (i : Nat), rowA ws i (a ++ b) = rowA (rowA ws i a) (i + a.length) b := by
 intro a
 induction a with
 | nil => intro ws i; simp [rowA]
 | cons s a ih =>
  intro ws i
  simp only [List.cons_append, rowA, ih, List.length_cons]
  rw [show i + 1 + a.length = i + (a.length + 1) by omega]
theorem take_step {α : Type} {l : List α} {i : Nat} (h : i < l.length) : l.take (i + 1) = l.take i ++ [l[i]] := by rw [List.take_add_one, List.getElem?_eq_getElem h]; rfl
theorem lineK_step (w : List Nat) (gap n : Nat) (r : List (List UInt8)) {k : Nat} (h : k < r.length) : lineK w gap n 0 (r.take (k + 1)) = lineK w gap n 0 (r.take k) ++ (r[k] ++ (if k + 1 < n then List.replicate (w.getD k 0 + gap - r[k].length) 32 else [])) := by
 rw [take_step h, lineK_app, List.length_take, show 0 + min k r.length = k by omega]
 simp [lineK]
theorem rowW_step (ws : List Nat) (r : List (List UInt8)) {k : Nat} (h : k < r.length) : rowW ws 0 (r.take (k + 1)) = putW (rowW ws 0 (r.take k)) k r[k].length := by
 rw [take_step h, rowW_app, List.length_take, show 0 + min k r.length = k by omega]
 simp [rowW]
theorem rowA_step (ws : List Nat) (r : List (List UInt8)) {k : Nat} (h : k < r.length) : rowA ws 0 (r.take (k + 1)) = (rowA ws 0 (r.take k)).set k (max ((rowA ws 0 (r.take k)).getD k 0) r[k].length) := by
 rw [take_step h, rowA_app, List.length_take, show 0 + min k r.length = k by omega]
 simp [rowA]
theorem wsP_step (rows : List (List (List UInt8))) {i : Nat} (h : i < rows.length) : wsP (rows.take (i + 1)) = rowW (wsP (rows.take i)) 0 rows[i] := by
 unfold wsP; rw [take_step h, List.foldl_append]; rfl
theorem wsR_step (rows : List (List (List UInt8))) {i : Nat} (h : i < rows.length) : wsR (rows.take (i + 1)) = rowA (wsR (rows.take i)) 0 rows[i] := by
 unfold wsR; rw [take_step h, List.foldl_append]; rfl
theorem putW_len (ws : List Nat) (i n : Nat) (h : i ≤ ws.length) : i + 1 ≤ (putW ws i n).length ∧ ws.length ≤ (putW ws i n).length ∧ (putW ws i n).length ≤ max ws.length (i + 1) := by
 unfold putW; split <;> simp <;> omega
theorem rowW_len (r : List (List UInt8)) : ∀ (ws : List Nat) (i : Nat), i ≤ ws.length → i + r.length ≤ (rowW ws i r).length ∧ ws.length ≤ (rowW ws i r).length ∧ (rowW ws i r).length ≤ max ws.length (i + r.length) := by
 induction r with
 | nil => intro ws i h; simp [rowW]; omega
 | cons s r ih =>
  intro ws i h
  have h1 := putW_len ws i s.length h
  have h2 := ih (putW ws i s.length) (i + 1) h1.1
  simp only [rowW, List.length_cons]; omega
theorem rowA_len (r : List (List UInt8)) : ∀ (ws : List Nat) (i : Nat), (rowA ws i r).length = ws.length := by
 induction r with
 | nil => intro ws i; rfl
 | cons s r ih => intro ws i; simp only [rowA, ih, List.length_set]
theorem wsP_len (rows : List (List (List UInt8))) (h : ∀ r ∈ rows, r.length ≤ 200) : (wsP rows).length ≤ 200 := by
 suffices H : ∀ (rows : List (List (List UInt8))) (ws : List Nat), (∀ r ∈ rows, r.length ≤ 200) → ws.length ≤ 200 → (rows.foldl (fun ws r => rowW ws 0 r) ws).length ≤ 200 from H rows [] h (by simp)
 intro rows
 induction rows with
 | nil => intro ws _ h; exact h
 | cons r rows ih =>
  intro ws h hw
  simp only [List.foldl_cons]
  refine ih _ (fun x hx => h x (by simp [hx])) ?_
  have := (rowW_len r ws 0 (by omega)).2.2
  have := h r (by simp)
  omega
theorem wsR_len (rows : List (List (List UInt8))) : (wsR rows).length = 200 := by
 suffices H : ∀ (rows : List (List (List UInt8))) (ws : List Nat), (rows.foldl (fun a r => rowA a 0 r) ws).length = ws.length by
  unfold wsR; rw [H, List.length_replicate]
 intro rows
 induction rows with
 | nil => intro ws; rfl
 | cons r rows ih => intro ws; simp only [List.foldl_cons]; rw [ih, rowA_len]
theorem ws_same (rows : List (List (List UInt8))) (h : ∀ r ∈ rows, r.length ≤ 200) : SameW (wsP rows) (wsR rows) := by
 suffices H : ∀ (rows : List (List (List UInt8))) (ws a : List Nat), (∀ r ∈ rows, r.length ≤ 200) → a.length = 200 → SameW ws a → SameW (rows.foldl (fun ws r => rowW ws 0 r) ws) (rows.foldl (fun a r => rowA a 0 r) a) from
  H rows [] _ h List.length_replicate (fun k => by simp only [List.getD, List.getElem?_replicate, List.getElem?_nil]; split <;> rfl)
 intro rows
 induction rows with
 | nil => intro ws a _ _ h; exact h
 | cons r rows ih =>
  intro ws a h ha hs
  simp only [List.foldl_cons]
  have hr := h r (by simp)
  obtain ⟨q1, _, q3⟩ := row_same r hs (Nat.zero_le ws.length) (by omega)
  exact ih _ _ (fun x hx => h x (by simp [hx])) (by omega) q1
def Fits (ws : List Nat) (r : List (List UInt8)) : Prop := ∀ k s, r[k]? = some s → s.length ≤ ws.getD k 0
theorem putW_ge (ws : List Nat) (i n : Nat) (h : i ≤ ws.length) (k : Nat) : ws.getD k 0 ≤ (putW ws i n).getD k 0 ∧ n ≤ (putW ws i n).getD i 0 := by
 unfold putW
 split
 ·rename_i e
  subst e
  refine ⟨?_, by simp [List.getD]⟩
  by_cases hk : k < ws.length
  ·simp [List.getD, List.getElem?_append_left hk]
  ·simp [List.getD, List.getElem?_eq_none (Nat.not_lt.1 hk)]
 ·have hi : i < ws.length := by omega
  refine ⟨?_, by simp [List.getD, hi]; omega⟩
  by_cases hk : k = i
  ·subst hk; simp [List.getD, hi]; omega
  ·simp [List.getD, List.getElem?_set, Ne.symm hk]
theorem rowW_ge (r : List (List UInt8)) : ∀ (ws : List Nat) (i : Nat), i ≤ ws.length → (∀ k, ws.getD k 0 ≤ (rowW ws i r).getD k 0) ∧ ∀ k s, r[k]? = some s → s.length ≤ (rowW ws i r).getD (i + k) 0 := by
 induction r with
 | nil => intro ws i h; exact ⟨fun k => Nat.le_refl _, fun k s hs => by simp at hs⟩
 | cons s r ih =>
  intro ws i h
  have h1 := putW_len ws i s.length h
  obtain ⟨a1, a2⟩ := ih (putW ws i s.length) (i + 1) h1.1
  simp only [rowW]
  refine ⟨fun k => Nat.le_trans (putW_ge ws i s.length h k).1 (a1 k), fun k x hx => ?_⟩
  match k, hx with
  | 0, hx =>
   simp at hx; subst hx
   exact Nat.le_trans (putW_ge ws i s.length h 0).2 (a1 i)
  | k + 1, hx =>
   have := a2 k x (by simpa using hx)
   rw [show i + 1 + k = i + (k + 1) by omega] at this
   exact this
theorem wsP_fits (rows : List (List (List UInt8))) : ∀ r ∈ rows, Fits (wsP rows) r := by
 suffices H : ∀ (rows : List (List (List UInt8))) (ws : List Nat), (∀ k, ws.getD k 0 ≤ (rows.foldl (fun ws r => rowW ws 0 r) ws).getD k 0) ∧ ∀ r ∈ rows, Fits (rows.foldl (fun ws r => rowW ws 0 r) ws) r from (H rows []).2
 intro rows
 induction rows with
 | nil => intro ws; exact ⟨fun k => Nat.le_refl _, fun r hr => by simp at hr⟩
 | cons r rows ih =>
  intro ws
  simp only [List.foldl_cons]
  obtain ⟨a1, a2⟩ := rowW_ge r ws 0 (by omega)
  obtain ⟨b1, b2⟩ := ih (rowW ws 0 r)
  refine ⟨fun k => Nat.le_trans (a1 k) (b1 k), fun x hx => ?_⟩
  rcases List.mem_cons.1 hx with rfl | hx
  ·intro k s hs
   have := a2 k s hs
   rw [Nat.zero_add] at this
   exact Nat.le_trans this (b1 k)
  ·exact b2 x hx
theorem wsP_ge (rows : List (List (List UInt8))) : ∀ r ∈ rows, r.length ≤ (wsP rows).length := by
 suffices H : ∀ (rows : List (List (List UInt8))) (ws : List Nat), ws.length ≤ (rows.foldl (fun ws r => rowW ws 0 r) ws).length ∧ ∀ r ∈ rows, r.length ≤ (rows.foldl (fun ws r => rowW ws 0 r) ws).length from (H rows []).2
 intro rows
 induction rows with
 | nil => intro ws; exact ⟨Nat.le_refl _, fun r hr => by simp at hr⟩
 | cons r rows ih =>
  intro ws
  simp only [List.foldl_cons]
  obtain ⟨a1, a2, _⟩ := rowW_len r ws 0 (by omega)
  obtain ⟨b1, b2⟩ := ih (rowW ws 0 r)
  refine ⟨Nat.le_trans a2 b1, fun x hx => ?_⟩
  rcases List.mem_cons.1 hx with rfl | hx
  ·rw [Nat.zero_add] at a1; exact Nat.le_trans a1 b1
  ·exact b2 x hx
theorem putW_bnd {ws : List Nat} {i n : Nat} (h : ∀ x ∈ ws, x ≤ 200) (hn : n ≤ 200) : ∀ x ∈ putW ws i n, x ≤ 200 := by
 intro x hx
 unfold putW at hx
 split at hx
 ·rcases List.mem_append.1 hx with hx | hx
  ·exact h x hx
  ·simp at hx; omega
 ·rcases List.mem_or_eq_of_mem_set hx with hx | rfl
  ·exact h x hx
  ·have : ws.getD i 0 ≤ 200 := by
    simp only [List.getD]
    by_cases hi : i < ws.length
    ·rw [List.getElem?_eq_getElem hi]; exact h _ (List.getElem_mem hi)
    ·rw [List.getElem?_eq_none (by omega)]; simp
   omega
theorem rowW_bnd (r : List (List UInt8)) : ∀ {ws : List Nat} {i : Nat}, (∀ x ∈ ws, x ≤ 200) → (∀ s ∈ r, s.length ≤ 200) → ∀ x ∈ rowW ws i r, x ≤ 200 := by
 induction r with
 | nil => intro ws i h _; exact h
 | cons s r ih =>
  intro ws i h hr
  exact ih (putW_bnd h (hr s (by simp))) (fun x hx => hr x (by simp [hx]))
theorem wsP_bnd (rows : List (List (List UInt8))) (h : ∀ r ∈ rows, ∀ s ∈ r, s.length ≤ 200) : ∀ x ∈ wsP rows, x ≤ 200 := by
 suffices H : ∀ (rows : List (List (List UInt8))) (ws : List Nat), (∀ r ∈ rows, ∀ s ∈ r, s.length ≤ 200) → (∀ x ∈ ws, x ≤ 200) → ∀ x ∈ rows.foldl (fun ws r => rowW ws 0 r) ws, x ≤ 200 from H rows [] h (by simp)
 intro rows
 induction rows with
 | nil => intro ws _ h; exact h
 | cons r rows ih =>
  intro ws h hw
  exact ih _ (fun x hx => h x (by simp [hx])) (rowW_bnd r hw (h r (by simp)))
theorem getD_bnd {ws : List Nat} (h : ∀ x ∈ ws, x ≤ 200) (k : Nat) : ws.getD k 0 ≤ 200 := by
 simp only [List.getD]
 by_cases hi : k < ws.length
 ·rw [List.getElem?_eq_getElem hi]; exact h _ (List.getElem_mem hi)
 ·rw [List.getElem?_eq_none (by omega)]; simp
theorem okB_rows {rows : List (List (List UInt8))} (h : okB rows = true) : rows.length ≤ 200 ∧ (∀ r ∈ rows, r.length ≤ 200) ∧ ∀ r ∈ rows, ∀ s ∈ r, s.length ≤ 200 := by
 simp only [okB, rowOk, Bool.and_eq_true, decide_eq_true_eq, List.all_eq_true] at h
 exact ⟨h.1, fun r hr => (h.2 r hr).1, fun r hr => (h.2 r hr).2⟩
theorem okB_of {rows : List (List (List UInt8))} (h0 : rows.length ≤ 200) (h1 : ∀ i (h : i < rows.length), rowOk rows[i] = true) : okB rows = true := by
 simp only [okB, Bool.and_eq_true, decide_eq_true_eq, List.all_eq_true]
 refine ⟨h0, fun r hr => ?_⟩
 obtain ⟨i, hi, rfl⟩ := List.getElem_of_mem hr
 exact h1 i hi
theorem okB_bad_row {rows : List (List (List UInt8))} {i : Nat} (hi : i < rows.length) (h : 200 < rows[i].length) : okB rows = false := by
 rw [Bool.eq_false_iff]
 intro q
 have := (okB_rows q).2.1 _ (List.getElem_mem hi)
 omega
theorem okB_bad_cell {rows : List (List (List UInt8))} {i k : Nat} (hi : i < rows.length) (hk : k < rows[i].length) (h : 200 < rows[i][k].length) : okB rows = false := by
 rw [Bool.eq_false_iff]
 intro q
 have := (okB_rows q).2.2 _ (List.getElem_mem hi) _ (List.getElem_mem hk)
 omega
theorem rowOk_of {r : List (List UInt8)} (h0 : r.length ≤ 200) (h1 : ∀ k (h : k < r.length), r[k].length ≤ 200) : rowOk r = true := by
 simp only [rowOk, Bool.and_eq_true, decide_eq_true_eq, List.all_eq_true]
 refine ⟨h0, fun r hr => ?_⟩
 obtain ⟨i, hi, rfl⟩ := List.getElem_of_mem hr
 exact h1 i hi
theorem lineK_len {w : List Nat} {gap n : Nat} (hw : ∀ x ∈ w, x ≤ 200) (hg : gap ≤ 100) : ∀ (r : List (List UInt8)) (i : Nat), (∀ s ∈ r, s.length ≤ 200) → (lineK w gap n i r).length ≤ 500 * r.length := by
 intro r
 induction r with
 | nil => intro i _; simp [lineK]
 | cons s r ih =>
  intro i h
  have h1 := h s (by simp)
  have h2 := ih (i + 1) fun x hx => h x (by simp [hx])
  have h3 : (if i + 1 < n then List.replicate (w.getD i 0 + gap - s.length) (32 : UInt8) else []).length ≤ 300 := by
   split
   ·rw [List.length_replicate]; have := getD_bnd hw i; omega
   ·simp
  simp only [lineK, List.length_append, List.length_cons] at h2 h3 ⊢
  omega
end Go.Fm
namespace Go.Proofs.YtelhdhofnohkcaaGreatDoor
open Go.Eng Go.Fm
set_option maxRecDepth 20000
attribute [local irreducible] AG CallA CallT AWp PCall ACall AgC
abbrev dR (l : List Bs) : D := .sl 1 (l.map fun s => [dS s])
abbrev cR (l : List Bs) : List D := [dR l]
abbrev dRs (l : List (List Bs)) : D := .sl 1 (l.map cR)
set_option maxHeartbeats 8000000 in
theorem texts_spec (a : List Bs) (hl : a.length ≤ 9223372036854775807) : PCall Tryz.prog 19 [dR a, dR a] fun r => r = dB true := by 
 refine pcall_of Tryz.func19 rfl rfl Tryz.ntmps19 (rs := [.tmp 4]) (tys := [4]) rfl rfl (by simp) ?_
 (refine awp_sr fun Y Yh => ?_; simp [go_sem]; ((repeat' (first|(refine ag_x ?_;simp [go_sem])|intro _|apply And.intro|(apply Yh;clear Yh Y)));all_goals first|apply Hold.mk|omega|with_reducible assumption|skip))
 refine awp_seq_k fun K1 hK1 => ?_
 (refine awp_sr fun Y Yh => ?_; simp [go_sem]; ((repeat' (first|(refine ag_x ?_;simp [go_sem])|intro _|apply And.intro|(apply Yh;clear Yh Y)));all_goals first|apply Hold.mk|omega|with_reducible assumption|skip))
 (refine awp_if fun T F hT hF => ?_; simp [go_sem]; refine hF ?_; clear hT hF T F)
 refine awp_skip ?_
 refine hK1 _ ?_; clear hK1
 refine awp_seq_k fun K3 hK3 => ?_
 (refine awp_sr fun Y Yh => ?_; simp [go_sem]; ((repeat' (first|(refine ag_x ?_;simp [go_sem])|intro _|apply And.intro|(apply Yh;clear Yh Y)));all_goals first|apply Hold.mk|omega|with_reducible assumption|skip))
 refine awp_block ?_
 refine awp_loop (σ := Nat) (fun x => ⟨[(0, dR a), (1, dR a), (5, dI x)], []⟩) (fun x => x ≤ a.length) (fun x => a.length - x) 0 ?_ ?_ ?_
 ·(refine cov_of ?_ ?_ <;> simp [go_sem])
 ·simp
 intro x hx
 refine awp_seq_k fun K4 hK4 => ?_
 (refine awp_sr fun Y Yh => ?_; simp [go_sem]; ((repeat' (first|(refine ag_x ?_;simp [go_sem])|intro _|apply And.intro|(apply Yh;clear Yh Y)));all_goals first|apply Hold.mk|omega|with_reducible assumption|skip))
 by_cases h5 : x < a.length
 ·(refine awp_if fun T F hT hF => ?_; simp [go_sem, h5]; refine hT ?_; clear hT hF T F)
  refine awp_skip ?_
  refine hK4 _ ?_; clear hK4
  refine awp_seq_k fun K6 hK6 => ?_
  refine awp_block ?_
  ((refine awp_dr (.qs [0, 1, 2, 4, 5, 6, 3, 7, 8] (.nil)) (by kernel_rfl) ?_ ?_ ?_ ?_); (kernel_rfl); (exact (by decide +kernel)); (kernel_rfl); intro Y Yh; ((repeat' (first|(refine ag_x ?_;simp [go_sem, h5])|refine adr_nil ?_|((first|refine adr_qs fun Y Yh=>?_|refine adr_y fun Y Yh=>?_);simp [go_sem, h5])|intro _|apply And.intro|(apply Yh;clear Yh Y)));all_goals first|apply Hold.mk|omega|with_reducible assumption|skip))
  (refine awp_if fun T F hT hF => ?_; simp [go_sem]; refine hF ?_; clear hT hF T F)
  refine awp_skip ?_
  refine hK6 _ ?_; clear hK6
  (refine awp_r fun Y Yh => ?_; simp [go_sem]; ((repeat' (first|(refine ag_x ?_;simp [go_sem])|intro _|apply And.intro|(apply Yh;clear Yh Y)));all_goals first|apply Hold.mk|omega|with_reducible assumption|skip))
  refine ⟨x + 1, ?_, by omega, by omega⟩
  (refine cov_of ?_ ?_ <;> simp [go_sem])
 ·(refine awp_if fun T F hT hF => ?_; simp [go_sem, h5]; refine hF ?_; clear hT hF T F)
  refine awp_exit ?_
  simp only [go_sem]
  refine hK3 _ ?_; clear hK3
  (refine awp_sr fun Y Yh => ?_; simp [go_sem]; ((repeat' (first|(refine ag_x ?_;simp [go_sem])|intro _|apply And.intro|(apply Yh;clear Yh Y)));all_goals first|apply Hold.mk|omega|with_reducible assumption|skip))
  (refine awp_ret ?_; simp [go_sem])
set_option maxHeartbeats 8000000 in
theorem filled_spec (s : Bs) (w : Nat) (hl : s.length ≤ 1000) (hw : w ≤ 1000) : PCall Tryz.prog 40 [dS s, dI w, dB true] fun r => r = dS (s ++ List.replicate (w - s.length) 32) := by 
 refine pcall_of Tryz.func40 rfl rfl Tryz.ntmps40 (rs := [.tmp 6]) (tys := [9]) rfl rfl (by simp) ?_
 (refine awp_sr fun Y Yh => ?_; simp [go_sem]; ((repeat' (first|(refine ag_x ?_;simp [go_sem])|intro _|apply And.intro|(apply Yh;clear Yh Y)));all_goals first|apply Hold.mk|omega|with_reducible assumption|skip))
 refine awp_seq_k fun K1 hK1 => ?_
 refine awp_block ?_
 refine awp_loop (σ := Nat) (fun x => ⟨[(0, dS (s ++ List.replicate x 32)), (1, dI w), (2, dB true)], []⟩) (fun x => x ≤ w - s.length) (fun x => w - s.length - x) 0 ?_ ?_ ?_
 ·(refine cov_of ?_ ?_ <;> simp [go_sem])
 ·simp
 intro x hx
 refine awp_seq_k fun K2 hK2 => ?_
 have hsz : (s ++ List.replicate x 32).length = s.length + x := by rw [List.length_append, List.length_replicate]
 generalize hT : s ++ List.replicate x 32 = T at *
 (refine awp_sr fun Y Yh => ?_; simp [go_sem, ba_size, hsz]; ((repeat' (first|(refine ag_x ?_;simp [go_sem, ba_size, hsz])|intro _|apply And.intro|(apply Yh;clear Yh Y)));all_goals first|apply Hold.mk|omega|with_reducible assumption|skip))
 by_cases h3 : x < w - s.length
 ·have h3' : (s.length : Int) + (x : Int) < w := by omega
  (refine awp_if fun T F hT hF => ?_; simp [go_sem, h3']; refine hT ?_; clear hT hF T F)
  refine awp_skip ?_
  refine hK2 _ ?_; clear hK2
  refine awp_block ?_
  (refine awp_sr fun Y Yh => ?_; simp [go_sem]; ((repeat' (first|(refine ag_x ?_;simp [go_sem])|intro _|apply And.intro|(apply Yh;clear Yh Y)));all_goals first|apply Hold.mk|omega|with_reducible assumption|skip))
  (refine awp_if fun T F hT hF => ?_; simp [go_sem]; refine hT ?_; clear hT hF T F)
  (refine awp_r fun Y Yh => ?_; simp [go_sem, ba_app]; ((repeat' (first|(refine ag_x ?_;simp [go_sem, ba_app])|intro _|apply And.intro|(apply Yh;clear Yh Y)));all_goals first|apply Hold.mk|omega|with_reducible assumption|skip))
  refine ⟨x + 1, ?_, by omega, by omega⟩
  (refine cov_of ?_ ?_ <;> simp [go_sem])
  rw [← hT]
  simp [List.replicate_succ']
 ·have h3' : ¬ (s.length : Int) + (x : Int) < w := by omega
  (refine awp_if fun T F hT hF => ?_; simp [go_sem, h3']; refine hF ?_; clear hT hF T F)
  refine awp_exit ?_
  simp only [go_sem]
  refine hK1 _ ?_; clear hK1
  have hx : x = w - s.length := by omega
  subst hx
  (refine awp_sr fun Y Yh => ?_; simp [go_sem]; ((repeat' (first|(refine ag_x ?_;simp [go_sem])|intro _|apply And.intro|(apply Yh;clear Yh Y)));all_goals first|apply Hold.mk|omega|with_reducible assumption|skip))
  (refine awp_ret ?_; simp [go_sem, hT])
abbrev dNs (l : List Nat) : List D := l.map fun n : Nat => dI n
def colR (rows : List (List Bs)) (gap : Int) : D := if okB rows = true ∧ 0 ≤ gap ∧ gap ≤ 100 then .tup [dR (colsV rows gap.toNat), dI 0] else .tup [dR [], dI 1]
theorem colR_bad {rows : List (List Bs)} {gap : Int} (h : okB rows = false) : colR rows gap = .tup [dR [], dI 1] := by unfold colR; rw [h]; simp
theorem colR_gap {rows : List (List Bs)} {gap : Int} (h : ¬ (0 ≤ gap ∧ gap ≤ 100)) : colR rows gap = .tup [dR [], dI 1] := by unfold colR; rw [if_neg fun q => h q.2]
theorem ns_drop (l : List Nat) {k : Nat} (h : k < l.length) : (dNs l).drop k = dI (l.getD k 0 : Nat) :: (dNs l).drop (k + 1) := by
 rw [List.drop_eq_getElem_cons (by simpa using h)]
 simp [List.getD, List.getElem?_eq_getElem h]
theorem ns_put (l : List Nat) (k n : Nat) (h : k < l.length) : (dNs l).take k ++ (dI n :: (dNs l).drop (k + 1)) = dNs (l.set k n) := by
 simp only [dNs]
 rw [List.map_set, List.set_eq_take_append_cons_drop, if_pos (by simpa using h)]
def linesD (w : List Nat) (m : Nat) (rows : List (List Bs)) (i : Nat) : List (List D) := (rows.take i).map fun r => [dS (lineK w m r.length 0 r)]
theorem linesD_step (w : List Nat) (m : Nat) {rows : List (List Bs)} {i : Nat} (h : i < rows.length) : linesD w m rows (i + 1) = linesD w m rows i ++ [[dS (lineK w m rows[i].length 0 rows[i])]] := by
 unfold linesD; rw [take_step h, List.map_append]; rfl
theorem linesD_len (w : List Nat) (m : Nat) (rows : List (List Bs)) (i : Nat) : (linesD w m rows i).length = min i rows.length := by
 unfold linesD; rw [List.length_map, List.length_take]
theorem linesD_all (w : List Nat) (m : Nat) (rows : List (List Bs)) : D.sl 1 (linesD w m rows rows.length) = dR (rows.map fun r => lineK w m r.length 0 r) := by
 unfold linesD; rw [List.take_length]; simp [dR, Function.comp_def]
set_option maxHeartbeats 16000000 in
theorem rcols_spec (rows : List (List Bs)) (gap : Int) (hg : InR gap) (hl : rows.length ≤ 140737488355328) (hr : ∀ r ∈ rows, r.length ≤ 140737488355328 ∧ ∀ s ∈ r, s.length ≤ 140737488355328) : PCall Tryz.prog 18 [dRs rows, dI gap] fun r => r = colR rows gap := by 
 refine pcall_of Tryz.func18 rfl rfl Tryz.ntmps18 (rs := [.tmp 4, .tmp 5]) (tys := [23, 34]) rfl rfl (by simp) ?_
 (refine awp_sr fun Y Yh => ?_; simp [go_sem]; ((repeat' (first|(refine ag_x ?_;simp [go_sem])|intro _|apply And.intro|(apply Yh;clear Yh Y)));all_goals first|apply Hold.mk|omega|with_reducible assumption|skip))
 refine awp_seq_k fun K1 hK1 => ?_
 by_cases h0 : 200 < rows.length
 ·have hb : okB rows = false := by rw [Bool.eq_false_iff]; intro q; have := (okB_rows q).1; omega
  have h0' : (200 : Int) < rows.length := by omega
  (refine awp_sr fun Y Yh => ?_; simp [go_sem, h0']; ((repeat' (first|(refine ag_false ?_ ?_ ?_;(focus (simp [go_sem, undef, h0'];done));(focus (simp [go_sem];done));simp [go_sem, h0'])|(refine ag_x ?_;simp [go_sem, undef, h0'])|intro _|apply And.intro|(apply Yh;clear Yh Y)));all_goals first|apply Hold.mk|omega|with_reducible assumption|skip))
  (refine awp_if fun T F hT hF => ?_; simp [go_sem]; refine hT ?_; clear hT hF T F)
  (refine awp_sr fun Y Yh => ?_; simp [go_sem]; ((repeat' (first|(refine ag_x ?_;simp [go_sem])|intro _|apply And.intro|(apply Yh;clear Yh Y)));all_goals first|apply Hold.mk|omega|with_reducible assumption|skip))
  (refine awp_ret ?_; simp [go_sem, colR_bad hb])
 have h0' : ¬ (200 : Int) < rows.length := by omega
 by_cases h1 : gap < 0
 ·(refine awp_sr fun Y Yh => ?_; simp [go_sem, h0', h1]; ((repeat' (first|(refine ag_false ?_ ?_ ?_;(focus (simp [go_sem, undef, h0', h1];done));(focus (simp [go_sem];done));simp [go_sem, h0', h1])|(refine ag_x ?_;simp [go_sem, undef, h0', h1])|intro _|apply And.intro|(apply Yh;clear Yh Y)));all_goals first|apply Hold.mk|omega|with_reducible assumption|skip))
  (refine awp_if fun T F hT hF => ?_; simp [go_sem]; refine hT ?_; clear hT hF T F)
  (refine awp_sr fun Y Yh => ?_; simp [go_sem]; ((repeat' (first|(refine ag_x ?_;simp [go_sem])|intro _|apply And.intro|(apply Yh;clear Yh Y)));all_goals first|apply Hold.mk|omega|with_reducible assumption|skip))
  (refine awp_ret ?_; simp [go_sem, colR_gap (rows := rows) (gap := gap) (by omega)])
 by_cases h2 : 100 < gap
 ·(refine awp_sr fun Y Yh => ?_; simp [go_sem, h0', h1, h2]; ((repeat' (first|(refine ag_false ?_ ?_ ?_;(focus (simp [go_sem, undef, h0', h1, h2];done));(focus (simp [go_sem];done));simp [go_sem, h0', h1, h2])|(refine ag_x ?_;simp [go_sem, undef, h0', h1, h2])|intro _|apply And.intro|(apply Yh;clear Yh Y)));all_goals first|apply Hold.mk|omega|with_reducible assumption|skip))
  (refine awp_if fun T F hT hF => ?_; simp [go_sem]; refine hT ?_; clear hT hF T F)
  (refine awp_sr fun Y Yh => ?_; simp [go_sem]; ((repeat' (first|(refine ag_x ?_;simp [go_sem])|intro _|apply And.intro|(apply Yh;clear Yh Y)));all_goals first|apply Hold.mk|omega|with_reducible assumption|skip))
  (refine awp_ret ?_; simp [go_sem, colR_gap (rows := rows) (gap := gap) (by omega)])
 (refine awp_sr fun Y Yh => ?_; simp [go_sem, h0', h1, h2]; ((repeat' (first|(refine ag_false ?_ ?_ ?_;(focus (simp [go_sem, undef, h0', h1, h2];done));(focus (simp [go_sem];done));simp [go_sem, h0', h1, h2])|(refine ag_x ?_;simp [go_sem, undef, h0', h1, h2])|intro _|apply And.intro|(apply Yh;clear Yh Y)));all_goals first|apply Hold.mk|omega|with_reducible assumption|skip))
 (refine awp_if fun T F hT hF => ?_; simp [go_sem]; refine hF ?_; clear hT hF T F)
 refine awp_skip ?_
 refine hK1 _ ?_; clear hK1
 obtain ⟨m, rfl⟩ : ∃ m : Nat, gap = m := ⟨gap.toNat, by omega⟩
 (refine awp_sr fun Y Yh => ?_; simp [go_sem]; ((repeat' (first|(refine ag_x ?_;simp [go_sem])|intro _|apply And.intro|(apply Yh;clear Yh Y)));all_goals first|apply Hold.mk|omega|with_reducible assumption|skip))
 rename_i g
 refine awp_seq_k fun K3 hK3 => ?_
 (refine awp_sr fun Y Yh => ?_; simp [go_sem]; ((repeat' (first|(refine ag_x ?_;simp [go_sem])|intro _|apply And.intro|(apply Yh;clear Yh Y)));all_goals first|apply Hold.mk|omega|with_reducible assumption|skip))
 refine awp_block ?_
 refine awp_loop (σ := Nat) (fun i => ⟨[(0, dRs rows), (1, dI m), (4, .v (.slice none 0 0)), (6, .ptr 6 g 0), (7, dI i)], [(6, (g, .box (dNs (wsR (rows.take i)))))]⟩) (fun i => i ≤ rows.length ∧ ∀ j (h : j < rows.length), j < i → rowOk rows[j] = true) (fun i => rows.length - i) 0 ?_ ?_ ?_
 ·(refine cov_of ?_ ?_ <;> simp [go_sem])
  rfl
 ·simp
 rintro i ⟨hi, hok⟩
 refine awp_seq_k fun K4 hK4 => ?_
 (refine awp_sr fun Y Yh => ?_; simp [go_sem]; ((repeat' (first|(refine ag_x ?_;simp [go_sem])|intro _|apply And.intro|(apply Yh;clear Yh Y)));all_goals first|apply Hold.mk|omega|with_reducible assumption|skip))
 by_cases h5 : i < rows.length
 ·(refine awp_if fun T F hT hF => ?_; simp [go_sem, h5]; refine hT ?_; clear hT hF T F)
  refine awp_skip ?_
  refine hK4 _ ?_; clear hK4
  refine awp_seq_k fun K6 hK6 => ?_
  refine awp_block ?_
  refine awp_seq_k fun K7 hK7 => ?_
  have hst := wsR_step rows h5
  have hbad := fun (h : 200 < rows[i].length) => colR_bad (gap := m) (okB_bad_row h5 h)
  have hbad2 := fun (k : Nat) (hk : k < rows[i].length) (h : 200 < rows[i][k].length) => colR_bad (gap := m) (okB_bad_cell h5 hk h)
  have hok2 : ∀ (R : List Bs), rows[i] = R → rowOk R = true → ∀ j (h : j < rows.length), j < i + 1 → rowOk rows[j] = true := fun R hR hr j hj hji => by
   by_cases e : j = i
   ·subst e; rw [hR]; exact hr
   ·exact hok j hj (by omega)
  have hlr := (hr _ (List.getElem_mem h5)).1
  have hlc := (hr _ (List.getElem_mem h5)).2
  have hwl := wsR_len (rows.take i)
  generalize hR : rows[i] = R at *
  generalize wsR (rows.take i) = A at *
  generalize hA1 : wsR (rows.take (i + 1)) = A1 at *
  (refine awp_sr fun Y Yh => ?_; simp [go_sem, h5, hR]; ((repeat' (first|(refine ag_x ?_;simp [go_sem, h5, hR])|intro _|apply And.intro|(apply Yh;clear Yh Y)));all_goals first|apply Hold.mk|omega|with_reducible assumption|skip))
  by_cases h8 : 200 < R.length
  ·have h8' : (200 : Int) < R.length := by omega
   (refine awp_if fun T F hT hF => ?_; simp [go_sem, h8']; refine hT ?_; clear hT hF T F)
   (refine awp_sr fun Y Yh => ?_; simp [go_sem]; ((repeat' (first|(refine ag_x ?_;simp [go_sem])|intro _|apply And.intro|(apply Yh;clear Yh Y)));all_goals first|apply Hold.mk|omega|with_reducible assumption|skip))
   (refine awp_ret ?_; simp [go_sem, hbad h8])
  ·have h8' : ¬ (200 : Int) < R.length := by omega
   (refine awp_if fun T F hT hF => ?_; simp [go_sem, h8']; refine hF ?_; clear hT hF T F)
   refine awp_skip ?_
   refine hK7 _ ?_; clear hK7
   (refine awp_sr fun Y Yh => ?_; simp [go_sem]; ((repeat' (first|(refine ag_x ?_;simp [go_sem])|intro _|apply And.intro|(apply Yh;clear Yh Y)));all_goals first|apply Hold.mk|omega|with_reducible assumption|skip))
   refine awp_block ?_
   refine awp_loop (σ := Nat) (fun k => ⟨[(0, dRs rows), (1, dI m), (4, .v (.slice none 0 0)), (6, .ptr 6 g 0), (7, dI i), (8, dI k)], [(6, (g, .box (dNs (rowA A 0 (R.take k)))))]⟩) (fun k => k ≤ R.length ∧ ∀ j (h : j < R.length), j < k → R[j].length ≤ 200) (fun k => R.length - k) 0 ?_ ?_ ?_
   ·(refine cov_of ?_ ?_ <;> simp [go_sem])
    rfl
   ·simp
   rintro k ⟨hk, hokc⟩
   refine awp_seq_k fun K9 hK9 => ?_
   (refine awp_sr fun Y Yh => ?_; simp [go_sem, h5, hR]; ((repeat' (first|(refine ag_x ?_;simp [go_sem, h5, hR])|intro _|apply And.intro|(apply Yh;clear Yh Y)));all_goals first|apply Hold.mk|omega|with_reducible assumption|skip))
   by_cases h10 : k < R.length
   ·(refine awp_if fun T F hT hF => ?_; simp [go_sem, h10]; refine hT ?_; clear hT hF T F)
    refine awp_skip ?_
    refine hK9 _ ?_; clear hK9
    refine awp_seq_k fun K11 hK11 => ?_
    refine awp_block ?_
    refine awp_seq_k fun K12 hK12 => ?_
    have hst2 := rowA_step A R h10
    have hbd := hbad2 k h10
    have hlen : (rowA A 0 (R.take k)).length = 200 := by rw [rowA_len, hwl]
    generalize hc : R[k] = c at *
    generalize rowA A 0 (R.take k) = B at *
    (refine awp_sr fun Y Yh => ?_; simp [go_sem, h5, hR, h10, hc, ba_size]; ((repeat' (first|(refine ag_x ?_;simp [go_sem, h5, hR, h10, hc, ba_size])|intro _|apply And.intro|(apply Yh;clear Yh Y)));all_goals first|apply Hold.mk|omega|with_reducible assumption|skip))
    by_cases h13 : 200 < c.length
    ·have h13' : (200 : Int) < c.length := by omega
     (refine awp_if fun T F hT hF => ?_; simp [go_sem, h13']; refine hT ?_; clear hT hF T F)
     (refine awp_sr fun Y Yh => ?_; simp [go_sem]; ((repeat' (first|(refine ag_x ?_;simp [go_sem])|intro _|apply And.intro|(apply Yh;clear Yh Y)));all_goals first|apply Hold.mk|omega|with_reducible assumption|skip))
     (refine awp_ret ?_; simp [go_sem, hbd h13])
    ·have h13' : ¬ (200 : Int) < c.length := by omega
     (refine awp_if fun T F hT hF => ?_; simp [go_sem, h13']; refine hF ?_; clear hT hF T F)
     refine awp_skip ?_
     refine hK12 _ ?_; clear hK12
     have hg1 := ns_drop B (k := k) (by omega)
     have hp1 := ns_put B k (max (B.getD k 0) c.length) (by omega)
     have hmx : (if ((B.getD k 0 : Nat) : Int) < (c.length : Int) then (c.length : Int) else ((B.getD k 0 : Nat) : Int)) = ((max (B.getD k 0) c.length : Nat) : Int) := by split <;> omega
     have hmx2 : (if (B.getD k 0) < c.length then (c.length : Int) else ((B.getD k 0 : Nat) : Int)) = ((max (B.getD k 0) c.length : Nat) : Int) := by split <;> omega
     generalize max (B.getD k 0) c.length = b2 at *
     generalize B.getD k 0 = b at *
     have hk2 : k < 200 := by omega
     have hnl : (dNs B).length = 200 := by simp [hlen]
     generalize dNs B = C at *
     ((refine awp_d (.qs [0, 1, 2, 4, 5, 6, 8, 3, 7, 9, 10, 11, 12, 13] (.one 14 (.nil))) (by kernel_rfl) ?_ ?_ ?_ ?_); (kernel_rfl); (exact (by decide +kernel)); (kernel_rfl); intro Y Yh; ((repeat' (first|(refine ag_x ?_;simp [go_sem, h5, hR, h10, hc, ba_size, hg1, hnl, hk2, hmx, hp1])|refine adr_nil ?_|((first|refine adr_qs fun Y Yh=>?_|refine adr_y fun Y Yh=>?_);simp [go_sem, h5, hR, h10, hc, ba_size, hg1, hnl, hk2, hmx, hp1])|intro _|apply And.intro|(apply Yh;clear Yh Y)));all_goals first|apply Hold.mk|omega|with_reducible assumption|skip))
     refine hK11 _ ?_; clear hK11
     (refine awp_r fun Y Yh => ?_; simp [go_sem]; ((repeat' (first|(refine ag_x ?_;simp [go_sem])|intro _|apply And.intro|(apply Yh;clear Yh Y)));all_goals first|apply Hold.mk|omega|with_reducible assumption|skip))
     refine ⟨k + 1, ?_, ⟨by omega, fun j hj hjk => ?_⟩, by omega⟩
     ·(refine cov_of ?_ ?_ <;> simp [go_sem])
      rw [hst2, ← hp1, ← hmx2]
     ·by_cases e : j = k
      ·subst e; rw [hc]; omega
      ·exact hokc j hj (by omega)
   ·(refine awp_if fun T F hT hF => ?_; simp [go_sem, h10]; refine hF ?_; clear hT hF T F)
    refine awp_exit ?_
    simp only [go_sem]
    refine hK6 _ ?_; clear hK6
    have hk2 : k = R.length := by omega
    subst hk2
    rw [List.take_length, ← hst]
    subst A1
    (refine awp_r fun Y Yh => ?_; simp [go_sem]; ((repeat' (first|(refine ag_x ?_;simp [go_sem])|intro _|apply And.intro|(apply Yh;clear Yh Y)));all_goals first|apply Hold.mk|omega|with_reducible assumption|skip))
    refine ⟨i + 1, ?_, ⟨by omega, hok2 R rfl (rowOk_of (by omega) fun k h => hokc k h h)⟩, by omega⟩
    (refine cov_of ?_ ?_ <;> simp [go_sem])
 ·(refine awp_if fun T F hT hF => ?_; simp [go_sem, h5]; refine hF ?_; clear hT hF T F)
  refine awp_exit ?_
  simp only [go_sem]
  refine hK3 _ ?_; clear hK3
  have hi2 : i = rows.length := by omega
  subst hi2
  rw [List.take_length]
  have hB : okB rows = true := okB_of (by omega) fun j h => hok j h h
  (refine awp_sr fun Y Yh => ?_; simp [go_sem]; ((repeat' (first|(refine ag_x ?_;simp [go_sem])|intro _|apply And.intro|(apply Yh;clear Yh Y)));all_goals first|apply Hold.mk|omega|with_reducible assumption|skip))
  refine awp_seq_k fun K14 hK14 => ?_
  (refine awp_sr fun Y Yh => ?_; simp [go_sem]; ((repeat' (first|(refine ag_x ?_;simp [go_sem])|intro _|apply And.intro|(apply Yh;clear Yh Y)));all_goals first|apply Hold.mk|omega|with_reducible assumption|skip))
  have hr1 : ∀ r ∈ rows, r.length ≤ 200 := (okB_rows hB).2.1
  have hr2 : ∀ r ∈ rows, ∀ s ∈ r, s.length ≤ 200 := (okB_rows hB).2.2
  have hsame := ws_same rows hr1
  have hfit := wsP_fits rows
  have hbnd := wsP_bnd rows hr2
  have hwl := wsR_len rows
  have hcol : colR rows m = .tup [dR (rows.map fun r => lineK (wsP rows) m r.length 0 r), dI 0] := by unfold colR; rw [if_pos ⟨hB, by omega, by omega⟩]; simp [colsV]
  clear hok
  generalize wsP rows = w at *
  generalize wsR rows = A at *
  refine awp_nilslot 9 9 9 1 rfl fun go => ?_
  simp only [go_sem]
  refine awp_block ?_
  refine awp_loop (σ := Nat × Nat) (fun x => ⟨[(0, dRs rows), (1, dI m), (4, .v (.slice none 0 0)), (6, .ptr 6 g 0), (9, .own 9 x.2), (10, dI x.1)], [(6, (g, .box (dNs A))), (9, (x.2, .row 9 1 (linesD w m rows x.1)))]⟩) (fun x => x.1 ≤ rows.length) (fun x => rows.length - x.1) (0, go) ?_ ?_ ?_
  ·(refine cov_of ?_ ?_ <;> simp [go_sem])
   rfl
  ·simp
  rintro ⟨i, go⟩ hi
  simp only at hi ⊢
  refine awp_seq_k fun K15 hK15 => ?_
  (refine awp_sr fun Y Yh => ?_; simp [go_sem]; ((repeat' (first|(refine ag_x ?_;simp [go_sem])|intro _|apply And.intro|(apply Yh;clear Yh Y)));all_goals first|apply Hold.mk|omega|with_reducible assumption|skip))
  by_cases h16 : i < rows.length
  ·(refine awp_if fun T F hT hF => ?_; simp [go_sem, h16]; refine hT ?_; clear hT hF T F)
   refine awp_skip ?_
   refine hK15 _ ?_; clear hK15
   refine awp_seq_k fun K17 hK17 => ?_
   refine awp_block ?_
   have htk := linesD_step w m h16
   have hOl := linesD_len w m rows i
   have hll := fun k => lineK_len (n := rows[i].length) hbnd (show m ≤ 100 by omega) (rows[i].take k) 0 fun s hs => hr2 _ (List.getElem_mem h16) s (List.mem_of_mem_take hs)
   generalize hO : linesD w m rows i = O at *
   have e1 := hr1 _ (List.getElem_mem h16)
   have e2 := hr2 _ (List.getElem_mem h16)
   have e3 := hfit _ (List.getElem_mem h16)
   generalize hR : rows[i] = R at *
   (refine awp_sr fun Y Yh => ?_; simp [go_sem]; ((repeat' (first|(refine ag_x ?_;simp [go_sem])|intro _|apply And.intro|(apply Yh;clear Yh Y)));all_goals first|apply Hold.mk|omega|with_reducible assumption|skip))
   refine awp_seq_k fun K18 hK18 => ?_
   (refine awp_sr fun Y Yh => ?_; simp [go_sem]; ((repeat' (first|(refine ag_x ?_;simp [go_sem])|intro _|apply And.intro|(apply Yh;clear Yh Y)));all_goals first|apply Hold.mk|omega|with_reducible assumption|skip))
   refine awp_block ?_
   refine awp_loop (σ := Nat) (fun k => ⟨[(0, dRs rows), (1, dI m), (4, .v (.slice none 0 0)), (6, .ptr 6 g 0), (9, .own 9 go), (10, dI i), (11, dS (lineK w m R.length 0 (R.take k))), (12, dI k)], [(6, (g, .box (dNs A))), (9, (go, .row 9 1 O))]⟩) (fun k => k ≤ R.length) (fun k => R.length - k) 0 ?_ ?_ ?_
   ·(refine cov_of ?_ ?_ <;> simp [go_sem])
    rfl
   ·simp
   rintro k hk
   refine awp_seq_k fun K19 hK19 => ?_
   (refine awp_sr fun Y Yh => ?_; simp [go_sem, h16, hR]; ((repeat' (first|(refine ag_x ?_;simp [go_sem, h16, hR])|intro _|apply And.intro|(apply Yh;clear Yh Y)));all_goals first|apply Hold.mk|omega|with_reducible assumption|skip))
   by_cases h20 : k < R.length
   ·(refine awp_if fun T F hT hF => ?_; simp [go_sem, h20]; refine hT ?_; clear hT hF T F)
    refine awp_skip ?_
    refine hK19 _ ?_; clear hK19
    refine awp_seq_k fun K21 hK21 => ?_
    refine awp_block ?_
    have hls := lineK_step w m R.length R h20
    have hll1 := hll k
    rw [List.length_take] at hll1
    have f1 := e2 _ (List.getElem_mem h20)
    have f2 := e3 k _ (List.getElem?_eq_getElem h20)
    have f3 := getD_bnd hbnd k
    have f4 := hsame k
    generalize hL : lineK w m R.length 0 (R.take k) = L at *
    generalize hc : R[k] = c at *
    have hd := ns_drop A (k := k) (by omega)
    rw [← f4] at hd
    generalize w.getD k 0 = b at *
    have hF := filled_spec c (b + m) (by omega) (by omega)
    have hnl : (dNs A).length = 200 := by simp [hwl]
    have hk2 : k < 200 := by omega
    generalize hCC : dNs A = C at *
    (refine awp_sr fun Y Yh => ?_; simp [go_sem, h16, hR, h20, hc]; ((repeat' (first|(refine ag_x ?_;simp [go_sem, h16, hR, h20, hc])|intro _|apply And.intro|(apply Yh;clear Yh Y)));all_goals first|apply Hold.mk|omega|with_reducible assumption|skip))
    refine awp_seq_k fun K22 hK22 => ?_
    (refine awp_sr fun Y Yh => ?_; simp [go_sem, h16, hR, h20, hc]; ((repeat' (first|(refine ag_x ?_;simp [go_sem, h16, hR, h20, hc])|intro _|apply And.intro|(apply Yh;clear Yh Y)));all_goals first|apply Hold.mk|omega|with_reducible assumption|skip))
    have tl : ∀ S' (t : Bs), t = c ++ (if k + 1 < R.length then List.replicate (b + m - c.length) 32 else []) → Cov S' ⟨[(0, dRs rows), (1, dI m), (4, .v (.slice none 0 0)), (6, .ptr 6 g 0), (9, .own 9 go), (10, dI i), (11, dS L), (12, dI k), (13, dS t)], [(6, (g, .box C)), (9, (go, .row 9 1 O))]⟩ → K22 S' := fun S' t ht hS => by
     refine hK22 _ ?_; clear hK22
     refine awp_cov hS ?_; clear hS
     have htl : t.length ≤ 500 := by
      rw [ht]
      rw [List.length_append]
      split
      ·rw [List.length_replicate]; omega
      ·simp; omega
     (refine awp_r fun Y Yh => ?_; simp [go_sem, ba_app]; ((repeat' (first|(refine ag_x ?_;simp [go_sem, ba_app])|intro _|apply And.intro|(apply Yh;clear Yh Y)));all_goals first|apply Hold.mk|omega|with_reducible assumption|skip))
     refine hK21 _ ?_; clear hK21
     (refine awp_r fun Y Yh => ?_; simp [go_sem]; ((repeat' (first|(refine ag_x ?_;simp [go_sem])|intro _|apply And.intro|(apply Yh;clear Yh Y)));all_goals first|apply Hold.mk|omega|with_reducible assumption|skip))
     refine ⟨k + 1, ?_, by omega, by omega⟩
     (refine cov_of ?_ ?_ <;> simp [go_sem])
     rw [hls, ht]
    clear hK22
    by_cases h23 : k + 1 < R.length
    ·have h23' : (k : Int) < (R.length : Int) - 1 := by omega
     (refine awp_if fun T F hT hF => ?_; simp [go_sem, h23']; refine hT ?_; clear hT hF T F)
     (refine awp_r fun Y Yh => ?_; simp [go_sem, hnl, hk2, hd]; ((repeat' (first|(refine ag_x ?_;simp [go_sem, hnl, hk2, hd])|intro _|apply And.intro|(apply Yh;clear Yh Y)));all_goals first|apply Hold.mk|omega|with_reducible assumption|skip))
     ((try refine CallT.toA ?_); refine callT_m (.inl ⟨rfl,rfl⟩) (by simp [go_sem]) ?_; intro args ha; simp [go_sem] at ha; subst ha; refine ⟨_, hF, ?_⟩; rintro _ rfl; simp [go_sem]; ((repeat' (first|(refine ag_x ?_;simp [go_sem])|intro _|apply And.intro|(apply Yh;clear Yh Y)));all_goals first|apply Hold.mk|omega|with_reducible assumption|skip))
     refine tl _ _ (by rw [if_pos h23]) ?_
     (refine cov_of ?_ ?_ <;> simp [go_sem])
    ·have h23' : ¬ (k : Int) < (R.length : Int) - 1 := by omega
     (refine awp_if fun T F hT hF => ?_; simp [go_sem, h23']; refine hF ?_; clear hT hF T F)
     refine awp_skip ?_
     refine tl _ c (by rw [if_neg h23]; simp) ?_
     (refine cov_of ?_ ?_ <;> simp [go_sem])
   ·(refine awp_if fun T F hT hF => ?_; simp [go_sem, h20]; refine hF ?_; clear hT hF T F)
    refine awp_exit ?_
    simp only [go_sem]
    refine hK18 _ ?_; clear hK18
    have hk2 : k = R.length := by omega
    subst hk2
    rw [List.take_length]
    generalize lineK w m R.length 0 R = L at *
    (refine awp_r fun Y Yh => ?_; simp [go_sem]; ((repeat' (first|(refine ag_x ?_;simp [go_sem])|intro _|apply And.intro|(apply Yh;clear Yh Y)));all_goals first|apply Hold.mk|omega|with_reducible assumption|skip))
    rename_i go2
    refine hK17 _ ?_; clear hK17
    (refine awp_r fun Y Yh => ?_; simp [go_sem]; ((repeat' (first|(refine ag_x ?_;simp [go_sem])|intro _|apply And.intro|(apply Yh;clear Yh Y)));all_goals first|apply Hold.mk|omega|with_reducible assumption|skip))
    refine ⟨(i + 1, go2), ?_, by simp only; omega, by simp only; omega⟩
    (refine cov_of ?_ ?_ <;> simp [go_sem])
    rw [htk]
  ·(refine awp_if fun T F hT hF => ?_; simp [go_sem, h16]; refine hF ?_; clear hT hF T F)
   refine awp_exit ?_
   simp only [go_sem]
   refine hK14 _ ?_; clear hK14
   have hi2 : i = rows.length := by omega
   subst hi2
   rw [hcol, ← linesD_all]
   generalize linesD w m rows rows.length = O at *
   (refine awp_sr fun Y Yh => ?_; simp [go_sem]; ((repeat' (first|(refine ag_x ?_;simp [go_sem])|intro _|apply And.intro|(apply Yh;clear Yh Y)));all_goals first|apply Hold.mk|omega|with_reducible assumption|skip))
   (refine awp_ret ?_; simp [go_sem])
end Go.Proofs.YtelhdhofnohkcaaGreatDoor
