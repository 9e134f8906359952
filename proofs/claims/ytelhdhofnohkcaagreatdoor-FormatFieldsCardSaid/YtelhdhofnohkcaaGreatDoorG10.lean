/- Part of a proof: see the last text. -/
import Derived.Test.YtelhdhofnohkcaaGreatDoorG09
import Derived.Test.YtelhdhofnohkcaaGreatDoorG08
import Derived.Test.YtelhdhofnohkcaaGreatDoorG05
import Derived.Lib.OwnBridge
import Derived.Sort.OwnSorted
import Derived.Sort.Grow
import Derived.Test.YtelhdhofnohkcaaGreatDoorG04
import Derived.Test.YtelhdhofnohkcaaGreatDoorG02
import Derived.Lib.SlicesCompact
import Derived.Lib.AppendStr
set_option linter.unusedVariables false
set_option linter.unusedSimpArgs false
namespace Go.Proofs.YtelhdhofnohkcaaGreatDoor
open Go.Eng Go.Fm
set_option maxRecDepth 20000
attribute [local irreducible] AG CallA CallT AWp PCall ACall AgC
def writV (f : Fld) (a : Ag) : Bs × Nat := match putV f a with
 | none => ([], 1)
 | some t => (t, 0)
set_option maxHeartbeats 32000000 in
theorem xy (f : Rf) (a : Ag) (width prec : Int) (left : Bool) (ha : AgOk a) (hl : f.lt ∈ lets) (hw : -1 ≤ width ∧ width ≤ 1000) (hp : -1 ≤ prec ∧ prec ≤ 1000) :
  PCall Tryz.prog 104 [dRf f, dA a, dI width, dI prec, dB left] fun r => r = .tup [dS (writV { toFd f with wd := width, pr := prec, lf := left } a).1, dI (writV { toFd f with wd := width, pr := prec, lf := left } a).2] := by 
 refine qB Tryz.func104 rfl rfl Tryz.ntmps104 (rs := [.tmp 10, .tmp 11]) (tys := [9, 34]) rfl rfl (by simp) ?_
 have hT := kY a ha.1
 have htl := text_len ha
 have hQ := xB (textV a) htl
 have hql : (quoV (textV a)).length ≤ 3000000 := by
  rw [xK]
  have h1 := qF_len (textV a)
  have h2 := cntS_le (textV a)
  simp only [List.length_append, List.length_cons, List.length_nil]
  omega
 have hNq := xE a ha.1 ha.2
 have b115 : decide ((f.lt.toNat : Int) = 115) = decide (f.lt = 115) := u8_eqb _ 115 (by decide)
 have b112 : decide ((f.lt.toNat : Int) = 112) = decide (f.lt = 112) := u8_eqb _ 112 (by decide)
 have b99 : decide ((f.lt.toNat : Int) = 99) = decide (f.lt = 99) := u8_eqb _ 99 (by decide)
 have hFil := fun (s : Bs) (h : s.length ≤ 1000000000) => je s width left h (by omega) (by omega)
 have eW : writV { toFd f with wd := width, pr := prec, lf := left } a = match putV { toFd f with wd := width, pr := prec, lf := left } a with
  | none => ([], 1)
  | some t => (t, 0) := rfl
 have eP : putV { toFd f with wd := width, pr := prec, lf := left } a = if f.lt = 115 then some (filV (shortV { toFd f with wd := width, pr := prec, lf := left } (textV a)) width left)
  else if f.lt = 112 then some (filV (shortV { toFd f with wd := width, pr := prec, lf := left } (quoV (textV a))) width left)
  else if f.lt = 99 then (if a.is then (if a.tx = [] then none else some (filV (a.tx.take 1) width left)) else if a.int < 0 ∨ 255 < a.int then none else some (filV [UInt8.ofNat a.int.toNat] width left))
  else (numA a).map (numV { toFd f with wd := width, pr := prec, lf := left }) := rfl
 have hSh : ∀ s, shortV { toFd f with wd := width, pr := prec, lf := left } s = if 0 ≤ prec ∧ prec < s.length then s.take prec.toNat else s := fun _ => rfl
 rw [hSh, hSh] at eP
 clear hSh
 generalize writV { toFd f with wd := width, pr := prec, lf := left } a = W at *
 generalize putV { toFd f with wd := width, pr := prec, lf := left } a = P at *
 (refine qc fun Y Yh => ?_; simp [go_sem]; ((repeat' (first|(refine qf ?_;simp [go_sem])|intro _|apply And.intro|(apply Yh;clear Yh Y)));all_goals first|apply QS|omega|with_reducible assumption|skip))
 rename_i g5 g6
 (refine qc fun Y Yh => ?_; simp [go_sem]; ((repeat' (first|(refine qf ?_;simp [go_sem])|intro _|apply And.intro|(apply Yh;clear Yh Y)));all_goals first|apply QS|omega|with_reducible assumption|skip))
 ((try refine QT ?_); refine qm (.inl ⟨rfl,rfl⟩) (by simp [go_sem]) ?_; intro args ha; simp [go_sem] at ha; subst ha; refine ⟨_, hT, ?_⟩; rintro _ rfl; simp [go_sem]; ((repeat' (first|(refine qf ?_;simp [go_sem])|intro _|apply And.intro|(apply Yh;clear Yh Y)));all_goals first|apply QS|omega|with_reducible assumption|skip))
 refine qh fun K1 hK1 => ?_
 have tl1 : ∀ s S', s.length ≤ 3000000 → P = some (filV (if 0 ≤ prec ∧ prec < s.length then s.take prec.toNat else s) width left) → Cov S' ⟨[(2, dI width), (3, dI prec), (4, dB left), (12, dS s)], []⟩ → K1 S' := fun s S' hsl eP hS => by
  refine hK1 _ ?_; clear hK1
  refine qG hS ?_; clear hS
  rw [eP] at eW
  simp only at eW
  clear eP
  refine qh fun K2 hK2 => ?_
  have hZl : (if 0 ≤ prec ∧ prec < s.length then s.take prec.toNat else s).length ≤ 3000000 := by
   split
   ·rw [List.length_take]; omega
   ·exact hsl
  have hF := hFil (if 0 ≤ prec ∧ prec < s.length then s.take prec.toNat else s) (by omega)
  generalize hZ : (if 0 ≤ prec ∧ prec < s.length then s.take prec.toNat else s) = Z at *
  have tl2 : ∀ S', Cov S' ⟨[(2, dI width), (4, dB left), (12, dS Z)], []⟩ → K2 S' := fun S' hS => by
   refine hK2 _ ?_; clear hK2
   refine qG hS ?_; clear hS
   (refine qc fun Y Yh => ?_; simp [go_sem]; ((repeat' (first|(refine qf ?_;simp [go_sem])|intro _|apply And.intro|(apply Yh;clear Yh Y)));all_goals first|apply QS|omega|with_reducible assumption|skip))
   ((try refine QT ?_); refine qm (.inl ⟨rfl,rfl⟩) (by simp [go_sem]) ?_; intro args ha; simp [go_sem] at ha; subst ha; refine ⟨_, hF, ?_⟩; rintro _ rfl; simp [go_sem]; ((repeat' (first|(refine qf ?_;simp [go_sem])|intro _|apply And.intro|(apply Yh;clear Yh Y)));all_goals first|apply QS|omega|with_reducible assumption|skip))
   (refine qj ?_; simp [go_sem, eW])
  clear hK2
  by_cases h : 0 ≤ prec ∧ prec < s.length
  ·rw [if_pos h] at hZ
   have hcut : ({ data := s.toArray } : ByteArray).extract 0 prec.toNat = { data := Z.toArray } := by rw [ba_cut, List.drop_zero, hZ]
   have h1 := h.1
   have h2 := h.2
   (refine qc fun Y Yh => ?_; simp [go_sem, ba_size, h1, h2]; ((repeat' (first|(refine qw ?_ ?_ ?_;(focus (simp [go_sem, undef, ba_size, h1, h2];done));(focus (simp [go_sem];done));simp [go_sem, ba_size, h1, h2])|(refine qp ?_ ?_;(focus (simp [go_sem, undef, ba_size, h1, h2];done));simp [go_sem, ba_size, h1, h2])|(refine qf ?_;simp [go_sem, undef, ba_size, h1, h2])|intro _|apply And.intro|(apply Yh;clear Yh Y)));all_goals first|apply QS|omega|with_reducible assumption|skip))
   (refine qg fun T F hT hF => ?_; simp [go_sem, h1, h2]; refine hT ?_; clear hT hF T F)
   (refine qx fun Y Yh => ?_; simp [go_sem, ba_size, hcut]; ((repeat' (first|(refine qf ?_;simp [go_sem, ba_size, hcut])|intro _|apply And.intro|(apply Yh;clear Yh Y)));all_goals first|apply QS|omega|with_reducible assumption|skip))
   refine tl2 _ ?_
   (refine ql ?_ ?_ <;> simp [go_sem])
  ·rw [if_neg h] at hZ
   subst hZ
   by_cases h1 : 0 ≤ prec
   ·have h2 : ¬ prec < s.length := fun q => h ⟨h1, q⟩
    (refine qc fun Y Yh => ?_; simp [go_sem, ba_size, h1, h2]; ((repeat' (first|(refine qw ?_ ?_ ?_;(focus (simp [go_sem, undef, ba_size, h1, h2];done));(focus (simp [go_sem];done));simp [go_sem, ba_size, h1, h2])|(refine qp ?_ ?_;(focus (simp [go_sem, undef, ba_size, h1, h2];done));simp [go_sem, ba_size, h1, h2])|(refine qf ?_;simp [go_sem, undef, ba_size, h1, h2])|intro _|apply And.intro|(apply Yh;clear Yh Y)));all_goals first|apply QS|omega|with_reducible assumption|skip))
    (refine qg fun T F hT hF => ?_; simp [go_sem, h1, h2]; refine hF ?_; clear hT hF T F)
    refine qi ?_
    refine tl2 _ ?_
    (refine ql ?_ ?_ <;> simp [go_sem])
   ·(refine qc fun Y Yh => ?_; simp [go_sem, ba_size, h1]; ((repeat' (first|(refine qw ?_ ?_ ?_;(focus (simp [go_sem, undef, ba_size, h1];done));(focus (simp [go_sem];done));simp [go_sem, ba_size, h1])|(refine qp ?_ ?_;(focus (simp [go_sem, undef, ba_size, h1];done));simp [go_sem, ba_size, h1])|(refine qf ?_;simp [go_sem, undef, ba_size, h1])|intro _|apply And.intro|(apply Yh;clear Yh Y)));all_goals first|apply QS|omega|with_reducible assumption|skip))
    (refine qg fun T F hT hF => ?_; simp [go_sem, h1]; refine hF ?_; clear hT hF T F)
    refine qi ?_
    refine tl2 _ ?_
    (refine ql ?_ ?_ <;> simp [go_sem])
 clear hK1
 (refine qc fun Y Yh => ?_; simp [go_sem]; ((repeat' (first|(refine qf ?_;simp [go_sem])|intro _|apply And.intro|(apply Yh;clear Yh Y)));all_goals first|apply QS|omega|with_reducible assumption|skip))
 refine qo ?_
 (refine qc fun Y Yh => ?_; simp [go_sem, b115]; ((repeat' (first|(refine qf ?_;simp [go_sem, b115])|intro _|apply And.intro|(apply Yh;clear Yh Y)));all_goals first|apply QS|omega|with_reducible assumption|skip))
 by_cases h115 : f.lt = 115
 ·rw [if_pos h115] at eP
  (refine qg fun T F hT hF => ?_; simp [go_sem, h115]; refine hT ?_; clear hT hF T F)
  refine qi ?_
  refine tl1 _ _ (by omega) eP ?_
  (refine ql ?_ ?_ <;> simp [go_sem])
 ·rw [if_neg h115] at eP
  (refine qg fun T F hT hF => ?_; simp [go_sem, h115]; refine hF ?_; clear hT hF T F)
  (refine qc fun Y Yh => ?_; simp [go_sem, b112]; ((repeat' (first|(refine qf ?_;simp [go_sem, b112])|intro _|apply And.intro|(apply Yh;clear Yh Y)));all_goals first|apply QS|omega|with_reducible assumption|skip))
  by_cases h112 : f.lt = 112
  ·rw [if_pos h112] at eP
   (refine qg fun T F hT hF => ?_; simp [go_sem, h112]; refine hT ?_; clear hT hF T F)
   (refine qx fun Y Yh => ?_; simp [go_sem]; ((repeat' (first|(refine qf ?_;simp [go_sem])|intro _|apply And.intro|(apply Yh;clear Yh Y)));all_goals first|apply QS|omega|with_reducible assumption|skip))
   ((try refine QT ?_); refine qm (.inl ⟨rfl,rfl⟩) (by simp [go_sem]) ?_; intro args ha; simp [go_sem] at ha; subst ha; refine ⟨_, hQ, ?_⟩; rintro _ rfl; simp [go_sem]; ((repeat' (first|(refine qf ?_;simp [go_sem])|intro _|apply And.intro|(apply Yh;clear Yh Y)));all_goals first|apply QS|omega|with_reducible assumption|skip))
   refine tl1 _ _ hql eP ?_
   (refine ql ?_ ?_ <;> simp [go_sem])
  ·rw [if_neg h112] at eP
   (refine qg fun T F hT hF => ?_; simp [go_sem, h112]; refine hF ?_; clear hT hF T F)
   (refine qc fun Y Yh => ?_; simp [go_sem, b99]; ((repeat' (first|(refine qf ?_;simp [go_sem, b99])|intro _|apply And.intro|(apply Yh;clear Yh Y)));all_goals first|apply QS|omega|with_reducible assumption|skip))
   by_cases h99 : f.lt = 99
   ·rw [if_pos h99] at eP
    (refine qg fun T F hT hF => ?_; simp [go_sem, h99]; refine hT ?_; clear hT hF T F)
    refine qh fun K7 hK7 => ?_
    cases his : a.is with
    | true =>
     have etx : textV a = a.tx := by unfold textV; rw [if_pos his]
     rw [if_pos his] at eP
     rw [etx] at *
     cases htx : a.tx with
     | nil =>
      rw [if_pos htx] at eP
      rw [eP] at eW
      simp only at eW
      (refine qc fun Y Yh => ?_; simp [go_sem, his]; ((repeat' (first|(refine qw ?_ ?_ ?_;(focus (simp [go_sem, undef, his];done));(focus (simp [go_sem];done));simp [go_sem, his])|(refine qp ?_ ?_;(focus (simp [go_sem, undef, his];done));simp [go_sem, his])|(refine qf ?_;simp [go_sem, undef, his])|intro _|apply And.intro|(apply Yh;clear Yh Y)));all_goals first|apply QS|omega|with_reducible assumption|skip))
      (refine qg fun T F hT hF => ?_; simp [go_sem]; refine hT ?_; clear hT hF T F)
      (refine qc fun Y Yh => ?_; simp [go_sem]; ((repeat' (first|(refine qf ?_;simp [go_sem])|intro _|apply And.intro|(apply Yh;clear Yh Y)));all_goals first|apply QS|omega|with_reducible assumption|skip))
      (refine qj ?_; simp [go_sem, eW])
     | cons c r =>
      rw [if_neg (by rw [htx]; simp), htx, List.take_succ_cons, List.take_zero] at eP
      rw [eP] at eW
      simp only at eW
      have hF := hFil [c] (by simp)
      generalize filV [c] width left = Z at *
      have hcut : ({ data := (c :: r).toArray } : ByteArray).extract 0 1 = { data := [c].toArray } := by rw [ba_cut]; rfl
      (refine qc fun Y Yh => ?_; simp [go_sem, his]; ((repeat' (first|(refine qw ?_ ?_ ?_;(focus (simp [go_sem, undef, his];done));(focus (simp [go_sem];done));simp [go_sem, his])|(refine qp ?_ ?_;(focus (simp [go_sem, undef, his];done));simp [go_sem, his])|(refine qf ?_;simp [go_sem, undef, his])|intro _|apply And.intro|(apply Yh;clear Yh Y)));all_goals first|apply QS|omega|with_reducible assumption|skip))
      (refine qg fun T F hT hF => ?_; simp [go_sem]; refine hF ?_; clear hT hF T F)
      refine qi ?_
      refine hK7 _ ?_; clear hK7
      refine qh fun K9 hK9 => ?_
      (refine qc fun Y Yh => ?_; simp [go_sem, his]; ((repeat' (first|(refine qf ?_;simp [go_sem, his])|intro _|apply And.intro|(apply Yh;clear Yh Y)));all_goals first|apply QS|omega|with_reducible assumption|skip))
      (refine qg fun T F hT hF => ?_; simp [go_sem]; refine hT ?_; clear hT hF T F)
      (refine qx fun Y Yh => ?_; simp [go_sem, ba_size, hcut]; ((repeat' (first|(refine qf ?_;simp [go_sem, ba_size, hcut])|intro _|apply And.intro|(apply Yh;clear Yh Y)));all_goals first|apply QS|omega|with_reducible assumption|skip))
      refine hK9 _ ?_; clear hK9
      (refine qc fun Y Yh => ?_; simp [go_sem]; ((repeat' (first|(refine qf ?_;simp [go_sem])|intro _|apply And.intro|(apply Yh;clear Yh Y)));all_goals first|apply QS|omega|with_reducible assumption|skip))
      ((try refine QT ?_); refine qm (.inl ⟨rfl,rfl⟩) (by simp [go_sem]) ?_; intro args ha; simp [go_sem] at ha; subst ha; refine ⟨_, hF, ?_⟩; rintro _ rfl; simp [go_sem]; ((repeat' (first|(refine qf ?_;simp [go_sem])|intro _|apply And.intro|(apply Yh;clear Yh Y)));all_goals first|apply QS|omega|with_reducible assumption|skip))
      (refine qj ?_; simp [go_sem, eW])
    | false =>
     rw [if_neg (by simp [his])] at eP
     by_cases hr : a.int < 0 ∨ 255 < a.int
     ·rw [if_pos hr] at eP
      rw [eP] at eW
      simp only at eW
      by_cases hr1 : a.int < 0
      ·(refine qc fun Y Yh => ?_; simp [go_sem, his, hr1]; ((repeat' (first|(refine qw ?_ ?_ ?_;(focus (simp [go_sem, undef, his, hr1];done));(focus (simp [go_sem];done));simp [go_sem, his, hr1])|(refine qp ?_ ?_;(focus (simp [go_sem, undef, his, hr1];done));simp [go_sem, his, hr1])|(refine qf ?_;simp [go_sem, undef, his, hr1])|intro _|apply And.intro|(apply Yh;clear Yh Y)));all_goals first|apply QS|omega|with_reducible assumption|skip))
       (refine qg fun T F hT hF => ?_; simp [go_sem]; refine hT ?_; clear hT hF T F)
       (refine qc fun Y Yh => ?_; simp [go_sem]; ((repeat' (first|(refine qf ?_;simp [go_sem])|intro _|apply And.intro|(apply Yh;clear Yh Y)));all_goals first|apply QS|omega|with_reducible assumption|skip))
       (refine qj ?_; simp [go_sem, eW])
      ·have hr2 : 255 < a.int := hr.resolve_left hr1
       (refine qc fun Y Yh => ?_; simp [go_sem, his, hr1, hr2]; ((repeat' (first|(refine qw ?_ ?_ ?_;(focus (simp [go_sem, undef, his, hr1, hr2];done));(focus (simp [go_sem];done));simp [go_sem, his, hr1, hr2])|(refine qp ?_ ?_;(focus (simp [go_sem, undef, his, hr1, hr2];done));simp [go_sem, his, hr1, hr2])|(refine qf ?_;simp [go_sem, undef, his, hr1, hr2])|intro _|apply And.intro|(apply Yh;clear Yh Y)));all_goals first|apply QS|omega|with_reducible assumption|skip))
       (refine qg fun T F hT hF => ?_; simp [go_sem]; refine hT ?_; clear hT hF T F)
       (refine qc fun Y Yh => ?_; simp [go_sem]; ((repeat' (first|(refine qf ?_;simp [go_sem])|intro _|apply And.intro|(apply Yh;clear Yh Y)));all_goals first|apply QS|omega|with_reducible assumption|skip))
       (refine qj ?_; simp [go_sem, eW])
     ·rw [if_neg hr] at eP
      rw [eP] at eW
      simp only at eW
      rw [not_or] at hr
      obtain ⟨hr1, hr2⟩ := hr
      have hF := hFil [UInt8.ofNat a.int.toNat] (by simp)
      generalize filV [UInt8.ofNat a.int.toNat] width left = Z at *
      have hwr : IntKind.u8.wrap a.int = a.int := by rw [IntKind.wrap_u8]; omega
      have hbd : bytesD [[D.v (.int .u8 a.int)]] = some [UInt8.ofNat a.int.toNat] := by
       have e : ((UInt8.ofNat a.int.toNat).toNat : Int) = a.int := by simp; omega
       have := bytesD_map [UInt8.ofNat a.int.toNat]
       simp only [List.map_cons, List.map_nil, e] at this
       exact this
      (refine qc fun Y Yh => ?_; simp [go_sem, his, hr1, hr2]; ((repeat' (first|(refine qw ?_ ?_ ?_;(focus (simp [go_sem, undef, his, hr1, hr2];done));(focus (simp [go_sem];done));simp [go_sem, his, hr1, hr2])|(refine qp ?_ ?_;(focus (simp [go_sem, undef, his, hr1, hr2];done));simp [go_sem, his, hr1, hr2])|(refine qf ?_;simp [go_sem, undef, his, hr1, hr2])|intro _|apply And.intro|(apply Yh;clear Yh Y)));all_goals first|apply QS|omega|with_reducible assumption|skip))
      (refine qg fun T F hT hF => ?_; simp [go_sem]; refine hF ?_; clear hT hF T F)
      refine qi ?_
      refine hK7 _ ?_; clear hK7
      refine qh fun K9 hK9 => ?_
      (refine qc fun Y Yh => ?_; simp [go_sem, his]; ((repeat' (first|(refine qf ?_;simp [go_sem, his])|intro _|apply And.intro|(apply Yh;clear Yh Y)));all_goals first|apply QS|omega|with_reducible assumption|skip))
      (refine qg fun T F hT hF => ?_; simp [go_sem]; refine hF ?_; clear hT hF T F)
      (refine qx fun Y Yh => ?_; simp [go_sem, hwr, hbd]; ((repeat' (first|(refine qf ?_;simp [go_sem, hwr, hbd])|intro _|apply And.intro|(apply Yh;clear Yh Y)));all_goals first|apply QS|omega|with_reducible assumption|skip))
      refine hK9 _ ?_; clear hK9
      (refine qc fun Y Yh => ?_; simp [go_sem]; ((repeat' (first|(refine qf ?_;simp [go_sem])|intro _|apply And.intro|(apply Yh;clear Yh Y)));all_goals first|apply QS|omega|with_reducible assumption|skip))
      ((try refine QT ?_); refine qm (.inl ⟨rfl,rfl⟩) (by simp [go_sem]) ?_; intro args ha; simp [go_sem] at ha; subst ha; refine ⟨_, hF, ?_⟩; rintro _ rfl; simp [go_sem]; ((repeat' (first|(refine qf ?_;simp [go_sem])|intro _|apply And.intro|(apply Yh;clear Yh Y)));all_goals first|apply QS|omega|with_reducible assumption|skip))
      (refine qj ?_; simp [go_sem, eW])
   ·rw [if_neg h99] at eP
    have hNL : NL f.lt := by
     have h := hl
     simp only [lets, List.mem_cons, List.not_mem_nil, or_false] at h
     unfold NL
     rcases h with h | h | h | h | h | h | h | h
     ·exact .inl h
     ·exact .inr (.inl h)
     ·exact .inr (.inr (.inl h))
     ·exact .inr (.inr (.inr (.inl h)))
     ·exact .inr (.inr (.inr (.inr h)))
     ·exact absurd h h115
     ·exact absurd h h99
     ·exact absurd h h112
    (refine qg fun T F hT hF => ?_; simp [go_sem, h99]; refine hF ?_; clear hT hF T F)
    unfold numQ at hNq
    (refine qc fun Y Yh => ?_; simp [go_sem]; ((repeat' (first|(refine qf ?_;simp [go_sem])|intro _|apply And.intro|(apply Yh;clear Yh Y)));all_goals first|apply QS|omega|with_reducible assumption|skip))
    cases hna : numA a with
    | none =>
     rw [hna] at eP hNq
     simp only [Option.map_none] at eP
     rw [eP] at eW
     simp only at eW hNq
     ((try refine QT ?_); refine qm (.inl ⟨rfl,rfl⟩) (by simp [go_sem]) ?_; intro args ha; simp [go_sem] at ha; subst ha; refine ⟨_, hNq, ?_⟩; rintro _ rfl; simp [go_sem]; ((repeat' (first|(refine qf ?_;simp [go_sem])|intro _|apply And.intro|(apply Yh;clear Yh Y)));all_goals first|apply QS|omega|with_reducible assumption|skip))
     refine qh fun K11 hK11 => ?_
     (refine qc fun Y Yh => ?_; simp [go_sem]; ((repeat' (first|(refine qf ?_;simp [go_sem])|intro _|apply And.intro|(apply Yh;clear Yh Y)));all_goals first|apply QS|omega|with_reducible assumption|skip))
     (refine qg fun T F hT hF => ?_; simp [go_sem]; refine hT ?_; clear hT hF T F)
     (refine qc fun Y Yh => ?_; simp [go_sem]; ((repeat' (first|(refine qf ?_;simp [go_sem])|intro _|apply And.intro|(apply Yh;clear Yh Y)));all_goals first|apply QS|omega|with_reducible assumption|skip))
     (refine qj ?_; simp [go_sem, eW])
    | some n =>
     rw [hna] at eP hNq
     simp only [Option.map_some] at eP
     rw [eP] at eW
     simp only at eW hNq
     have hWh := kT f n width prec left (numA_in ha hna) hNL hw hp
     rw [whole_num f n width prec left hp.1] at hWh
     generalize numV { toFd f with wd := width, pr := prec, lf := left } n = Z at *
     ((try refine QT ?_); refine qm (.inl ⟨rfl,rfl⟩) (by simp [go_sem]) ?_; intro args ha; simp [go_sem] at ha; subst ha; refine ⟨_, hNq, ?_⟩; rintro _ rfl; simp [go_sem]; ((repeat' (first|(refine qf ?_;simp [go_sem])|intro _|apply And.intro|(apply Yh;clear Yh Y)));all_goals first|apply QS|omega|with_reducible assumption|skip))
     refine qh fun K11 hK11 => ?_
     (refine qc fun Y Yh => ?_; simp [go_sem]; ((repeat' (first|(refine qf ?_;simp [go_sem])|intro _|apply And.intro|(apply Yh;clear Yh Y)));all_goals first|apply QS|omega|with_reducible assumption|skip))
     (refine qg fun T F hT hF => ?_; simp [go_sem]; refine hF ?_; clear hT hF T F)
     refine qi ?_
     refine hK11 _ ?_; clear hK11
     (refine qc fun Y Yh => ?_; simp [go_sem]; ((repeat' (first|(refine qf ?_;simp [go_sem])|intro _|apply And.intro|(apply Yh;clear Yh Y)));all_goals first|apply QS|omega|with_reducible assumption|skip))
     ((try refine QT ?_); refine qm (.inl ⟨rfl,rfl⟩) (by simp [go_sem]) ?_; intro args ha; simp [go_sem] at ha; subst ha; refine ⟨_, hWh, ?_⟩; rintro _ rfl; simp [go_sem]; ((repeat' (first|(refine qf ?_;simp [go_sem])|intro _|apply And.intro|(apply Yh;clear Yh Y)));all_goals first|apply QS|omega|with_reducible assumption|skip))
     (refine qj ?_; simp [go_sem, eW])
@[go_sem] abbrev usB (g u : Nat) : Nat × (Nat × Blk) := (900006, (g, .box [dI u]))
def srV (args : List Ag) (u : Nat) (n : Int) : Int × Nat × Nat :=
 if n ≠ -2 then (n, 0, u) else
 match args[u]? with
 | none => (0, 14, u)
 | some a => if a.is = true ∨ 1000 < a.int then (0, 1, u + 1) else (a.int, 0, u + 1)
set_option maxHeartbeats 8000000 in
theorem jd (args : List Ag) (u g : Nat) (n : Int) (hu : u ≤ args.length) (hl : args.length ≤ 1000000) :
  ACall Tryz.prog 102 [dI n, dAs args, .ptr 900006 g 0] [usB g u] [900006] fun ps r => ps = [(g, .box [dI (srV args u n).2.2])] ∧ r = .tup [dI (srV args u n).1, dI (srV args u n).2.1] := by 
 refine qY Tryz.func102 rfl rfl Tryz.ntmps102 (rs := [.tmp 6, .tmp 7]) (tys := [3, 34]) rfl rfl (by simp) (by simp [qO]) ?_
 generalize hV : srV args u n = V
 unfold srV at hV
 (refine qc fun Y Yh => ?_; simp [go_sem]; ((repeat' (first|(refine qf ?_;simp [go_sem])|intro _|apply And.intro|(apply Yh;clear Yh Y)));all_goals first|apply QS|omega|with_reducible assumption|skip))
 refine qh fun K1 hK1 => ?_
 (refine qc fun Y Yh => ?_; simp [go_sem]; ((repeat' (first|(refine qf ?_;simp [go_sem])|intro _|apply And.intro|(apply Yh;clear Yh Y)));all_goals first|apply QS|omega|with_reducible assumption|skip))
 by_cases h2 : n = -2
 ·rw [if_neg (by simp [h2])] at hV
  (refine qg fun T F hT hF => ?_; simp [go_sem, h2]; refine hF ?_; clear hT hF T F)
  refine qi ?_
  refine hK1 _ ?_; clear hK1
  refine qh fun K3 hK3 => ?_
  (refine qc fun Y Yh => ?_; simp [go_sem]; ((repeat' (first|(refine qf ?_;simp [go_sem])|intro _|apply And.intro|(apply Yh;clear Yh Y)));all_goals first|apply QS|omega|with_reducible assumption|skip))
  by_cases h4 : u < args.length
  ·obtain ⟨a, ha⟩ : ∃ a, args[u]? = some a := ⟨_, List.getElem?_eq_getElem h4⟩
   rw [ha] at hV
   simp only at hV
   have h4q : ¬ args.length ≤ u := by omega
   (refine qg fun T F hT hF => ?_; simp [go_sem, h4q]; refine hF ?_; clear hT hF T F)
   refine qi ?_
   refine hK3 _ ?_; clear hK3
   (refine qc fun Y Yh => ?_; simp [go_sem, ha]; ((repeat' (first|(refine qf ?_;simp [go_sem, ha])|intro _|apply And.intro|(apply Yh;clear Yh Y)));all_goals first|apply QS|omega|with_reducible assumption|skip))
   (refine qc fun Y Yh => ?_; simp [go_sem]; ((repeat' (first|(refine qf ?_;simp [go_sem])|intro _|apply And.intro|(apply Yh;clear Yh Y)));all_goals first|apply QS|omega|with_reducible assumption|skip))
   refine qh fun K5 hK5 => ?_
   cases his : a.is with
   | true =>
    rw [if_pos (.inl his)] at hV
    subst hV
    (refine qc fun Y Yh => ?_; simp [go_sem, his]; ((repeat' (first|(refine qw ?_ ?_ ?_;(focus (simp [go_sem, undef, his];done));(focus (simp [go_sem];done));simp [go_sem, his])|(refine qp ?_ ?_;(focus (simp [go_sem, undef, his];done));simp [go_sem, his])|(refine qf ?_;simp [go_sem, undef, his])|intro _|apply And.intro|(apply Yh;clear Yh Y)));all_goals first|apply QS|omega|with_reducible assumption|skip))
    (refine qg fun T F hT hF => ?_; simp [go_sem]; refine hT ?_; clear hT hF T F)
    (refine qc fun Y Yh => ?_; simp [go_sem]; ((repeat' (first|(refine qf ?_;simp [go_sem])|intro _|apply And.intro|(apply Yh;clear Yh Y)));all_goals first|apply QS|omega|with_reducible assumption|skip))
    (refine qj ?_; simp [go_sem])
   | false =>
    by_cases hi : 1000 < a.int
    ·rw [if_pos (.inr hi)] at hV
     subst hV
     (refine qc fun Y Yh => ?_; simp [go_sem, his, hi]; ((repeat' (first|(refine qw ?_ ?_ ?_;(focus (simp [go_sem, undef, his, hi];done));(focus (simp [go_sem];done));simp [go_sem, his, hi])|(refine qp ?_ ?_;(focus (simp [go_sem, undef, his, hi];done));simp [go_sem, his, hi])|(refine qf ?_;simp [go_sem, undef, his, hi])|intro _|apply And.intro|(apply Yh;clear Yh Y)));all_goals first|apply QS|omega|with_reducible assumption|skip))
     (refine qg fun T F hT hF => ?_; simp [go_sem, hi]; refine hT ?_; clear hT hF T F)
     (refine qc fun Y Yh => ?_; simp [go_sem]; ((repeat' (first|(refine qf ?_;simp [go_sem])|intro _|apply And.intro|(apply Yh;clear Yh Y)));all_goals first|apply QS|omega|with_reducible assumption|skip))
     (refine qj ?_; simp [go_sem])
    ·rw [if_neg (by rintro (q | q); (rw [his] at q; cases q); exact hi q)] at hV
     subst hV
     (refine qc fun Y Yh => ?_; simp [go_sem, his, hi]; ((repeat' (first|(refine qw ?_ ?_ ?_;(focus (simp [go_sem, undef, his, hi];done));(focus (simp [go_sem];done));simp [go_sem, his, hi])|(refine qp ?_ ?_;(focus (simp [go_sem, undef, his, hi];done));simp [go_sem, his, hi])|(refine qf ?_;simp [go_sem, undef, his, hi])|intro _|apply And.intro|(apply Yh;clear Yh Y)));all_goals first|apply QS|omega|with_reducible assumption|skip))
     (refine qg fun T F hT hF => ?_; simp [go_sem, hi]; refine hF ?_; clear hT hF T F)
     refine qi ?_
     refine hK5 _ ?_; clear hK5
     (refine qc fun Y Yh => ?_; simp [go_sem]; ((repeat' (first|(refine qf ?_;simp [go_sem])|intro _|apply And.intro|(apply Yh;clear Yh Y)));all_goals first|apply QS|omega|with_reducible assumption|skip))
     (refine qj ?_; simp [go_sem])
  ·have h4q : args.length ≤ u := by omega
   rw [List.getElem?_eq_none (by omega)] at hV
   simp only at hV
   subst hV
   (refine qg fun T F hT hF => ?_; simp [go_sem, h4q]; refine hT ?_; clear hT hF T F)
   (refine qc fun Y Yh => ?_; simp [go_sem]; ((repeat' (first|(refine qf ?_;simp [go_sem])|intro _|apply And.intro|(apply Yh;clear Yh Y)));all_goals first|apply QS|omega|with_reducible assumption|skip))
   (refine qj ?_; simp [go_sem])
 ·rw [if_pos h2] at hV
  subst hV
  (refine qg fun T F hT hF => ?_; simp [go_sem, h2]; refine hT ?_; clear hT hF T F)
  (refine qc fun Y Yh => ?_; simp [go_sem]; ((repeat' (first|(refine qf ?_;simp [go_sem])|intro _|apply And.intro|(apply Yh;clear Yh Y)));all_goals first|apply QS|omega|with_reducible assumption|skip))
  (refine qj ?_; simp [go_sem])
set_option maxHeartbeats 8000000 in
theorem vH (f : Rf) (args : List Ag) (u g : Nat) (hu : u ≤ args.length) (hl : args.length ≤ 1000000) :
  ACall Tryz.prog 103 [dRf f, dAs args, .ptr 900006 g 0] [usB g u] [900006] fun ps r => ps = [(g, .box [dI (ofA args u f.nm).2.2])] ∧ r = .tup [dA (ofA args u f.nm).1, dI (ofA args u f.nm).2.1] := by 
 refine qY Tryz.func103 rfl rfl Tryz.ntmps103 (rs := [.cell 6 83, .tmp 7]) (tys := [83, 34]) rfl rfl (by simp) (by simp [qO]) ?_
 generalize hV : ofA args u f.nm = V
 unfold ofA at hV
 (refine qc fun Y Yh => ?_; simp [go_sem]; ((repeat' (first|(refine qf ?_;simp [go_sem])|intro _|apply And.intro|(apply Yh;clear Yh Y)));all_goals first|apply QS|omega|with_reducible assumption|skip))
 rename_i g3 g6
 refine qh fun K1 hK1 => ?_
 (refine qc fun Y Yh => ?_; simp [go_sem]; ((repeat' (first|(refine qf ?_;simp [go_sem])|intro _|apply And.intro|(apply Yh;clear Yh Y)));all_goals first|apply QS|omega|with_reducible assumption|skip))
 by_cases hn : f.nm = []
 ·rw [if_pos hn] at hV
  have hb : f.nm.isEmpty = true := by rw [hn]; rfl
  (refine qg fun T F hT hF => ?_; simp [go_sem, hb]; refine hT ?_; clear hT hF T F)
  refine qh fun K3 hK3 => ?_
  (refine qc fun Y Yh => ?_; simp [go_sem]; ((repeat' (first|(refine qf ?_;simp [go_sem])|intro _|apply And.intro|(apply Yh;clear Yh Y)));all_goals first|apply QS|omega|with_reducible assumption|skip))
  by_cases h4 : u < args.length
  ·obtain ⟨a, ha⟩ : ∃ a, args[u]? = some a := ⟨_, List.getElem?_eq_getElem h4⟩
   rw [ha] at hV
   simp only at hV
   subst hV
   have h4q : ¬ args.length ≤ u := by omega
   (refine qg fun T F hT hF => ?_; simp [go_sem, h4q]; refine hF ?_; clear hT hF T F)
   refine qi ?_
   refine hK3 _ ?_; clear hK3
   (refine qc fun Y Yh => ?_; simp [go_sem]; ((repeat' (first|(refine qf ?_;simp [go_sem])|intro _|apply And.intro|(apply Yh;clear Yh Y)));all_goals first|apply QS|omega|with_reducible assumption|skip))
   (refine qc fun Y Yh => ?_; simp [go_sem, ha]; ((repeat' (first|(refine qf ?_;simp [go_sem, ha])|intro _|apply And.intro|(apply Yh;clear Yh Y)));all_goals first|apply QS|omega|with_reducible assumption|skip))
   (refine qj ?_; simp [go_sem])
  ·have h4q : args.length ≤ u := by omega
   rw [List.getElem?_eq_none (by omega)] at hV
   simp only at hV
   subst hV
   (refine qg fun T F hT hF => ?_; simp [go_sem, h4q]; refine hT ?_; clear hT hF T F)
   (refine qc fun Y Yh => ?_; simp [go_sem]; ((repeat' (first|(refine qf ?_;simp [go_sem])|intro _|apply And.intro|(apply Yh;clear Yh Y)));all_goals first|apply QS|omega|with_reducible assumption|skip))
   (refine qj ?_; simp [go_sem, ag0])
 ·rw [if_neg hn] at hV
  have hb : f.nm.isEmpty = false := by cases h : f.nm with | nil => exact absurd h hn | cons _ _ => rfl
  (refine qg fun T F hT hF => ?_; simp [go_sem, hb]; refine hF ?_; clear hT hF T F)
  refine qi ?_
  refine hK1 _ ?_; clear hK1
  refine qh fun K5 hK5 => ?_
  (refine qc fun Y Yh => ?_; simp [go_sem]; ((repeat' (first|(refine qf ?_;simp [go_sem])|intro _|apply And.intro|(apply Yh;clear Yh Y)));all_goals first|apply QS|omega|with_reducible assumption|skip))
  refine qo ?_
  refine qM (σ := Nat) (fun i => ⟨[(1, dAs args), (3, .ptr 3 g3 0), (6, .ptr 6 g6 0), (8, dI i)], [(6, (g6, .box [dS [], dB false, dI 0, dS []])), (3, (g3, .box (cRf f))), usB g u]⟩) (fun i => i ≤ args.length ∧ (args.take i).find? (fun a => a.nm == f.nm) = none) (fun i => args.length - i) 0 ?_ ?_ ?_
  ·(refine ql ?_ ?_ <;> simp [go_sem])
  ·simp
  rintro i ⟨hi, hfd⟩
  refine qh fun K6 hK6 => ?_
  (refine qc fun Y Yh => ?_; simp [go_sem]; ((repeat' (first|(refine qf ?_;simp [go_sem])|intro _|apply And.intro|(apply Yh;clear Yh Y)));all_goals first|apply QS|omega|with_reducible assumption|skip))
  by_cases h7 : i < args.length
  ·obtain ⟨a, ha⟩ : ∃ a, args[i]? = some a := ⟨_, List.getElem?_eq_getElem h7⟩
   have hta : args.take (i + 1) = args.take i ++ [a] := by rw [List.take_add_one, ha]; rfl
   (refine qg fun T F hT hF => ?_; simp [go_sem, h7]; refine hT ?_; clear hT hF T F)
   refine qi ?_
   refine hK6 _ ?_; clear hK6
   refine qh fun K8 hK8 => ?_
   refine qo ?_
   ((refine qX (.qs [0, 1, 2, 3, 5, 4, 6, 7] (.nil)) (by kernel_rfl) ?_ ?_ ?_ ?_); (kernel_rfl); (exact (by decide +kernel)); (kernel_rfl); intro Y Yh; ((repeat' (first|(refine qf ?_;simp [go_sem, ha])|refine qC ?_|((first|refine qJ fun Y Yh=>?_|refine qR fun Y Yh=>?_);simp [go_sem, ha])|intro _|apply And.intro|(apply Yh;clear Yh Y)));all_goals first|apply QS|omega|with_reducible assumption|skip))
   by_cases h9 : a.nm = f.nm
   ·have hb : (a.nm == f.nm) = true := by rw [beq_iff_eq]; exact h9
    have hfa : args.find? (fun a => a.nm == f.nm) = some a := by
     have e : args = args.take i ++ (a :: args.drop (i + 1)) := by
      have hg : args[i] = a := by rw [List.getElem?_eq_getElem h7] at ha; exact Option.some.inj ha
      rw [← hg, ← List.drop_eq_getElem_cons h7, List.take_append_drop]
     rw [e, List.find?_append, hfd]
     simp [hb]
    rw [hfa] at hV
    simp only at hV
    subst hV
    (refine qg fun T F hT hF => ?_; simp [go_sem, hb]; refine hT ?_; clear hT hF T F)
    (refine qc fun Y Yh => ?_; simp [go_sem, ha]; ((repeat' (first|(refine qf ?_;simp [go_sem, ha])|intro _|apply And.intro|(apply Yh;clear Yh Y)));all_goals first|apply QS|omega|with_reducible assumption|skip))
    (refine qj ?_; simp [go_sem])
   ·have hb : (a.nm == f.nm) = false := by rw [beq_eq_false_iff_ne]; exact h9
    (refine qg fun T F hT hF => ?_; simp [go_sem, hb]; refine hF ?_; clear hT hF T F)
    refine qi ?_
    refine hK8 _ ?_; clear hK8
    (refine qx fun Y Yh => ?_; simp [go_sem]; ((repeat' (first|(refine qf ?_;simp [go_sem])|intro _|apply And.intro|(apply Yh;clear Yh Y)));all_goals first|apply QS|omega|with_reducible assumption|skip))
    refine ⟨i + 1, ?_, ⟨by omega, ?_⟩, by omega⟩
    ·(refine ql ?_ ?_ <;> simp [go_sem])
    ·rw [hta, List.find?_append, hfd]
     simp [hb]
  ·have : i = args.length := by omega
   subst this
   rw [List.take_length] at hfd
   rw [hfd] at hV
   simp only at hV
   subst hV
   (refine qg fun T F hT hF => ?_; simp [go_sem, h7]; refine hF ?_; clear hT hF T F)
   refine qH ?_
   simp only [go_sem]
   refine hK5 _ ?_; clear hK5
   (refine qc fun Y Yh => ?_; simp [go_sem]; ((repeat' (first|(refine qf ?_;simp [go_sem])|intro _|apply And.intro|(apply Yh;clear Yh Y)));all_goals first|apply QS|omega|with_reducible assumption|skip))
   (refine qj ?_; simp [go_sem, ag0])
def fill2 (args : List Ag) (u : Nat) (g : Fld) : Bs × Nat × Nat :=
 let s := starP args u g
 if s.1 ≠ 0 then ([], s.1, s.2.1) else
 let o := ofA args s.2.1 g.nm
 if o.2.1 ≠ 0 then ([], o.2.1, o.2.2) else
 match putV s.2.2 o.1 with
 | none => ([], 1, o.2.2)
 | some t => (t, 0, o.2.2)
theorem starW_nm (args : List Ag) (u : Nat) (f : Fld) : (starW args u f).2.2.nm = f.nm ∧ (starW args u f).2.2.pr = f.pr := by
 unfold starW
 (repeat' split) <;> simp
theorem fill_two {args : List Ag} {u : Nat} {f : Fld} (h0 : f.lt ≠ 0) : fillV args u f = if (starW args u f).1 ≠ 0 then ([], (starW args u f).1, (starW args u f).2.1) else fill2 args (starW args u f).2.1 (starW args u f).2.2 := by
 unfold fillV
 rw [if_neg h0]
 unfold starsV fill2
 have hnm := (starW_nm args u f).1
 dsimp only
 by_cases h : (starW args u f).1 ≠ 0
 ·simp only [if_pos h]
 ·simp only [if_neg h, hnm]
  rfl
def oneV (args : List Ag) (u : Nat) (f : Rf) : Bs × Nat × Nat := if f.lt = 0 then (f.by', 0, u) else fillV args u (toFd f)
def RfOk (f : Rf) : Prop := (f.wd = -2 ∨ (-1 ≤ f.wd ∧ f.wd ≤ 1000)) ∧ (f.pr = -2 ∨ (-1 ≤ f.pr ∧ f.pr ≤ 1000)) ∧ (f.lt = 0 ∨ f.lt ∈ lets)
theorem Q9 {args : List Ag} {u : Nat} {g : Fld} (hg : g.pr = -2 ∨ -1 ≤ g.pr) : starP args u g = ((srV args u g.pr).2.1, (srV args u g.pr).2.2, if (srV args u g.pr).2.1 = 0 then { g with pr := max (srV args u g.pr).1 (-1) } else g) := by
 unfold starP srV
 by_cases h : g.pr = -2
 ·rw [if_neg (by simp [h]), if_neg (by simp [h])]
  cases args[u]? with
  | none => rfl
  | some a =>
   simp only
   by_cases hc : a.is = true ∨ 1000 < a.int
   ·rw [if_pos hc, if_pos hc]; rfl
   ·rw [if_neg hc, if_neg hc]
    by_cases hn : a.int < 0
    ·rw [if_pos hn]
     simp only [if_true]
     rw [show max a.int (-1) = -1 by omega]
    ·rw [if_neg hn]
     simp only [if_true]
     rw [show max a.int (-1) = a.int by omega]
 ·rw [if_pos h, if_pos h]
  simp only [if_true]
  rw [show max g.pr (-1) = g.pr by omega]
theorem fill2_at {args : List Ag} {u : Nat} {g : Fld} (p : Int × Nat × Nat) (hp : srV args u g.pr = p) (hg : g.pr = -2 ∨ -1 ≤ g.pr) :
  fill2 args u g = if p.2.1 ≠ 0 then ([], p.2.1, p.2.2) else
   if (ofA args p.2.2 g.nm).2.1 ≠ 0 then ([], (ofA args p.2.2 g.nm).2.1, (ofA args p.2.2 g.nm).2.2) else
   ((writV { g with pr := max p.1 (-1) } (ofA args p.2.2 g.nm).1).1, (writV { g with pr := max p.1 (-1) } (ofA args p.2.2 g.nm).1).2, (ofA args p.2.2 g.nm).2.2) := by
 unfold fill2
 rw [Q9 hg, hp]
 dsimp only
 by_cases h : p.2.1 = 0
 ·have hn : ¬ p.2.1 ≠ 0 := fun q => q h
  simp only [if_neg hn, if_pos h]
  unfold writV
  cases putV { g with pr := max p.1 (-1) } (ofA args p.2.2 g.nm).1 <;> rfl
 ·rw [if_pos h, if_pos h]
theorem Qg {args : List Ag} {u : Nat} (h : u ≤ args.length) (n : Int) : (srV args u n).2.2 ≤ args.length := by
 unfold srV
 split
 ·exact h
 ·split
  ·exact h
  ·rename_i a ha; have := (List.getElem?_eq_some_iff.1 ha).1; split <;> simp <;> omega
theorem Qe {args : List Ag} {u : Nat} {n : Int} (hn : n = -2 ∨ (-1 ≤ n ∧ n ≤ 1000)) : (srV args u n).1 ≤ 1000 := by
 unfold srV
 split
 ·simp only; omega
 ·split
  ·simp
  ·split
   ·simp
   ·rename_i h; rw [not_or] at h; simp only; omega
theorem starW_sr (args : List Ag) (u : Nat) (F : Fld) : starW args u F = if (srV args u F.wd).2.1 ≠ 0 then ((srV args u F.wd).2.1, (srV args u F.wd).2.2, F) else
  if F.wd = -2 ∧ (srV args u F.wd).1 < 0 then (if (srV args u F.wd).1 < -1000 then (1, (srV args u F.wd).2.2, F) else (0, (srV args u F.wd).2.2, { F with wd := -(srV args u F.wd).1, lf := true }))
  else (0, (srV args u F.wd).2.2, { F with wd := (srV args u F.wd).1 }) := by
 by_cases h : F.wd = -2
 ·have hn2 : ¬ F.wd ≠ -2 := fun q => q h
  cases ha : args[u]? with
  | none =>
   have e1 : srV args u F.wd = (0, 14, u) := by unfold srV; rw [if_neg hn2, ha]
   have e2 : starW args u F = (14, u, F) := by unfold starW; rw [if_neg hn2, ha]
   rw [e1, e2]; rfl
  | some a =>
   by_cases hc : a.is = true ∨ 1000 < a.int
   ·have e1 : srV args u F.wd = (0, 1, u + 1) := by unfold srV; rw [if_neg hn2, ha]; simp only; rw [if_pos hc]
    have e2 : starW args u F = (1, u + 1, F) := by unfold starW; rw [if_neg hn2, ha]; simp only; rw [if_pos (hc.elim .inl (fun q => .inr (.inl q)))]
    rw [e1, e2]; rfl
   ·have e1 : srV args u F.wd = (a.int, 0, u + 1) := by unfold srV; rw [if_neg hn2, ha]; simp only; rw [if_neg hc]
    rw [e1]
    have z : ¬ ((0 : Nat) ≠ 0) := fun q => q rfl
    simp only [if_neg z]
    by_cases hn : a.int < 0
    ·rw [if_pos (c := F.wd = -2 ∧ a.int < 0) ⟨h, hn⟩]
     by_cases hm : a.int < -1000
     ·rw [if_pos hm]
      unfold starW; rw [if_neg hn2, ha]; simp only; rw [if_pos (.inr (.inr hm))]
     ·rw [if_neg hm]
      unfold starW; rw [if_neg hn2, ha]; simp only; rw [if_neg (by rintro (q | q | q); exact hc (.inl q); exact hc (.inr q); exact hm q), if_pos hn]
    ·rw [if_neg (c := F.wd = -2 ∧ a.int < 0) (fun q => hn q.2)]
     unfold starW; rw [if_neg hn2, ha]; simp only; rw [if_neg (by rintro (q | q | q); exact hc (.inl q); exact hc (.inr q); omega), if_neg hn]
 ·have e1 : srV args u F.wd = (F.wd, 0, u) := by unfold srV; rw [if_pos h]
  have e2 : starW args u F = (0, u, F) := by unfold starW; rw [if_pos h]
  rw [e1, e2]
  have z : ¬ ((0 : Nat) ≠ 0) := fun q => q rfl
  simp only [if_neg z]
  rw [if_neg (fun q => h q.1)]
set_option maxHeartbeats 16000000 in
theorem Ql (args : List Ag) (u g : Nat) (f : Rf) (hA : AgsOk args) (hu : u ≤ args.length) (hf : RfOk f) :
  ACall Tryz.prog 64 [dRf f, dAs args, .ptr 900006 g 0] [usB g u] [900006] fun ps r => ps = [(g, .box [dI (oneV args u f).2.2])] ∧ r = .tup [dS (oneV args u f).1, dI (oneV args u f).2.1] := by 
 refine qY Tryz.func64 rfl rfl Tryz.ntmps64 (rs := [.tmp 6, .tmp 7]) (tys := [9, 34]) rfl rfl (by simp) (by simp [qO]) ?_
 have b0 : (f.lt.toNat = 0) = (f.lt = 0) := propext ⟨fun q => UInt8.toNat_inj.1 q, fun q => by rw [q]; rfl⟩
 have hal := hA.1
 generalize hV : oneV args u f = V
 unfold oneV at hV
 (refine qc fun Y Yh => ?_; simp [go_sem]; ((repeat' (first|(refine qf ?_;simp [go_sem])|intro _|apply And.intro|(apply Yh;clear Yh Y)));all_goals first|apply QS|omega|with_reducible assumption|skip))
 rename_i g3
 refine qh fun K1 hK1 => ?_
 (refine qc fun Y Yh => ?_; simp [go_sem, b0]; ((repeat' (first|(refine qf ?_;simp [go_sem, b0])|intro _|apply And.intro|(apply Yh;clear Yh Y)));all_goals first|apply QS|omega|with_reducible assumption|skip))
 by_cases h0 : f.lt = 0
 ·rw [if_pos h0] at hV
  subst hV
  (refine qg fun T F hT hF => ?_; simp [go_sem, b0, h0]; refine hT ?_; clear hT hF T F)
  (refine qc fun Y Yh => ?_; simp [go_sem]; ((repeat' (first|(refine qf ?_;simp [go_sem])|intro _|apply And.intro|(apply Yh;clear Yh Y)));all_goals first|apply QS|omega|with_reducible assumption|skip))
  (refine qj ?_; simp [go_sem])
 ·rw [if_neg h0, fill_two (f := toFd f) h0] at hV
  have c45 := zo f.fl 45
  have hS := jd args u g f.wd hu hal
  have hle := Qg hu f.wd
  have hwk := Qe (args := args) (u := u) hf.1
  have hw1 : f.wd ≠ -2 → (srV args u f.wd).1 = f.wd := fun q => by unfold srV; rw [if_pos q]
  have hW := starW_sr args u (toFd f)
  have hwd : (toFd f).wd = f.wd := rfl
  rw [hwd] at hW
  clear hwd
  generalize starW args u (toFd f) = W at *
  have z : ¬ ((0 : Nat) ≠ 0) := fun q => q rfl
  generalize hlf : f.fl.contains 45 = lf0 at *
  generalize srV args u f.wd = q at *
  obtain ⟨w, e, u1⟩ := q
  simp only at hW hS hle hwk hw1
  (refine qg fun T F hT hF => ?_; simp [go_sem, b0, h0]; refine hF ?_; clear hT hF T F)
  refine qi ?_
  refine hK1 _ ?_; clear hK1
  (refine qc fun Y Yh => ?_; simp [go_sem]; ((repeat' (first|(refine qf ?_;simp [go_sem])|intro _|apply And.intro|(apply Yh;clear Yh Y)));all_goals first|apply QS|omega|with_reducible assumption|skip))
  ((try refine QT ?_); refine qm (.inl ⟨rfl,rfl⟩) (by simp [go_sem]) ?_; intro args ha; simp [go_sem] at ha; subst ha; refine ⟨_, c45, ?_⟩; rintro _ rfl; simp [go_sem]; ((repeat' (first|(refine qf ?_;simp [go_sem])|intro _|apply And.intro|(apply Yh;clear Yh Y)));all_goals first|apply QS|omega|with_reducible assumption|skip))
  (refine qc fun Y Yh => ?_; simp [go_sem]; ((repeat' (first|(refine qf ?_;simp [go_sem])|intro _|apply And.intro|(apply Yh;clear Yh Y)));all_goals first|apply QS|omega|with_reducible assumption|skip))
  (refine qN [900006] (.inl ⟨rfl,rfl⟩) (by simp [go_sem]) ?_; intro args ha; simp [go_sem] at ha; subst ha; refine ⟨_, _, hS, (by simp [go_sem]), ?_⟩; rintro ps r hps ⟨rfl, rfl⟩; simp [go_sem]; ((repeat' (first|(refine qf ?_;simp [go_sem])|intro _|apply And.intro|(apply Yh;clear Yh Y)));all_goals first|apply QS|omega|with_reducible assumption|skip))
  refine qh fun K3 hK3 => ?_
  by_cases he : e = 0
  ·subst he
   rw [if_neg z] at hW
   (refine qc fun Y Yh => ?_; simp [go_sem]; ((repeat' (first|(refine qf ?_;simp [go_sem])|intro _|apply And.intro|(apply Yh;clear Yh Y)));all_goals first|apply QS|omega|with_reducible assumption|skip))
   (refine qg fun T F hT hF => ?_; simp [go_sem]; refine hF ?_; clear hT hF T F)
   refine qi ?_
   refine hK3 _ ?_; clear hK3
   refine qh fun K5 hK5 => ?_
   have tl5 : ∀ (wd : Int) (lf : Bool) S', (-1 ≤ wd ∧ wd ≤ 1000) → fill2 args u1 { toFd f with wd := wd, lf := lf } = V → Cov S' ⟨[(1, dAs args), (2, .ptr 900006 g 0), (3, .ptr 3 g3 0), (8, dB lf), (9, dI wd)], [(3, (g3, .box (cRf f))), usB g u1]⟩ → K5 S' := fun wd lf S' hwd hV hS' => by
    refine hK5 _ ?_; clear hK5
    refine qG hS' ?_; clear hS'
    have hS2 := jd args u1 g f.pr hle hal
    have hle2 := Qg hle f.pr
    have hpk := Qe (args := args) (u := u1) hf.2.1
    rw [fill2_at _ rfl (by have := hf.2.1; simp only [toFd]; omega)] at hV
    have hpr : ({ toFd f with wd := wd, lf := lf } : Fld).pr = f.pr := rfl
    have hnm : ({ toFd f with wd := wd, lf := lf } : Fld).nm = f.nm := rfl
    rw [hpr, hnm] at hV
    clear hpr hnm
    generalize srV args u1 f.pr = p at *
    obtain ⟨p1, pe, u2⟩ := p
    simp only at hV hS2 hle2 hpk
    (refine qc fun Y Yh => ?_; simp [go_sem]; ((repeat' (first|(refine qf ?_;simp [go_sem])|intro _|apply And.intro|(apply Yh;clear Yh Y)));all_goals first|apply QS|omega|with_reducible assumption|skip))
    (refine qN [900006] (.inl ⟨rfl,rfl⟩) (by simp [go_sem]) ?_; intro args ha; simp [go_sem] at ha; subst ha; refine ⟨_, _, hS2, (by simp [go_sem]), ?_⟩; rintro ps r hps ⟨rfl, rfl⟩; simp [go_sem]; ((repeat' (first|(refine qf ?_;simp [go_sem])|intro _|apply And.intro|(apply Yh;clear Yh Y)));all_goals first|apply QS|omega|with_reducible assumption|skip))
    refine qh fun K6 hK6 => ?_
    (refine qc fun Y Yh => ?_; simp [go_sem]; ((repeat' (first|(refine qf ?_;simp [go_sem])|intro _|apply And.intro|(apply Yh;clear Yh Y)));all_goals first|apply QS|omega|with_reducible assumption|skip))
    by_cases hpe : pe = 0
    ·subst hpe
     simp only [ne_eq, not_true_eq_false, if_false] at hV
     have hFd := vH f args u2 g hle2 hal
     have hoa := ofA_ok hA u2 f.nm
     generalize ofA args u2 f.nm = o at *
     obtain ⟨oa, oe, u3⟩ := o
     simp only at hV hFd hoa
     (refine qg fun T F hT hF => ?_; simp [go_sem]; refine hF ?_; clear hT hF T F)
     refine qi ?_
     refine hK6 _ ?_; clear hK6
     (refine qc fun Y Yh => ?_; simp [go_sem]; ((repeat' (first|(refine qf ?_;simp [go_sem])|intro _|apply And.intro|(apply Yh;clear Yh Y)));all_goals first|apply QS|omega|with_reducible assumption|skip))
     (refine qN [900006] (.inl ⟨rfl,rfl⟩) (by simp [go_sem]) ?_; intro args ha; simp [go_sem] at ha; subst ha; refine ⟨_, _, hFd, (by simp [go_sem]), ?_⟩; rintro ps r hps ⟨rfl, rfl⟩; simp [go_sem]; ((repeat' (first|(refine qf ?_;simp [go_sem])|intro _|apply And.intro|(apply Yh;clear Yh Y)));all_goals first|apply QS|omega|with_reducible assumption|skip))
     refine qh fun K8 hK8 => ?_
     (refine qc fun Y Yh => ?_; simp [go_sem]; ((repeat' (first|(refine qf ?_;simp [go_sem])|intro _|apply And.intro|(apply Yh;clear Yh Y)));all_goals first|apply QS|omega|with_reducible assumption|skip))
     by_cases hoe : oe = 0
     ·subst hoe
      simp only [if_false] at hV
      have hWr := xy f oa wd (max p1 (-1)) lf hoa (hf.2.2.resolve_left h0) hwd (by omega)
      have hV2 : ((writV { toFd f with wd := wd, pr := max p1 (-1), lf := lf } oa).1, (writV { toFd f with wd := wd, pr := max p1 (-1), lf := lf } oa).2, u3) = V := hV
      clear hV
      generalize writV { toFd f with wd := wd, pr := max p1 (-1), lf := lf } oa = X at *
      subst hV2
      have hmx : max p1 (-1) = if p1 < -1 then -1 else p1 := by split <;> omega
      rw [hmx] at hWr
      (refine qg fun T F hT hF => ?_; simp [go_sem]; refine hF ?_; clear hT hF T F)
      refine qi ?_
      refine hK8 _ ?_; clear hK8
      (refine qc fun Y Yh => ?_; simp [go_sem]; ((repeat' (first|(refine qf ?_;simp [go_sem])|intro _|apply And.intro|(apply Yh;clear Yh Y)));all_goals first|apply QS|omega|with_reducible assumption|skip))
      ((try refine QT ?_); refine qm (.inl ⟨rfl,rfl⟩) (by simp [go_sem]) ?_; intro args ha; simp [go_sem] at ha; subst ha; refine ⟨_, hWr, ?_⟩; rintro _ rfl; simp [go_sem]; ((repeat' (first|(refine qf ?_;simp [go_sem])|intro _|apply And.intro|(apply Yh;clear Yh Y)));all_goals first|apply QS|omega|with_reducible assumption|skip))
      (refine qj ?_; simp [go_sem])
     ·rw [if_pos hoe] at hV
      subst hV
      (refine qg fun T F hT hF => ?_; simp [go_sem, hoe]; refine hT ?_; clear hT hF T F)
      (refine qc fun Y Yh => ?_; simp [go_sem]; ((repeat' (first|(refine qf ?_;simp [go_sem])|intro _|apply And.intro|(apply Yh;clear Yh Y)));all_goals first|apply QS|omega|with_reducible assumption|skip))
      (refine qj ?_; simp [go_sem])
    ·rw [if_pos hpe] at hV
     subst hV
     (refine qg fun T F hT hF => ?_; simp [go_sem, hpe]; refine hT ?_; clear hT hF T F)
     (refine qc fun Y Yh => ?_; simp [go_sem]; ((repeat' (first|(refine qf ?_;simp [go_sem])|intro _|apply And.intro|(apply Yh;clear Yh Y)));all_goals first|apply QS|omega|with_reducible assumption|skip))
     (refine qj ?_; simp [go_sem])
   clear hK5
   by_cases hw2 : f.wd = -2
   ·by_cases hn : w < 0
    ·rw [if_pos ⟨hw2, hn⟩] at hW
     (refine qc fun Y Yh => ?_; simp [go_sem, hw2, hn]; ((repeat' (first|(refine qw ?_ ?_ ?_;(focus (simp [go_sem, undef, hw2, hn];done));(focus (simp [go_sem];done));simp [go_sem, hw2, hn])|(refine qp ?_ ?_;(focus (simp [go_sem, undef, hw2, hn];done));simp [go_sem, hw2, hn])|(refine qf ?_;simp [go_sem, undef, hw2, hn])|intro _|apply And.intro|(apply Yh;clear Yh Y)));all_goals first|apply QS|omega|with_reducible assumption|skip))
     (refine qg fun T F hT hF => ?_; simp [go_sem, hw2, hn]; refine hT ?_; clear hT hF T F)
     (refine qc fun Y Yh => ?_; simp [go_sem]; ((repeat' (first|(refine qf ?_;simp [go_sem])|intro _|apply And.intro|(apply Yh;clear Yh Y)));all_goals first|apply QS|omega|with_reducible assumption|skip))
     refine qh fun K11 hK11 => ?_
     (refine qc fun Y Yh => ?_; simp [go_sem]; ((repeat' (first|(refine qf ?_;simp [go_sem])|intro _|apply And.intro|(apply Yh;clear Yh Y)));all_goals first|apply QS|omega|with_reducible assumption|skip))
     by_cases hm : w < -1000
     ·rw [if_pos hm] at hW
      subst hW
      rw [if_pos (fun q => by cases q)] at hV
      subst hV
      (refine qg fun T F hT hF => ?_; simp [go_sem, hm]; refine hT ?_; clear hT hF T F)
      (refine qc fun Y Yh => ?_; simp [go_sem]; ((repeat' (first|(refine qf ?_;simp [go_sem])|intro _|apply And.intro|(apply Yh;clear Yh Y)));all_goals first|apply QS|omega|with_reducible assumption|skip))
      (refine qj ?_; simp [go_sem])
     ·rw [if_neg hm] at hW
      subst hW
      simp only [if_neg z] at hV
      (refine qg fun T F hT hF => ?_; simp [go_sem, hm]; refine hF ?_; clear hT hF T F)
      refine qi ?_
      refine hK11 _ ?_; clear hK11
      (refine qx fun Y Yh => ?_; simp [go_sem]; ((repeat' (first|(refine qf ?_;simp [go_sem])|intro _|apply And.intro|(apply Yh;clear Yh Y)));all_goals first|apply QS|omega|with_reducible assumption|skip))
      refine tl5 (-w) true _ (by omega) hV ?_
      (refine ql ?_ ?_ <;> simp [go_sem, hw2])
    ·rw [if_neg (fun q => hn q.2)] at hW
     subst hW
     simp only [if_neg z] at hV
     have hV' : fill2 args u1 { toFd f with wd := w, lf := lf0 } = V := by rw [← hlf]; exact hV
     (refine qc fun Y Yh => ?_; simp [go_sem, hw2, hn]; ((repeat' (first|(refine qw ?_ ?_ ?_;(focus (simp [go_sem, undef, hw2, hn];done));(focus (simp [go_sem];done));simp [go_sem, hw2, hn])|(refine qp ?_ ?_;(focus (simp [go_sem, undef, hw2, hn];done));simp [go_sem, hw2, hn])|(refine qf ?_;simp [go_sem, undef, hw2, hn])|intro _|apply And.intro|(apply Yh;clear Yh Y)));all_goals first|apply QS|omega|with_reducible assumption|skip))
     (refine qg fun T F hT hF => ?_; simp [go_sem, hw2, hn]; refine hF ?_; clear hT hF T F)
     refine qi ?_
     refine tl5 w lf0 _ (by omega) hV' ?_
     (refine ql ?_ ?_ <;> simp [go_sem, hw2])
   ·rw [if_neg (fun q => hw2 q.1)] at hW
    subst hW
    simp only [if_neg z] at hV
    have hV' : fill2 args u1 { toFd f with wd := w, lf := lf0 } = V := by rw [← hlf]; exact hV
    have hq := hw1 hw2
    have hf1 := hf.1.resolve_left hw2
    (refine qc fun Y Yh => ?_; simp [go_sem, hw2]; ((repeat' (first|(refine qw ?_ ?_ ?_;(focus (simp [go_sem, undef, hw2];done));(focus (simp [go_sem];done));simp [go_sem, hw2])|(refine qp ?_ ?_;(focus (simp [go_sem, undef, hw2];done));simp [go_sem, hw2])|(refine qf ?_;simp [go_sem, undef, hw2])|intro _|apply And.intro|(apply Yh;clear Yh Y)));all_goals first|apply QS|omega|with_reducible assumption|skip))
    (refine qg fun T F hT hF => ?_; simp [go_sem, hw2]; refine hF ?_; clear hT hF T F)
    refine qi ?_
    refine tl5 w lf0 _ (by omega) hV' ?_
    (refine ql ?_ ?_ <;> simp [go_sem])
  ·rw [if_pos he] at hW
   subst hW
   simp only [if_pos he] at hV
   subst hV
   (refine qc fun Y Yh => ?_; simp [go_sem]; ((repeat' (first|(refine qf ?_;simp [go_sem])|intro _|apply And.intro|(apply Yh;clear Yh Y)));all_goals first|apply QS|omega|with_reducible assumption|skip))
   (refine qg fun T F hT hF => ?_; simp [go_sem, he]; refine hT ?_; clear hT hF T F)
   (refine qc fun Y Yh => ?_; simp [go_sem]; ((repeat' (first|(refine qf ?_;simp [go_sem])|intro _|apply And.intro|(apply Yh;clear Yh Y)));all_goals first|apply QS|omega|with_reducible assumption|skip))
   (refine qj ?_; simp [go_sem])
theorem cut37 (s : Bs) : Lib.cut s [37] = if s.findIdx (· == 37) < s.length then (s.take (s.findIdx (· == 37)), s.drop (s.findIdx (· == 37) + 1), true) else (s, [], false) := by
 unfold Lib.cut
 rw [Lib.index_one, indexByte_find]
 by_cases h : s.findIdx (· == 37) < s.length
 ·rw [if_pos h, if_pos h, if_pos (by omega)]; rfl
 ·rw [if_neg h, if_neg h, if_neg (by omega)]
def rrR (q : Option (List Rf × Nat × Nat)) : D :=
 match q with
 | some (L, a, b) => .tup [dRfs L, dB (decide (0 < a)), dB (decide (a = 0) || decide (b = 0))]
 | none => .tup [dRfs [], dB false, dB false]
theorem rr_step {k : Nat} {s : Bs} {L : List Rf} {a b : Nat} (h : s ≠ []) : rReadF (k + 1) s L a b = if s.findIdx (· == 37) < s.length then
  (if pk (s.drop (s.findIdx (· == 37) + 1)) = 37 then rReadF k (s.drop (s.findIdx (· == 37) + 1)).tail (L ++ [txF (s.take (s.findIdx (· == 37)))] ++ [byF [37]]) a b else
   match rfieldV (s.drop (s.findIdx (· == 37) + 1)) with
   | none => none
   | some (f, r) => rReadF k r (L ++ [txF (s.take (s.findIdx (· == 37)))] ++ [f]) (if f.nm = [] then a else a + 1) (if f.nm = [] then b + 1 else b))
  else some (L ++ [txF s], a, b) := by
 rw [rReadF, if_neg h]
 by_cases h2 : s.findIdx (· == 37) < s.length
 ·rw [if_pos h2, if_neg (by omega)]
  rfl
 ·rw [if_neg h2, if_pos (by omega)]
set_option maxHeartbeats 16000000 in
theorem zI (s0 : Bs) (hl : s0.length ≤ 9223372036854775807) : PCall Tryz.prog 43 [dS s0] fun r => r = rrR (rReadV s0) := by 
 refine qB Tryz.func43 rfl rfl Tryz.ntmps43 (rs := [.tmp 2, .tmp 3, .tmp 4]) (tys := [84, 4, 4]) rfl rfl (by simp) ?_
 have hlz : decide ((2000 : Int) < s0.length) = decide (2000 < s0.length) := by rw [decide_eq_decide]; omega
 by_cases hlen : 2000 < s0.length
 ·have e : rReadV s0 = none := by unfold rReadV; rw [if_pos hlen]
  rw [e]
  (refine qc fun Y Yh => ?_; simp [go_sem]; ((repeat' (first|(refine qf ?_;simp [go_sem])|intro _|apply And.intro|(apply Yh;clear Yh Y)));all_goals first|apply QS|omega|with_reducible assumption|skip))
  refine qh fun K1 hK1 => ?_
  (refine qc fun Y Yh => ?_; simp [go_sem, ba_size]; ((repeat' (first|(refine qf ?_;simp [go_sem, ba_size])|intro _|apply And.intro|(apply Yh;clear Yh Y)));all_goals first|apply QS|omega|with_reducible assumption|skip))
  (refine qg fun T F hT hF => ?_; simp [go_sem, hlz, hlen]; refine hT ?_; clear hT hF T F)
  (refine qc fun Y Yh => ?_; simp [go_sem]; ((repeat' (first|(refine qf ?_;simp [go_sem])|intro _|apply And.intro|(apply Yh;clear Yh Y)));all_goals first|apply QS|omega|with_reducible assumption|skip))
  (refine qj ?_; simp [go_sem, rrR])
 ·have e : rReadV s0 = rReadF (s0.length + 1) s0 [] 0 0 := by unfold rReadV; rw [if_neg hlen]
  rw [e]
  (refine qc fun Y Yh => ?_; simp [go_sem]; ((repeat' (first|(refine qf ?_;simp [go_sem])|intro _|apply And.intro|(apply Yh;clear Yh Y)));all_goals first|apply QS|omega|with_reducible assumption|skip))
  refine qh fun K1 hK1 => ?_
  (refine qc fun Y Yh => ?_; simp [go_sem, ba_size]; ((repeat' (first|(refine qf ?_;simp [go_sem, ba_size])|intro _|apply And.intro|(apply Yh;clear Yh Y)));all_goals first|apply QS|omega|with_reducible assumption|skip))
  (refine qg fun T F hT hF => ?_; simp [go_sem, hlz, hlen]; refine hF ?_; clear hT hF T F)
  refine qi ?_
  refine hK1 _ ?_; clear hK1
  (refine qc fun Y Yh => ?_; simp [go_sem]; ((repeat' (first|(refine qf ?_;simp [go_sem])|intro _|apply And.intro|(apply Yh;clear Yh Y)));all_goals first|apply QS|omega|with_reducible assumption|skip))
  refine zA 5 5 88 6 rfl fun go => ?_
  simp only [go_sem]
  (refine qc fun Y Yh => ?_; simp [go_sem]; ((repeat' (first|(refine qf ?_;simp [go_sem])|intro _|apply And.intro|(apply Yh;clear Yh Y)));all_goals first|apply QS|omega|with_reducible assumption|skip))
  (refine qc fun Y Yh => ?_; simp [go_sem]; ((repeat' (first|(refine qf ?_;simp [go_sem])|intro _|apply And.intro|(apply Yh;clear Yh Y)));all_goals first|apply QS|omega|with_reducible assumption|skip))
  refine qh fun K3 hK3 => ?_
  generalize hV : rReadF (s0.length + 1) s0 [] 0 0 = V at *
  have tl3 : ∀ (L : List Rf) (nd ot g : Nat) S', V = some (L, nd, ot) → Cov S' ⟨[(5, .own 5 g), (6, dI nd), (7, dI ot)], [(5, (g, .row 88 6 (L.map cRf)))]⟩ → K3 S' := fun L nd ot g S' hV hS => by
   refine hK3 _ ?_; clear hK3
   refine qG hS ?_; clear hS
   subst hV
   (refine qc fun Y Yh => ?_; simp [go_sem]; ((repeat' (first|(refine qf ?_;simp [go_sem])|intro _|apply And.intro|(apply Yh;clear Yh Y)));all_goals first|apply QS|omega|with_reducible assumption|skip))
   (refine qj ?_; simp [go_sem, rrR])
  clear hK3
  refine qo ?_
  refine qM (σ := Bs × List Rf × Nat × Nat × Nat) (fun x => ⟨[(0, dS x.1), (5, .own 5 x.2.2.2.2), (6, dI x.2.2.1), (7, dI x.2.2.2.1)], [(5, (x.2.2.2.2, .row 88 6 (x.2.1.map cRf)))]⟩)
   (fun x => x.1.length ≤ 2000 ∧ x.2.1.length ≤ 2 * (2000 - x.1.length) ∧ x.2.2.1 ≤ 2000 - x.1.length ∧ x.2.2.2.1 ≤ 2000 - x.1.length ∧ ∃ k, x.1.length < k ∧ rReadF k x.1 x.2.1 x.2.2.1 x.2.2.2.1 = V) (fun x => x.1.length) (s0, [], 0, 0, go) ?_ ?_ ?_
  ·(refine ql ?_ ?_ <;> simp [go_sem])
  ·exact ⟨by simp; omega, by simp, by simp, by simp, s0.length + 1, by simp, hV⟩
  rintro ⟨s, L, nd, ot, go⟩ ⟨hs, hL, hnd, hot, k, hk, hx⟩
  simp only at hs hL hnd hot hk hx ⊢
  obtain ⟨k, rfl⟩ : ∃ k', k = k' + 1 := ⟨k - 1, by omega⟩
  refine qh fun K4 hK4 => ?_
  (refine qc fun Y Yh => ?_; simp [go_sem]; ((repeat' (first|(refine qf ?_;simp [go_sem])|intro _|apply And.intro|(apply Yh;clear Yh Y)));all_goals first|apply QS|omega|with_reducible assumption|skip))
  by_cases hend : s = []
  ·subst hend
   rw [rReadF, if_pos rfl] at hx
   (refine qg fun T F hT hF => ?_; simp [go_sem]; refine hF ?_; clear hT hF T F)
   refine qH ?_
   simp only [go_sem]
   refine tl3 L nd ot go _ hx.symm ?_
   (refine ql ?_ ?_ <;> simp [go_sem])
  ·have hne : s.isEmpty = false := by
    cases s with
    | nil => exact absurd rfl hend
    | cons _ _ => rfl
   have hC := Qv s [37] (by omega)
   rw [cut37] at hC
   rw [rr_step hend] at hx
   (refine qg fun T F hT hF => ?_; simp [go_sem, hne]; refine hT ?_; clear hT hF T F)
   refine qi ?_
   refine hK4 _ ?_; clear hK4
   refine qo ?_
   by_cases hf : s.findIdx (· == 37) < s.length
   ·rw [if_pos hf] at hC hx
    have hdl : (s.drop (s.findIdx (· == 37) + 1)).length = s.length - (s.findIdx (· == 37) + 1) := List.length_drop
    generalize s.drop (s.findIdx (· == 37) + 1) = rest at *
    generalize s.take (s.findIdx (· == 37)) = text at *
    have hF := kz rest (by omega)
    (refine qc fun Y Yh => ?_; simp [go_sem]; ((repeat' (first|(refine qf ?_;simp [go_sem])|intro _|apply And.intro|(apply Yh;clear Yh Y)));all_goals first|apply QS|omega|with_reducible assumption|skip))
    ((try refine QT ?_); refine qm (.inl ⟨rfl,rfl⟩) (by simp [go_sem]) ?_; intro args ha; simp [go_sem] at ha; subst ha; refine ⟨_, hC, ?_⟩; rintro _ rfl; simp [go_sem]; ((repeat' (first|(refine qf ?_;simp [go_sem])|intro _|apply And.intro|(apply Yh;clear Yh Y)));all_goals first|apply QS|omega|with_reducible assumption|skip))
    (refine qc fun Y Yh => ?_; simp [go_sem]; ((repeat' (first|(refine qf ?_;simp [go_sem])|intro _|apply And.intro|(apply Yh;clear Yh Y)));all_goals first|apply QS|omega|with_reducible assumption|skip))
    (refine qc fun Y Yh => ?_; simp [go_sem]; ((repeat' (first|(refine qf ?_;simp [go_sem])|intro _|apply And.intro|(apply Yh;clear Yh Y)));all_goals first|apply QS|omega|with_reducible assumption|skip))
    refine qh fun K6 hK6 => ?_
    (refine qc fun Y Yh => ?_; simp [go_sem]; ((repeat' (first|(refine qf ?_;simp [go_sem])|intro _|apply And.intro|(apply Yh;clear Yh Y)));all_goals first|apply QS|omega|with_reducible assumption|skip))
    (refine qg fun T F hT hF => ?_; simp [go_sem]; refine hF ?_; clear hT hF T F)
    refine qi ?_
    refine hK6 _ ?_; clear hK6
    have hcase : (PCall Tryz.prog 66 [dS rest] (fun r => ∃ f, r = .tup [dRf f, dS [], dB false]) ∧ V = none) ∨ ∃ f beh, PCall Tryz.prog 66 [dS rest] (fun r => r = .tup [dRf f, dS beh, dB true]) ∧ beh.length < s.length ∧
      rReadF k beh (L ++ [txF text] ++ [f]) (if f.lt ≠ 0 ∧ f.nm ≠ [] then nd + 1 else nd) (if f.lt ≠ 0 ∧ f.nm = [] then ot + 1 else ot) = V := by
     unfold RFldR at hF
     by_cases h37 : pk rest = 37
     ·rw [if_pos h37] at hx
      simp only [if_pos h37] at hF
      refine .inr ⟨byF [37], rest.tail, hF, by rw [List.length_tail]; omega, ?_⟩
      rw [if_neg (fun q => q.1 rfl), if_neg (fun q => q.1 rfl)]
      exact hx
     ·rw [if_neg h37] at hx
      simp only [if_neg h37] at hF
      cases hr : rfieldV rest with
      | none =>
       rw [hr] at hx
       simp only [hr] at hF
       exact .inl ⟨hF, hx.symm⟩
      | some q =>
       obtain ⟨f, r⟩ := q
       obtain ⟨l1, l2⟩ := rfield_lt hr
       rw [hr] at hx
       simp only [hr] at hF
       refine .inr ⟨f, r, hF, by omega, ?_⟩
       simp only at hx
       rw [← hx]
       by_cases hn : f.nm = []
       ·rw [if_neg (fun q => q.2 hn), if_pos ⟨l1, hn⟩, if_pos hn, if_pos hn]
       ·rw [if_pos ⟨l1, hn⟩, if_neg (fun q => hn q.2), if_neg hn, if_neg hn]
    clear hF hx
    rename_i gq
    rcases hcase with ⟨hF, rfl⟩ | ⟨f, beh, hF, hb, hx⟩
    ·(refine qc fun Y Yh => ?_; simp [go_sem]; ((repeat' (first|(refine qf ?_;simp [go_sem])|intro _|apply And.intro|(apply Yh;clear Yh Y)));all_goals first|apply QS|omega|with_reducible assumption|skip))
     ((try refine QT ?_); refine qm (.inl ⟨rfl,rfl⟩) (by simp [go_sem]) ?_; intro args ha; simp [go_sem] at ha; subst ha; refine ⟨_, hF, ?_⟩; rintro _ ⟨f, rfl⟩; simp [go_sem]; ((repeat' (first|(refine qf ?_;simp [go_sem])|intro _|apply And.intro|(apply Yh;clear Yh Y)));all_goals first|apply QS|omega|with_reducible assumption|skip))
     refine qh fun K8 hK8 => ?_
     (refine qc fun Y Yh => ?_; simp [go_sem]; ((repeat' (first|(refine qf ?_;simp [go_sem])|intro _|apply And.intro|(apply Yh;clear Yh Y)));all_goals first|apply QS|omega|with_reducible assumption|skip))
     (refine qg fun T F hT hF => ?_; simp [go_sem]; refine hT ?_; clear hT hF T F)
     (refine qc fun Y Yh => ?_; simp [go_sem]; ((repeat' (first|(refine qf ?_;simp [go_sem])|intro _|apply And.intro|(apply Yh;clear Yh Y)));all_goals first|apply QS|omega|with_reducible assumption|skip))
     (refine qj ?_; simp [go_sem, rrR])
    ·have b0 : (f.lt.toNat = 0) = (f.lt = 0) := propext ⟨fun q => UInt8.toNat_inj.1 q, fun q => by rw [q]; rfl⟩
     have hmap : (L ++ [txF text] ++ [f]).map cRf = L.map cRf ++ [[dU 0, dS [], dS text, dS [], dI 0, dI 0]] ++ [cRf f] := by simp [txF]
     (refine qc fun Y Yh => ?_; simp [go_sem]; ((repeat' (first|(refine qf ?_;simp [go_sem])|intro _|apply And.intro|(apply Yh;clear Yh Y)));all_goals first|apply QS|omega|with_reducible assumption|skip))
     ((try refine QT ?_); refine qm (.inl ⟨rfl,rfl⟩) (by simp [go_sem]) ?_; intro args ha; simp [go_sem] at ha; subst ha; refine ⟨_, hF, ?_⟩; rintro _ rfl; simp [go_sem]; ((repeat' (first|(refine qf ?_;simp [go_sem])|intro _|apply And.intro|(apply Yh;clear Yh Y)));all_goals first|apply QS|omega|with_reducible assumption|skip))
     refine qh fun K8 hK8 => ?_
     (refine qc fun Y Yh => ?_; simp [go_sem]; ((repeat' (first|(refine qf ?_;simp [go_sem])|intro _|apply And.intro|(apply Yh;clear Yh Y)));all_goals first|apply QS|omega|with_reducible assumption|skip))
     (refine qg fun T F hT hF => ?_; simp [go_sem]; refine hF ?_; clear hT hF T F)
     refine qi ?_
     refine hK8 _ ?_; clear hK8
     refine qh fun K10 hK10 => ?_
     rename_i gf
     have tl10 : ∀ (nd' ot' : Nat) S', (nd' ≤ nd + 1 ∧ ot' ≤ ot + 1) → rReadF k beh (L ++ [txF text] ++ [f]) nd' ot' = V → Cov S' ⟨[(5, .own 5 gq), (6, dI nd'), (7, dI ot'), (11, .ptr 11 gf 0), (12, dS beh)], [(5, (gq, .row 88 6 (L.map cRf ++ [[dU 0, dS [], dS text, dS [], dI 0, dI 0]]))), (11, (gf, .box (cRf f)))]⟩ → K10 S' := fun nd' ot' S' hno hx hS => by
      refine hK10 _ ?_; clear hK10
      refine qG hS ?_; clear hS
      have hz : (L.length + 1 + 1) * 73 ≤ 140737488355328 := by omega
      (refine qc fun Y Yh => ?_; simp [go_sem]; ((repeat' (first|(refine qf ?_;simp [go_sem])|intro _|apply And.intro|(apply Yh;clear Yh Y)));all_goals first|apply QS|omega|with_reducible assumption|skip))
      (refine qx fun Y Yh => ?_; simp [go_sem]; ((repeat' (first|(refine qf ?_;simp [go_sem])|intro _|apply And.intro|(apply Yh;clear Yh Y)));all_goals first|apply QS|omega|with_reducible assumption|skip))
      rename_i gr
      refine ⟨(beh, L ++ [txF text] ++ [f], nd', ot', gr), ?_, ⟨by simp only; omega, by simp only [List.length_append, List.length_cons, List.length_nil]; omega, by simp only; omega, by simp only; omega, k, by simp only; omega, hx⟩, by simp only; omega⟩
      rw [hmap]
      (refine ql ?_ ?_ <;> simp [go_sem])
     clear hK10
     by_cases hz : f.lt = 0
     ·rw [if_neg (fun q => q.1 hz), if_neg (fun q => q.1 hz)] at hx
      (refine qc fun Y Yh => ?_; simp [go_sem, b0, hz]; ((repeat' (first|(refine qw ?_ ?_ ?_;(focus (simp [go_sem, undef, b0, hz];done));(focus (simp [go_sem];done));simp [go_sem, b0, hz])|(refine qp ?_ ?_;(focus (simp [go_sem, undef, b0, hz];done));simp [go_sem, b0, hz])|(refine qf ?_;simp [go_sem, undef, b0, hz])|intro _|apply And.intro|(apply Yh;clear Yh Y)));all_goals first|apply QS|omega|with_reducible assumption|skip))
      (refine qg fun T F hT hF => ?_; simp [go_sem, b0, hz]; refine hF ?_; clear hT hF T F)
      (refine qc fun Y Yh => ?_; simp [go_sem, b0, hz]; ((repeat' (first|(refine qf ?_;simp [go_sem, b0, hz])|intro _|apply And.intro|(apply Yh;clear Yh Y)));all_goals first|apply QS|omega|with_reducible assumption|skip))
      (refine qg fun T F hT hF => ?_; simp [go_sem, b0, hz]; refine hF ?_; clear hT hF T F)
      refine qi ?_
      refine tl10 nd ot _ (by omega) hx ?_
      (refine ql ?_ ?_ <;> simp [go_sem])
      rw [hz]
      rfl
     ·by_cases hn : f.nm = []
      ·rw [if_neg (fun q => q.2 hn), if_pos ⟨hz, hn⟩] at hx
       have hn' : f.nm.isEmpty = true := by rw [hn]; rfl
       (refine qc fun Y Yh => ?_; simp [go_sem, b0, hz, hn']; ((repeat' (first|(refine qw ?_ ?_ ?_;(focus (simp [go_sem, undef, b0, hz, hn'];done));(focus (simp [go_sem];done));simp [go_sem, b0, hz, hn'])|(refine qp ?_ ?_;(focus (simp [go_sem, undef, b0, hz, hn'];done));simp [go_sem, b0, hz, hn'])|(refine qf ?_;simp [go_sem, undef, b0, hz, hn'])|intro _|apply And.intro|(apply Yh;clear Yh Y)));all_goals first|apply QS|omega|with_reducible assumption|skip))
       (refine qg fun T F hT hF => ?_; simp [go_sem, b0, hz, hn']; refine hF ?_; clear hT hF T F)
       (refine qc fun Y Yh => ?_; simp [go_sem, b0, hz]; ((repeat' (first|(refine qf ?_;simp [go_sem, b0, hz])|intro _|apply And.intro|(apply Yh;clear Yh Y)));all_goals first|apply QS|omega|with_reducible assumption|skip))
       (refine qg fun T F hT hF => ?_; simp [go_sem, b0, hz]; refine hT ?_; clear hT hF T F)
       (refine qx fun Y Yh => ?_; simp [go_sem]; ((repeat' (first|(refine qf ?_;simp [go_sem])|intro _|apply And.intro|(apply Yh;clear Yh Y)));all_goals first|apply QS|omega|with_reducible assumption|skip))
       refine tl10 nd (ot + 1) _ (by omega) hx ?_
       (refine ql ?_ ?_ <;> simp [go_sem])
      ·rw [if_pos ⟨hz, hn⟩, if_neg (fun q => hn q.2)] at hx
       have hn' : f.nm.isEmpty = false := by
        cases hq : f.nm with
        | nil => exact absurd hq hn
        | cons _ _ => rfl
       (refine qc fun Y Yh => ?_; simp [go_sem, b0, hz, hn']; ((repeat' (first|(refine qw ?_ ?_ ?_;(focus (simp [go_sem, undef, b0, hz, hn'];done));(focus (simp [go_sem];done));simp [go_sem, b0, hz, hn'])|(refine qp ?_ ?_;(focus (simp [go_sem, undef, b0, hz, hn'];done));simp [go_sem, b0, hz, hn'])|(refine qf ?_;simp [go_sem, undef, b0, hz, hn'])|intro _|apply And.intro|(apply Yh;clear Yh Y)));all_goals first|apply QS|omega|with_reducible assumption|skip))
       (refine qg fun T F hT hF => ?_; simp [go_sem, b0, hz, hn']; refine hT ?_; clear hT hF T F)
       (refine qx fun Y Yh => ?_; simp [go_sem]; ((repeat' (first|(refine qf ?_;simp [go_sem])|intro _|apply And.intro|(apply Yh;clear Yh Y)));all_goals first|apply QS|omega|with_reducible assumption|skip))
       refine tl10 (nd + 1) ot _ (by omega) hx ?_
       (refine ql ?_ ?_ <;> simp [go_sem])
   ·rw [if_neg hf] at hC hx
    (refine qc fun Y Yh => ?_; simp [go_sem]; ((repeat' (first|(refine qf ?_;simp [go_sem])|intro _|apply And.intro|(apply Yh;clear Yh Y)));all_goals first|apply QS|omega|with_reducible assumption|skip))
    ((try refine QT ?_); refine qm (.inl ⟨rfl,rfl⟩) (by simp [go_sem]) ?_; intro args ha; simp [go_sem] at ha; subst ha; refine ⟨_, hC, ?_⟩; rintro _ rfl; simp [go_sem]; ((repeat' (first|(refine qf ?_;simp [go_sem])|intro _|apply And.intro|(apply Yh;clear Yh Y)));all_goals first|apply QS|omega|with_reducible assumption|skip))
    (refine qc fun Y Yh => ?_; simp [go_sem]; ((repeat' (first|(refine qf ?_;simp [go_sem])|intro _|apply And.intro|(apply Yh;clear Yh Y)));all_goals first|apply QS|omega|with_reducible assumption|skip))
    (refine qc fun Y Yh => ?_; simp [go_sem]; ((repeat' (first|(refine qf ?_;simp [go_sem])|intro _|apply And.intro|(apply Yh;clear Yh Y)));all_goals first|apply QS|omega|with_reducible assumption|skip))
    refine qh fun K6 hK6 => ?_
    (refine qc fun Y Yh => ?_; simp [go_sem]; ((repeat' (first|(refine qf ?_;simp [go_sem])|intro _|apply And.intro|(apply Yh;clear Yh Y)));all_goals first|apply QS|omega|with_reducible assumption|skip))
    (refine qg fun T F hT hF => ?_; simp [go_sem]; refine hT ?_; clear hT hF T F)
    refine qH ?_
    simp only [go_sem]
    rename_i gq
    refine tl3 (L ++ [txF s]) nd ot gq _ hx.symm ?_
    (refine ql ?_ ?_ <;> simp [go_sem, txF])
def rfillsV (args : List Ag) : List Rf → Nat → Bs → Bs × Nat × Nat
 | [], u, out => (out, u, 0)
 | f :: L, u, out =>
  let q := oneV args u f
  if q.2.1 ≠ 0 then ([], 0, q.2.1) else
  if 100000 < (out ++ q.1).length then ([], 0, 1) else rfillsV args L q.2.2 (out ++ q.1)
theorem fills_app (args : List Ag) (M : List Fld) (f : Fld) (u : Nat) (out : Bs) : fillsV args (f :: M) u out = if (fillV args u f).2.1 ≠ 0 then ([], 0, (fillV args u f).2.1) else if 100000 < (out ++ (fillV args u f).1).length then ([], 0, 1) else fillsV args M (fillV args u f).2.2 (out ++ (fillV args u f).1) := rfl
theorem rfills_same (args : List Ag) : ∀ (L : List Rf) (u : Nat) (out : Bs), out.length ≤ 100000 → rfillsV args L u out = fillsV args (convL L) u out
 | [], u, out, _ => rfl
 | f :: L, u, out, h => by
  have e : convL (f :: L) = conv1 f ++ convL L := by simp [convL]
  rw [e]
  unfold rfillsV
  by_cases h0 : f.lt = 0
  ·have h1 : oneV args u f = (f.by', 0, u) := by unfold oneV; rw [if_pos h0]
   rw [h1]
   have z : ¬ ((0 : Nat) ≠ 0) := fun q => q rfl
   simp only [if_neg z]
   unfold conv1
   rw [if_pos h0]
   by_cases hb : f.by' = []
   ·rw [if_pos hb, hb, List.append_nil, List.nil_append, if_neg (by omega)]
    exact rfills_same args L u out h
   ·rw [if_neg hb]
    show _ = fillsV args (fdT f.by' :: convL L) u out
    rw [fills_app]
    have h2 : fillV args u (fdT f.by') = (f.by', 0, u) := by unfold fillV; rw [if_pos (show (fdT f.by').lt = 0 from rfl)]; rfl
    rw [h2]
    simp only [if_neg z]
    by_cases hc : 100000 < (out ++ f.by').length
    ·rw [if_pos hc, if_pos hc]
    ·rw [if_neg hc, if_neg hc]
     exact rfills_same args L u _ (by omega)
  ·have h1 : oneV args u f = fillV args u (toFd f) := by unfold oneV; rw [if_neg h0]
   rw [h1]
   unfold conv1
   rw [if_neg h0]
   show _ = fillsV args (toFd f :: convL L) u out
   rw [fills_app]
   simp only
   by_cases he : (fillV args u (toFd f)).2.1 ≠ 0
   ·rw [if_pos he, if_pos he]
   ·rw [if_neg he, if_neg he]
    by_cases hc : 100000 < (out ++ (fillV args u (toFd f)).1).length
    ·rw [if_pos hc, if_pos hc]
    ·rw [if_neg hc, if_neg hc]
     exact rfills_same args L _ _ (by omega)
theorem kX (form : Bs) (args : List Ag) : runV form args = match rReadV form with
  | none => ([], 0, 4)
  | some (L, a, b) => if 0 < a ∧ 0 < b then ([], 0, 4) else rfillsV args L 0 [] := by
 unfold runV
 rw [zu]
 cases rReadV form with
 | none => rfl
 | some q =>
  obtain ⟨L, a, b⟩ := q
  simp only
  by_cases h : 0 < a ∧ 0 < b
  ·simp only [endV, if_pos h]
  ·simp only [endV, if_neg h]
   rw [rfills_same args L 0 [] (by simp)]
theorem size_okI {m : Int} (hm : -1 ≤ m ∧ m ≤ 1000) {s : Bs} (h : (sizeV m s).2.1 = true) : (sizeV m s).1 = -2 ∨ (-1 ≤ (sizeV m s).1 ∧ (sizeV m s).1 ≤ 1000) := by
 unfold sizeV at h ⊢
 split
 ·exact .inl rfl
 ·rename_i h1
  rw [if_neg h1] at h
  split
  ·exact .inr hm
  ·rename_i h2
   rw [if_neg h2] at h
   simp only [decide_eq_true_eq] at h
   right
   simp only
   omega
theorem rfield_ok {s t : Bs} {f : Rf} (h : rfieldV s = some (f, t)) : RfOk f := by
 rw [rfield_rest] at h
 split at h
 ·cases h
 ·rename_i nm s1 _
  unfold restV at h
  have hw := size_okI (m := -1) (by omega) (s := s1.dropWhile isFl)
  generalize sizeV (-1) (s1.dropWhile isFl) = w at *
  by_cases h1 : w.2.1 = false
  ·simp only [if_pos h1] at h
   cases h
  ·simp only [if_neg h1] at h
   have hpo : (if pk w.2.2 = 46 then sizeV 0 w.2.2.tail else (-1, true, w.2.2)).2.1 = true → (if pk w.2.2 = 46 then sizeV 0 w.2.2.tail else (-1, true, w.2.2)).1 = -2 ∨ (-1 ≤ (if pk w.2.2 = 46 then sizeV 0 w.2.2.tail else (-1, true, w.2.2)).1 ∧ (if pk w.2.2 = 46 then sizeV 0 w.2.2.tail else (-1, true, w.2.2)).1 ≤ 1000) := by
    by_cases h46 : pk w.2.2 = 46
    ·rw [if_pos h46]
     exact size_okI (by omega)
    ·rw [if_neg h46]
     intro _
     right
     simp
   generalize (if pk w.2.2 = 46 then sizeV 0 w.2.2.tail else (-1, true, w.2.2)) = p at *
   by_cases h2 : p.2.1 = false
   ·simp only [if_pos h2] at h
    cases h
   ·simp only [if_neg h2] at h
    split at h
    ·rename_i hc
     cases h
     exact ⟨hw (by simpa using h1), hpo (by simpa using h2), .inr hc.2.1⟩
    ·cases h
theorem rfield_by {s t : Bs} {f : Rf} (h : rfieldV s = some (f, t)) : f.by' = [] := by
 rw [rfield_rest] at h
 split at h
 ·cases h
 ·rename_i nm s1 _
  unfold restV at h
  have hw := size_okI (m := -1) (by omega) (s := s1.dropWhile isFl)
  generalize sizeV (-1) (s1.dropWhile isFl) = w at *
  by_cases h1 : w.2.1 = false
  ·simp only [if_pos h1] at h
   cases h
  ·simp only [if_neg h1] at h
   have hpo : (if pk w.2.2 = 46 then sizeV 0 w.2.2.tail else (-1, true, w.2.2)).2.1 = true → (if pk w.2.2 = 46 then sizeV 0 w.2.2.tail else (-1, true, w.2.2)).1 = -2 ∨ (-1 ≤ (if pk w.2.2 = 46 then sizeV 0 w.2.2.tail else (-1, true, w.2.2)).1 ∧ (if pk w.2.2 = 46 then sizeV 0 w.2.2.tail else (-1, true, w.2.2)).1 ≤ 1000) := by
    by_cases h46 : pk w.2.2 = 46
    ·rw [if_pos h46]
     exact size_okI (by omega)
    ·rw [if_neg h46]
     intro _
     right
     simp
   generalize (if pk w.2.2 = 46 then sizeV 0 w.2.2.tail else (-1, true, w.2.2)) = p at *
   by_cases h2 : p.2.1 = false
   ·simp only [if_pos h2] at h
    cases h
   ·simp only [if_neg h2] at h
    split at h
    ·rename_i hc
     cases h
     rfl
    ·cases h
theorem rread_ok : ∀ (k : Nat) (s : Bs) (out L : List Rf) (nd ot a b : Nat), rReadF k s out nd ot = some (L, a, b) → (∀ f ∈ out, RfOk f) → out.length + 2 * s.length ≤ 1000000 → (∀ f ∈ L, RfOk f) ∧ L.length ≤ 1000000 := by
 intro k
 induction k with
 | zero => intro s out L nd ot a b h; simp [rReadF] at h
 | succ k ih =>
  intro s out L nd ot a b h hn hsz
  have ht : ∀ t, RfOk (txF t) := fun _ => ⟨.inr (by simp [txF]), .inr (by simp [txF]), .inl rfl⟩
  have hb : ∀ t, RfOk (byF t) := fun _ => ⟨.inr (by simp [byF]), .inr (by simp [byF]), .inl rfl⟩
  rw [rReadF] at h
  split at h
  ·cases h; exact ⟨hn, by omega⟩
  ·rename_i hs
   have hpos : 0 < s.length := List.length_pos_iff.2 hs
   simp only at h
   split at h
   ·cases h
    refine ⟨fun f hf => ?_, by rw [List.length_append]; simp; omega⟩
    rcases List.mem_append.1 hf with hf | hf
    ·exact hn f hf
    ·rw [List.mem_singleton] at hf; subst hf; exact ht _
   ·rename_i hlt
    have hdl : (s.drop (s.findIdx (· == 37) + 1)).length = s.length - (s.findIdx (· == 37) + 1) := List.length_drop
    split at h
    ·refine ih _ _ _ _ _ _ _ h (fun f hf => ?_) ?_
     ·simp only [List.mem_append, List.mem_singleton] at hf
      rcases hf with (hf | rfl) | rfl
      ·exact hn f hf
      ·exact ht _
      ·exact hb _
     ·simp only [List.length_append, List.length_cons, List.length_nil, List.length_tail]; omega
    ·split at h
     ·cases h
     ·rename_i f r hr
      have hl := (rfield_lt hr).2
      refine ih _ _ _ _ _ _ _ h (fun f' hf => ?_) ?_
      ·simp only [List.mem_append, List.mem_singleton] at hf
       rcases hf with (hf | rfl) | rfl
       ·exact hn f' hf
       ·exact ht _
       ·exact rfield_ok hr
      ·simp only [List.length_append, List.length_cons, List.length_nil]; omega
theorem zV {form : Bs} {L : List Rf} {a b : Nat} (h : rReadV form = some (L, a, b)) : (∀ f ∈ L, RfOk f) ∧ L.length ≤ 1000000 := by
 unfold rReadV at h
 split at h
 ·cases h
 ·exact rread_ok _ _ _ _ _ _ _ _ h (by simp) (by simp; omega)
end Go.Proofs.YtelhdhofnohkcaaGreatDoor
set_option linter.unusedSectionVars false
namespace Go.Eng
variable {P : Program} [HasGlob P]
structure RowFrm (w w' : World) (v : Value) : Prop where
 os : w'.os = w.os
 tape : w'.tape = w.tape
 output : w'.output = w.output
 size : w.heap.size ≤ w'.heap.size
 rest : ∀ k, k < w.heap.size → v.ownBlock ≠ some k → w'.heap[k]? = w.heap[k]?
variable {P : Program} [HasGlob P] {n : Nat} {S : St} {Q : Exit → St → Prop}
theorem vX {c : Code} (t s' : Nat) {s g : Nat} {es : List (Value × D)} (hl : look S.slots t = some (.own s g)) (hx : look S.heap s = some (g, .map es)) (h9 : 900000 ≤ s → 900000 ≤ s')
  (h : ∀ g', AWp P n c (((S.drop s).hput s' g' (.map es)).put t (.own s' g')) Q) : AWp P n c S Q := by
 intro w0 B C0 C a w E I
 obtain ⟨g', C', u, I', hu, hv, ext⟩ := I.rename hx rfl s' h9
 obtain ⟨x, hx1, hr⟩ := I.slots t _ hl
 refine h g' E (Inv.reslot I' (d := .own s g) hl fun v hv' => ?_)
 cases hv' with
 | own _ _ _ h1 h2 =>
  have := ext.val _ _ _ hu
  rw [h1] at this
  simp only [Option.some.injEq] at this
  subst this
  exact .own _ _ _ hv h2
end Go.Eng
set_option linter.unusedSectionVars false
namespace Go.Eng
variable {P : Program} [HasGlob P] {n : Nat} {S : St} {Q : Exit → St → Prop}
end Go.Eng
set_option linter.unusedSectionVars false
namespace Go.Eng
variable {P : Program} [HasGlob P]
end Go.Eng
set_option linter.unusedSectionVars false
namespace Go.Eng
variable {P : Program} [HasGlob P]
/-! results that hold an own row inside a struct of one cell, and such structs as arguments -/
def frzDG (ss : List Nat) (S : St) (d : D) (k : St → D → Prop) : Prop :=
 match d with
 | .agg [.own s g] => if ss.contains s then k S (.agg [.own s g]) else frzDA ss S (.agg [.own s g]) k
 | d => frzDA ss S d k
def frzDsG (ss : List Nat) : St → List D → (St → List D → Prop) → Prop
 | S, [], k => k S []
 | S, d :: ds, k => frzDG ss S d fun S' d' => frzDsG ss S' ds fun S'' ds' => k S'' (d' :: ds')
def retG (P : Program) (rs : List ResultVar) (tys : List TypeId) (ss : List Nat) (R : List (Nat × Blk) → D → Prop) : Exit → St → Prop
 | .normal, S | .ret, S => resL P S rs fun ds => frzDsG ss S ds fun S' ds' => postK S' ss fun ps => R ps (pack (nilDs P tys ds'))
 | _, _ => False
section
variable {w0 w : World} {B : Nat → Nat → Prop} {C0 C : Ctx} {n : Nat} {a : Act} {S : St}
end
theorem QF {S : St} {df : D} {f : FuncId} {caps ds : List D} {tys : List TypeId} {k : St → D → Prop} (ss : List Nat) (hf : FunD df f caps)
  (h : ∀ args, ds ++ caps = args → ∃ es R, ACall P f args es ss R ∧ covL S.heap es ∧ ∀ ps r, ps.length = ss.length → R ps r → k (putPs S ss ps) r) : CallA P df ds tys S k := by
 obtain ⟨es, R, h, hes, hR⟩ := h _ rfl
 intro w0 B C0 n C a w us uf E I hr hu
 obtain ⟨cs, rfl, hcs⟩ := hf.rep hu
 refine ⟨f, cs, rfl, h.1, ?_⟩
 have hes' : ∀ s g x, look es s = some (g, x) → look S.heap s = some (g, x) ∧ 900000 ≤ s ∧ qO x = true ∧ s ∈ ss := fun s g x hx => by
  have hm := h.2.1 _ (zF hx)
  exact ⟨covL_ok hes s _ hx, hm⟩
 refine (h.2.2 C w (us ++ cs.toList) I.ctxOk (E.now I) (hr.append hcs) (fun s g b hb => I.heap s g b (hes' s g b hb).1)).mono ?_
 rintro e w' ⟨u, r, ps, C', rfl, hRr, hru, hok, ext, hp, hm, he, hl, hd, hfrm⟩
 exact ⟨u, r, _, C', rfl, hR ps r hp.1 hRr, hru, I.afterL hes' ext hok hp hm he hl hd hfrm⟩
attribute [go_sem] retG frzDsG frzDG
end Go.Eng
set_option linter.unusedSectionVars false
namespace Go.Eng
variable {P : Program} [HasGlob P]
end Go.Eng
set_option linter.unusedSectionVars false
namespace Go.Eng
variable {P : Program} [HasGlob P] {n : Nat} {S : St} {Q : Exit → St → Prop}
section
variable {w0 : World} {B : Nat → Nat → Prop} {C0 : Ctx} {C : Ctx} {a : Act} {w : World}
end
end Go.Eng
set_option linter.unusedSectionVars false
namespace Go.Eng
variable {P : Program} [HasGlob P]
section
variable {n : Nat} {S : St}
theorem Qy {ops : List Oper} {dst : Option Nat} {t ty : TypeId} {x : Operand} {pos : String} {after : Array Edge} {K : St → Prop} (hd : dstOk n dst) (hc : P.concrete t = true)
  (h : evK true S x fun d => K (S.set dst (.ifc t d))) : AG P n ops ⟨dst, .makeInterface t x, ty, pos, after, none⟩ S K := by
 intro w0 B C0 C a w E I N Q hN
 by_cases hw : Region.wanted (⟨dst, .makeInterface t x, ty, pos, after, none⟩ : Oper) (yielded ops.toArray a.tmps) = true
 ·rw [if_pos hw]
  obtain ⟨d, hk, hr⟩ := qE I h
  refine wp_val (u := .iface t (a.eval x)) (w' := w) ?_ (hN _ _ ⟨_, C, hk, I.set (qI hd) (.ifc _ _ _ (hr rfl))⟩)
  simp [execOp, run_makeInterface w t (a.eval x) hc]
 ·exact absurd (by simp [Region.wanted]) hw
theorem wZ {ops : List Oper} {dst : Option Nat} {x : Operand} {name : String} {args : Array Operand} {tys : Array TypeId} {ty : TypeId} {pos : String} {after : Array Edge} {K : St → Prop} (f : FuncId) (t : TypeId) (hd : dstOk n dst)
  (hm : ∀ (v : Value) (w : World), (method (P.types.size + Made.depth) t v name).run P w = .ok (f, v) w)
  (h : evK true S x fun dx => ∃ d, dx = .ifc t d ∧ evsK true S args.toList fun ds => CallA P (.v (.func (.func f) #[] #[])) (d :: ds) tys.toList S fun S' r => K (S'.set dst r)) :
  AG P n ops ⟨dst, .call { callee := .invoke x name, args := args, argTypes := tys }, ty, pos, after, none⟩ S K := by
 intro w0 B C0 C a w E I N Q hN
 have hw : Region.wanted (⟨dst, .call { callee := .invoke x name, args := args, argTypes := tys }, ty, pos, after, none⟩ : Oper) (yielded ops.toArray a.tmps) = true := by simp [Region.wanted]
 rw [if_pos hw]
 obtain ⟨dx, ⟨d, rfl, hds⟩, hx⟩ := qE I h
 obtain ⟨ds, hK, hlen, hr⟩ := evsK_ok I hds
 have hx := hx rfl
 generalize hux : a.eval x = ux at hx
 cases hx with
 | ifc _ _ u hu =>
 let us := args.toList.map a.eval
 have hrep : RepL C w (d :: ds) (u :: us) := by
  refine ⟨by simp [us, hlen], fun j d' u' hd' hu' => ?_⟩
  cases j with
  | zero => simp at hd' hu'; subst hd'; subst hu'; exact hu
  | succ j =>
   simp only [List.getElem?_cons_succ] at hd' hu'
   simp only [us, List.getElem?_map] at hu'
   cases hx' : args.toList[j]? with
   | none => rw [hx'] at hu'; cases hu'
   | some x' =>
    rw [hx'] at hu'
    simp only [Option.map_some, Option.some.injEq] at hu'
    subst hu'
    exact hr rfl j x' d' hx' hd'
 obtain ⟨f', cs, hfe, hok, hcall⟩ := hK (u :: us) _ E I hrep (.v _)
 obtain ⟨rfl, rfl⟩ : f = f' ∧ cs = #[] := by
  simp only [Value.func.injEq, Fn.func.injEq] at hfe
  exact ⟨hfe.1, hfe.2.2.symm⟩
 obtain ⟨fn, h1, h2, h3⟩ := hok
 have hrun : (execOp a.eval ⟨dst, .call { callee := .invoke x name, args := args, argTypes := tys }, ty, pos, after, none⟩).run P w = .ok (.enter f ((u :: us) ++ (#[] : Array Value).toList).toArray) w := by
  have hp : (program : Sem Program).run P w = .ok P w := run_program ..
  have e0 : (#[Value.iface t u] ++ Array.map a.eval args)[0]? = some (.iface t u) := by rw [Array.getElem?_append_left (by simp)]; rfl
  have e1 : (#[u] ++ (#[Value.iface t u] ++ Array.map a.eval args).extract 1 (#[Value.iface t u] ++ Array.map a.eval args).size) = ((u :: us) ++ (#[] : Array Value).toList).toArray := by
   apply Array.ext'
   simp [us, List.take_of_length_le]
  simp only [execOp, resolve, Sem.run_bind, Sem.run_pure, Result.andThen_ok, invoke, hux]
  rw [e0]
  simp only [callMethod, Sem.run_bind, hp, Result.andThen_ok, hm, callFunc, e1, h1]
  simp [h2, h3]
 unfold Oper.wp
 rw [hrun]
 refine hcall.mono ?_
 rintro e w' ⟨u', r, S', C', rfl, hk, hru, I'⟩
 exact hN _ _ ⟨_, C', hk, I'.set (qI hd) hru⟩
end
variable {P : Program} [HasGlob P]
section
variable {n : Nat} {S : St}
theorem zU {ops : List Oper} {dst : Option Nat} {op : BinOp} {t ty e : TypeId} {x : Operand} {pos : String} {after : Array Edge} {K : St → Prop} (b : Bool) (hd : dstOk n dst) (he : P.underlying t = some (.slice e)) (hop : op = .eql ∧ b = true ∨ op = .neq ∧ b = false)
  (h : evK true S x fun d => d = .v (.slice none 0 0)) (hk : K (S.set dst (.v (.bool b)))) : AG P n ops ⟨dst, .binOp op t x (.const (.slice none 0 0)) t, ty, pos, after, none⟩ S K := by
 intro w0 B C0 C a w E I N Q hN
 have hw : Region.wanted (⟨dst, .binOp op t x (.const (.slice none 0 0)) t, ty, pos, after, none⟩ : Oper) (yielded ops.toArray a.tmps) = true := by
  rcases hop with ⟨rfl, _⟩ | ⟨rfl, _⟩ <;> simp [Region.wanted]
 rw [if_pos hw]
 obtain ⟨d, rfl, hr⟩ := qE I h
 have hxu := (hr rfl).v_inv
 have hyu : a.eval (.const (.slice none 0 0)) = .slice none 0 0 := rfl
 refine wp_val (u := .bool b) (w' := w) ?_ (hN _ _ ⟨_, C, hk, I.set (qI hd) (.v _)⟩)
 rcases hop with ⟨rfl, rfl⟩ | ⟨rfl, rfl⟩
 ·have hr := (bin_nil (x := x) (y := .const (.slice none 0 0)) he none 0 0 w).1
  simp only [execOp, hxu, hyu, Sem.run_bind] at hr ⊢
  rw [hr]
  simp
 ·have hr := (bin_nil (x := x) (y := .const (.slice none 0 0)) he none 0 0 w).2
  simp only [execOp, hxu, hyu, Sem.run_bind] at hr ⊢
  rw [hr]
  simp
end
end Go.Eng
set_option linter.unusedSectionVars false
namespace Go.Eng
variable {P : Program} [HasGlob P]
/-! contracts with lent memory that are proved by hand -/
def act0 : Act := { tmps := #[], defers := [] }
theorem Inv.start {C : Ctx} {w : World} {es : List (Nat × (Nat × Blk))} (hc : CtxOk C w) (hent : ∀ s g b, look es s = some (g, b) → HRep C w s g b) (h9 : ∀ p ∈ es, 900000 ≤ p.1) : Inv w (LentB es) C 0 ⟨[], es⟩ C act0 w := by
 refine ⟨rfl, rfl, fun k d hk => by simp [look] at hk, fun s g b hb => hent s g b hb, fun s g b x u hx _ hv hbk => .inr ⟨⟨s, g, u, ⟨x, hx⟩, hv, hbk⟩, h9 _ (zF hx)⟩, hc.apart, hc.bound, hc.fresh, Frm.refl _ _, fun _ _ _ h => h, fun _ _ h => h, fun _ _ _ _ h _ => h,
   fun s g x y hx _ => ⟨x, hx⟩, fun _ _ _ _ h => h, fun s g u b h1 h2 h3 => hc.bound s g u b h1 h2 h3⟩
theorem Env.start {C : Ctx} {w : World} {es : List (Nat × (Nat × Blk))} (hg : GlobOk P C w) (hent : ∀ s g b, look es s = some (g, b) → HRep C w s g b) (hn : ∀ p ∈ es, qO p.2.2 = true) : Env P w (LentB es) C :=
 ⟨hg, fun s g ⟨x, hx⟩ => ((hent s g x hx).liveOf (hn _ (zF hx))).1⟩
section
variable {w0 : World} {B : Nat → Nat → Prop} {C0 : Ctx} {n : Nat} {S : St} {C : Ctx} {a : Act} {w : World}
theorem Inv.cellSet (I : Inv w0 B C0 n S C a w) {s g b j : Nat} {cs : List D} {v : Value} (hx : look S.heap s = some (g, .box cs)) (hv : C.val s g = some (.pointer (some ⟨b, 0, none⟩))) (h1 : v.oneCell' = true) :
  Inv w0 B C0 n (S.hput s g (.box (cs.set j (.v v)))) C a (w.setCell ⟨b, j, none⟩ v) := by
 obtain ⟨b', arr, ty, q1, q2, q3, q4, q5⟩ := I.heap s g _ hx
 rw [hv] at q1
 simp only [Option.some.injEq, Value.pointer.injEq, Addr.mk.injEq, and_true] at q1
 subst q1
 have hb : (w.setCell ⟨b, j, none⟩ v).heap[b]? = some (.cells (arr.setIfInBounds j v) ty (0, 0)) := by
  simp only [World.setCell, Array.getElem?_modify, q3]
  simp
 refine (I.write (w' := w.setCell ⟨b, j, none⟩ v) (x' := .box (cs.set j (.v v))) hx hv q2 rfl (fun k hk => ?_) (by simp [World.setCell]) rfl rfl rfl (fun e => ⟨b, _, ty, hv, q2, hb, by simp [q4], fun i c u hi hu => ?_⟩)).1
 ·simp only [World.setCell, Array.getElem?_modify]
  rw [if_neg (Ne.symm hk)]
 ·rw [List.getElem?_set] at hi
  rw [Array.getElem?_setIfInBounds] at hu
  by_cases hij : j = i
  ·subst hij
   rw [if_pos rfl] at hi hu
   split at hi
   ·simp only [Option.some.injEq] at hi
    split at hu
    ·simp only [Option.some.injEq] at hu
     subst hi hu
     exact ⟨.v _, h1⟩
    ·cases hu
   ·cases hi
  ·rw [if_neg hij] at hi hu
   obtain ⟨r1, r2⟩ := q5 i c u hi hu
   exact ⟨r1.mono e, r2⟩
theorem Inv.drew (I : Inv w0 B C0 n S C a w) : Inv w0 B C0 n S C a w.drew := I.quiet rfl rfl rfl rfl
theorem Inv.boxCell (I : Inv w0 B C0 n S C a w) {s g j : Nat} {cs : List D} {x : Value} (hx : look S.heap s = some (g, .box cs)) (hj : cs[j]? = some (.v x)) {b : Nat} (hv : C.val s g = some (.pointer (some ⟨b, 0, none⟩))) :
  w.cell? ⟨b, j, none⟩ = some x ∧ w.frozen? ⟨b, j, none⟩ = false := by
 obtain ⟨b', arr, ty, q1, q2, q3, q4, q5⟩ := I.heap s g _ hx
 rw [hv] at q1
 simp only [Option.some.injEq, Value.pointer.injEq, Addr.mk.injEq, and_true] at q1
 subst q1
 have hlt : j < arr.size := by rw [q4]; exact (List.getElem?_eq_some_iff.1 hj).1
 obtain ⟨r1, r2⟩ := q5 j _ arr[j] hj (Array.getElem?_eq_getElem hlt)
 have e := r1.v_inv
 refine ⟨?_, ?_⟩
 ·simp [World.cell?, q3, e, hlt]
 ·simp [World.frozen?, q3]
end
theorem Inv.finish {C : Ctx} {w w' : World} {es : List (Nat × (Nat × Blk))} {ss : List Nat} {ps : List (Nat × Blk)} {C' : Ctx} {S' : St} {a : Act} {n : Nat} (hc : CtxOk C w) (hent : ∀ s g b, look es s = some (g, b) → HRep C w s g b)
  (hn : ∀ p ∈ es, qO p.2.2 = true) (I2 : Inv w (LentB es) C n S' C' a w') (hpl : ps.length = ss.length) (hpost : ∀ (j : Nat) s p, ss[j]? = some s → ps[j]? = some p → look S'.heap s = some p ∧ qO p.2 = true) :
  CtxOk C' w' ∧ Ext C w C' w' ∧ Posts C' w' ss ps ∧
   (∀ (j : Nat) s p u b, ss[j]? = some s → ps[j]? = some p → C'.val s p.1 = some u → blk u = some b → w.heap.size ≤ b ∨ (bB C (LentB es) b ∧ 900000 ≤ s)) ∧
   (∀ (j : Nat) s p y, ss[j]? = some s → ps[j]? = some p → C.val s p.1 = some y → LentB es s p.1) ∧
   (∀ s g x, C.val s g = some x → ¬ LentB es s g → C'.live s g = C.live s g) ∧ (∀ s g x, C.val s g = some x → C'.live s g = true → C.live s g = true) ∧
   Frm w (bB C (LentB es)) w' := by
 have hlive : ∀ s g, LentB es s g → C.live s g = true := fun s g ⟨x, hx⟩ => ((hent s g x hx).liveOf (hn _ (zF hx))).1
 refine ⟨⟨I2.apart, I2.bound, I2.fresh⟩, ⟨I2.old, I2.owned, fun b hb hno => I2.frame.block b hb (fun ⟨s, g, v, q1, q2, q3⟩ => hno ⟨s, g, v, q2, hlive s g q1, q3⟩), I2.frame.size⟩,
   ⟨hpl, fun j s p h1 h2 => ⟨I2.heap s p.1 p.2 (hpost j s p h1 h2).1, (hpost j s p h1 h2).2⟩⟩, fun j s p v b h1 h2 h3 h4 => ?_, fun j s p y h1 h2 h3 => I2.ents s p.1 p.2 y (hpost j s p h1 h2).1 h3, fun s g x hx hnl => ?_, fun s g x h1 h2 => I2.dead0 s g x h1 h2, I2.frame⟩
 ·obtain ⟨q1, q2⟩ := hpost j s p h1 h2
  exact I2.mine s p.1 b p.2 v q1 ((I2.heap _ _ _ q1).liveOf q2).1 h3 h4
 ·by_cases hl : C.live s g = true
  ·rw [hl]; exact I2.kept s g x hx hl hnl
  ·rw [Bool.not_eq_true] at hl
   rw [hl, Bool.eq_false_iff]
   intro q
   rw [I2.dead0 s g x hx q] at hl
   cases hl
variable {P : Program} [HasGlob P]
section
variable {n : Nat} {S : St}
theorem kQ {ops : List Oper} {dst : Option Nat} {f : FuncId} {ty : TypeId} {x : Operand} {pos : String} {after : Array Edge} {K : St → Prop} (hd : dstOk n dst)
  (h : evK true S x fun d => K (S.set dst (.mfn f d))) : AG P n ops ⟨dst, .makeFunc (.func f) #[x] #[], ty, pos, after, none⟩ S K := by
 intro w0 B C0 C a w E I N Q hN
 by_cases hw : Region.wanted (⟨dst, .makeFunc (.func f) #[x] #[], ty, pos, after, none⟩ : Oper) (yielded ops.toArray a.tmps) = true
 ·rw [if_pos hw]
  obtain ⟨d, hk, hr⟩ := qE I h
  refine wp_val (u := .func (.func f) #[a.eval x] #[]) (w' := w) ?_ (hN _ _ ⟨_, C, hk, I.set (qI hd) (.mfn _ _ _ (hr rfl))⟩)
  simp [execOp, Instr.makeFunc]
 ·exact absurd (by simp [Region.wanted]) hw
end
end Go.Eng
set_option linter.unusedSectionVars false
namespace Go.Eng
open Go.RowKit
variable {P : Program} [HasGlob P]
theorem kS {f : FuncId} {args : List D} {es : List (Nat × (Nat × Blk))} {R : D → Prop} (hf : FnOk P f) (hes : ∀ p ∈ es, 900000 ≤ p.1 ∧ qO p.2.2 = true) (hnd : ∀ p ∈ es, look es p.1 = some p.2)
  (h : ∀ (C : Ctx) (w : World) (us : List Value), CtxOk C w → HasGlob.ok P w → RepL C w args us → (∀ s g b, look es s = some (g, b) → HRep C w s g b) → Calls P f us.toArray w fun e w' => ∃ u r, e = .returned u ∧ R r ∧ Rep C w' r u ∧ Below w.heap.size w w') :
  ACall P f args es (es.map (·.1)) fun ps r => ps = es.map (·.2) ∧ R r := by
 refine ⟨hf, fun p hp => ⟨(hes p hp).1, (hes p hp).2, List.mem_map.2 ⟨p, hp, rfl⟩⟩, fun C w us hc hg hr hent => ?_⟩
 refine (h C w us hc hg.1 hr hent).mono ?_
 rintro e w' ⟨u, r, rfl, h1, h2, hb⟩
 have I := Inv.start hc hent fun p hp => (hes p hp).1
 have hk : CtxOk C w' := ⟨hc.apart, fun s g u b h1 h2 h3 => Nat.lt_of_lt_of_le (hc.bound s g u b h1 h2 h3) hb.size, hc.fresh⟩
 have ext : Ext C w C w' := ⟨fun _ _ _ h => h, fun _ _ h => h, fun b hlt _ => hb.block b hlt, hb.size⟩
 have I2 := I.after ext hk (fun _ _ _ _ => rfl) ⟨hb.os, hb.tape, hb.output, hb.size, fun b hlt _ => hb.block b hlt⟩
 refine ⟨u, r, es.map (·.2), C, rfl, ⟨rfl, h1⟩, h2, ?_⟩
 refine Inv.finish (ss := es.map (·.1)) (ps := es.map (·.2)) hc hent (fun p hp => (hes p hp).2) I2 (by simp) fun j s p q1 q2 => ?_
 simp only [List.getElem?_map, Option.map_eq_some_iff] at q1 q2
 obtain ⟨x, hx, rfl⟩ := q1
 obtain ⟨y, hy, rfl⟩ := q2
 rw [hx] at hy
 cases hy
 have hm := List.mem_of_getElem? hx
 exact ⟨hnd x hm, (hes x hm).2⟩
end Go.Eng
set_option linter.unusedSectionVars false
namespace Go.Eng
open Go.RowKit
variable {P : Program} [HasGlob P]
section
variable {w0 : World} {B : Nat → Nat → Prop} {C0 : Ctx} {n : Nat} {S : St} {C : Ctx} {a : Act} {w : World}
def bytesR (bs : List UInt8) : List (List D) := bs.map fun c => [D.v (.int .u8 (c.toNat : Int))]
theorem appstr_own (I : Inv w0 B C0 n S C a w) {t u ty e : TypeId} (hs : qW P t = some (e, 1, 1)) (hz : (P.info? e).bind (·.zero) = some (.int .u8 0)) (hu : P.underlying u = some .string) {s g : Nat} {es : List (List D)} {bs : List UInt8} {v : Value}
  (hlk : look S.heap s = some (g, .row e 1 es)) (hv : C.val s g = some v) (hb : es.length + bs.length ≤ 140737488355328) :
  ∃ v' w' g' C', (Builtin.append_ #[t, u] ty #[v, .string ⟨bs.toArray⟩]).run P w = .ok v' w' ∧ C'.val s g' = some v' ∧ v'.oneCell' = true ∧ Inv w0 B C0 n (S.hput s g' (.row e 1 (es ++ bytesR bs))) C' a w' := by
 obtain ⟨inf, q1, q2, q3, q4⟩ := qZ hs
 rw [q2] at hz
 simp only [Option.bind_some] at hz
 obtain ⟨u', xs, hv', hl, hown, hk, hall⟩ := I.heap s g _ hlk
 rw [hv] at hv'
 simp only [Option.some.injEq] at hv'
 subst hv'
 have hsz : (⟨bs.toArray⟩ : ByteArray).size = bs.length := by simp [ByteArray.size]
 obtain ⟨v', w', hrun, hown', hg, hnil⟩ := Lib.run_append_own_string (P := P) w 0 t u ty e inf q1 hu q2 hz q3 q4 v es.length xs hown ⟨bs.toArray⟩ (by rw [hsz]; simp only [maxLen]; omega) (by rw [hsz]; omega) (Nat.zero_le _)
 obtain ⟨ao, cap, hus, _⟩ := zg hown
 obtain ⟨ao2, cap2, hvs, _⟩ := zg hown'
 have hat : v'.ownBlock = v.ownBlock ∨ v'.ownBlock = some w.heap.size := by
  rcases hown.2 with ⟨h1, h2⟩ | ⟨gb, cp, cur, h1, h2, h3, h4, h5, h6, h7⟩
  ·by_cases hm : bs.length = 0
   ·left
    rw [hnil.2 ⟨h1, by rw [hsz]; exact hm⟩, h1]
   ·right
    rw [h1] at hrun
    rw [run_append_nil_string (P := P) w t u ty e inf (.int .u8 0) q1 hu q2 hz ⟨bs.toArray⟩ (by rw [hsz]; omega) (by rw [hsz]; omega) (by rw [hsz, q4]; omega)] at hrun
    simp only [Result.ok.injEq] at hrun
    rw [← hrun.1]; rfl
  ·by_cases hroom : es.length + bs.length ≤ cp
   ·left
    rw [h1] at hrun
    rw [Lib.run_append_room_string (P := P) w t u ty e inf q1 hu q2 q3 gb es.length cp cur h3 ⟨bs.toArray⟩ (by rw [hsz]; exact hroom) (by rw [hsz]; omega)] at hrun
    simp only [Result.ok.injEq] at hrun
    rw [← hrun.1, h1]; rfl
   ·right
    have holds : ∀ j u, xs[j]? = some u → w.cell? ((⟨gb, 0, none⟩ : Addr).add j) = some u := hown.cells (g := gb) (by rw [h1]; rfl)
    rw [h1] at hrun
    rw [Lib.run_append_grow_string (P := P) w t u ty e inf (.int .u8 0) q1 hu q2 hz ⟨gb, 0, none⟩ es.length cp xs (by rw [q3]; exact hown.1) holds ⟨bs.toArray⟩ (by rw [hsz]; omega) (by rw [hsz]; omega) (by rw [hsz, q4]; exact growslice_fits (by omega) (by omega))] at hrun
    simp only [Result.ok.injEq] at hrun
    rw [← hrun.1]; rfl
 have hcells : Lib.strCells ⟨bs.toArray⟩ = bs.map fun b => Value.int .u8 (b.toNat : Int) := by simp [Lib.strCells]
 rw [hcells, hsz] at hown'
 obtain ⟨g', C', I', hv', e'⟩ := I.regrow (v' := v') (x' := .row e 1 (es ++ bytesR bs)) hlk hv hl (blk_own hus) (blk_own hvs) hg hat (fun k hk' => (hown'.lt k hk').2) (fun C' g' ex hv hl =>
   ⟨v', xs ++ bs.map fun b => Value.int .u8 (b.toNat : Int), hv, hl, by rw [List.length_append]; simpa [bytesR] using hown', fun x hx => by
    rcases List.mem_append.1 hx with h | h
    ·exact hk x h
    ·obtain ⟨c, _, rfl⟩ := List.mem_map.1 h; rfl, append_cells ex hown.1 hk (fun x hx => by obtain ⟨c, _, rfl⟩ := List.mem_map.1 hx; rfl) hall (fun i j e' c x h1 h2 h3 => by
     simp only [bytesR, List.getElem?_map, Option.map_eq_some_iff] at h1
     obtain ⟨b, hb1, rfl⟩ := h1
     match j, h2 with
     | 0, h2 =>
      simp at h2
      subst h2
      simp only [Nat.mul_one, Nat.add_zero, List.getElem?_map, hb1, Option.map_some, Option.some.injEq] at h3
      subst h3
      exact .v _
     | j + 1, h2 => simp at h2) (fun x hx => by obtain ⟨c, _, rfl⟩ := List.mem_map.1 hx; rfl)⟩)
 exact ⟨v', w', g', C', hrun, hv', by subst hvs; rfl, I'⟩
end
section
variable {n : Nat} {S : St}
theorem Q3 {ops : List Oper} {t' : Nat} {t u e ty : TypeId} {x y : Operand} {pos : String} {after : Array Edge} {K : St → Prop} {s g : Nat} {es : List (List D)} {bs : List UInt8} (hd : t' < n) (hs : qW P t = some (e, 1, 1)) (hz : (P.info? e).bind (·.zero) = some (.int .u8 0)) (hu : P.underlying u = some .string)
  (hx : evK true S x fun d => d = .own s g) (hy : evK true S y fun d => d = .v (.string ⟨bs.toArray⟩)) (hrow : look S.heap s = some (g, .row e 1 es)) (hb : es.length + bs.length ≤ 140737488355328)
  (hk : ∀ g', K ((S.hput s g' (.row e 1 (es ++ bytesR bs))).put t' (.own s g'))) :
  AG P n ops ⟨some t', .call { callee := .builtin .append, args := #[x, y], argTypes := #[t, u] }, ty, pos, after, none⟩ S K := by
 intro w0 B C0 C a w E I N Q hN
 have hw : Region.wanted (⟨some t', .call { callee := .builtin .append, args := #[x, y], argTypes := #[t, u] }, ty, pos, after, none⟩ : Oper) (yielded ops.toArray a.tmps) = true := by simp [Region.wanted]
 rw [if_pos hw]
 obtain ⟨d, rfl, hrx⟩ := qE I hx
 obtain ⟨dy, rfl, hry⟩ := qE I hy
 have hyv := (hry rfl).v_inv
 have hrx := hrx rfl
 generalize hX : a.eval x = ux at hrx
 cases hrx with
 | own _ _ _ hv _ =>
  obtain ⟨v', w', g', C', hrun, hv', ho1, I'⟩ := appstr_own (ty := ty) I hs hz hu hrow hv hb
  refine wp_val (u := v') (w' := w') ?_ (hN _ _ ⟨_, C', hk g', I'.put hd (.own s g' _ hv' ho1)⟩)
  simp [execOp, resolve, invoke, builtin, hX, hyv, hrun]
end
end Go.Eng
namespace Go.Proofs.YtelhdhofnohkcaaGreatDoor
open Go.Eng Go.Fm
set_option maxRecDepth 20000
attribute [local irreducible] AG CallA CallT AWp PCall ACall AgC
theorem bytesR_app (a b : Bs) : bytesR (a ++ b) = bytesR a ++ bytesR b := by simp [bytesR]
theorem bytesR_len (a : Bs) : (bytesR a).length = a.length := by simp [bytesR]
theorem bytesR_D (a : Bs) : bytesD (bytesR a) = some a := bytesD_map a
theorem rfills_at {args : List Ag} {L : List Rf} {i : Nat} {f : Rf} (h : L[i]? = some f) (u : Nat) (out : Bs) :
  rfillsV args (L.drop i) u out = if (oneV args u f).2.1 ≠ 0 then ([], 0, (oneV args u f).2.1) else
   if 100000 < (out ++ (oneV args u f).1).length then ([], 0, 1) else rfillsV args (L.drop (i + 1)) (oneV args u f).2.2 (out ++ (oneV args u f).1) := by
 have hlt := (List.getElem?_eq_some_iff.1 h).1
 have e : L.drop i = f :: L.drop (i + 1) := by
  rw [List.drop_eq_getElem_cons hlt]
  rw [List.getElem?_eq_getElem hlt] at h
  simp at h; rw [h]
 rw [e, rfillsV]
theorem one_le {args : List Ag} {u : Nat} (h : u ≤ args.length) (f : Rf) : (oneV args u f).2.2 ≤ args.length := by
 unfold oneV
 split
 ·exact h
 ·exact fill_le h _
theorem one_len {args : List Ag} {u : Nat} {f : Rf} (hA : AgsOk args) (hf : RfOk f) (hb : f.by'.length ≤ 2000) : (oneV args u f).1.length ≤ 3000000 := by
 unfold oneV
 split
 ·simp only; omega
 ·rename_i h0
  exact fill_len hA ⟨⟨hf.1, hf.2.1⟩, hf.2.2, by simp [toFd]⟩
theorem read_by : ∀ (k : Nat) (s : Bs) (out L : List Rf) (nd ot a b : Nat), rReadF k s out nd ot = some (L, a, b) → s.length ≤ 2000 → (∀ f ∈ out, f.by'.length ≤ 2000) → ∀ f ∈ L, f.by'.length ≤ 2000 := by
 intro k
 induction k with
 | zero => intro s out L nd ot a b h; simp [rReadF] at h
 | succ k ih =>
  intro s out L nd ot a b h hsz hn
  rw [rReadF] at h
  split at h
  ·cases h; exact hn
  ·simp only at h
   split at h
   ·cases h
    intro f hf
    rcases List.mem_append.1 hf with hf | hf
    ·exact hn f hf
    ·rw [List.mem_singleton] at hf; subst hf; exact hsz
   ·have hdl : (s.drop (s.findIdx (· == 37) + 1)).length = s.length - (s.findIdx (· == 37) + 1) := List.length_drop
    have htl : (txF (s.take (s.findIdx (· == 37)))).by'.length ≤ 2000 := by
     show (s.take (s.findIdx (· == 37))).length ≤ 2000
     rw [List.length_take]; omega
    split at h
    ·refine ih _ _ _ _ _ _ _ h (by rw [List.length_tail]; omega) fun f hf => ?_
     simp only [List.mem_append, List.mem_singleton] at hf
     rcases hf with (hf | rfl) | rfl
     ·exact hn f hf
     ·exact htl
     ·simp [byF]
    ·split at h
     ·cases h
     ·rename_i f r hr
      have hl := (rfield_lt hr).2
      have hfb : f.by' = [] := rfield_by hr
      refine ih _ _ _ _ _ _ _ h (by omega) fun f' hf => ?_
      simp only [List.mem_append, List.mem_singleton] at hf
      rcases hf with (hf | rfl) | rfl
      ·exact hn f' hf
      ·exact htl
      ·rw [hfb]; simp
theorem wE {form : Bs} {L : List Rf} {a b : Nat} (h : rReadV form = some (L, a, b)) : ∀ f ∈ L, f.by'.length ≤ 2000 := by
 unfold rReadV at h
 split at h
 ·cases h
 ·exact read_by _ _ _ _ _ _ _ _ h (by omega) (by simp)
set_option maxHeartbeats 16000000 in
theorem jh (form : Bs) (args : List Ag) (hA : AgsOk args) (hfl : form.length ≤ 9223372036854775807) : PCall Tryz.prog 42 [dS form, dAs args] fun r => r = .tup [dS (runV form args).1, dI (runV form args).2.1, dI (runV form args).2.2] := by 
 refine qB Tryz.func42 rfl rfl Tryz.ntmps42 (rs := [.tmp 4, .tmp 5, .tmp 6]) (tys := [9, 3, 34]) rfl rfl (by simp) ?_
 have hR := zI form hfl
 have hal := hA.1
 rw [kX]
 cases hr : rReadV form with
 | none =>
  rw [hr] at hR
  simp only [rrR] at hR
  simp only
  (refine qc fun Y Yh => ?_; simp [go_sem]; ((repeat' (first|(refine qf ?_;simp [go_sem])|intro _|apply And.intro|(apply Yh;clear Yh Y)));all_goals first|apply QS|omega|with_reducible assumption|skip))
  (refine qc fun Y Yh => ?_; simp [go_sem]; ((repeat' (first|(refine qf ?_;simp [go_sem])|intro _|apply And.intro|(apply Yh;clear Yh Y)));all_goals first|apply QS|omega|with_reducible assumption|skip))
  ((try refine QT ?_); refine qm (.inl ⟨rfl,rfl⟩) (by simp [go_sem]) ?_; intro args ha; simp [go_sem] at ha; subst ha; refine ⟨_, hR, ?_⟩; rintro _ rfl; simp [go_sem]; ((repeat' (first|(refine qf ?_;simp [go_sem])|intro _|apply And.intro|(apply Yh;clear Yh Y)));all_goals first|apply QS|omega|with_reducible assumption|skip))
  refine qh fun K1 hK1 => ?_
  (refine qc fun Y Yh => ?_; simp [go_sem]; ((repeat' (first|(refine qf ?_;simp [go_sem])|intro _|apply And.intro|(apply Yh;clear Yh Y)));all_goals first|apply QS|omega|with_reducible assumption|skip))
  (refine qg fun T F hT hF => ?_; simp [go_sem]; refine hT ?_; clear hT hF T F)
  (refine qc fun Y Yh => ?_; simp [go_sem]; ((repeat' (first|(refine qf ?_;simp [go_sem])|intro _|apply And.intro|(apply Yh;clear Yh Y)));all_goals first|apply QS|omega|with_reducible assumption|skip))
  (refine qj ?_; simp [go_sem])
 | some q =>
  obtain ⟨L, a, b⟩ := q
  obtain ⟨hok, hLl⟩ := zV hr
  have hby := wE hr
  rw [hr] at hR
  simp only [rrR] at hR
  simp only
  by_cases hab : 0 < a ∧ 0 < b
  ·have hb : (decide (a = 0) || decide (b = 0)) = false := by
    rw [Bool.or_eq_false_iff, decide_eq_false_iff_not, decide_eq_false_iff_not]; omega
   rw [hb] at hR
   rw [if_pos hab]
   (refine qc fun Y Yh => ?_; simp [go_sem]; ((repeat' (first|(refine qf ?_;simp [go_sem])|intro _|apply And.intro|(apply Yh;clear Yh Y)));all_goals first|apply QS|omega|with_reducible assumption|skip))
   (refine qc fun Y Yh => ?_; simp [go_sem]; ((repeat' (first|(refine qf ?_;simp [go_sem])|intro _|apply And.intro|(apply Yh;clear Yh Y)));all_goals first|apply QS|omega|with_reducible assumption|skip))
   ((try refine QT ?_); refine qm (.inl ⟨rfl,rfl⟩) (by simp [go_sem]) ?_; intro args ha; simp [go_sem] at ha; subst ha; refine ⟨_, hR, ?_⟩; rintro _ rfl; simp [go_sem]; ((repeat' (first|(refine qf ?_;simp [go_sem])|intro _|apply And.intro|(apply Yh;clear Yh Y)));all_goals first|apply QS|omega|with_reducible assumption|skip))
   refine qh fun K1 hK1 => ?_
   (refine qc fun Y Yh => ?_; simp [go_sem]; ((repeat' (first|(refine qf ?_;simp [go_sem])|intro _|apply And.intro|(apply Yh;clear Yh Y)));all_goals first|apply QS|omega|with_reducible assumption|skip))
   (refine qg fun T F hT hF => ?_; simp [go_sem]; refine hT ?_; clear hT hF T F)
   (refine qc fun Y Yh => ?_; simp [go_sem]; ((repeat' (first|(refine qf ?_;simp [go_sem])|intro _|apply And.intro|(apply Yh;clear Yh Y)));all_goals first|apply QS|omega|with_reducible assumption|skip))
   (refine qj ?_; simp [go_sem])
  ·have hb : (decide (a = 0) || decide (b = 0)) = true := by
    rw [Bool.or_eq_true, decide_eq_true_eq, decide_eq_true_eq]; omega
   rw [hb] at hR
   rw [if_neg hab]
   generalize decide (0 < a) = nb at *
   generalize hV : rfillsV args L 0 [] = V
   (refine qc fun Y Yh => ?_; simp [go_sem]; ((repeat' (first|(refine qf ?_;simp [go_sem])|intro _|apply And.intro|(apply Yh;clear Yh Y)));all_goals first|apply QS|omega|with_reducible assumption|skip))
   (refine qc fun Y Yh => ?_; simp [go_sem]; ((repeat' (first|(refine qf ?_;simp [go_sem])|intro _|apply And.intro|(apply Yh;clear Yh Y)));all_goals first|apply QS|omega|with_reducible assumption|skip))
   ((try refine QT ?_); refine qm (.inl ⟨rfl,rfl⟩) (by simp [go_sem]) ?_; intro args ha; simp [go_sem] at ha; subst ha; refine ⟨_, hR, ?_⟩; rintro _ rfl; simp [go_sem]; ((repeat' (first|(refine qf ?_;simp [go_sem])|intro _|apply And.intro|(apply Yh;clear Yh Y)));all_goals first|apply QS|omega|with_reducible assumption|skip))
   refine qh fun K1 hK1 => ?_
   (refine qc fun Y Yh => ?_; simp [go_sem]; ((repeat' (first|(refine qf ?_;simp [go_sem])|intro _|apply And.intro|(apply Yh;clear Yh Y)));all_goals first|apply QS|omega|with_reducible assumption|skip))
   (refine qg fun T F hT hF => ?_; simp [go_sem]; refine hF ?_; clear hT hF T F)
   refine qi ?_
   refine hK1 _ ?_; clear hK1
   (refine qc fun Y Yh => ?_; simp [go_sem]; ((repeat' (first|(refine qf ?_;simp [go_sem])|intro _|apply And.intro|(apply Yh;clear Yh Y)));all_goals first|apply QS|omega|with_reducible assumption|skip))
   refine zA 10 10 5 1 rfl fun go => ?_
   simp only [go_sem]
   (refine qc fun Y Yh => ?_; simp [go_sem]; ((repeat' (first|(refine qf ?_;simp [go_sem])|intro _|apply And.intro|(apply Yh;clear Yh Y)));all_goals first|apply QS|omega|with_reducible assumption|skip))
   refine zf 11 900006 rfl rfl (by decide) fun g => ?_
   simp only [go_sem]
   refine qh fun K3 hK3 => ?_
   (refine qc fun Y Yh => ?_; simp [go_sem]; ((repeat' (first|(refine qf ?_;simp [go_sem])|intro _|apply And.intro|(apply Yh;clear Yh Y)));all_goals first|apply QS|omega|with_reducible assumption|skip))
   refine qo ?_
   refine qM (σ := Nat × Bs × Nat × Nat) (fun x => ⟨[(1, dAs args), (7, dRfs L), (10, .own 10 x.2.2.2), (11, .ptr 900006 g 0), (12, dI x.1)], [usB g x.2.2.1, (10, (x.2.2.2, .row 5 1 (bytesR x.2.1)))]⟩)
    (fun x => x.1 ≤ L.length ∧ x.2.1.length ≤ 100000 ∧ x.2.2.1 ≤ args.length ∧ rfillsV args (L.drop x.1) x.2.2.1 x.2.1 = V) (fun x => L.length - x.1) (0, [], 0, go) ?_ ?_ ?_
   ·(refine ql ?_ ?_ <;> simp [go_sem, bytesR])
   ·exact ⟨by simp, by simp, by simp, by simpa using hV⟩
   rintro ⟨i, out, u, go⟩ ⟨hi, ho, hu, hx⟩
   simp only at hi ho hu hx ⊢
   refine qh fun K4 hK4 => ?_
   (refine qc fun Y Yh => ?_; simp [go_sem]; ((repeat' (first|(refine qf ?_;simp [go_sem])|intro _|apply And.intro|(apply Yh;clear Yh Y)));all_goals first|apply QS|omega|with_reducible assumption|skip))
   by_cases hend : i < L.length
   ·(refine qg fun T F hT hF => ?_; simp [go_sem, hend]; refine hT ?_; clear hT hF T F)
    refine qi ?_
    refine hK4 _ ?_; clear hK4
    obtain ⟨f, hf⟩ : ∃ f, L[i]? = some f := ⟨_, List.getElem?_eq_getElem hend⟩
    have hfm := List.mem_of_getElem? hf
    rw [rfills_at hf] at hx
    have hfle := one_le hu f
    have hflen := one_len (u := u) hA (hok f hfm) (hby f hfm)
    have hFd := Ql args u g f hA hu (hok f hfm)
    generalize oneV args u f = q at *
    obtain ⟨t, e, u'⟩ := q
    simp only at hx hfle hflen hFd
    refine qh fun K6 hK6 => ?_
    refine qo ?_
    (refine qc fun Y Yh => ?_; simp [go_sem, hf]; ((repeat' (first|(refine qf ?_;simp [go_sem, hf])|intro _|apply And.intro|(apply Yh;clear Yh Y)));all_goals first|apply QS|omega|with_reducible assumption|skip))
    (refine qN [900006] (.inl ⟨rfl,rfl⟩) (by simp [go_sem]) ?_; intro args ha; simp [go_sem] at ha; subst ha; refine ⟨_, _, hFd, (by simp [go_sem]), ?_⟩; rintro ps r hps ⟨rfl, rfl⟩; simp [go_sem]; ((repeat' (first|(refine qf ?_;simp [go_sem])|intro _|apply And.intro|(apply Yh;clear Yh Y)));all_goals first|apply QS|omega|with_reducible assumption|skip))
    refine qh fun K7 hK7 => ?_
    (refine qc fun Y Yh => ?_; simp [go_sem]; ((repeat' (first|(refine qf ?_;simp [go_sem])|intro _|apply And.intro|(apply Yh;clear Yh Y)));all_goals first|apply QS|omega|with_reducible assumption|skip))
    by_cases he : e = 0
    ·subst he
     rw [if_neg (fun q => q rfl)] at hx
     (refine qg fun T F hT hF => ?_; simp [go_sem]; refine hF ?_; clear hT hF T F)
     refine qi ?_
     refine hK7 _ ?_; clear hK7
     refine zk ?_
     refine zG ?_
     simp only [AGs]
     refine qp rfl ?_
     simp [go_sem]
     refine qp rfl ?_
     simp [go_sem]
     refine Q3 (t := 68) (u := 9) (e := 5) (s := 10) (g := go) (es := bytesR out) (bs := t) (by decide) (by kernel_rfl) (by kernel_rfl) Tryz.underlying9 (by simp [go_sem]) (by simp [go_sem]) (by simp [go_sem]) (by rw [bytesR_len]; omega) fun go' => ?_
     rw [← bytesR_app]
     simp [go_sem]
     refine qp rfl ?_
     simp [go_sem]
     (refine qc fun Y Yh => ?_; simp [go_sem, bytesR_len]; ((repeat' (first|(refine qf ?_;simp [go_sem, bytesR_len])|intro _|apply And.intro|(apply Yh;clear Yh Y)));all_goals first|apply QS|omega|with_reducible assumption|skip))
     have hlz : (out ++ t).length = out.length + t.length := List.length_append
     by_cases h1 : 100000 < (out ++ t).length
     ·rw [if_pos h1] at hx
      subst hx
      have h1' : (100000 : Int) < (out.length : Int) + t.length := by omega
      (refine qg fun T F hT hF => ?_; simp [go_sem, h1']; refine hT ?_; clear hT hF T F)
      (refine qc fun Y Yh => ?_; simp [go_sem]; ((repeat' (first|(refine qf ?_;simp [go_sem])|intro _|apply And.intro|(apply Yh;clear Yh Y)));all_goals first|apply QS|omega|with_reducible assumption|skip))
      (refine qj ?_; simp [go_sem])
     ·rw [if_neg h1] at hx
      have h1' : ¬ (100000 : Int) < (out.length : Int) + t.length := by omega
      (refine qg fun T F hT hF => ?_; simp [go_sem, h1']; refine hF ?_; clear hT hF T F)
      refine qi ?_
      refine hK6 _ ?_; clear hK6
      (refine qx fun Y Yh => ?_; simp [go_sem]; ((repeat' (first|(refine qf ?_;simp [go_sem])|intro _|apply And.intro|(apply Yh;clear Yh Y)));all_goals first|apply QS|omega|with_reducible assumption|skip))
      refine ⟨(i + 1, out ++ t, u', go'), ?_, ⟨by simp only; omega, by simp only; omega, hfle, hx⟩, by simp only; omega⟩
      (refine ql ?_ ?_ <;> simp [go_sem])
    ·rw [if_pos he] at hx
     subst hx
     (refine qg fun T F hT hF => ?_; simp [go_sem, he]; refine hT ?_; clear hT hF T F)
     (refine qc fun Y Yh => ?_; simp [go_sem]; ((repeat' (first|(refine qf ?_;simp [go_sem])|intro _|apply And.intro|(apply Yh;clear Yh Y)));all_goals first|apply QS|omega|with_reducible assumption|skip))
     (refine qj ?_; simp [go_sem])
   ·have hi2 : i = L.length := by omega
    subst hi2
    rw [List.drop_length] at hx
    unfold rfillsV at hx
    subst hx
    have hD := bytesR_D out
    (refine qg fun T F hT hF => ?_; simp [go_sem]; refine hF ?_; clear hT hF T F)
    refine qH ?_
    simp only [go_sem]
    refine hK3 _ ?_; clear hK3
    ((refine qX (.qs [0] (.kq 2 (.one 1 (.qs [3, 4, 5] (.nil))) 1 (.qs [2, 3, 4, 5] (.nil)))) (by kernel_rfl) ?_ ?_ ?_ ?_); (kernel_rfl); (exact (by decide +kernel)); (kernel_rfl); intro Y Yh; ((repeat' (first|(refine qf ?_;simp [go_sem, hD])|refine qC ?_|refine jc ?_ ?_|((first|refine qJ fun Y Yh=>?_|refine qR fun Y Yh=>?_);simp [go_sem, hD])|intro _|apply And.intro|(apply Yh;clear Yh Y)));all_goals first|apply QS|omega|with_reducible assumption|skip))
    all_goals (refine qj ?_; simp [go_sem])
end Go.Proofs.YtelhdhofnohkcaaGreatDoor
