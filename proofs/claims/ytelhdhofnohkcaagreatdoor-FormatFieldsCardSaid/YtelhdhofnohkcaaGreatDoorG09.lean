/- Part of a proof: see the last text. -/
import Derived.Test.YtelhdhofnohkcaaGreatDoorG08
import Derived.Test.YtelhdhofnohkcaaGreatDoorG07
import Derived.Test.YtelhdhofnohkcaaGreatDoorG06
import Derived.Lib.AppendIntMem
import Derived.BigCall
import Derived.BigGuard
set_option linter.unusedVariables false
set_option linter.unusedSimpArgs false
namespace Go.Proofs.YtelhdhofnohkcaaGreatDoor
open Go.Eng Go.Fm
set_option maxRecDepth 20000
attribute [local irreducible] AG CallA CallT AWp PCall ACall AgC
theorem zo (s : Bs) (c : UInt8) : PCall Tryz.prog 101 [dS s, dS [c]] fun r => r = dB (s.contains c) := by
 refine qV ⟨_, Tryz.func101, rfl, rfl⟩ fun C w us hc hg hr => ?_
 obtain rfl := repL_v (us := [.string ⟨s.toArray⟩, .string ⟨[c].toArray⟩]) hr
 refine (Tryz.strings_Contains_one ⟨s.toArray⟩ c w).mono ?_
 rintro e w' ⟨rfl, rfl⟩
 refine ⟨_, _, rfl, ?_, .v _, RowKit.Below.refl _ _⟩
 have e : decide (0 ≤ Lib.indexByte (⟨s.toArray⟩ : ByteArray).data.toList c) = s.contains c := by
  have h1 : (⟨s.toArray⟩ : ByteArray).data.toList = s := by simp
  rw [h1, indexByte_find, Bool.eq_iff_iff, decide_eq_true_eq]
  exact idx_has s c
 rw [e]
def filV (s : Bs) (w : Int) (l : Bool) : Bs := if w - s.length ≤ 0 then s else if l then s ++ rep 32 (w - s.length) else rep 32 (w - s.length) ++ s
theorem Qu (f : Fld) (s : Bs) : paddedV f s = filV s f.wd f.lf := rfl
set_option maxHeartbeats 8000000 in
theorem je (s : Bs) (w : Int) (l : Bool) (hl : s.length ≤ 1000000000) (hw : w ≤ 1000000) (hw2 : -1000000 ≤ w) : PCall Tryz.prog 40 [dS s, dI w, dB l] fun r => r = dS (filV s w l) := by 
 refine qB Tryz.func40 rfl rfl Tryz.ntmps40 (rs := [.tmp 6]) (tys := [9]) rfl rfl (by simp) ?_
 let T : Nat → Bs := fun x => if l then s ++ List.replicate x 32 else List.replicate x 32 ++ s
 have hT : ∀ x, T x = if l then s ++ List.replicate x 32 else List.replicate x 32 ++ s := fun _ => rfl
 have hTl : ∀ x, (T x).length = s.length + x := fun x => by rw [hT]; split <;> simp <;> omega
 have hT0 : T 0 = s := by rw [hT]; simp
 have hTs : ∀ x, T (x + 1) = if l then T x ++ [32] else 32 :: T x := fun x => by
  rw [hT, hT]
  cases l <;> simp [List.replicate_succ, List.replicate_succ']
  rw [← List.replicate_succ, List.replicate_succ']
 have hV : filV s w l = T (w - s.length).toNat := by
  rw [hT]
  unfold filV rep
  by_cases h : w - s.length ≤ 0
  ·rw [if_pos h, show (w - (s.length : Int)).toNat = 0 by omega]; simp
  ·rw [if_neg h]
 rw [hV]
 clear hV hT
 generalize T = T at *
 rw [← hT0]
 have e0 : (T 0).length = s.length := by rw [hT0]
 rw [e0]
 (refine qc fun Y Yh => ?_; simp [go_sem]; ((repeat' (first|(refine qf ?_;simp [go_sem])|intro _|apply And.intro|(apply Yh;clear Yh Y)));all_goals first|apply QS|omega|with_reducible assumption|skip))
 refine qh fun K1 hK1 => ?_
 refine qo ?_
 refine qM (σ := Nat) (fun x => ⟨[(0, dS (T x)), (1, dI w), (2, dB l)], []⟩) (fun x => x ≤ (w - s.length).toNat) (fun x => (w - s.length).toNat - x) 0 ?_ ?_ ?_
 ·(refine ql ?_ ?_ <;> simp [go_sem])
 ·simp
 intro x hx
 refine qh fun K2 hK2 => ?_
 have hsz := hTl x
 have hst := hTs x
 (refine qc fun Y Yh => ?_; simp [go_sem, ba_size, hsz]; ((repeat' (first|(refine qf ?_;simp [go_sem, ba_size, hsz])|intro _|apply And.intro|(apply Yh;clear Yh Y)));all_goals first|apply QS|omega|with_reducible assumption|skip))
 by_cases h3 : (s.length : Int) + x < w
 ·(refine qg fun T F hT hF => ?_; simp [go_sem, h3]; refine hT ?_; clear hT hF T F)
  refine qi ?_
  refine hK2 _ ?_; clear hK2
  refine qo ?_
  (refine qc fun Y Yh => ?_; simp [go_sem]; ((repeat' (first|(refine qf ?_;simp [go_sem])|intro _|apply And.intro|(apply Yh;clear Yh Y)));all_goals first|apply QS|omega|with_reducible assumption|skip))
  cases l with
  | true =>
   (refine qg fun T F hT hF => ?_; simp [go_sem]; refine hT ?_; clear hT hF T F)
   (refine qx fun Y Yh => ?_; simp [go_sem, ba_app, ba_size, hsz]; ((repeat' (first|(refine qf ?_;simp [go_sem, ba_app, ba_size, hsz])|intro _|apply And.intro|(apply Yh;clear Yh Y)));all_goals first|apply QS|omega|with_reducible assumption|skip))
   refine ⟨x + 1, ?_, by omega, by omega⟩
   rw [hst]
   (refine ql ?_ ?_ <;> simp [go_sem])
  | false =>
   (refine qg fun T F hT hF => ?_; simp [go_sem]; refine hF ?_; clear hT hF T F)
   (refine qx fun Y Yh => ?_; simp [go_sem, ba_app, ba_size, hsz]; ((repeat' (first|(refine qf ?_;simp [go_sem, ba_app, ba_size, hsz])|intro _|apply And.intro|(apply Yh;clear Yh Y)));all_goals first|apply QS|omega|with_reducible assumption|skip))
   refine ⟨x + 1, ?_, by omega, by omega⟩
   rw [hst]
   (refine ql ?_ ?_ <;> simp [go_sem])
 ·(refine qg fun T F hT hF => ?_; simp [go_sem, h3]; refine hF ?_; clear hT hF T F)
  refine qH ?_
  simp only [go_sem]
  refine hK1 _ ?_; clear hK1
  have hx : x = (w - s.length).toNat := by omega
  subst hx
  (refine qc fun Y Yh => ?_; simp [go_sem]; ((repeat' (first|(refine qf ?_;simp [go_sem])|intro _|apply And.intro|(apply Yh;clear Yh Y)));all_goals first|apply QS|omega|with_reducible assumption|skip))
  (refine qj ?_; simp [go_sem])
theorem vg (c : UInt8) : PCall Tryz.prog 167 [dU c] fun r => r = dI (baseV c : Nat) := by 
 refine qB Tryz.func167 rfl rfl Tryz.ntmps167 (rs := [.tmp 2]) (tys := [3]) rfl rfl (by simp) ?_
 have b1 : decide ((c.toNat : Int) = 100) = decide (c = 100) := u8_eqb _ 100 (by decide)
 have b2 : decide ((c.toNat : Int) = 111) = decide (c = 111) := u8_eqb _ 111 (by decide)
 have b3 : decide ((c.toNat : Int) = 98) = decide (c = 98) := u8_eqb _ 98 (by decide)
 unfold baseV
 (refine qc fun Y Yh => ?_; simp [go_sem]; ((repeat' (first|(refine qf ?_;simp [go_sem])|intro _|apply And.intro|(apply Yh;clear Yh Y)));all_goals first|apply QS|omega|with_reducible assumption|skip))
 refine qh fun K1 hK1 => ?_
 (refine qc fun Y Yh => ?_; simp [go_sem]; ((repeat' (first|(refine qf ?_;simp [go_sem])|intro _|apply And.intro|(apply Yh;clear Yh Y)));all_goals first|apply QS|omega|with_reducible assumption|skip))
 refine qo ?_
 (refine qc fun Y Yh => ?_; simp [go_sem, b1]; ((repeat' (first|(refine qf ?_;simp [go_sem, b1])|intro _|apply And.intro|(apply Yh;clear Yh Y)));all_goals first|apply QS|omega|with_reducible assumption|skip))
 by_cases h1 : c = 100
 ·(refine qg fun T F hT hF => ?_; simp [go_sem, h1]; refine hT ?_; clear hT hF T F)
  (refine qc fun Y Yh => ?_; simp [go_sem]; ((repeat' (first|(refine qf ?_;simp [go_sem])|intro _|apply And.intro|(apply Yh;clear Yh Y)));all_goals first|apply QS|omega|with_reducible assumption|skip))
  (refine qj ?_; simp [go_sem, h1])
 ·(refine qg fun T F hT hF => ?_; simp [go_sem, h1]; refine hF ?_; clear hT hF T F)
  (refine qc fun Y Yh => ?_; simp [go_sem, b2]; ((repeat' (first|(refine qf ?_;simp [go_sem, b2])|intro _|apply And.intro|(apply Yh;clear Yh Y)));all_goals first|apply QS|omega|with_reducible assumption|skip))
  by_cases h2 : c = 111
  ·(refine qg fun T F hT hF => ?_; simp [go_sem, h2]; refine hT ?_; clear hT hF T F)
   (refine qc fun Y Yh => ?_; simp [go_sem]; ((repeat' (first|(refine qf ?_;simp [go_sem])|intro _|apply And.intro|(apply Yh;clear Yh Y)));all_goals first|apply QS|omega|with_reducible assumption|skip))
   (refine qj ?_; simp [go_sem, h2])
  ·(refine qg fun T F hT hF => ?_; simp [go_sem, h2]; refine hF ?_; clear hT hF T F)
   (refine qc fun Y Yh => ?_; simp [go_sem, b3]; ((repeat' (first|(refine qf ?_;simp [go_sem, b3])|intro _|apply And.intro|(apply Yh;clear Yh Y)));all_goals first|apply QS|omega|with_reducible assumption|skip))
   by_cases h3 : c = 98
   ·(refine qg fun T F hT hF => ?_; simp [go_sem, h3]; refine hT ?_; clear hT hF T F)
    (refine qc fun Y Yh => ?_; simp [go_sem]; ((repeat' (first|(refine qf ?_;simp [go_sem])|intro _|apply And.intro|(apply Yh;clear Yh Y)));all_goals first|apply QS|omega|with_reducible assumption|skip))
    (refine qj ?_; simp [go_sem, h3])
   ·(refine qg fun T F hT hF => ?_; simp [go_sem, h3]; refine hF ?_; clear hT hF T F)
    refine qi ?_
    refine hK1 _ ?_; clear hK1
    (refine qc fun Y Yh => ?_; simp [go_sem]; ((repeat' (first|(refine qf ?_;simp [go_sem])|intro _|apply And.intro|(apply Yh;clear Yh Y)));all_goals first|apply QS|omega|with_reducible assumption|skip))
    (refine qj ?_; simp [go_sem, h1, h2, h3])
theorem xC (c : UInt8) (d : Bs) : PCall Tryz.prog 168 [dU c, dS d] fun r => r = dS (Fm.preV c d) := by 
 refine qB Tryz.func168 rfl rfl Tryz.ntmps168 (rs := [.tmp 4]) (tys := [9]) rfl rfl (by simp) ?_
 have b1 : decide ((c.toNat : Int) = 120) = decide (c = 120) := u8_eqb _ 120 (by decide)
 have b2 : decide ((c.toNat : Int) = 88) = decide (c = 88) := u8_eqb _ 88 (by decide)
 have b3 : decide ((c.toNat : Int) = 98) = decide (c = 98) := u8_eqb _ 98 (by decide)
 have b4 : decide ((c.toNat : Int) = 111) = decide (c = 111) := u8_eqb _ 111 (by decide)
 have hP := zn d [48]
 rw [pre_pk 48 d (by decide)] at hP
 have hpk : pk d = 48 ↔ d.head? = some 48 := by
  cases d with
  | nil => simp [pk]
  | cons a b => simp [pk]
 generalize hV : Fm.preV c d = V
 unfold Fm.preV at hV
 (refine qc fun Y Yh => ?_; simp [go_sem]; ((repeat' (first|(refine qf ?_;simp [go_sem])|intro _|apply And.intro|(apply Yh;clear Yh Y)));all_goals first|apply QS|omega|with_reducible assumption|skip))
 refine qh fun K1 hK1 => ?_
 have tl1 : ∀ S', V = [] → Cov S' ⟨[], []⟩ → K1 S' := fun S' hv hS => by
  refine hK1 _ ?_; clear hK1
  refine qG hS ?_; clear hS
  (refine qc fun Y Yh => ?_; simp [go_sem]; ((repeat' (first|(refine qf ?_;simp [go_sem])|intro _|apply And.intro|(apply Yh;clear Yh Y)));all_goals first|apply QS|omega|with_reducible assumption|skip))
  (refine qj ?_; simp [go_sem, hv])
 clear hK1
 (refine qc fun Y Yh => ?_; simp [go_sem]; ((repeat' (first|(refine qf ?_;simp [go_sem])|intro _|apply And.intro|(apply Yh;clear Yh Y)));all_goals first|apply QS|omega|with_reducible assumption|skip))
 refine qo ?_
 (refine qc fun Y Yh => ?_; simp [go_sem, b1]; ((repeat' (first|(refine qf ?_;simp [go_sem, b1])|intro _|apply And.intro|(apply Yh;clear Yh Y)));all_goals first|apply QS|omega|with_reducible assumption|skip))
 by_cases h1 : c = 120
 ·rw [if_pos h1] at hV
  (refine qg fun T F hT hF => ?_; simp [go_sem, h1]; refine hT ?_; clear hT hF T F)
  (refine qc fun Y Yh => ?_; simp [go_sem]; ((repeat' (first|(refine qf ?_;simp [go_sem])|intro _|apply And.intro|(apply Yh;clear Yh Y)));all_goals first|apply QS|omega|with_reducible assumption|skip))
  (refine qj ?_; simp [go_sem, hV.symm])
 ·rw [if_neg h1] at hV
  (refine qg fun T F hT hF => ?_; simp [go_sem, h1]; refine hF ?_; clear hT hF T F)
  (refine qc fun Y Yh => ?_; simp [go_sem, b2]; ((repeat' (first|(refine qf ?_;simp [go_sem, b2])|intro _|apply And.intro|(apply Yh;clear Yh Y)));all_goals first|apply QS|omega|with_reducible assumption|skip))
  by_cases h2 : c = 88
  ·rw [if_pos h2] at hV
   (refine qg fun T F hT hF => ?_; simp [go_sem, h2]; refine hT ?_; clear hT hF T F)
   (refine qc fun Y Yh => ?_; simp [go_sem]; ((repeat' (first|(refine qf ?_;simp [go_sem])|intro _|apply And.intro|(apply Yh;clear Yh Y)));all_goals first|apply QS|omega|with_reducible assumption|skip))
   (refine qj ?_; simp [go_sem, hV.symm])
  ·rw [if_neg h2] at hV
   (refine qg fun T F hT hF => ?_; simp [go_sem, h2]; refine hF ?_; clear hT hF T F)
   (refine qc fun Y Yh => ?_; simp [go_sem, b3]; ((repeat' (first|(refine qf ?_;simp [go_sem, b3])|intro _|apply And.intro|(apply Yh;clear Yh Y)));all_goals first|apply QS|omega|with_reducible assumption|skip))
   by_cases h3 : c = 98
   ·rw [if_pos h3] at hV
    (refine qg fun T F hT hF => ?_; simp [go_sem, h3]; refine hT ?_; clear hT hF T F)
    (refine qc fun Y Yh => ?_; simp [go_sem]; ((repeat' (first|(refine qf ?_;simp [go_sem])|intro _|apply And.intro|(apply Yh;clear Yh Y)));all_goals first|apply QS|omega|with_reducible assumption|skip))
    (refine qj ?_; simp [go_sem, hV.symm])
   ·rw [if_neg h3] at hV
    (refine qg fun T F hT hF => ?_; simp [go_sem, h3]; refine hF ?_; clear hT hF T F)
    (refine qc fun Y Yh => ?_; simp [go_sem, b4]; ((repeat' (first|(refine qf ?_;simp [go_sem, b4])|intro _|apply And.intro|(apply Yh;clear Yh Y)));all_goals first|apply QS|omega|with_reducible assumption|skip))
    by_cases h4 : c = 111
    ·(refine qg fun T F hT hF => ?_; simp [go_sem, h4]; refine hT ?_; clear hT hF T F)
     (refine qc fun Y Yh => ?_; simp [go_sem]; ((repeat' (first|(refine qf ?_;simp [go_sem])|intro _|apply And.intro|(apply Yh;clear Yh Y)));all_goals first|apply QS|omega|with_reducible assumption|skip))
     ((try refine QT ?_); refine qm (.inl ⟨rfl,rfl⟩) (by simp [go_sem]) ?_; intro args ha; simp [go_sem] at ha; subst ha; refine ⟨_, hP, ?_⟩; rintro _ rfl; simp [go_sem]; ((repeat' (first|(refine qf ?_;simp [go_sem])|intro _|apply And.intro|(apply Yh;clear Yh Y)));all_goals first|apply QS|omega|with_reducible assumption|skip))
     by_cases h5 : pk d = 48
     ·rw [if_neg (by rintro ⟨_, q⟩; exact q (hpk.1 h5))] at hV
      (refine qg fun T F hT hF => ?_; simp [go_sem, h5]; refine hF ?_; clear hT hF T F)
      refine qi ?_
      refine tl1 _ hV.symm ?_
      (refine ql ?_ ?_ <;> simp [go_sem])
     ·rw [if_pos ⟨h4, fun q => h5 (hpk.2 q)⟩] at hV
      (refine qg fun T F hT hF => ?_; simp [go_sem, h5]; refine hT ?_; clear hT hF T F)
      (refine qc fun Y Yh => ?_; simp [go_sem]; ((repeat' (first|(refine qf ?_;simp [go_sem])|intro _|apply And.intro|(apply Yh;clear Yh Y)));all_goals first|apply QS|omega|with_reducible assumption|skip))
      (refine qj ?_; simp [go_sem, hV.symm])
    ·rw [if_neg (fun q => h4 q.1)] at hV
     (refine qg fun T F hT hF => ?_; simp [go_sem, h4]; refine hF ?_; clear hT hF T F)
     refine qi ?_
     refine tl1 _ hV.symm ?_
     (refine ql ?_ ?_ <;> simp [go_sem])
theorem kY (a : Ag) (h : InR a.int) : PCall Tryz.prog 132 [dA a] fun r => r = dS (textV a) := by 
 refine qB Tryz.func132 rfl rfl Tryz.ntmps132 (rs := [.tmp 2]) (tys := [9]) rfl rfl (by simp) ?_
 unfold textV
 cases hi : a.is with
 | true =>
  (refine qc fun Y Yh => ?_; simp [go_sem, hi]; ((repeat' (first|(refine qf ?_;simp [go_sem, hi])|intro _|apply And.intro|(apply Yh;clear Yh Y)));all_goals first|apply QS|omega|with_reducible assumption|skip))
  refine qh fun K1 hK1 => ?_
  (refine qc fun Y Yh => ?_; simp [go_sem]; ((repeat' (first|(refine qf ?_;simp [go_sem])|intro _|apply And.intro|(apply Yh;clear Yh Y)));all_goals first|apply QS|omega|with_reducible assumption|skip))
  (refine qg fun T F hT hF => ?_; simp [go_sem]; refine hT ?_; clear hT hF T F)
  (refine qc fun Y Yh => ?_; simp [go_sem]; ((repeat' (first|(refine qf ?_;simp [go_sem])|intro _|apply And.intro|(apply Yh;clear Yh Y)));all_goals first|apply QS|omega|with_reducible assumption|skip))
  (refine qj ?_; simp [go_sem])
 | false =>
  (refine qc fun Y Yh => ?_; simp [go_sem, hi]; ((repeat' (first|(refine qf ?_;simp [go_sem, hi])|intro _|apply And.intro|(apply Yh;clear Yh Y)));all_goals first|apply QS|omega|with_reducible assumption|skip))
  refine qh fun K1 hK1 => ?_
  (refine qc fun Y Yh => ?_; simp [go_sem]; ((repeat' (first|(refine qf ?_;simp [go_sem])|intro _|apply And.intro|(apply Yh;clear Yh Y)));all_goals first|apply QS|omega|with_reducible assumption|skip))
  (refine qg fun T F hT hF => ?_; simp [go_sem]; refine hF ?_; clear hT hF T F)
  refine qi ?_
  refine hK1 _ ?_; clear hK1
  (refine qc fun Y Yh => ?_; simp [go_sem]; ((repeat' (first|(refine qf ?_;simp [go_sem])|intro _|apply And.intro|(apply Yh;clear Yh Y)));all_goals first|apply QS|omega|with_reducible assumption|skip))
  ((try refine QT ?_); refine qm (.inl ⟨rfl,rfl⟩) (by simp [go_sem]) ?_; intro args ha; simp [go_sem] at ha; subst ha; refine ⟨_, (zC a.int h), ?_⟩; rintro _ rfl; simp [go_sem]; ((repeat' (first|(refine qf ?_;simp [go_sem])|intro _|apply And.intro|(apply Yh;clear Yh Y)));all_goals first|apply QS|omega|with_reducible assumption|skip))
  (refine qj ?_; simp [go_sem])
set_option maxHeartbeats 8000000 in
theorem xB (s : Bs) (hl : s.length ≤ 1100000) : PCall Tryz.prog 133 [dS s] fun r => r = dS (quoV s) := by 
 refine qB Tryz.func133 rfl rfl Tryz.ntmps133 (rs := [.tmp 2]) (tys := [9]) rfl rfl (by simp) ?_
 have hq := xK s
 let T : Nat → Bs := fun i => 34 :: qF (s.take i)
 have hT0 : T 0 = [34] := by show 34 :: qF (s.take 0) = _; rw [List.take_zero, qF_nil]
 have hTe : T s.length ++ [34] = quoV s := by show 34 :: qF (s.take s.length) ++ [34] = _; rw [List.take_length, hq]
 have hTs : ∀ i (h : i < s.length), T (i + 1) = T i ++ quoC s[i] := fun i h => by show 34 :: qF (s.take (i + 1)) = 34 :: qF (s.take i) ++ _; rw [qF_take h]; rfl
 have hTl : ∀ i, (T i).length ≤ 3000000 := fun i => by
  show (34 :: qF (s.take i)).length ≤ _
  have h1 := qF_le s i
  have h2 := qF_len s
  have h3 := cntS_le s
  simp only [List.length_cons]; omega
 rw [← hTe]
 clear hq hTe
 generalize T = T at *
 (refine qc fun Y Yh => ?_; simp [go_sem]; ((repeat' (first|(refine qf ?_;simp [go_sem])|intro _|apply And.intro|(apply Yh;clear Yh Y)));all_goals first|apply QS|omega|with_reducible assumption|skip))
 (refine qc fun Y Yh => ?_; simp [go_sem]; ((repeat' (first|(refine qf ?_;simp [go_sem])|intro _|apply And.intro|(apply Yh;clear Yh Y)));all_goals first|apply QS|omega|with_reducible assumption|skip))
 refine qh fun K1 hK1 => ?_
 (refine qc fun Y Yh => ?_; simp [go_sem]; ((repeat' (first|(refine qf ?_;simp [go_sem])|intro _|apply And.intro|(apply Yh;clear Yh Y)));all_goals first|apply QS|omega|with_reducible assumption|skip))
 refine qo ?_
 refine qM (σ := Nat) (fun i => ⟨[(0, dS s), (3, dS (T i)), (4, dI i)], []⟩) (fun i => i ≤ s.length) (fun i => s.length - i) 0 ?_ ?_ ?_
 ·(refine ql ?_ ?_ <;> simp [go_sem, hT0])
 ·simp
 intro i hi
 refine qh fun K2 hK2 => ?_
 (refine qc fun Y Yh => ?_; simp [go_sem, ba_size]; ((repeat' (first|(refine qf ?_;simp [go_sem, ba_size])|intro _|apply And.intro|(apply Yh;clear Yh Y)));all_goals first|apply QS|omega|with_reducible assumption|skip))
 by_cases h3 : i < s.length
 ·have hst := hTs i h3
  have htl := hTl i
  (refine qg fun T F hT hF => ?_; simp [go_sem, h3]; refine hT ?_; clear hT hF T F)
  refine qi ?_
  refine hK2 _ ?_; clear hK2
  refine qh fun K4 hK4 => ?_
  have tl4 : ∀ S', Cov S' ⟨[(0, dS s), (3, dS (T i ++ quoC s[i])), (4, dI i)], []⟩ → K4 S' := fun S' hS => by
   refine hK4 _ ?_; clear hK4
   refine qG hS ?_; clear hS
   (refine qx fun Y Yh => ?_; simp [go_sem]; ((repeat' (first|(refine qf ?_;simp [go_sem])|intro _|apply And.intro|(apply Yh;clear Yh Y)));all_goals first|apply QS|omega|with_reducible assumption|skip))
   refine ⟨i + 1, ?_, by omega, by omega⟩
   rw [hst]
   (refine ql ?_ ?_ <;> simp [go_sem])
  clear hK4
  have hcut : ({ data := s.toArray } : ByteArray).extract i (i + 1) = { data := [s[i]].toArray } := by
   rw [ba_cut, List.drop_take, List.drop_eq_getElem_cons h3, show i + 1 - i = 1 by omega]
   rfl
  have hcut2 : ({ data := s.toArray } : ByteArray).extract i ((i : Int) + 1).toNat = { data := [s[i]].toArray } := by
   rw [show ((i : Int) + 1).toNat = i + 1 by omega]; exact hcut
  have hi1 : (i : Int) + 1 ≤ s.length := by omega
  generalize hc : s[i] = c at *
  have b1 : decide ((c.toNat : Int) = 92) = decide (c = 92) := u8_eqb _ 92 (by decide)
  have b2 : decide ((c.toNat : Int) = 34) = decide (c = 34) := u8_eqb _ 34 (by decide)
  have b3 : decide ((c.toNat : Int) = 10) = decide (c = 10) := u8_eqb _ 10 (by decide)
  refine qo ?_
  (refine qc fun Y Yh => ?_; simp [go_sem, h3, hc, ba_size]; ((repeat' (first|(refine qf ?_;simp [go_sem, h3, hc, ba_size])|intro _|apply And.intro|(apply Yh;clear Yh Y)));all_goals first|apply QS|omega|with_reducible assumption|skip))
  refine qo ?_
  refine qh fun K5 hK5 => ?_
  have tl5 : ∀ S', Cov S' ⟨[(0, dS s), (3, dS (T i)), (4, dI i), (13, dU c), (21, dB (decide (c = 92 ∨ c = 34)))], []⟩ → K5 S' := fun S' hS => by
   refine hK5 _ ?_; clear hK5
   refine qG hS ?_; clear hS
   by_cases h6 : c = 92 ∨ c = 34
   ·have e : quoC c = [92, c] := by unfold quoC; rw [if_pos h6]
    have hd : (decide (c = 92) || decide (c = 34)) = true := by simpa using h6
    rw [e] at tl4
    (refine qg fun T F hT hF => ?_; simp [go_sem, hd]; refine hT ?_; clear hT hF T F)
    (refine qx fun Y Yh => ?_; simp [go_sem, ba_size, ba_app, hcut, hcut2, hi1]; ((repeat' (first|(refine qf ?_;simp [go_sem, ba_size, ba_app, hcut, hcut2, hi1])|intro _|apply And.intro|(apply Yh;clear Yh Y)));all_goals first|apply QS|omega|with_reducible assumption|skip))
    refine tl4 _ ?_
    (refine ql ?_ ?_ <;> simp [go_sem])
   ·have hd : (decide (c = 92) || decide (c = 34)) = false := by
     rw [Bool.eq_false_iff]; intro q; exact h6 (by simpa using q)
    (refine qg fun T F hT hF => ?_; simp [go_sem, hd]; refine hF ?_; clear hT hF T F)
    (refine qc fun Y Yh => ?_; simp [go_sem, b3]; ((repeat' (first|(refine qf ?_;simp [go_sem, b3])|intro _|apply And.intro|(apply Yh;clear Yh Y)));all_goals first|apply QS|omega|with_reducible assumption|skip))
    by_cases h7 : c = 10
    ·have e : quoC c = [92, 110] := by unfold quoC; rw [if_neg h6, if_pos h7]
     rw [e] at tl4
     (refine qg fun T F hT hF => ?_; simp [go_sem, h7]; refine hT ?_; clear hT hF T F)
     (refine qx fun Y Yh => ?_; simp [go_sem, ba_size, ba_app]; ((repeat' (first|(refine qf ?_;simp [go_sem, ba_size, ba_app])|intro _|apply And.intro|(apply Yh;clear Yh Y)));all_goals first|apply QS|omega|with_reducible assumption|skip))
     refine tl4 _ ?_
     (refine ql ?_ ?_ <;> simp [go_sem])
    ·have e : quoC c = [c] := by unfold quoC; rw [if_neg h6, if_neg h7]
     rw [e] at tl4
     (refine qg fun T F hT hF => ?_; simp [go_sem, h7]; refine hF ?_; clear hT hF T F)
     (refine qx fun Y Yh => ?_; simp [go_sem, ba_size, ba_app, hcut, hcut2, hi1]; ((repeat' (first|(refine qf ?_;simp [go_sem, ba_size, ba_app, hcut, hcut2, hi1])|intro _|apply And.intro|(apply Yh;clear Yh Y)));all_goals first|apply QS|omega|with_reducible assumption|skip))
     refine tl4 _ ?_
     (refine ql ?_ ?_ <;> simp [go_sem])
  clear hK5
  (refine qc fun Y Yh => ?_; simp [go_sem, b1]; ((repeat' (first|(refine qf ?_;simp [go_sem, b1])|intro _|apply And.intro|(apply Yh;clear Yh Y)));all_goals first|apply QS|omega|with_reducible assumption|skip))
  by_cases h8 : c = 92
  ·(refine qg fun T F hT hF => ?_; simp [go_sem, h8]; refine hT ?_; clear hT hF T F)
   refine qi ?_
   refine tl5 _ ?_
   (refine ql ?_ ?_ <;> simp [go_sem, h8])
  ·(refine qg fun T F hT hF => ?_; simp [go_sem, h8]; refine hF ?_; clear hT hF T F)
   (refine qx fun Y Yh => ?_; simp [go_sem, b2]; ((repeat' (first|(refine qf ?_;simp [go_sem, b2])|intro _|apply And.intro|(apply Yh;clear Yh Y)));all_goals first|apply QS|omega|with_reducible assumption|skip))
   refine tl5 _ ?_
   (refine ql ?_ ?_ <;> simp [go_sem, h8])
 ·have : i = s.length := by omega
  subst this
  have htl := hTl s.length
  (refine qg fun T F hT hF => ?_; simp [go_sem, h3]; refine hF ?_; clear hT hF T F)
  refine qH ?_
  simp only [go_sem]
  refine hK1 _ ?_; clear hK1
  (refine qc fun Y Yh => ?_; simp [go_sem, ba_app, ba_size]; ((repeat' (first|(refine qf ?_;simp [go_sem, ba_app, ba_size])|intro _|apply And.intro|(apply Yh;clear Yh Y)));all_goals first|apply QS|omega|with_reducible assumption|skip))
  (refine qj ?_; simp [go_sem])
theorem tw_nil {p : UInt8 → Bool} {s : Bs} (h : s.dropWhile p = []) : s.takeWhile p = s ∧ s.all p = true := by
 have e := List.takeWhile_append_dropWhile (p := p) (l := s)
 rw [h, List.append_nil] at e
 exact ⟨e, dw_nil.1 h⟩
theorem tw_cons {p : UInt8 → Bool} {s : Bs} (h : s.dropWhile p ≠ []) : s.all p = false := by
 rw [Bool.eq_false_iff]
 intro q
 exact h (dw_nil.2 q)
set_option maxHeartbeats 8000000 in
theorem xE (a : Ag) (h : InR a.int) (hl : a.tx.length ≤ 1100000) : PCall Tryz.prog 134 [dA a] fun r => r = .tup [dI (numQ a).1, dB (numQ a).2] := by 
 refine qB Tryz.func134 rfl rfl Tryz.ntmps134 (rs := [.tmp 2, .tmp 3]) (tys := [3, 4]) rfl rfl (by simp) ?_
 cases hi : a.is with
 | false =>
  have e : numQ a = (a.int, true) := by unfold numQ numA; rw [if_pos hi]
  rw [e]
  (refine qc fun Y Yh => ?_; simp [go_sem, hi]; ((repeat' (first|(refine qf ?_;simp [go_sem, hi])|intro _|apply And.intro|(apply Yh;clear Yh Y)));all_goals first|apply QS|omega|with_reducible assumption|skip))
  refine qh fun K1 hK1 => ?_
  (refine qc fun Y Yh => ?_; simp [go_sem]; ((repeat' (first|(refine qf ?_;simp [go_sem])|intro _|apply And.intro|(apply Yh;clear Yh Y)));all_goals first|apply QS|omega|with_reducible assumption|skip))
  (refine qg fun T F hT hF => ?_; simp [go_sem]; refine hT ?_; clear hT hF T F)
  (refine qc fun Y Yh => ?_; simp [go_sem]; ((repeat' (first|(refine qf ?_;simp [go_sem])|intro _|apply And.intro|(apply Yh;clear Yh Y)));all_goals first|apply QS|omega|with_reducible assumption|skip))
  (refine qj ?_; simp [go_sem])
 | true =>
  have hT := zN a.tx [45]
  rw [jF] at hT
  have hA := fun s hs h1 h2 h3 => xu a.tx hl _ (atoi_dec (t := a.tx) (s := s) hs h1 h2 h3)
  have hA := hA _ rfl
  have hsl : (if a.tx.head? = some 45 then a.tx.tail else a.tx).length ≤ 1100000 := by
   split
   ·rw [List.length_tail]; omega
   ·exact hl
  have e : numQ a = match (if (if a.tx.head? = some 45 then a.tx.tail else a.tx) = [] ∨ 18 < (if a.tx.head? = some 45 then a.tx.tail else a.tx).length ∨ ((if a.tx.head? = some 45 then a.tx.tail else a.tx).head? = some 48 ∧ 1 < (if a.tx.head? = some 45 then a.tx.tail else a.tx).length) ∨ (if a.tx.head? = some 45 then a.tx.tail else a.tx).all isDig = false then none else some (if a.tx.head? = some 45 then -(decN (if a.tx.head? = some 45 then a.tx.tail else a.tx) : Int) else decN (if a.tx.head? = some 45 then a.tx.tail else a.tx)) : Option Int) with
   | none => (0, false)
   | some n => (n, true) := by unfold numQ numA; rw [if_neg (by simp [hi])]; rfl
  generalize (if a.tx.head? = some 45 then a.tx.tail else a.tx) = s at *
  generalize (if a.tx.head? = some 45 then -(decN s : Int) else decN s) = v at *
  have hTk := take_dig s (by omega)
  have hcase : (s.takeWhile isDig = [] ∨ s.dropWhile isDig ≠ []) ∧ numQ a = (0, false) ∨ (s.takeWhile isDig = s ∧ s.dropWhile isDig = [] ∧ s.all isDig = true ∧ s ≠ []) := by
   by_cases h1 : s.takeWhile isDig = [] ∨ s.dropWhile isDig ≠ []
   ·left
    refine ⟨h1, ?_⟩
    rw [e, if_pos]
    by_cases hs : s = []
    ·exact .inl hs
    ·right; right; right
     rcases h1 with h1 | h1
     ·cases s with
      | nil => exact absurd rfl hs
      | cons c r =>
       rw [List.takeWhile_cons] at h1
       split at h1
       ·cases h1
       ·rename_i hc
        simp [hc]
     ·exact tw_cons h1
   ·rw [not_or, Decidable.not_not] at h1
    obtain ⟨q1, q2⟩ := tw_nil h1.2
    exact .inr ⟨q1, h1.2, q2, fun q => h1.1 (by rw [q1]; exact q)⟩
  (refine qc fun Y Yh => ?_; simp [go_sem, hi]; ((repeat' (first|(refine qf ?_;simp [go_sem, hi])|intro _|apply And.intro|(apply Yh;clear Yh Y)));all_goals first|apply QS|omega|with_reducible assumption|skip))
  refine qh fun K1 hK1 => ?_
  (refine qc fun Y Yh => ?_; simp [go_sem]; ((repeat' (first|(refine qf ?_;simp [go_sem])|intro _|apply And.intro|(apply Yh;clear Yh Y)));all_goals first|apply QS|omega|with_reducible assumption|skip))
  (refine qg fun T F hT hF => ?_; simp [go_sem]; refine hF ?_; clear hT hF T F)
  refine qi ?_
  refine hK1 _ ?_; clear hK1
  (refine qc fun Y Yh => ?_; simp [go_sem]; ((repeat' (first|(refine qf ?_;simp [go_sem])|intro _|apply And.intro|(apply Yh;clear Yh Y)));all_goals first|apply QS|omega|with_reducible assumption|skip))
  ((try refine QT ?_); refine qm (.inl ⟨rfl,rfl⟩) (by simp [go_sem]) ?_; intro args ha; simp [go_sem] at ha; subst ha; refine ⟨_, hT, ?_⟩; rintro _ rfl; simp [go_sem]; ((repeat' (first|(refine qf ?_;simp [go_sem])|intro _|apply And.intro|(apply Yh;clear Yh Y)));all_goals first|apply QS|omega|with_reducible assumption|skip))
  (refine qc fun Y Yh => ?_; simp [go_sem]; ((repeat' (first|(refine qf ?_;simp [go_sem])|intro _|apply And.intro|(apply Yh;clear Yh Y)));all_goals first|apply QS|omega|with_reducible assumption|skip))
  ((try refine QT ?_); refine qm (.inl ⟨rfl,rfl⟩) (by simp [go_sem]) ?_; intro args ha; simp [go_sem] at ha; subst ha; refine ⟨_, hTk, ?_⟩; rintro _ rfl; simp [go_sem]; ((repeat' (first|(refine qf ?_;simp [go_sem])|intro _|apply And.intro|(apply Yh;clear Yh Y)));all_goals first|apply QS|omega|with_reducible assumption|skip))
  refine qh fun K3 hK3 => ?_
  rcases hcase with ⟨h1, e⟩ | ⟨h1, h2, h3, h4⟩
  ·rw [e]
   generalize s.takeWhile isDig = d at *
   generalize s.dropWhile isDig = rest at *
   cases d with
   | nil =>
    (refine qc fun Y Yh => ?_; simp [go_sem]; ((repeat' (first|(refine qw ?_ ?_ ?_;(focus (simp [go_sem, undef];done));(focus (simp [go_sem];done));simp [go_sem])|(refine qp ?_ ?_;(focus (simp [go_sem, undef];done));simp [go_sem])|(refine qf ?_;simp [go_sem, undef])|intro _|apply And.intro|(apply Yh;clear Yh Y)));all_goals first|apply QS|omega|with_reducible assumption|skip))
    (refine qg fun T F hT hF => ?_; simp [go_sem]; refine hT ?_; clear hT hF T F)
    (refine qc fun Y Yh => ?_; simp [go_sem]; ((repeat' (first|(refine qf ?_;simp [go_sem])|intro _|apply And.intro|(apply Yh;clear Yh Y)));all_goals first|apply QS|omega|with_reducible assumption|skip))
    (refine qj ?_; simp [go_sem])
   | cons c0 r0 =>
    cases rest with
    | nil => exact absurd h1 (by simp)
    | cons c1 r1 =>
     (refine qc fun Y Yh => ?_; simp [go_sem]; ((repeat' (first|(refine qw ?_ ?_ ?_;(focus (simp [go_sem, undef];done));(focus (simp [go_sem];done));simp [go_sem])|(refine qp ?_ ?_;(focus (simp [go_sem, undef];done));simp [go_sem])|(refine qf ?_;simp [go_sem, undef])|intro _|apply And.intro|(apply Yh;clear Yh Y)));all_goals first|apply QS|omega|with_reducible assumption|skip))
     (refine qg fun T F hT hF => ?_; simp [go_sem]; refine hT ?_; clear hT hF T F)
     (refine qc fun Y Yh => ?_; simp [go_sem]; ((repeat' (first|(refine qf ?_;simp [go_sem])|intro _|apply And.intro|(apply Yh;clear Yh Y)));all_goals first|apply QS|omega|with_reducible assumption|skip))
     (refine qj ?_; simp [go_sem])
  ·rw [h1, h2]
   cases s with
   | nil => exact absurd rfl h4
   | cons c r =>
    have h48 : decide ((c.toNat : Int) = 48) = decide (c = 48) := u8_eqb c 48 (by decide)
    have h48' : ((c.toNat : Int) = 48) = (c = 48) := propext (by have := u8_eqb c 48 (by decide); rw [decide_eq_decide] at this; exact this)
    rw [List.length_cons] at e hsl hA
    by_cases h18 : 18 < r.length + 1
    ·have h18' : (18 : Int) < (r.length : Int) + 1 := by omega
     rw [e, if_pos (.inr (.inl h18))]
     (refine qc fun Y Yh => ?_; simp [go_sem, ba_size, h18']; ((repeat' (first|(refine qw ?_ ?_ ?_;(focus (simp [go_sem, undef, ba_size, h18'];done));(focus (simp [go_sem];done));simp [go_sem, ba_size, h18'])|(refine qp ?_ ?_;(focus (simp [go_sem, undef, ba_size, h18'];done));simp [go_sem, ba_size, h18'])|(refine qf ?_;simp [go_sem, undef, ba_size, h18'])|intro _|apply And.intro|(apply Yh;clear Yh Y)));all_goals first|apply QS|omega|with_reducible assumption|skip))
     (refine qg fun T F hT hF => ?_; simp [go_sem]; refine hT ?_; clear hT hF T F)
     (refine qc fun Y Yh => ?_; simp [go_sem]; ((repeat' (first|(refine qf ?_;simp [go_sem])|intro _|apply And.intro|(apply Yh;clear Yh Y)));all_goals first|apply QS|omega|with_reducible assumption|skip))
     (refine qj ?_; simp [go_sem])
    ·have h18' : ¬ (18 : Int) < (r.length : Int) + 1 := by omega
     by_cases h0 : c = 48 ∧ 1 < r.length + 1
     ·have h01 : (1 : Int) < (r.length : Int) + 1 := by omega
      rw [e, if_pos (.inr (.inr (.inl ⟨by rw [h0.1]; rfl, h0.2⟩)))]
      (refine qc fun Y Yh => ?_; simp [go_sem, ba_size, h18', h01, h48', h0.1]; ((repeat' (first|(refine qw ?_ ?_ ?_;(focus (simp [go_sem, undef, ba_size, h18', h01, h48', h0.1];done));(focus (simp [go_sem];done));simp [go_sem, ba_size, h18', h01, h48', h0.1])|(refine qp ?_ ?_;(focus (simp [go_sem, undef, ba_size, h18', h01, h48', h0.1];done));simp [go_sem, ba_size, h18', h01, h48', h0.1])|(refine qf ?_;simp [go_sem, undef, ba_size, h18', h01, h48', h0.1])|intro _|apply And.intro|(apply Yh;clear Yh Y)));all_goals first|apply QS|omega|with_reducible assumption|skip))
      (refine qg fun T F hT hF => ?_; simp [go_sem]; refine hT ?_; clear hT hF T F)
      (refine qc fun Y Yh => ?_; simp [go_sem]; ((repeat' (first|(refine qf ?_;simp [go_sem])|intro _|apply And.intro|(apply Yh;clear Yh Y)));all_goals first|apply QS|omega|with_reducible assumption|skip))
      (refine qj ?_; simp [go_sem])
     ·have hAt := hA h3 (by simp) (by omega)
      have ev : numQ a = (v, true) := by
       rw [e, if_neg (by
        rintro (q | q | q | q)
        ·cases q
        ·exact h18 q
        ·rw [List.head?_cons, Option.some.injEq] at q; exact h0 q
        ·rw [h3] at q; cases q)]
      by_cases h01 : 1 < r.length + 1
      ·have h01' : (1 : Int) < (r.length : Int) + 1 := by omega
       have hc : ¬ c = 48 := fun q => h0 ⟨q, h01⟩
       (refine qc fun Y Yh => ?_; simp [go_sem, ba_size, h18', h01', h48', hc]; ((repeat' (first|(refine qw ?_ ?_ ?_;(focus (simp [go_sem, undef, ba_size, h18', h01', h48', hc];done));(focus (simp [go_sem];done));simp [go_sem, ba_size, h18', h01', h48', hc])|(refine qp ?_ ?_;(focus (simp [go_sem, undef, ba_size, h18', h01', h48', hc];done));simp [go_sem, ba_size, h18', h01', h48', hc])|(refine qf ?_;simp [go_sem, undef, ba_size, h18', h01', h48', hc])|intro _|apply And.intro|(apply Yh;clear Yh Y)));all_goals first|apply QS|omega|with_reducible assumption|skip))
       (refine qg fun T F hT hF => ?_; simp [go_sem]; refine hF ?_; clear hT hF T F)
       refine qi ?_
       refine hK3 _ ?_; clear hK3
       (refine qc fun Y Yh => ?_; simp [go_sem]; ((repeat' (first|(refine qf ?_;simp [go_sem])|intro _|apply And.intro|(apply Yh;clear Yh Y)));all_goals first|apply QS|omega|with_reducible assumption|skip))
       ((try refine QT ?_); refine qm (.inl ⟨rfl,rfl⟩) (by simp [go_sem]) ?_; intro args ha; simp [go_sem] at ha; subst ha; refine ⟨_, hAt, ?_⟩; rintro _ rfl; simp [go_sem]; ((repeat' (first|(refine qf ?_;simp [go_sem])|intro _|apply And.intro|(apply Yh;clear Yh Y)));all_goals first|apply QS|omega|with_reducible assumption|skip))
       (refine qc fun Y Yh => ?_; simp [go_sem]; ((repeat' (first|(refine qf ?_;simp [go_sem])|intro _|apply And.intro|(apply Yh;clear Yh Y)));all_goals first|apply QS|omega|with_reducible assumption|skip))
       (refine qj ?_; simp [go_sem, ev])
      ·have h01' : ¬ (1 : Int) < (r.length : Int) + 1 := by omega
       (refine qc fun Y Yh => ?_; simp [go_sem, ba_size, h18', h01']; ((repeat' (first|(refine qw ?_ ?_ ?_;(focus (simp [go_sem, undef, ba_size, h18', h01'];done));(focus (simp [go_sem];done));simp [go_sem, ba_size, h18', h01'])|(refine qp ?_ ?_;(focus (simp [go_sem, undef, ba_size, h18', h01'];done));simp [go_sem, ba_size, h18', h01'])|(refine qf ?_;simp [go_sem, undef, ba_size, h18', h01'])|intro _|apply And.intro|(apply Yh;clear Yh Y)));all_goals first|apply QS|omega|with_reducible assumption|skip))
       (refine qg fun T F hT hF => ?_; simp [go_sem]; refine hF ?_; clear hT hF T F)
       refine qi ?_
       refine hK3 _ ?_; clear hK3
       (refine qc fun Y Yh => ?_; simp [go_sem]; ((repeat' (first|(refine qf ?_;simp [go_sem])|intro _|apply And.intro|(apply Yh;clear Yh Y)));all_goals first|apply QS|omega|with_reducible assumption|skip))
       ((try refine QT ?_); refine qm (.inl ⟨rfl,rfl⟩) (by simp [go_sem]) ?_; intro args ha; simp [go_sem] at ha; subst ha; refine ⟨_, hAt, ?_⟩; rintro _ rfl; simp [go_sem]; ((repeat' (first|(refine qf ?_;simp [go_sem])|intro _|apply And.intro|(apply Yh;clear Yh Y)));all_goals first|apply QS|omega|with_reducible assumption|skip))
       (refine qc fun Y Yh => ?_; simp [go_sem]; ((repeat' (first|(refine qf ?_;simp [go_sem])|intro _|apply And.intro|(apply Yh;clear Yh Y)));all_goals first|apply QS|omega|with_reducible assumption|skip))
       (refine qj ?_; simp [go_sem, ev])
@[go_sem] abbrev cRf (f : Rf) : List D := [dU f.lt, dS f.nm, dS f.by', dS f.fl, dI f.wd, dI f.pr]
@[go_sem] abbrev dRf (f : Rf) : D := .agg [dU f.lt, dS f.nm, dS f.by', dS f.fl, dI f.wd, dI f.pr]
@[go_sem] abbrev dRfs (l : List Rf) : D := .sl 6 (l.map cRf)
def RFldR (s : Bs) (r : D) : Prop :=
 if pk s = 37 then r = .tup [dRf (byF [37]), dS s.tail, dB true] else
 match rfieldV s with
 | some (f, t) => r = .tup [dRf f, dS t, dB true]
 | none => ∃ f, r = .tup [dRf f, dS [], dB false]
theorem isFl_con (c : UInt8) : ([45, 48, 43, 32, 35] : Bs).contains c = isFl c := by
 unfold isFl
 rw [Bool.eq_iff_iff]
 simp only [List.contains_cons, List.contains_nil, Bool.or_false, Bool.or_eq_true, beq_iff_eq, or_assoc]
theorem take_fl (s : Bs) (hl : s.length ≤ 1000000000) : PCall Tryz.prog 106 [dS s, dS [45, 48, 43, 32, 35]] fun r => r = .tup [dS (s.takeWhile isFl), dS (s.dropWhile isFl)] := by
 have h := jk s [45, 48, 43, 32, 35] hl
 have e : (([45, 48, 43, 32, 35] : Bs).contains ·) = isFl := funext isFl_con
 rwa [e] at h
theorem take_nm (s : Bs) (hl : s.length ≤ 1000000000) : PCall Tryz.prog 106 [dS s, dS nmL] fun r => r = .tup [dS (s.takeWhile isNm), dS (s.dropWhile isNm)] := by
 have h := jk s nmL hl
 have e : (nmL.contains ·) = isNm := funext nmL_isNm
 rwa [e] at h
theorem dw_le {p : UInt8 → Bool} (s : Bs) : (s.dropWhile p).length ≤ s.length := (List.dropWhile_suffix p).length_le
theorem size_len (m : Int) (s : Bs) : (sizeV m s).2.2.length ≤ s.length := by
 have := dw_le (p := isDig) s
 unfold sizeV
 split
 ·simp
 ·split
  ·exact this
  ·exact this
def restV (nm s1 : Bs) : Option (Rf × Bs) :=
  let w := sizeV (-1) (s1.dropWhile isFl)
  if w.2.1 = false then none else
  let p := if pk w.2.2 = 46 then sizeV 0 w.2.2.tail else (-1, true, w.2.2)
  if p.2.1 = false then none else
  let c := pk p.2.2
  if c ≠ 0 ∧ c ∈ lets ∧ ((w.1 = -2 ∨ p.1 = -2) → nm = []) then some (⟨c, nm, [], s1.takeWhile isFl, w.1, p.1⟩, p.2.2.tail) else none
theorem rfield_rest (s : Bs) : rfieldV s = match rnameV s with
  | none => none
  | some (nm, s1) => restV nm s1 := rfl
theorem rfldR_none {s : Bs} (h : pk s ≠ 37) (hr : rfieldV s = none) (f : Rf) : RFldR s (.tup [dRf f, dS [], dB false]) := by
 unfold RFldR; rw [if_neg h, hr]; exact ⟨f, rfl⟩
theorem rfldR_some {s t : Bs} {f : Rf} (h : pk s ≠ 37) (hr : rfieldV s = some (f, t)) : RFldR s (.tup [dRf f, dS t, dB true]) := by
 unfold RFldR; rw [if_neg h, hr]
set_option maxHeartbeats 16000000 in
theorem kz (s : Bs) (hl : s.length ≤ 100000) : PCall Tryz.prog 66 [dS s] (RFldR s) := by 
 refine qB Tryz.func66 rfl rfl Tryz.ntmps66 (rs := [.cell 2 88, .tmp 3, .tmp 4]) (tys := [88, 9, 4]) rfl rfl (by simp) ?_
 have hP := zn s [37]
 rw [pre_pk 37 s (by decide)] at hP
 (refine qc fun Y Yh => ?_; simp [go_sem]; ((repeat' (first|(refine qf ?_;simp [go_sem])|intro _|apply And.intro|(apply Yh;clear Yh Y)));all_goals first|apply QS|omega|with_reducible assumption|skip))
 (refine qc fun Y Yh => ?_; simp [go_sem]; ((repeat' (first|(refine qf ?_;simp [go_sem])|intro _|apply And.intro|(apply Yh;clear Yh Y)));all_goals first|apply QS|omega|with_reducible assumption|skip))
 refine qh fun K1 hK1 => ?_
 (refine qc fun Y Yh => ?_; simp [go_sem]; ((repeat' (first|(refine qf ?_;simp [go_sem])|intro _|apply And.intro|(apply Yh;clear Yh Y)));all_goals first|apply QS|omega|with_reducible assumption|skip))
 ((try refine QT ?_); refine qm (.inl ⟨rfl,rfl⟩) (by simp [go_sem]) ?_; intro args ha; simp [go_sem] at ha; subst ha; refine ⟨_, hP, ?_⟩; rintro _ rfl; simp [go_sem]; ((repeat' (first|(refine qf ?_;simp [go_sem])|intro _|apply And.intro|(apply Yh;clear Yh Y)));all_goals first|apply QS|omega|with_reducible assumption|skip))
 by_cases h37 : pk s = 37
 ·have hpos : 1 ≤ s.length := by
   cases s with
   | nil => exact absurd h37 (by decide)
   | cons _ _ => simp
  have hcut : ({ data := s.toArray } : ByteArray).extract 1 s.length = { data := s.tail.toArray } := by rw [ba_cut, List.take_of_length_le (Nat.le_refl _), List.drop_one]
  (refine qg fun T F hT hF => ?_; simp [go_sem, h37]; refine hT ?_; clear hT hF T F)
  (refine qc fun Y Yh => ?_; simp [go_sem]; ((repeat' (first|(refine qf ?_;simp [go_sem])|intro _|apply And.intro|(apply Yh;clear Yh Y)));all_goals first|apply QS|omega|with_reducible assumption|skip))
  ((refine qX (.qs [1, 2, 0] (.one 3 (.qs [4, 5] (.nil)))) (by kernel_rfl) ?_ ?_ ?_ ?_); (kernel_rfl); (exact (by decide +kernel)); (kernel_rfl); intro Y Yh; ((repeat' (first|(refine qf ?_;simp [go_sem, ba_size, hpos, hcut])|refine qC ?_|((first|refine qJ fun Y Yh=>?_|refine qR fun Y Yh=>?_);simp [go_sem, ba_size, hpos, hcut])|intro _|apply And.intro|(apply Yh;clear Yh Y)));all_goals first|apply QS|omega|with_reducible assumption|skip))
  (refine qj ?_; simp [go_sem])
  unfold RFldR
  rw [if_pos h37]
  rfl
 ·(refine qg fun T F hT hF => ?_; simp [go_sem, h37]; refine hF ?_; clear hT hF T F)
  refine qi ?_
  refine hK1 _ ?_; clear hK1
  refine qh fun K3 hK3 => ?_
  rename_i g2 g5
  have tl3 : ∀ nm s1 S', s1.length ≤ 100000 → rfieldV s = restV nm s1 → Cov S' ⟨[(0, dS s1), (2, .ptr 2 g2 0), (5, .ptr 5 g5 0)], [(5, (g5, .box [dU 0, dS nm, dS [], dS [], dI (-1), dI (-1)])), (2, (g2, .box [dU 0, dS [], dS [], dS [], dI 0, dI 0]))]⟩ → K3 S' := fun nm s1 S' hl1 hr hS => by
   refine hK3 _ ?_; clear hK3
   refine qG hS ?_; clear hS
   have hT := take_fl s1 (by omega)
   have hdl := dw_le (p := isFl) s1
   unfold restV at hr
   have hW := xg (s1.dropWhile isFl) (-1) (by omega)
   have hwl := size_len (-1) (s1.dropWhile isFl)
   generalize sizeV (-1) (s1.dropWhile isFl) = w at *
   generalize s1.dropWhile isFl = s2 at *
   generalize s1.takeWhile isFl = fl at *
   obtain ⟨w1, w2, s3⟩ := w
   simp only at hr hW hwl
   (refine qc fun Y Yh => ?_; simp [go_sem]; ((repeat' (first|(refine qf ?_;simp [go_sem])|intro _|apply And.intro|(apply Yh;clear Yh Y)));all_goals first|apply QS|omega|with_reducible assumption|skip))
   ((try refine QT ?_); refine qm (.inl ⟨rfl,rfl⟩) (by simp [go_sem]) ?_; intro args ha; simp [go_sem] at ha; subst ha; refine ⟨_, hT, ?_⟩; rintro _ rfl; simp [go_sem]; ((repeat' (first|(refine qf ?_;simp [go_sem])|intro _|apply And.intro|(apply Yh;clear Yh Y)));all_goals first|apply QS|omega|with_reducible assumption|skip))
   (refine qc fun Y Yh => ?_; simp [go_sem]; ((repeat' (first|(refine qf ?_;simp [go_sem])|intro _|apply And.intro|(apply Yh;clear Yh Y)));all_goals first|apply QS|omega|with_reducible assumption|skip))
   (refine qc fun Y Yh => ?_; simp [go_sem]; ((repeat' (first|(refine qf ?_;simp [go_sem])|intro _|apply And.intro|(apply Yh;clear Yh Y)));all_goals first|apply QS|omega|with_reducible assumption|skip))
   ((try refine QT ?_); refine qm (.inl ⟨rfl,rfl⟩) (by simp [go_sem]) ?_; intro args ha; simp [go_sem] at ha; subst ha; refine ⟨_, hW, ?_⟩; rintro _ rfl; simp [go_sem]; ((repeat' (first|(refine qf ?_;simp [go_sem])|intro _|apply And.intro|(apply Yh;clear Yh Y)));all_goals first|apply QS|omega|with_reducible assumption|skip))
   refine qh fun K4 hK4 => ?_
   (refine qc fun Y Yh => ?_; simp [go_sem]; ((repeat' (first|(refine qf ?_;simp [go_sem])|intro _|apply And.intro|(apply Yh;clear Yh Y)));all_goals first|apply QS|omega|with_reducible assumption|skip))
   cases w2 with
   | false =>
    rw [if_pos rfl] at hr
    (refine qg fun T F hT hF => ?_; simp [go_sem]; refine hT ?_; clear hT hF T F)
    (refine qc fun Y Yh => ?_; simp [go_sem]; ((repeat' (first|(refine qf ?_;simp [go_sem])|intro _|apply And.intro|(apply Yh;clear Yh Y)));all_goals first|apply QS|omega|with_reducible assumption|skip))
    (refine qj ?_; simp [go_sem])
    exact rfldR_none h37 hr ⟨0, nm, [], fl, w1, -1⟩
   | true =>
    rw [if_neg (by simp)] at hr
    (refine qg fun T F hT hF => ?_; simp [go_sem]; refine hF ?_; clear hT hF T F)
    refine qi ?_
    refine hK4 _ ?_; clear hK4
    refine qh fun K6 hK6 => ?_
    have tl6 : ∀ p1 s4 S', s4.length ≤ 100000 → rfieldV s = (if pk s4 ≠ 0 ∧ pk s4 ∈ lets ∧ ((w1 = -2 ∨ p1 = -2) → nm = []) then some (⟨pk s4, nm, [], fl, w1, p1⟩, s4.tail) else none) → Cov S' ⟨[(0, dS s4), (2, .ptr 2 g2 0), (5, .ptr 5 g5 0)], [(5, (g5, .box [dU 0, dS nm, dS [], dS fl, dI w1, dI p1])), (2, (g2, .box [dU 0, dS [], dS [], dS [], dI 0, dI 0]))]⟩ → K6 S' := fun p1 s4 S' hl4 hr hS => by
     refine hK6 _ ?_; clear hK6
     refine qG hS ?_; clear hS
     refine qh fun K7 hK7 => ?_
     cases s4 with
     | nil =>
      rw [if_neg (by simp [pk])] at hr
      (refine qc fun Y Yh => ?_; simp [go_sem]; ((repeat' (first|(refine qw ?_ ?_ ?_;(focus (simp [go_sem, undef];done));(focus (simp [go_sem];done));simp [go_sem])|(refine qp ?_ ?_;(focus (simp [go_sem, undef];done));simp [go_sem])|(refine qf ?_;simp [go_sem, undef])|intro _|apply And.intro|(apply Yh;clear Yh Y)));all_goals first|apply QS|omega|with_reducible assumption|skip))
      (refine qg fun T F hT hF => ?_; simp [go_sem]; refine hT ?_; clear hT hF T F)
      (refine qc fun Y Yh => ?_; simp [go_sem]; ((repeat' (first|(refine qf ?_;simp [go_sem])|intro _|apply And.intro|(apply Yh;clear Yh Y)));all_goals first|apply QS|omega|with_reducible assumption|skip))
      (refine qj ?_; simp [go_sem])
      exact rfldR_none h37 hr ⟨0, nm, [], fl, w1, p1⟩
     | cons c r =>
      have epk : pk (c :: r) = c := rfl
      rw [epk, List.tail_cons] at hr
      have hI := zM lets c
      have hh := idx_has lets c
      generalize idxV lets c = v at *
      have hlen1 : (0 : Int) < (r.length : Int) + 1 := by omega
      by_cases hc : c ∈ lets
      ·have hv : ¬ v < 0 := by
        have := hh.2 (by simpa using hc)
        omega
       have hc0 : c ≠ 0 := by
        intro q
        subst q
        exact absurd hc (by decide)
       have fin : ((w1 = -2 ∨ p1 = -2) → nm = []) → ∀ S', Cov S' ⟨[(0, dS (c :: r)), (2, .ptr 2 g2 0), (5, .ptr 5 g5 0)], [(5, (g5, .box [dU 0, dS nm, dS [], dS fl, dI w1, dI p1])), (2, (g2, .box [dU 0, dS [], dS [], dS [], dI 0, dI 0]))]⟩ → K7 S' := fun hcond S' hS => by
        refine hK7 _ ?_; clear hK7
        refine qG hS ?_; clear hS
        rw [if_pos ⟨hc0, hc, hcond⟩] at hr
        have hcut : ({ data := (c :: r).toArray } : ByteArray).extract 1 (r.length + 1) = { data := r.toArray } := by rw [ba_cut]; simp
        (refine qc fun Y Yh => ?_; simp [go_sem, ba_size]; ((repeat' (first|(refine qf ?_;simp [go_sem, ba_size])|intro _|apply And.intro|(apply Yh;clear Yh Y)));all_goals first|apply QS|omega|with_reducible assumption|skip))
        ((refine qX (.qs [1, 2, 0] (.one 3 (.qs [4, 5] (.nil)))) (by kernel_rfl) ?_ ?_ ?_ ?_); (kernel_rfl); (exact (by decide +kernel)); (kernel_rfl); intro Y Yh; ((repeat' (first|(refine qf ?_;simp [go_sem, ba_size, hcut])|refine qC ?_|((first|refine qJ fun Y Yh=>?_|refine qR fun Y Yh=>?_);simp [go_sem, ba_size, hcut])|intro _|apply And.intro|(apply Yh;clear Yh Y)));all_goals first|apply QS|omega|with_reducible assumption|skip))
        (refine qj ?_; simp [go_sem])
        exact rfldR_some h37 hr
       cases nm with
       | nil =>
        (refine qc fun Y Yh => ?_; simp [go_sem, ba_size]; ((repeat' (first|(refine qw ?_ ?_ ?_;(focus (simp [go_sem, undef, ba_size];done));(focus (simp [go_sem];done));simp [go_sem, ba_size])|(refine qp ?_ ?_;(focus (simp [go_sem, undef, ba_size];done));simp [go_sem, ba_size])|(refine qf ?_;simp [go_sem, undef, ba_size])|intro _|apply And.intro|(apply Yh;clear Yh Y)));all_goals first|apply QS|omega|with_reducible assumption|skip))
        ((try refine QT ?_); refine qm (.inl ⟨rfl,rfl⟩) (by simp [go_sem]) ?_; intro args ha; simp [go_sem] at ha; subst ha; refine ⟨_, hI, ?_⟩; rintro _ rfl; simp [go_sem]; ((repeat' (first|(refine qw ?_ ?_ ?_;(focus (simp [go_sem, undef];done));(focus (simp [go_sem];done));simp [go_sem])|(refine qp ?_ ?_;(focus (simp [go_sem, undef];done));simp [go_sem])|(refine qf ?_;simp [go_sem, undef])|intro _|apply And.intro|(apply Yh;clear Yh Y)));all_goals first|apply QS|omega|with_reducible assumption|skip))
        (refine qg fun T F hT hF => ?_; simp [go_sem, hv]; refine hF ?_; clear hT hF T F)
        refine qi ?_
        refine fin (fun _ => rfl) _ ?_
        (refine ql ?_ ?_ <;> simp [go_sem])
       | cons n0 nr =>
        by_cases hw : w1 = -2
        ·subst hw
         rw [if_neg (by simp)] at hr
         (refine qc fun Y Yh => ?_; simp [go_sem, ba_size]; ((repeat' (first|(refine qw ?_ ?_ ?_;(focus (simp [go_sem, undef, ba_size];done));(focus (simp [go_sem];done));simp [go_sem, ba_size])|(refine qp ?_ ?_;(focus (simp [go_sem, undef, ba_size];done));simp [go_sem, ba_size])|(refine qf ?_;simp [go_sem, undef, ba_size])|intro _|apply And.intro|(apply Yh;clear Yh Y)));all_goals first|apply QS|omega|with_reducible assumption|skip))
         ((try refine QT ?_); refine qm (.inl ⟨rfl,rfl⟩) (by simp [go_sem]) ?_; intro args ha; simp [go_sem] at ha; subst ha; refine ⟨_, hI, ?_⟩; rintro _ rfl; simp [go_sem, hv]; ((repeat' (first|(refine qw ?_ ?_ ?_;(focus (simp [go_sem, undef, hv];done));(focus (simp [go_sem];done));simp [go_sem, hv])|(refine qp ?_ ?_;(focus (simp [go_sem, undef, hv];done));simp [go_sem, hv])|(refine qf ?_;simp [go_sem, undef, hv])|intro _|apply And.intro|(apply Yh;clear Yh Y)));all_goals first|apply QS|omega|with_reducible assumption|skip))
         (refine qg fun T F hT hF => ?_; simp [go_sem, hv]; refine hT ?_; clear hT hF T F)
         (refine qc fun Y Yh => ?_; simp [go_sem]; ((repeat' (first|(refine qf ?_;simp [go_sem])|intro _|apply And.intro|(apply Yh;clear Yh Y)));all_goals first|apply QS|omega|with_reducible assumption|skip))
         (refine qj ?_; simp [go_sem])
         exact rfldR_none h37 hr ⟨0, n0 :: nr, [], fl, -2, p1⟩
        ·by_cases hp : p1 = -2
         ·subst hp
          rw [if_neg (by simp)] at hr
          (refine qc fun Y Yh => ?_; simp [go_sem, ba_size, hw]; ((repeat' (first|(refine qw ?_ ?_ ?_;(focus (simp [go_sem, undef, ba_size, hw];done));(focus (simp [go_sem];done));simp [go_sem, ba_size, hw])|(refine qp ?_ ?_;(focus (simp [go_sem, undef, ba_size, hw];done));simp [go_sem, ba_size, hw])|(refine qf ?_;simp [go_sem, undef, ba_size, hw])|intro _|apply And.intro|(apply Yh;clear Yh Y)));all_goals first|apply QS|omega|with_reducible assumption|skip))
          ((try refine QT ?_); refine qm (.inl ⟨rfl,rfl⟩) (by simp [go_sem]) ?_; intro args ha; simp [go_sem] at ha; subst ha; refine ⟨_, hI, ?_⟩; rintro _ rfl; simp [go_sem, hv, hw]; ((repeat' (first|(refine qw ?_ ?_ ?_;(focus (simp [go_sem, undef, hv, hw];done));(focus (simp [go_sem];done));simp [go_sem, hv, hw])|(refine qp ?_ ?_;(focus (simp [go_sem, undef, hv, hw];done));simp [go_sem, hv, hw])|(refine qf ?_;simp [go_sem, undef, hv, hw])|intro _|apply And.intro|(apply Yh;clear Yh Y)));all_goals first|apply QS|omega|with_reducible assumption|skip))
          (refine qg fun T F hT hF => ?_; simp [go_sem, hv, hw]; refine hT ?_; clear hT hF T F)
          (refine qc fun Y Yh => ?_; simp [go_sem]; ((repeat' (first|(refine qf ?_;simp [go_sem])|intro _|apply And.intro|(apply Yh;clear Yh Y)));all_goals first|apply QS|omega|with_reducible assumption|skip))
          (refine qj ?_; simp [go_sem])
          exact rfldR_none h37 hr ⟨0, n0 :: nr, [], fl, w1, -2⟩
         ·(refine qc fun Y Yh => ?_; simp [go_sem, ba_size, hw, hp]; ((repeat' (first|(refine qw ?_ ?_ ?_;(focus (simp [go_sem, undef, ba_size, hw, hp];done));(focus (simp [go_sem];done));simp [go_sem, ba_size, hw, hp])|(refine qp ?_ ?_;(focus (simp [go_sem, undef, ba_size, hw, hp];done));simp [go_sem, ba_size, hw, hp])|(refine qf ?_;simp [go_sem, undef, ba_size, hw, hp])|intro _|apply And.intro|(apply Yh;clear Yh Y)));all_goals first|apply QS|omega|with_reducible assumption|skip))
          ((try refine QT ?_); refine qm (.inl ⟨rfl,rfl⟩) (by simp [go_sem]) ?_; intro args ha; simp [go_sem] at ha; subst ha; refine ⟨_, hI, ?_⟩; rintro _ rfl; simp [go_sem, hv, hw, hp]; ((repeat' (first|(refine qw ?_ ?_ ?_;(focus (simp [go_sem, undef, hv, hw, hp];done));(focus (simp [go_sem];done));simp [go_sem, hv, hw, hp])|(refine qp ?_ ?_;(focus (simp [go_sem, undef, hv, hw, hp];done));simp [go_sem, hv, hw, hp])|(refine qf ?_;simp [go_sem, undef, hv, hw, hp])|intro _|apply And.intro|(apply Yh;clear Yh Y)));all_goals first|apply QS|omega|with_reducible assumption|skip))
          (refine qg fun T F hT hF => ?_; simp [go_sem, hv, hw, hp]; refine hF ?_; clear hT hF T F)
          refine qi ?_
          refine fin (fun q => absurd q (by simp [hw, hp])) _ ?_
          (refine ql ?_ ?_ <;> simp [go_sem])
      ·have hv : v < 0 := by
        rcases Int.lt_or_le v 0 with q | q
        ·exact q
        ·exact absurd (by simpa using hh.1 q) hc
       rw [if_neg (fun q => hc q.2.1)] at hr
       (refine qc fun Y Yh => ?_; simp [go_sem, ba_size]; ((repeat' (first|(refine qw ?_ ?_ ?_;(focus (simp [go_sem, undef, ba_size];done));(focus (simp [go_sem];done));simp [go_sem, ba_size])|(refine qp ?_ ?_;(focus (simp [go_sem, undef, ba_size];done));simp [go_sem, ba_size])|(refine qf ?_;simp [go_sem, undef, ba_size])|intro _|apply And.intro|(apply Yh;clear Yh Y)));all_goals first|apply QS|omega|with_reducible assumption|skip))
       ((try refine QT ?_); refine qm (.inl ⟨rfl,rfl⟩) (by simp [go_sem]) ?_; intro args ha; simp [go_sem] at ha; subst ha; refine ⟨_, hI, ?_⟩; rintro _ rfl; simp [go_sem, hv]; ((repeat' (first|(refine qw ?_ ?_ ?_;(focus (simp [go_sem, undef, hv];done));(focus (simp [go_sem];done));simp [go_sem, hv])|(refine qp ?_ ?_;(focus (simp [go_sem, undef, hv];done));simp [go_sem, hv])|(refine qf ?_;simp [go_sem, undef, hv])|intro _|apply And.intro|(apply Yh;clear Yh Y)));all_goals first|apply QS|omega|with_reducible assumption|skip))
       (refine qg fun T F hT hF => ?_; simp [go_sem, hv]; refine hT ?_; clear hT hF T F)
       (refine qc fun Y Yh => ?_; simp [go_sem]; ((repeat' (first|(refine qf ?_;simp [go_sem])|intro _|apply And.intro|(apply Yh;clear Yh Y)));all_goals first|apply QS|omega|with_reducible assumption|skip))
       (refine qj ?_; simp [go_sem])
       exact rfldR_none h37 hr ⟨0, nm, [], fl, w1, p1⟩
    clear hK6
    have hP46 := zn s3 [46]
    rw [pre_pk 46 s3 (by decide)] at hP46
    (refine qc fun Y Yh => ?_; simp [go_sem]; ((repeat' (first|(refine qf ?_;simp [go_sem])|intro _|apply And.intro|(apply Yh;clear Yh Y)));all_goals first|apply QS|omega|with_reducible assumption|skip))
    ((try refine QT ?_); refine qm (.inl ⟨rfl,rfl⟩) (by simp [go_sem]) ?_; intro args ha; simp [go_sem] at ha; subst ha; refine ⟨_, hP46, ?_⟩; rintro _ rfl; simp [go_sem]; ((repeat' (first|(refine qf ?_;simp [go_sem])|intro _|apply And.intro|(apply Yh;clear Yh Y)));all_goals first|apply QS|omega|with_reducible assumption|skip))
    by_cases h46 : pk s3 = 46
    ·rw [if_pos h46] at hr
     have hpos : 1 ≤ s3.length := by
      cases s3 with
      | nil => exact absurd h46 (by decide)
      | cons _ _ => simp
     have hcut : ({ data := s3.toArray } : ByteArray).extract 1 s3.length = { data := s3.tail.toArray } := by rw [ba_cut, List.take_of_length_le (Nat.le_refl _), List.drop_one]
     have hZ := xg s3.tail 0 (by rw [List.length_tail]; omega)
     have hzl := size_len 0 s3.tail
     rw [List.length_tail] at hzl
     generalize sizeV 0 s3.tail = z at *
     obtain ⟨z1, z2, s4⟩ := z
     simp only at hr hZ hzl
     (refine qg fun T F hT hF => ?_; simp [go_sem, h46]; refine hT ?_; clear hT hF T F)
     (refine qc fun Y Yh => ?_; simp [go_sem, ba_size, hpos, hcut]; ((repeat' (first|(refine qf ?_;simp [go_sem, ba_size, hpos, hcut])|intro _|apply And.intro|(apply Yh;clear Yh Y)));all_goals first|apply QS|omega|with_reducible assumption|skip))
     ((try refine QT ?_); refine qm (.inl ⟨rfl,rfl⟩) (by simp [go_sem]) ?_; intro args ha; simp [go_sem] at ha; subst ha; refine ⟨_, hZ, ?_⟩; rintro _ rfl; simp [go_sem]; ((repeat' (first|(refine qf ?_;simp [go_sem])|intro _|apply And.intro|(apply Yh;clear Yh Y)));all_goals first|apply QS|omega|with_reducible assumption|skip))
     (refine qc fun Y Yh => ?_; simp [go_sem]; ((repeat' (first|(refine qf ?_;simp [go_sem])|intro _|apply And.intro|(apply Yh;clear Yh Y)));all_goals first|apply QS|omega|with_reducible assumption|skip))
     cases z2 with
     | false =>
      rw [if_pos rfl] at hr
      (refine qg fun T F hT hF => ?_; simp [go_sem]; refine hT ?_; clear hT hF T F)
      (refine qc fun Y Yh => ?_; simp [go_sem]; ((repeat' (first|(refine qf ?_;simp [go_sem])|intro _|apply And.intro|(apply Yh;clear Yh Y)));all_goals first|apply QS|omega|with_reducible assumption|skip))
      (refine qj ?_; simp [go_sem])
      exact rfldR_none h37 hr ⟨0, nm, [], fl, w1, z1⟩
     | true =>
      rw [if_neg (by simp)] at hr
      (refine qg fun T F hT hF => ?_; simp [go_sem]; refine hF ?_; clear hT hF T F)
      refine qi ?_
      refine tl6 z1 s4 _ (by omega) hr ?_
      (refine ql ?_ ?_ <;> simp [go_sem])
    ·rw [if_neg h46] at hr
     simp only [Bool.true_eq_false, if_false] at hr
     (refine qg fun T F hT hF => ?_; simp [go_sem, h46]; refine hF ?_; clear hT hF T F)
     refine qi ?_
     refine tl6 (-1) s3 _ (by omega) hr ?_
     (refine ql ?_ ?_ <;> simp [go_sem])
  clear hK3
  have hP60 := zn s [60]
  rw [pre_pk 60 s (by decide)] at hP60
  have hN := rfield_rest s
  unfold rnameV at hN
  (refine qc fun Y Yh => ?_; simp [go_sem]; ((repeat' (first|(refine qf ?_;simp [go_sem])|intro _|apply And.intro|(apply Yh;clear Yh Y)));all_goals first|apply QS|omega|with_reducible assumption|skip))
  ((try refine QT ?_); refine qm (.inl ⟨rfl,rfl⟩) (by simp [go_sem]) ?_; intro args ha; simp [go_sem] at ha; subst ha; refine ⟨_, hP60, ?_⟩; rintro _ rfl; simp [go_sem]; ((repeat' (first|(refine qf ?_;simp [go_sem])|intro _|apply And.intro|(apply Yh;clear Yh Y)));all_goals first|apply QS|omega|with_reducible assumption|skip))
  by_cases h60 : pk s = 60
  ·rw [if_neg (by simp [h60])] at hN
   have hpos : 1 ≤ s.length := by
    cases s with
    | nil => exact absurd h60 (by decide)
    | cons _ _ => simp
   have hcut : ({ data := s.toArray } : ByteArray).extract 1 s.length = { data := s.tail.toArray } := by rw [ba_cut, List.take_of_length_le (Nat.le_refl _), List.drop_one]
   have hT := take_nm s.tail (by rw [List.length_tail]; omega)
   have hdl := dw_le (p := isNm) s.tail
   rw [List.length_tail] at hdl
   generalize s.tail.takeWhile isNm = nm at *
   generalize s.tail.dropWhile isNm = rs at *
   have hP62 := zn rs [62]
   rw [pre_pk 62 rs (by decide)] at hP62
   (refine qg fun T F hT hF => ?_; simp [go_sem, h60]; refine hT ?_; clear hT hF T F)
   (refine qc fun Y Yh => ?_; simp [go_sem, ba_size, hpos, hcut]; ((repeat' (first|(refine qf ?_;simp [go_sem, ba_size, hpos, hcut])|intro _|apply And.intro|(apply Yh;clear Yh Y)));all_goals first|apply QS|omega|with_reducible assumption|skip))
   ((try refine QT ?_); refine qm (.inl ⟨rfl,rfl⟩) (by simp [go_sem]) ?_; intro args ha; simp [go_sem] at ha; subst ha; refine ⟨_, hT, ?_⟩; rintro _ rfl; simp [go_sem]; ((repeat' (first|(refine qf ?_;simp [go_sem])|intro _|apply And.intro|(apply Yh;clear Yh Y)));all_goals first|apply QS|omega|with_reducible assumption|skip))
   refine qh fun K12 hK12 => ?_
   cases nm with
   | nil =>
    rw [if_pos (.inl rfl)] at hN
    (refine qc fun Y Yh => ?_; simp [go_sem]; ((repeat' (first|(refine qw ?_ ?_ ?_;(focus (simp [go_sem, undef];done));(focus (simp [go_sem];done));simp [go_sem])|(refine qp ?_ ?_;(focus (simp [go_sem, undef];done));simp [go_sem])|(refine qf ?_;simp [go_sem, undef])|intro _|apply And.intro|(apply Yh;clear Yh Y)));all_goals first|apply QS|omega|with_reducible assumption|skip))
    (refine qg fun T F hT hF => ?_; simp [go_sem]; refine hT ?_; clear hT hF T F)
    (refine qc fun Y Yh => ?_; simp [go_sem]; ((repeat' (first|(refine qf ?_;simp [go_sem])|intro _|apply And.intro|(apply Yh;clear Yh Y)));all_goals first|apply QS|omega|with_reducible assumption|skip))
    (refine qj ?_; simp [go_sem])
    exact rfldR_none h37 hN ⟨0, [], [], [], -1, -1⟩
   | cons c0 r0 =>
    (refine qc fun Y Yh => ?_; simp [go_sem]; ((repeat' (first|(refine qw ?_ ?_ ?_;(focus (simp [go_sem, undef];done));(focus (simp [go_sem];done));simp [go_sem])|(refine qp ?_ ?_;(focus (simp [go_sem, undef];done));simp [go_sem])|(refine qf ?_;simp [go_sem, undef])|intro _|apply And.intro|(apply Yh;clear Yh Y)));all_goals first|apply QS|omega|with_reducible assumption|skip))
    ((try refine QT ?_); refine qm (.inl ⟨rfl,rfl⟩) (by simp [go_sem]) ?_; intro args ha; simp [go_sem] at ha; subst ha; refine ⟨_, hP62, ?_⟩; rintro _ rfl; simp [go_sem]; ((repeat' (first|(refine qw ?_ ?_ ?_;(focus (simp [go_sem, undef];done));(focus (simp [go_sem];done));simp [go_sem])|(refine qp ?_ ?_;(focus (simp [go_sem, undef];done));simp [go_sem])|(refine qf ?_;simp [go_sem, undef])|intro _|apply And.intro|(apply Yh;clear Yh Y)));all_goals first|apply QS|omega|with_reducible assumption|skip))
    by_cases h62 : pk rs = 62
    ·rw [if_neg (by simp [h62])] at hN
     simp only at hN
     have hpos2 : 1 ≤ rs.length := by
      cases rs with
      | nil => exact absurd h62 (by decide)
      | cons _ _ => simp
     have hcut2 : ({ data := rs.toArray } : ByteArray).extract 1 rs.length = { data := rs.tail.toArray } := by rw [ba_cut, List.take_of_length_le (Nat.le_refl _), List.drop_one]
     (refine qg fun T F hT hF => ?_; simp [go_sem, h62]; refine hF ?_; clear hT hF T F)
     refine qi ?_
     refine hK12 _ ?_; clear hK12
     (refine qc fun Y Yh => ?_; simp [go_sem]; ((repeat' (first|(refine qf ?_;simp [go_sem])|intro _|apply And.intro|(apply Yh;clear Yh Y)));all_goals first|apply QS|omega|with_reducible assumption|skip))
     (refine qx fun Y Yh => ?_; simp [go_sem, ba_size, hpos2, hcut2]; ((repeat' (first|(refine qf ?_;simp [go_sem, ba_size, hpos2, hcut2])|intro _|apply And.intro|(apply Yh;clear Yh Y)));all_goals first|apply QS|omega|with_reducible assumption|skip))
     refine tl3 (c0 :: r0) rs.tail _ (by rw [List.length_tail]; omega) hN ?_
     (refine ql ?_ ?_ <;> simp [go_sem])
    ·rw [if_pos (.inr h62)] at hN
     (refine qg fun T F hT hF => ?_; simp [go_sem, h62]; refine hT ?_; clear hT hF T F)
     (refine qc fun Y Yh => ?_; simp [go_sem]; ((repeat' (first|(refine qf ?_;simp [go_sem])|intro _|apply And.intro|(apply Yh;clear Yh Y)));all_goals first|apply QS|omega|with_reducible assumption|skip))
     (refine qj ?_; simp [go_sem])
     exact rfldR_none h37 hN ⟨0, [], [], [], -1, -1⟩
  ·rw [if_pos h60] at hN
   simp only at hN
   (refine qg fun T F hT hF => ?_; simp [go_sem, h60]; refine hF ?_; clear hT hF T F)
   refine qi ?_
   refine tl3 [] s _ hl hN ?_
   (refine ql ?_ ?_ <;> simp [go_sem])
end Go.Proofs.YtelhdhofnohkcaaGreatDoor
namespace Go.Proofs.YtelhdhofnohkcaaGreatDoor
open Go.Shelf Go.RowKit Go.Sort Go.Lib
set_option maxHeartbeats 6400000 in
set_option maxRecDepth 100000 in
theorem fmtU10_w (u : Nat) (hu64 : u < 18446744073709551616) (w : World) (htab : Lib.TabIs Tryz.prog w "internal/strconv.uint64pow10" .u64 Lib.pow10Tab) :
  Calls Tryz.prog 189 #[.int .u64 u, .int .i64 10] w fun e w' => e = .returned (.string ⟨(Lib.decDigits u).toArray⟩) ∧ ∃ k os, w' = grow (w.drewN k) os := by
 have e83 : ∀ args w, (callFunc 83 args).run Tryz.prog w = .ok (.enter 83 args) w := enters_of Tryz.func83 (by kernel_rfl) rfl
 have e84 : ∀ args w, (callFunc 84 args).run Tryz.prog w = .ok (.enter 84 args) w := enters_of Tryz.func84 (by kernel_rfl) rfl
 have e85 : ∀ args w, (callFunc 85 args).run Tryz.prog w = .ok (.enter 85 args) w := enters_of Tryz.func85 (by kernel_rfl) rfl
 by_cases hs : u < 100
 ·go_enter Tryz.func189, Tryz.ntmps189
  go_wp2_with (go_at_fn 83; refine (Tryz.internal_strconv_small u hs _).mono ?_; rintro e w' ⟨rfl, rfl⟩)
  go_ret
  refine ⟨rfl, 0, #[], by simp [World.drewN_zero]⟩
 ·have hu1 : 1 ≤ u := by omega
  have hnd20 : Lib.nDigits u ≤ 20 := by have := Lib.numDigits_eq u hu1 hu64; split at this <;> omega
  have hal : Tryz.prog.arrayLen 142 = 24 := by simp [Program.arrayLen, Tryz.underlying142]
  have hsl1 : ∀ W, (Instr.sliceAt 142 (.pointer (some ⟨w.heap.size, 0, none⟩)) none (some (.int .i64 (Lib.nDigits u : Int))) none).run Tryz.prog W = .ok (.slice (some ⟨w.heap.size, 0, none⟩) (Lib.nDigits u) 24) W := fun W => by
   rw [run_sliceAt_array_h W 142 ⟨w.heap.size, 0, none⟩ (by simp [Program.arrayLen, Program.elem, Tryz.underlying142]) .i64 (Lib.nDigits u : Int) (by omega) (by rw [hal]; omega)]
   go_simp
  have hH0 := Lib.holds_zero0 w 142 (Lib.nDigits u) (by omega)
  have hfmt := Tryz.internal_strconv_formatBase10 w.heap.size 0 24 u (Array.replicate (Lib.nDigits u) 0) (w.alloc (.cells Lib.zeros24 142)) hH0 (by rw [Array.size_replicate]; exact Lib.lt_pow_nDigits u) hu64 (by rw [Array.size_replicate]; omega)
  rw [Array.size_replicate] at hfmt
  have HH0 := Lib.hid hH0
  clear hH0 hal
  go_enter Tryz.func189, Tryz.ntmps189
  go_wp2_with (first
   | (go_at_fn 84; refine (Tryz.internal_strconv_numDigits u hu1 hu64 _ (Lib.tabIs_alloc htab _)).mono ?_; rintro e w' ⟨rfl, rfl⟩))
  refine hfmt.mono ?_
  rintro e w' ⟨rfl, k, v', dk, rfl, hF⟩
  have hcv : (convert 68 9 (.slice (some ⟨w.heap.size, 0, none⟩) (Lib.nDigits u) 24)).run Tryz.prog ((putRow (fun (b : UInt8) => Value.int .u8 (b.toNat : Int)) (w.alloc (.cells Lib.zeros24 142)) w.heap.size 0 dk).drewN k) = .ok (.string ⟨(Lib.decDigits u).toArray⟩) ((putRow (fun (b : UInt8) => Value.int .u8 (b.toNat : Int)) (w.alloc (.cells Lib.zeros24 142)) w.heap.size 0 dk).drewN k) := by
   have h := run_convert_bytes_back (P := Tryz.prog) ((putRow (fun (b : UInt8) => Value.int .u8 (b.toNat : Int)) (w.alloc (.cells Lib.zeros24 142)) w.heap.size 0 dk).drewN k) 68 9 5 ⟨w.heap.size, 0, none⟩ 24 (Lib.decDigits u) Tryz.underlying68 Tryz.underlying5 Tryz.underlying9 (fun j hj => by
    rw [Lib.row_is_numeral hF j hj, Lib.add_plain, World.cell?_drewN]
    exact cell?_putRow (fun (b : UInt8) => Value.int .u8 (b.toNat : Int)) _ w.heap.size 0 _ dk HH0.out (by rw [hF.size, Array.size_replicate]) j (by rw [hF.size]; rw [Lib.decDigits_length] at hj; exact hj))
   rw [Lib.decDigits_length] at h
   exact h
  go_wp2
  go_ret
  obtain ⟨os, eo⟩ := Lib.fin_at w (.cells Lib.zeros24 142) dk k 0
  exact ⟨rfl, k, os, eo⟩
end Go.Proofs.YtelhdhofnohkcaaGreatDoor
namespace Go.Proofs.YtelhdhofnohkcaaGreatDoor
open Go.Eng Go.Fm
set_option maxRecDepth 20000
attribute [local irreducible] AG CallA CallT AWp PCall ACall AgC
theorem dec_txt (u : Nat) : Lib.decDigits u = txtB 10 u := by
 have h := itoa_show (u : Int)
 rw [Lib.itoa_nonneg] at h
 rw [h]
 unfold showB
 rw [if_neg (by omega)]
 simp
theorem kM (u : Nat) (h : u < 2 ^ 64) : PCall Tryz.prog 189 [.v (.int .u64 u), dI 10] fun r => r = dS (txtB 10 u) := by
 refine qV ⟨_, Tryz.func189, rfl, rfl⟩ fun C w us hc hg hr => ?_
 have hg : glOk w := hg
 obtain rfl := repL_v (us := [.int .u64 u, .int .i64 10]) hr
 refine (fmtU10_w u (by omega) w hg.1).mono ?_
 rintro e w' ⟨rfl, k, os, rfl⟩
 exact ⟨_, _, rfl, by rw [dec_txt], .v _, below_gd w k os⟩
theorem ja {b s k : Nat} (h : Bas b s k) (u : Nat) (hu : u < 2 ^ 64) : PCall Tryz.prog 189 [.v (.int .u64 u), dI b] fun r => r = dS (txtB b u) := by 
 refine qB Tryz.func189 rfl rfl Tryz.ntmps189 (rs := [.tmp 4]) (tys := [9]) rfl rfl (by simp) ?_
 have hb : ¬ (b : Int) = 10 := by rcases h.cases with ⟨rfl, _, _⟩ | ⟨rfl, _, _⟩ | ⟨rfl, _, _⟩ <;> decide
 have B := xn h (u : Int) u false rfl hu
 simp only [Bool.false_eq_true, if_false, List.nil_append] at B
 (refine qc fun Y Yh => ?_; simp [go_sem]; ((repeat' (first|(refine qf ?_;simp [go_sem])|intro _|apply And.intro|(apply Yh;clear Yh Y)));all_goals first|apply QS|omega|with_reducible assumption|skip))
 refine qh fun K1 hK1 => ?_
 (refine qc fun Y Yh => ?_; simp [go_sem]; ((repeat' (first|(refine qf ?_;simp [go_sem])|intro _|apply And.intro|(apply Yh;clear Yh Y)));all_goals first|apply QS|omega|with_reducible assumption|skip))
 (refine qg fun T F hT hF => ?_; simp [go_sem, hb]; refine hF ?_; clear hT hF T F)
 refine qi ?_
 refine hK1 _ ?_; clear hK1
 (refine qc fun Y Yh => ?_; simp [go_sem]; ((repeat' (first|(refine qf ?_;simp [go_sem])|intro _|apply And.intro|(apply Yh;clear Yh Y)));all_goals first|apply QS|omega|with_reducible assumption|skip))
 ((try refine QT ?_); refine qm (.inl ⟨rfl,rfl⟩) (by simp [go_sem]) ?_; intro args ha; simp [go_sem] at ha; subst ha; refine ⟨_, B, ?_⟩; rintro _ rfl; simp [go_sem]; ((repeat' (first|(refine qf ?_;simp [go_sem])|intro _|apply And.intro|(apply Yh;clear Yh Y)));all_goals first|apply QS|omega|with_reducible assumption|skip))
 (refine qc fun Y Yh => ?_; simp [go_sem]; ((repeat' (first|(refine qf ?_;simp [go_sem])|intro _|apply And.intro|(apply Yh;clear Yh Y)));all_goals first|apply QS|omega|with_reducible assumption|skip))
 (refine qj ?_; simp [go_sem])
theorem wP (b : Nat) (hb : b = 2 ∨ b = 8 ∨ b = 16 ∨ b = 10) (u : Nat) (hu : u < 2 ^ 64) : PCall Tryz.prog 166 [.v (.int .u64 u), dI b] fun r => r = dS (txtB b u) := by 
 have hP : PCall Tryz.prog 189 [.v (.int .u64 u), dI b] fun r => r = dS (txtB b u) := by
  rcases hb with rfl | rfl | rfl | rfl
  ·exact ja (s := 1) (k := 1) (by simp [Bas]) u hu
  ·exact ja (s := 3) (k := 7) (by simp [Bas]) u hu
  ·exact ja (s := 4) (k := 15) (by simp [Bas]) u hu
  ·exact kM u hu
 refine qB Tryz.func166 rfl rfl Tryz.ntmps166 (rs := [.tmp 4]) (tys := [9]) rfl rfl (by simp) ?_
 (refine qc fun Y Yh => ?_; simp [go_sem]; ((repeat' (first|(refine qf ?_;simp [go_sem])|intro _|apply And.intro|(apply Yh;clear Yh Y)));all_goals first|apply QS|omega|with_reducible assumption|skip))
 (refine qc fun Y Yh => ?_; simp [go_sem]; ((repeat' (first|(refine qf ?_;simp [go_sem])|intro _|apply And.intro|(apply Yh;clear Yh Y)));all_goals first|apply QS|omega|with_reducible assumption|skip))
 ((try refine QT ?_); refine qm (.inl ⟨rfl,rfl⟩) (by simp [go_sem]) ?_; intro args ha; simp [go_sem] at ha; subst ha; refine ⟨_, hP, ?_⟩; rintro _ rfl; simp [go_sem]; ((repeat' (first|(refine qf ?_;simp [go_sem])|intro _|apply And.intro|(apply Yh;clear Yh Y)));all_goals first|apply QS|omega|with_reducible assumption|skip))
 (refine qj ?_; simp [go_sem])
def whD (f : Rf) (n prec : Int) : Bs :=
 let d := txtB (baseV f.lt) n.natAbs
 let d := if f.lt = 88 then d.map upC else d
 let d := if prec = 0 ∧ n = 0 then [] else d
 if 0 < prec - d.length then rep 48 (prec - d.length) ++ d else d
def whS (f : Rf) (n : Int) : Bs := if n < 0 then [45] else if f.fl.contains 43 then [43] else if f.fl.contains 32 then [32] else []
def whF (f : Rf) (n prec : Int) : Bs := whS f n ++ (if f.fl.contains 35 = true ∧ n ≠ 0 then Fm.preV f.lt (whD f n prec) else [])
def wholeV (f : Rf) (n width prec : Int) (left : Bool) : Bs :=
 let m := width - (whF f n prec).length - (whD f n prec).length
 filV (whF f n prec ++ if f.fl.contains 48 = true ∧ prec = -1 ∧ left = false ∧ 0 < m then rep 48 m ++ whD f n prec else whD f n prec) width left
theorem whole_num (f : Rf) (n width prec : Int) (left : Bool) (hp : -1 ≤ prec) : wholeV f n width prec left = numV { toFd f with wd := width, pr := prec, lf := left } n := by
 have e1 : digsV { toFd f with wd := width, pr := prec, lf := left } n = whD f n prec := by
  rfl
 have e2 : signV { toFd f with wd := width, pr := prec, lf := left } n = whS f n := rfl
 have e3 : whF f n prec = whS f n ++ (if ({ toFd f with wd := width, pr := prec, lf := left } : Fld).ha ∧ n ≠ 0 ∧ ({ toFd f with wd := width, pr := prec, lf := left } : Fld).lt ≠ 100 then Fm.preV ({ toFd f with wd := width, pr := prec, lf := left } : Fld).lt (whD f n prec) else []) := by
  unfold whF
  congr 1
  simp only [toFd]
  by_cases h : f.lt = 100
  ·have : Fm.preV f.lt (whD f n prec) = [] := by rw [h]; unfold Fm.preV; simp
   rw [this]
   simp
  ·simp [h]
 unfold numV
 rw [e1, e2]
 dsimp only
 rw [← e3, Qu]
 unfold wholeV
 dsimp only
 have e4 : (f.fl.contains 48 = true ∧ prec = -1 ∧ left = false ∧ 0 < width - ((whF f n prec).length : Int) - ((whD f n prec).length : Int)) = ((toFd f).ze = true ∧ prec < 0 ∧ left = false ∧ 0 < width - ((whF f n prec).length : Int) - ((whD f n prec).length : Int)) := by
  simp only [toFd, eq_iff_iff]
  constructor
  ·rintro ⟨h1, h2, h3⟩; exact ⟨h1, by omega, h3⟩
  ·rintro ⟨h1, h2, h3⟩; exact ⟨h1, by omega, h3⟩
 simp only [e4]
theorem Qj (c : UInt8) (d : Bs) : (Fm.preV c d).length ≤ 2 := by
 unfold Fm.preV
 (repeat' split) <;> simp
set_option maxHeartbeats 32000000 in
theorem kT (f : Rf) (n width prec : Int) (left : Bool) (hn : InR n) (hl : NL f.lt) (hw : -1 ≤ width ∧ width ≤ 1000) (hp : -1 ≤ prec ∧ prec ≤ 1000) :
  PCall Tryz.prog 135 [dRf f, dI n, dI width, dI prec, dB left] fun r => r = dS (wholeV f n width prec left) := by 
 refine qB Tryz.func135 rfl rfl Tryz.ntmps135 (rs := [.tmp 10]) (tys := [9]) rfl rfl (by simp) ?_
 obtain ⟨w1, w2⟩ := wrap_neg hn
 have hb2 : 2 ≤ baseV f.lt ∧ baseV f.lt ≤ 16 := by rcases hl.base with h | h | h | h <;> rw [h] <;> decide
 have hlen := txt_len hb2.1 w2
 have F3 := jD (txtB (baseV f.lt) n.natAbs) (by omega) (txtB_ascii hb2.1 hb2.2 _)
 have FU := wP (baseV f.lt) hl.base n.natAbs w2
 have FB := vg f.lt
 have c43 := zo f.fl 43
 have c32 := zo f.fl 32
 have c35 := zo f.fl 35
 have c48 := zo f.fl 48
 have b88 : decide ((f.lt.toNat : Int) = 88) = decide (f.lt = 88) := u8_eqb _ 88 (by decide)
 have eD : whD f n prec = (if 0 < prec - ((if prec = 0 ∧ n = 0 then [] else if f.lt = 88 then (txtB (baseV f.lt) n.natAbs).map upC else txtB (baseV f.lt) n.natAbs).length : Int) then rep 48 (prec - ((if prec = 0 ∧ n = 0 then [] else if f.lt = 88 then (txtB (baseV f.lt) n.natAbs).map upC else txtB (baseV f.lt) n.natAbs).length : Int)) ++ (if prec = 0 ∧ n = 0 then [] else if f.lt = 88 then (txtB (baseV f.lt) n.natAbs).map upC else txtB (baseV f.lt) n.natAbs) else (if prec = 0 ∧ n = 0 then [] else if f.lt = 88 then (txtB (baseV f.lt) n.natAbs).map upC else txtB (baseV f.lt) n.natAbs)) := rfl
 have hPr := xC f.lt (whD f n prec)
 have hPl := Qj f.lt (whD f n prec)
 have eF : whF f n prec = whS f n ++ (if f.fl.contains 35 = true ∧ n ≠ 0 then Fm.preV f.lt (whD f n prec) else []) := rfl
 have hSl : (whS f n).length ≤ 1 := by unfold whS; (repeat' split) <;> simp
 have eS : whS f n = if n < 0 then [45] else if f.fl.contains 43 then [43] else if f.fl.contains 32 then [32] else [] := rfl
 have eW : wholeV f n width prec left = filV (whF f n prec ++ if f.fl.contains 48 = true ∧ prec = -1 ∧ left = false ∧ 0 < width - (whF f n prec).length - (whD f n prec).length then rep 48 (width - (whF f n prec).length - (whD f n prec).length) ++ whD f n prec else whD f n prec) width left := rfl
 rw [eW]
 clear eW
 generalize Fm.preV f.lt (whD f n prec) = PV at *
 generalize hD0 : txtB (baseV f.lt) n.natAbs = D0 at *
 have hD1l : (if f.lt = 88 then D0.map upC else D0).length ≤ 64 := by split <;> simpa using hlen
 generalize hD1 : (if f.lt = 88 then D0.map upC else D0) = D1 at *
 have hD2l : (if prec = 0 ∧ n = 0 then [] else D1).length ≤ 64 := by
  split
  ·simp
  ·exact hD1l
 generalize hD2 : (if prec = 0 ∧ n = 0 then [] else D1) = D2 at *
 have hD3l : (whD f n prec).length ≤ 1064 := by
  rw [eD]
  split
  ·rw [List.length_append, rep_len]; omega
  ·omega
 generalize hD3 : whD f n prec = D3 at *
 have hFl : (whF f n prec).length ≤ 3 := by
  rw [eF, List.length_append]
  split
  ·omega
  ·simp; omega
 generalize hFr : whF f n prec = Fr at *
 generalize whS f n = Sg at *
 generalize hfl43 : f.fl.contains 43 = q43 at *
 generalize hfl32 : f.fl.contains 32 = q32 at *
 generalize hfl35 : f.fl.contains 35 = q35 at *
 generalize hfl48 : f.fl.contains 48 = q48 at *
 generalize hD4 : (if q48 = true ∧ prec = -1 ∧ left = false ∧ 0 < width - (Fr.length : Int) - (D3.length : Int) then rep 48 (width - (Fr.length : Int) - (D3.length : Int)) ++ D3 else D3) = D4 at *
 have hD4l : D4.length ≤ 3000 := by
  rw [← hD4]
  split
  ·rw [List.length_append, rep_len]; omega
  ·omega
 have hFil := je (Fr ++ D4) width left (by rw [List.length_append]; omega) (by omega) (by omega)
 generalize filV (Fr ++ D4) width left = Z at *
 (refine qc fun Y Yh => ?_; simp [go_sem]; ((repeat' (first|(refine qf ?_;simp [go_sem])|intro _|apply And.intro|(apply Yh;clear Yh Y)));all_goals first|apply QS|omega|with_reducible assumption|skip))
 rename_i g5
 (refine qc fun Y Yh => ?_; simp [go_sem]; ((repeat' (first|(refine qf ?_;simp [go_sem])|intro _|apply And.intro|(apply Yh;clear Yh Y)));all_goals first|apply QS|omega|with_reducible assumption|skip))
 refine qh fun K1 hK1 => ?_
 have tl1 : ∀ S', Cov S' ⟨[(1, dI n), (2, dI width), (3, dI prec), (4, dB left), (5, .ptr 5 g5 0), (11, .v (.int .u64 (n.natAbs : Nat)))], [(5, (g5, .box (cRf f)))]⟩ → K1 S' := fun S' hS => by
  refine hK1 _ ?_; clear hK1
  refine qG hS ?_; clear hS
  (refine qc fun Y Yh => ?_; simp [go_sem]; ((repeat' (first|(refine qf ?_;simp [go_sem])|intro _|apply And.intro|(apply Yh;clear Yh Y)));all_goals first|apply QS|omega|with_reducible assumption|skip))
  ((try refine QT ?_); refine qm (.inl ⟨rfl,rfl⟩) (by simp [go_sem]) ?_; intro args ha; simp [go_sem] at ha; subst ha; refine ⟨_, FB, ?_⟩; rintro _ rfl; simp [go_sem]; ((repeat' (first|(refine qf ?_;simp [go_sem])|intro _|apply And.intro|(apply Yh;clear Yh Y)));all_goals first|apply QS|omega|with_reducible assumption|skip))
  ((try refine QT ?_); refine qm (.inl ⟨rfl,rfl⟩) (by simp [go_sem]) ?_; intro args ha; simp [go_sem] at ha; subst ha; refine ⟨_, FU, ?_⟩; rintro _ rfl; simp [go_sem]; ((repeat' (first|(refine qf ?_;simp [go_sem])|intro _|apply And.intro|(apply Yh;clear Yh Y)));all_goals first|apply QS|omega|with_reducible assumption|skip))
  refine qh fun K2 hK2 => ?_
  have tl2 : ∀ S', Cov S' ⟨[(1, dI n), (2, dI width), (3, dI prec), (4, dB left), (5, .ptr 5 g5 0), (12, dS D1)], [(5, (g5, .box (cRf f)))]⟩ → K2 S' := fun S' hS => by
   refine hK2 _ ?_; clear hK2
   refine qG hS ?_; clear hS
   refine qh fun K3 hK3 => ?_
   have tl3 : ∀ S', Cov S' ⟨[(1, dI n), (2, dI width), (3, dI prec), (4, dB left), (5, .ptr 5 g5 0), (12, dS D2)], [(5, (g5, .box (cRf f)))]⟩ → K3 S' := fun S' hS => by
    refine hK3 _ ?_; clear hK3
    refine qG hS ?_; clear hS
    refine qh fun K4 hK4 => ?_
    have tl4 : ∀ S', Cov S' ⟨[(1, dI n), (2, dI width), (3, dI prec), (4, dB left), (5, .ptr 5 g5 0), (12, dS D3)], [(5, (g5, .box (cRf f)))]⟩ → K4 S' := fun S' hS => by
     refine hK4 _ ?_; clear hK4
     refine qG hS ?_; clear hS
     (refine qc fun Y Yh => ?_; simp [go_sem]; ((repeat' (first|(refine qf ?_;simp [go_sem])|intro _|apply And.intro|(apply Yh;clear Yh Y)));all_goals first|apply QS|omega|with_reducible assumption|skip))
     refine qh fun K7 hK7 => ?_
     have tl7 : ∀ S', Cov S' ⟨[(1, dI n), (2, dI width), (3, dI prec), (4, dB left), (5, .ptr 5 g5 0), (12, dS D3), (13, dS Sg)], [(5, (g5, .box (cRf f)))]⟩ → K7 S' := fun S' hS => by
      refine hK7 _ ?_; clear hK7
      refine qG hS ?_; clear hS
      refine qh fun K8 hK8 => ?_
      have tl8 : ∀ S', Cov S' ⟨[(1, dI n), (2, dI width), (3, dI prec), (4, dB left), (5, .ptr 5 g5 0), (12, dS D3), (13, dS Fr)], [(5, (g5, .box (cRf f)))]⟩ → K8 S' := fun S' hS => by
       refine hK8 _ ?_; clear hK8
       refine qG hS ?_; clear hS
       refine qh fun K9 hK9 => ?_
       have tl9 : ∀ S', Cov S' ⟨[(2, dI width), (4, dB left), (12, dS D4), (13, dS Fr)], []⟩ → K9 S' := fun S' hS => by
        refine hK9 _ ?_; clear hK9
        refine qG hS ?_; clear hS
        (refine qc fun Y Yh => ?_; simp [go_sem, ba_app, ba_size]; ((repeat' (first|(refine qf ?_;simp [go_sem, ba_app, ba_size])|intro _|apply And.intro|(apply Yh;clear Yh Y)));all_goals first|apply QS|omega|with_reducible assumption|skip))
        ((try refine QT ?_); refine qm (.inl ⟨rfl,rfl⟩) (by simp [go_sem]) ?_; intro args ha; simp [go_sem] at ha; subst ha; refine ⟨_, hFil, ?_⟩; rintro _ rfl; simp [go_sem]; ((repeat' (first|(refine qf ?_;simp [go_sem])|intro _|apply And.intro|(apply Yh;clear Yh Y)));all_goals first|apply QS|omega|with_reducible assumption|skip))
        (refine qj ?_; simp [go_sem])
       clear hK9
       (refine qc fun Y Yh => ?_; simp [go_sem]; ((repeat' (first|(refine qf ?_;simp [go_sem])|intro _|apply And.intro|(apply Yh;clear Yh Y)));all_goals first|apply QS|omega|with_reducible assumption|skip))
       ((try refine QT ?_); refine qm (.inl ⟨rfl,rfl⟩) (by simp [go_sem]) ?_; intro args ha; simp [go_sem] at ha; subst ha; refine ⟨_, c48, ?_⟩; rintro _ rfl; simp [go_sem]; ((repeat' (first|(refine qf ?_;simp [go_sem])|intro _|apply And.intro|(apply Yh;clear Yh Y)));all_goals first|apply QS|omega|with_reducible assumption|skip))
       by_cases hq : q48 = true ∧ prec = -1 ∧ left = false
       ·obtain ⟨hq1, hq2, hq3⟩ := hq
        have hb : (q48 && decide (prec = -1) && !left) = true := by rw [hq1, hq3]; simp [hq2]
        have hE : ∀ x : Nat, x = (width - (Fr.length : Int) - (D3.length : Int)).toNat → List.replicate x (48 : UInt8) ++ D3 = D4 := fun x q => by
         rw [← hD4, q]
         by_cases h : 0 < width - (Fr.length : Int) - (D3.length : Int)
         ·rw [if_pos ⟨hq1, hq2, hq3, h⟩]; rfl
         ·rw [if_neg (fun q => h q.2.2.2), show (width - (Fr.length : Int) - (D3.length : Int)).toNat = 0 by omega]; rfl
        (refine qg fun T F hT hF => ?_; simp [go_sem, hb]; refine hT ?_; clear hT hF T F)
        refine qo ?_
        refine qM (σ := Nat) (fun x => ⟨[(2, dI width), (4, dB left), (12, dS (List.replicate x 48 ++ D3)), (13, dS Fr)], []⟩) (fun x => x ≤ (width - (Fr.length : Int) - (D3.length : Int)).toNat) (fun x => (width - (Fr.length : Int) - (D3.length : Int)).toNat - x) 0 ?_ ?_ ?_
        ·(refine ql ?_ ?_ <;> simp [go_sem])
        ·simp
        intro x hx
        refine qh fun K11 hK11 => ?_
        have hsz : (List.replicate x (48 : UInt8) ++ D3).length = x + D3.length := by simp
        have hcons : 48 :: (List.replicate x (48 : UInt8) ++ D3) = List.replicate (x + 1) (48 : UInt8) ++ D3 := rfl
        have hT0 := hE x
        have hTs : ∀ S', Cov S' ⟨[(2, dI width), (4, dB left), (12, dS (48 :: (List.replicate x (48 : UInt8) ++ D3))), (13, dS Fr)], []⟩ → Cov S' ⟨[(2, dI width), (4, dB left), (12, dS (List.replicate (x + 1) (48 : UInt8) ++ D3)), (13, dS Fr)], []⟩ := fun S' h => by rw [← hcons]; exact h
        generalize List.replicate x (48 : UInt8) ++ D3 = T0 at *
        (refine qc fun Y Yh => ?_; simp [go_sem, ba_size, hsz]; ((repeat' (first|(refine qf ?_;simp [go_sem, ba_size, hsz])|intro _|apply And.intro|(apply Yh;clear Yh Y)));all_goals first|apply QS|omega|with_reducible assumption|skip))
        by_cases h12 : (Fr.length : Int) + ((x : Int) + D3.length) < width
        ·(refine qg fun T F hT hF => ?_; simp [go_sem, h12]; refine hT ?_; clear hT hF T F)
         refine qi ?_
         refine hK11 _ ?_; clear hK11
         refine qo ?_
         (refine qx fun Y Yh => ?_; simp [go_sem, ba_app, ba_size, hsz]; ((repeat' (first|(refine qf ?_;simp [go_sem, ba_app, ba_size, hsz])|intro _|apply And.intro|(apply Yh;clear Yh Y)));all_goals first|apply QS|omega|with_reducible assumption|skip))
         refine ⟨x + 1, hTs _ ?_, by omega, by omega⟩
         (refine ql ?_ ?_ <;> simp [go_sem])
        ·(refine qg fun T F hT hF => ?_; simp [go_sem, h12]; refine hF ?_; clear hT hF T F)
         refine qH ?_
         simp only [go_sem]
         rw [hT0 (by omega)]
         refine tl9 _ ?_
         (refine ql ?_ ?_ <;> simp [go_sem])
       ·have hb : (q48 && decide (prec = -1) && !left) = false := by
         rw [Bool.eq_false_iff]
         intro q
         simp only [Bool.and_eq_true, decide_eq_true_eq, Bool.not_eq_true'] at q
         exact hq ⟨q.1.1, q.1.2, q.2⟩
        rw [if_neg (fun q => hq ⟨q.1, q.2.1, q.2.2.1⟩)] at hD4
        subst hD4
        (refine qg fun T F hT hF => ?_; simp [go_sem, hb]; refine hF ?_; clear hT hF T F)
        refine qi ?_
        refine tl9 _ ?_
        (refine ql ?_ ?_ <;> simp [go_sem])
      clear hK8
      (refine qc fun Y Yh => ?_; simp [go_sem]; ((repeat' (first|(refine qf ?_;simp [go_sem])|intro _|apply And.intro|(apply Yh;clear Yh Y)));all_goals first|apply QS|omega|with_reducible assumption|skip))
      ((try refine QT ?_); refine qm (.inl ⟨rfl,rfl⟩) (by simp [go_sem]) ?_; intro args ha; simp [go_sem] at ha; subst ha; refine ⟨_, c35, ?_⟩; rintro _ rfl; simp [go_sem]; ((repeat' (first|(refine qf ?_;simp [go_sem])|intro _|apply And.intro|(apply Yh;clear Yh Y)));all_goals first|apply QS|omega|with_reducible assumption|skip))
      by_cases hq : q35 = true ∧ n ≠ 0
      ·have hb : (q35 && !decide (n = 0)) = true := by rw [hq.1]; simp [hq.2]
       rw [if_pos hq] at eF
       subst eF
       (refine qg fun T F hT hF => ?_; simp [go_sem, hb]; refine hT ?_; clear hT hF T F)
       (refine qx fun Y Yh => ?_; simp [go_sem]; ((repeat' (first|(refine qf ?_;simp [go_sem])|intro _|apply And.intro|(apply Yh;clear Yh Y)));all_goals first|apply QS|omega|with_reducible assumption|skip))
       ((try refine QT ?_); refine qm (.inl ⟨rfl,rfl⟩) (by simp [go_sem]) ?_; intro args ha; simp [go_sem] at ha; subst ha; refine ⟨_, hPr, ?_⟩; rintro _ rfl; simp [go_sem, ba_app, ba_size]; ((repeat' (first|(refine qf ?_;simp [go_sem, ba_app, ba_size])|intro _|apply And.intro|(apply Yh;clear Yh Y)));all_goals first|apply QS|omega|with_reducible assumption|skip))
       refine tl8 _ ?_
       (refine ql ?_ ?_ <;> simp [go_sem])
      ·have hb : (q35 && !decide (n = 0)) = false := by
        rw [Bool.eq_false_iff]
        intro q
        simp only [Bool.and_eq_true, Bool.not_eq_true', decide_eq_false_iff_not] at q
        exact hq q
       rw [if_neg hq, List.append_nil] at eF
       subst eF
       (refine qg fun T F hT hF => ?_; simp [go_sem, hb]; refine hF ?_; clear hT hF T F)
       refine qi ?_
       refine tl8 _ ?_
       (refine ql ?_ ?_ <;> simp [go_sem])
     clear hK7
     refine qo ?_
     (refine qc fun Y Yh => ?_; simp [go_sem]; ((repeat' (first|(refine qf ?_;simp [go_sem])|intro _|apply And.intro|(apply Yh;clear Yh Y)));all_goals first|apply QS|omega|with_reducible assumption|skip))
     by_cases h14 : n < 0
     ·rw [if_pos h14] at eS
      subst eS
      (refine qg fun T F hT hF => ?_; simp [go_sem, h14]; refine hT ?_; clear hT hF T F)
      (refine qx fun Y Yh => ?_; simp [go_sem]; ((repeat' (first|(refine qf ?_;simp [go_sem])|intro _|apply And.intro|(apply Yh;clear Yh Y)));all_goals first|apply QS|omega|with_reducible assumption|skip))
      refine tl7 _ ?_
      (refine ql ?_ ?_ <;> simp [go_sem])
     ·rw [if_neg h14] at eS
      (refine qg fun T F hT hF => ?_; simp [go_sem, h14]; refine hF ?_; clear hT hF T F)
      (refine qc fun Y Yh => ?_; simp [go_sem]; ((repeat' (first|(refine qf ?_;simp [go_sem])|intro _|apply And.intro|(apply Yh;clear Yh Y)));all_goals first|apply QS|omega|with_reducible assumption|skip))
      ((try refine QT ?_); refine qm (.inl ⟨rfl,rfl⟩) (by simp [go_sem]) ?_; intro args ha; simp [go_sem] at ha; subst ha; refine ⟨_, c43, ?_⟩; rintro _ rfl; simp [go_sem]; ((repeat' (first|(refine qf ?_;simp [go_sem])|intro _|apply And.intro|(apply Yh;clear Yh Y)));all_goals first|apply QS|omega|with_reducible assumption|skip))
      cases q43 with
      | true =>
       rw [if_pos rfl] at eS
       subst eS
       (refine qg fun T F hT hF => ?_; simp [go_sem]; refine hT ?_; clear hT hF T F)
       (refine qx fun Y Yh => ?_; simp [go_sem]; ((repeat' (first|(refine qf ?_;simp [go_sem])|intro _|apply And.intro|(apply Yh;clear Yh Y)));all_goals first|apply QS|omega|with_reducible assumption|skip))
       refine tl7 _ ?_
       (refine ql ?_ ?_ <;> simp [go_sem])
      | false =>
       rw [if_neg (by simp)] at eS
       (refine qg fun T F hT hF => ?_; simp [go_sem]; refine hF ?_; clear hT hF T F)
       (refine qc fun Y Yh => ?_; simp [go_sem]; ((repeat' (first|(refine qf ?_;simp [go_sem])|intro _|apply And.intro|(apply Yh;clear Yh Y)));all_goals first|apply QS|omega|with_reducible assumption|skip))
       ((try refine QT ?_); refine qm (.inl ⟨rfl,rfl⟩) (by simp [go_sem]) ?_; intro args ha; simp [go_sem] at ha; subst ha; refine ⟨_, c32, ?_⟩; rintro _ rfl; simp [go_sem]; ((repeat' (first|(refine qf ?_;simp [go_sem])|intro _|apply And.intro|(apply Yh;clear Yh Y)));all_goals first|apply QS|omega|with_reducible assumption|skip))
       cases q32 with
       | true =>
        rw [if_pos rfl] at eS
        subst eS
        (refine qg fun T F hT hF => ?_; simp [go_sem]; refine hT ?_; clear hT hF T F)
        (refine qx fun Y Yh => ?_; simp [go_sem]; ((repeat' (first|(refine qf ?_;simp [go_sem])|intro _|apply And.intro|(apply Yh;clear Yh Y)));all_goals first|apply QS|omega|with_reducible assumption|skip))
        refine tl7 _ ?_
        (refine ql ?_ ?_ <;> simp [go_sem])
       | false =>
        rw [if_neg (by simp)] at eS
        subst eS
        (refine qg fun T F hT hF => ?_; simp [go_sem]; refine hF ?_; clear hT hF T F)
        refine qi ?_
        refine tl7 _ ?_
        (refine ql ?_ ?_ <;> simp [go_sem])
    clear hK4
    refine qo ?_
    refine qM (σ := Nat) (fun x => ⟨[(1, dI n), (2, dI width), (3, dI prec), (4, dB left), (5, .ptr 5 g5 0), (12, dS (List.replicate x 48 ++ D2))], [(5, (g5, .box (cRf f)))]⟩) (fun x => x ≤ (prec - D2.length).toNat) (fun x => (prec - D2.length).toNat - x) 0 ?_ ?_ ?_
    ·(refine ql ?_ ?_ <;> simp [go_sem])
    ·simp
    intro x hx
    refine qh fun K5 hK5 => ?_
    have hsz : (List.replicate x (48 : UInt8) ++ D2).length = x + D2.length := by simp
    have hcons : 48 :: (List.replicate x (48 : UInt8) ++ D2) = List.replicate (x + 1) (48 : UInt8) ++ D2 := rfl
    have hT0 : x = (prec - D2.length).toNat → List.replicate x (48 : UInt8) ++ D2 = D3 := fun q => by
     rw [eD, q]
     by_cases h : 0 < prec - (D2.length : Int)
     ·rw [if_pos h]; rfl
     ·rw [if_neg h, show (prec - (D2.length : Int)).toNat = 0 by omega]; rfl
    have hTs : ∀ S', Cov S' ⟨[(1, dI n), (2, dI width), (3, dI prec), (4, dB left), (5, .ptr 5 g5 0), (12, dS (48 :: (List.replicate x (48 : UInt8) ++ D2)))], [(5, (g5, .box (cRf f)))]⟩ → Cov S' ⟨[(1, dI n), (2, dI width), (3, dI prec), (4, dB left), (5, .ptr 5 g5 0), (12, dS (List.replicate (x + 1) 48 ++ D2))], [(5, (g5, .box (cRf f)))]⟩ := fun S' h => by rw [← hcons]; exact h
    generalize List.replicate x (48 : UInt8) ++ D2 = T0 at *
    (refine qc fun Y Yh => ?_; simp [go_sem, ba_size, hsz]; ((repeat' (first|(refine qf ?_;simp [go_sem, ba_size, hsz])|intro _|apply And.intro|(apply Yh;clear Yh Y)));all_goals first|apply QS|omega|with_reducible assumption|skip))
    by_cases h6 : (x : Int) + D2.length < prec
    ·(refine qg fun T F hT hF => ?_; simp [go_sem, h6]; refine hT ?_; clear hT hF T F)
     refine qi ?_
     refine hK5 _ ?_; clear hK5
     refine qo ?_
     (refine qx fun Y Yh => ?_; simp [go_sem, ba_app, ba_size, hsz]; ((repeat' (first|(refine qf ?_;simp [go_sem, ba_app, ba_size, hsz])|intro _|apply And.intro|(apply Yh;clear Yh Y)));all_goals first|apply QS|omega|with_reducible assumption|skip))
     refine ⟨x + 1, hTs _ ?_, by omega, by omega⟩
     (refine ql ?_ ?_ <;> simp [go_sem])
    ·(refine qg fun T F hT hF => ?_; simp [go_sem, h6]; refine hF ?_; clear hT hF T F)
     refine qH ?_
     simp only [go_sem]
     rw [hT0 (by omega)]
     refine tl4 _ ?_
     (refine ql ?_ ?_ <;> simp [go_sem])
   clear hK3
   (refine qc fun Y Yh => ?_; simp [go_sem]; ((repeat' (first|(refine qf ?_;simp [go_sem])|intro _|apply And.intro|(apply Yh;clear Yh Y)));all_goals first|apply QS|omega|with_reducible assumption|skip))
   by_cases hz : prec = 0 ∧ n = 0
   ·have hb : (decide (n = 0) && decide (prec = 0)) = true := by simp [hz.1, hz.2]
    rw [if_pos hz] at hD2
    subst hD2
    (refine qg fun T F hT hF => ?_; simp [go_sem, hb]; refine hT ?_; clear hT hF T F)
    (refine qx fun Y Yh => ?_; simp [go_sem]; ((repeat' (first|(refine qf ?_;simp [go_sem])|intro _|apply And.intro|(apply Yh;clear Yh Y)));all_goals first|apply QS|omega|with_reducible assumption|skip))
    refine tl3 _ ?_
    (refine ql ?_ ?_ <;> simp [go_sem])
   ·have hb : (decide (n = 0) && decide (prec = 0)) = false := by
     rw [Bool.eq_false_iff]
     intro q
     simp only [Bool.and_eq_true, decide_eq_true_eq] at q
     exact hz ⟨q.2, q.1⟩
    rw [if_neg hz] at hD2
    subst hD2
    (refine qg fun T F hT hF => ?_; simp [go_sem, hb]; refine hF ?_; clear hT hF T F)
    refine qi ?_
    refine tl3 _ ?_
    (refine ql ?_ ?_ <;> simp [go_sem])
  clear hK2
  (refine qc fun Y Yh => ?_; simp [go_sem, b88]; ((repeat' (first|(refine qf ?_;simp [go_sem, b88])|intro _|apply And.intro|(apply Yh;clear Yh Y)));all_goals first|apply QS|omega|with_reducible assumption|skip))
  by_cases h88 : f.lt = 88
  ·rw [if_pos h88] at hD1
   subst hD1
   (refine qg fun T F hT hF => ?_; simp [go_sem, b88, h88]; refine hT ?_; clear hT hF T F)
   (refine qx fun Y Yh => ?_; simp [go_sem]; ((repeat' (first|(refine qf ?_;simp [go_sem])|intro _|apply And.intro|(apply Yh;clear Yh Y)));all_goals first|apply QS|omega|with_reducible assumption|skip))
   ((try refine QT ?_); refine qm (.inl ⟨rfl,rfl⟩) (by simp [go_sem]) ?_; intro args ha; simp [go_sem] at ha; subst ha; refine ⟨_, F3, ?_⟩; rintro _ rfl; simp [go_sem]; ((repeat' (first|(refine qf ?_;simp [go_sem])|intro _|apply And.intro|(apply Yh;clear Yh Y)));all_goals first|apply QS|omega|with_reducible assumption|skip))
   refine tl2 _ ?_
   (refine ql ?_ ?_ <;> simp [go_sem])
  ·rw [if_neg h88] at hD1
   subst hD1
   (refine qg fun T F hT hF => ?_; simp [go_sem, b88, h88]; refine hF ?_; clear hT hF T F)
   refine qi ?_
   refine tl2 _ ?_
   (refine ql ?_ ?_ <;> simp [go_sem])
 clear hK1
 (refine qc fun Y Yh => ?_; simp [go_sem]; ((repeat' (first|(refine qf ?_;simp [go_sem])|intro _|apply And.intro|(apply Yh;clear Yh Y)));all_goals first|apply QS|omega|with_reducible assumption|skip))
 by_cases hneg : n < 0
 ·(refine qg fun T F hT hF => ?_; simp [go_sem, hneg]; refine hT ?_; clear hT hF T F)
  (refine qx fun Y Yh => ?_; simp [go_sem]; ((repeat' (first|(refine qf ?_;simp [go_sem])|intro _|apply And.intro|(apply Yh;clear Yh Y)));all_goals first|apply QS|omega|with_reducible assumption|skip))
  refine tl1 _ ?_
  (refine ql ?_ ?_ <;> simp [go_sem])
  simpa [hneg] using w1
 ·(refine qg fun T F hT hF => ?_; simp [go_sem, hneg]; refine hF ?_; clear hT hF T F)
  refine qi ?_
  refine tl1 _ ?_
  (refine ql ?_ ?_ <;> simp [go_sem])
  simpa [hneg] using w1
end Go.Proofs.YtelhdhofnohkcaaGreatDoor
