/- Part of a proof: see the last text. -/
import Derived.Test.YtelhdhofnohkcaaGreatDoorG11
import Derived.Test.YtelhdhofnohkcaaGreatDoorG08
import Derived.Test.YtelhdhofnohkcaaGreatDoorG10
set_option linter.unusedVariables false
set_option linter.unusedSimpArgs false
namespace Go.Proofs.YtelhdhofnohkcaaGreatDoor
open Go.Eng Go.Fm
set_option maxRecDepth 20000
attribute [local irreducible] AG CallA CallT AWp PCall ACall AgC
set_option maxHeartbeats 32000000 in
theorem fill_p (args : List Ag) (u g : Nat) (f : Fld) (hA : AgsOk args) (hu : u ≤ args.length) (hf : FdOk f) (hp : f.lt = 112) :
  ACall Tryz.prog 49 [.ptr 900004 g 0, dF f] [fiB g args u] [900004]
   fun ps r => ps = [(g, .box [dAs args, dI (fillV args u f).2.2])] ∧ r = .tup [dS (fillV args u f).1, dI (fillV args u f).2.1] := by 
 refine qY Tryz.func49 rfl rfl Tryz.ntmps49 (rs := [.tmp 4, .tmp 5]) (tys := [9, 34]) rfl rfl (by simp) (by simp [qO]) ?_
 have h0 : f.lt ≠ 0 := by rw [hp]; decide
 have hS := fun gf => jG args u g gf f hu hA.1
 have hsl := stars_le hu f
 have hso := fun h => stars_ok (args := args) (u := u) hf h
 have eV : fillV args u f = (if (starsV args u f).1 ≠ 0 then ([], (starsV args u f).1, (starsV args u f).2.1) else
  if (ofA args (starsV args u f).2.1 f.nm).2.1 ≠ 0 then ([], (ofA args (starsV args u f).2.1 f.nm).2.1, (ofA args (starsV args u f).2.1 f.nm).2.2) else
  match putV (starsV args u f).2.2 (ofA args (starsV args u f).2.1 f.nm).1 with
  | none => ([], 1, (ofA args (starsV args u f).2.1 f.nm).2.2)
  | some t => (t, 0, (ofA args (starsV args u f).2.1 f.nm).2.2)) := by unfold fillV; rw [if_neg h0]; rfl
 generalize hV : fillV args u f = V at *
 generalize starsV args u f = S at *
 obtain ⟨se, su, sf⟩ := S
 simp only at hS hsl hso eV ⊢
 by_cases he : se = 0
 ·subst he
  obtain ⟨⟨hw, hpr⟩, hlt, hnm⟩ := hso rfl
  have hO := vZ args su g sf hsl hA.1
  have hoa := ofA_ok hA su sf.nm
  rw [hnm] at hO hoa
  rw [if_neg (by simp)] at eV
  generalize ofA args su f.nm = O at *
  obtain ⟨oa, oe, ou⟩ := O
  simp only at hO hoa eV
  (refine qc fun Y Yh => ?_; simp [go_sem]; ((repeat' (first|(refine qf ?_;simp [go_sem])|intro _|apply And.intro|(apply Yh;clear Yh Y)));all_goals first|apply QS|omega|with_reducible assumption|skip))
  refine zf 3 900003 rfl rfl (by decide) fun gf => ?_
  simp only [go_sem]
  refine qh fun K1 hK1 => ?_
  (refine qc fun Y Yh => ?_; simp [go_sem]; ((repeat' (first|(refine qf ?_;simp [go_sem])|intro _|apply And.intro|(apply Yh;clear Yh Y)));all_goals first|apply QS|omega|with_reducible assumption|skip))
  (refine qN [900004, 900003] (.inl ⟨rfl,rfl⟩) (by simp [go_sem]) ?_; intro args ha; simp [go_sem] at ha; subst ha; refine ⟨_, _, (hS gf), (by simp [go_sem]), ?_⟩; rintro ps r hps ⟨rfl, rfl⟩; simp [go_sem]; ((repeat' (first|(refine qf ?_;simp [go_sem])|intro _|apply And.intro|(apply Yh;clear Yh Y)));all_goals first|apply QS|omega|with_reducible assumption|skip))
  (refine qc fun Y Yh => ?_; simp [go_sem]; ((repeat' (first|(refine qf ?_;simp [go_sem])|intro _|apply And.intro|(apply Yh;clear Yh Y)));all_goals first|apply QS|omega|with_reducible assumption|skip))
  (refine qg fun T F hT hF => ?_; simp [go_sem]; refine hF ?_; clear hT hF T F)
  refine qi ?_
  refine hK1 _ ?_; clear hK1
  (refine qc fun Y Yh => ?_; simp [go_sem]; ((repeat' (first|(refine qf ?_;simp [go_sem])|intro _|apply And.intro|(apply Yh;clear Yh Y)));all_goals first|apply QS|omega|with_reducible assumption|skip))
  (refine qN [900004] (.inl ⟨rfl,rfl⟩) (by simp [go_sem]) ?_; intro args ha; simp [go_sem] at ha; subst ha; refine ⟨_, _, hO, (by simp [go_sem]), ?_⟩; rintro ps r hps ⟨rfl, rfl⟩; simp [go_sem]; ((repeat' (first|(refine qf ?_;simp [go_sem])|intro _|apply And.intro|(apply Yh;clear Yh Y)));all_goals first|apply QS|omega|with_reducible assumption|skip))
  refine qh fun K3 hK3 => ?_
  by_cases hoe : oe = 0
  ·subst hoe
   rw [if_neg (by simp)] at eV
   (refine qc fun Y Yh => ?_; simp [go_sem]; ((repeat' (first|(refine qf ?_;simp [go_sem])|intro _|apply And.intro|(apply Yh;clear Yh Y)));all_goals first|apply QS|omega|with_reducible assumption|skip))
   (refine qg fun T F hT hF => ?_; simp [go_sem]; refine hF ?_; clear hT hF T F)
   refine qi ?_
   refine hK3 _ ?_; clear hK3
   refine qh fun K5 hK5 => ?_
   have b115 : decide ((sf.lt.toNat : Int) = 115) = decide (sf.lt = 115) := u8_eqb _ 115 (by decide)
   have b112 : decide ((sf.lt.toNat : Int) = 112) = decide (sf.lt = 112) := u8_eqb _ 112 (by decide)
   have h112 : sf.lt = 112 := by rw [hlt]; exact hp
   have h115 : ¬ sf.lt = 115 := by rw [h112]; decide
   (refine qc fun Y Yh => ?_; simp [go_sem]; ((repeat' (first|(refine qf ?_;simp [go_sem])|intro _|apply And.intro|(apply Yh;clear Yh Y)));all_goals first|apply QS|omega|with_reducible assumption|skip))
   refine qo ?_
   (refine qc fun Y Yh => ?_; simp [go_sem, b115]; ((repeat' (first|(refine qf ?_;simp [go_sem, b115])|intro _|apply And.intro|(apply Yh;clear Yh Y)));all_goals first|apply QS|omega|with_reducible assumption|skip))
   (refine qg fun T F hT hF => ?_; simp [go_sem, h115]; refine hF ?_; clear hT hF T F)
   (refine qc fun Y Yh => ?_; simp [go_sem, b112]; ((repeat' (first|(refine qf ?_;simp [go_sem, b112])|intro _|apply And.intro|(apply Yh;clear Yh Y)));all_goals first|apply QS|omega|with_reducible assumption|skip))
   have e2 : putV sf oa = some (paddedV sf (shortV sf (quoV (textV oa)))) := by unfold putV; rw [if_neg h115, if_pos h112]
   rw [e2] at eV
   simp only at eV
   have hT := xe oa hoa.1
   have htl := text_len hoa
   have hql := qF_len (textV oa)
   have hcl := cntS_le (textV oa)
   have hRp := fun g => wC g (textV oa) (by omega)
   rw [xK] at eV
   generalize textV oa = tx at *
   generalize qF tx = Q at *
   have hSh := jH sf (34 :: Q ++ [34])
   have hsl2 := short_len sf (34 :: Q ++ [34])
   have hPd := zD sf (shortV sf (34 :: Q ++ [34])) (by omega) (by
    have e : (34 :: Q ++ [34]).length = Q.length + 2 := by simp
    rw [e] at hsl2
    omega)
   generalize shortV sf (34 :: Q ++ [34]) = Z at *
   (refine qg fun T F hT hF => ?_; simp [go_sem, h112]; refine hT ?_; clear hT hF T F)
   ((refine qX (.two 0 (.two 1 (.one 2 (.one 3 (.one 4 (.one 5 .nil)))) 2 (.one 1 (.one 3 (.one 4 (.one 5 .nil))))) 2 (.one 0 (.one 1 (.one 3 (.one 4 (.one 5 .nil)))))) (by kernel_rfl) ?_ ?_ ?_ ?_); (kernel_rfl); (exact (by decide +kernel)); (kernel_rfl); intro Y Yh; ((repeat' (first|(refine qf ?_;simp [go_sem])|refine qC ?_|refine zX ?_ ?_|((first|refine qJ fun Y Yh=>?_|refine qR fun Y Yh=>?_);simp [go_sem])|intro _|apply And.intro|(apply Yh;clear Yh Y)));all_goals first|apply QS|omega|with_reducible assumption|skip))
   ·refine jr 38 rfl ?_
    (refine qN [900010] (.inl ⟨rfl,rfl⟩) (by simp [go_sem]) ?_; intro args ha; simp [go_sem] at ha; subst ha; refine ⟨_, _, jq, (by simp [go_sem]), ?_⟩; rintro ps r hps ⟨gx, rfl, rfl⟩; simp [go_sem]; ((repeat' (first|(refine qf ?_;simp [go_sem])|refine qC ?_|refine zX ?_ ?_|((first|refine qJ fun Y Yh=>?_|refine qR fun Y Yh=>?_);simp [go_sem])|intro _|apply And.intro|(apply Yh;clear Yh Y)));all_goals first|apply QS|omega|with_reducible assumption|skip))
    ((try refine QT ?_); refine qU (.inl ⟨rfl,rfl⟩) ?_; intro args ha; simp [go_sem] at ha; subst ha; refine ⟨_, hT, ?_⟩; rintro _ rfl; refine ⟨rfl, ?_⟩; simp [go_sem]; ((repeat' (first|(refine qf ?_;simp [go_sem])|refine qC ?_|refine zX ?_ ?_|((first|refine qJ fun Y Yh=>?_|refine qR fun Y Yh=>?_);simp [go_sem])|intro _|apply And.intro|(apply Yh;clear Yh Y)));all_goals first|apply QS|omega|with_reducible assumption|skip))
    (refine qN [900010] (.inl ⟨rfl,rfl⟩) (by simp [go_sem]) ?_; intro args ha; simp [go_sem] at ha; subst ha; refine ⟨_, _, (hRp gx), (by simp [go_sem]), ?_⟩; rintro ps r hps ⟨⟨x, rfl⟩, rfl⟩; simp [go_sem]; ((repeat' (first|(refine qf ?_;simp [go_sem])|refine qC ?_|refine zX ?_ ?_|((first|refine qJ fun Y Yh=>?_|refine qR fun Y Yh=>?_);simp [go_sem])|intro _|apply And.intro|(apply Yh;clear Yh Y)));all_goals first|apply QS|omega|with_reducible assumption|skip))
    ((refine qX (.qs [2, 3, 4, 0, 1] (.kp 5 (.kp 6 (.qs [7, 8] (.nil))))) (by kernel_rfl) ?_ ?_ ?_ ?_); (kernel_rfl); (exact (by decide +kernel)); (kernel_rfl); intro Y Yh; ((repeat' (first|(refine qf ?_;simp [go_sem, ba_app])|refine qC ?_|((first|refine qJ fun Y Yh=>?_|refine qR fun Y Yh=>?_);simp [go_sem, ba_app])|intro _|apply And.intro|(apply Yh;clear Yh Y)));all_goals first|apply QS|omega|with_reducible assumption|skip))
    ((try refine QT ?_); refine qU (.inl ⟨rfl,rfl⟩) ?_; intro args ha; simp [go_sem] at ha; subst ha; refine ⟨_, hSh, ?_⟩; rintro _ rfl; refine ⟨rfl, ?_⟩; simp [go_sem]; ((repeat' (first|(refine qf ?_;simp [go_sem])|refine qC ?_|((first|refine qJ fun Y Yh=>?_|refine qR fun Y Yh=>?_);simp [go_sem])|intro _|apply And.intro|(apply Yh;clear Yh Y)));all_goals first|apply QS|omega|with_reducible assumption|skip))
    ((try refine QT ?_); refine qU (.inl ⟨rfl,rfl⟩) ?_; intro args ha; simp [go_sem] at ha; subst ha; refine ⟨_, hPd, ?_⟩; rintro _ rfl; refine ⟨rfl, ?_⟩; simp [go_sem]; ((repeat' (first|(refine qf ?_;simp [go_sem])|refine qC ?_|((first|refine qJ fun Y Yh=>?_|refine qR fun Y Yh=>?_);simp [go_sem])|intro _|apply And.intro|(apply Yh;clear Yh Y)));all_goals first|apply QS|omega|with_reducible assumption|skip))
    (refine qj ?_; simp [go_sem, eV])
   ·refine jr 38 rfl ?_
    (refine qN [900010] (.inl ⟨rfl,rfl⟩) (by simp [go_sem]) ?_; intro args ha; simp [go_sem] at ha; subst ha; refine ⟨_, _, jq, (by simp [go_sem]), ?_⟩; rintro ps r hps ⟨gx, rfl, rfl⟩; simp [go_sem]; ((repeat' (first|(refine qf ?_;simp [go_sem])|refine qC ?_|((first|refine qJ fun Y Yh=>?_|refine qR fun Y Yh=>?_);simp [go_sem])|intro _|apply And.intro|(apply Yh;clear Yh Y)));all_goals first|apply QS|omega|with_reducible assumption|skip))
    ((try refine QT ?_); refine qU (.inl ⟨rfl,rfl⟩) ?_; intro args ha; simp [go_sem] at ha; subst ha; refine ⟨_, hT, ?_⟩; rintro _ rfl; refine ⟨rfl, ?_⟩; simp [go_sem]; ((repeat' (first|(refine qf ?_;simp [go_sem])|refine qC ?_|((first|refine qJ fun Y Yh=>?_|refine qR fun Y Yh=>?_);simp [go_sem])|intro _|apply And.intro|(apply Yh;clear Yh Y)));all_goals first|apply QS|omega|with_reducible assumption|skip))
    (refine qN [900010] (.inl ⟨rfl,rfl⟩) (by simp [go_sem]) ?_; intro args ha; simp [go_sem] at ha; subst ha; refine ⟨_, _, (hRp gx), (by simp [go_sem]), ?_⟩; rintro ps r hps ⟨⟨x, rfl⟩, rfl⟩; simp [go_sem]; ((repeat' (first|(refine qf ?_;simp [go_sem])|refine qC ?_|((first|refine qJ fun Y Yh=>?_|refine qR fun Y Yh=>?_);simp [go_sem])|intro _|apply And.intro|(apply Yh;clear Yh Y)));all_goals first|apply QS|omega|with_reducible assumption|skip))
    ((refine qX (.qs [2, 3, 4, 0, 1] (.kp 5 (.kp 6 (.qs [7, 8] (.nil))))) (by kernel_rfl) ?_ ?_ ?_ ?_); (kernel_rfl); (exact (by decide +kernel)); (kernel_rfl); intro Y Yh; ((repeat' (first|(refine qf ?_;simp [go_sem, ba_app])|refine qC ?_|((first|refine qJ fun Y Yh=>?_|refine qR fun Y Yh=>?_);simp [go_sem, ba_app])|intro _|apply And.intro|(apply Yh;clear Yh Y)));all_goals first|apply QS|omega|with_reducible assumption|skip))
    ((try refine QT ?_); refine qU (.inl ⟨rfl,rfl⟩) ?_; intro args ha; simp [go_sem] at ha; subst ha; refine ⟨_, hSh, ?_⟩; rintro _ rfl; refine ⟨rfl, ?_⟩; simp [go_sem]; ((repeat' (first|(refine qf ?_;simp [go_sem])|refine qC ?_|((first|refine qJ fun Y Yh=>?_|refine qR fun Y Yh=>?_);simp [go_sem])|intro _|apply And.intro|(apply Yh;clear Yh Y)));all_goals first|apply QS|omega|with_reducible assumption|skip))
    ((try refine QT ?_); refine qU (.inl ⟨rfl,rfl⟩) ?_; intro args ha; simp [go_sem] at ha; subst ha; refine ⟨_, hPd, ?_⟩; rintro _ rfl; refine ⟨rfl, ?_⟩; simp [go_sem]; ((repeat' (first|(refine qf ?_;simp [go_sem])|refine qC ?_|((first|refine qJ fun Y Yh=>?_|refine qR fun Y Yh=>?_);simp [go_sem])|intro _|apply And.intro|(apply Yh;clear Yh Y)));all_goals first|apply QS|omega|with_reducible assumption|skip))
    (refine qj ?_; simp [go_sem, eV])
   ·refine jr 38 rfl ?_
    (refine qN [900010] (.inl ⟨rfl,rfl⟩) (by simp [go_sem]) ?_; intro args ha; simp [go_sem] at ha; subst ha; refine ⟨_, _, jq, (by simp [go_sem]), ?_⟩; rintro ps r hps ⟨gx, rfl, rfl⟩; simp [go_sem]; ((repeat' (first|(refine qf ?_;simp [go_sem])|refine qC ?_|((first|refine qJ fun Y Yh=>?_|refine qR fun Y Yh=>?_);simp [go_sem])|intro _|apply And.intro|(apply Yh;clear Yh Y)));all_goals first|apply QS|omega|with_reducible assumption|skip))
    ((try refine QT ?_); refine qU (.inl ⟨rfl,rfl⟩) ?_; intro args ha; simp [go_sem] at ha; subst ha; refine ⟨_, hT, ?_⟩; rintro _ rfl; refine ⟨rfl, ?_⟩; simp [go_sem]; ((repeat' (first|(refine qf ?_;simp [go_sem])|refine qC ?_|((first|refine qJ fun Y Yh=>?_|refine qR fun Y Yh=>?_);simp [go_sem])|intro _|apply And.intro|(apply Yh;clear Yh Y)));all_goals first|apply QS|omega|with_reducible assumption|skip))
    (refine qN [900010] (.inl ⟨rfl,rfl⟩) (by simp [go_sem]) ?_; intro args ha; simp [go_sem] at ha; subst ha; refine ⟨_, _, (hRp gx), (by simp [go_sem]), ?_⟩; rintro ps r hps ⟨⟨x, rfl⟩, rfl⟩; simp [go_sem]; ((repeat' (first|(refine qf ?_;simp [go_sem])|refine qC ?_|((first|refine qJ fun Y Yh=>?_|refine qR fun Y Yh=>?_);simp [go_sem])|intro _|apply And.intro|(apply Yh;clear Yh Y)));all_goals first|apply QS|omega|with_reducible assumption|skip))
    ((refine qX (.qs [2, 3, 4, 0, 1] (.kp 5 (.kp 6 (.qs [7, 8] (.nil))))) (by kernel_rfl) ?_ ?_ ?_ ?_); (kernel_rfl); (exact (by decide +kernel)); (kernel_rfl); intro Y Yh; ((repeat' (first|(refine qf ?_;simp [go_sem, ba_app])|refine qC ?_|((first|refine qJ fun Y Yh=>?_|refine qR fun Y Yh=>?_);simp [go_sem, ba_app])|intro _|apply And.intro|(apply Yh;clear Yh Y)));all_goals first|apply QS|omega|with_reducible assumption|skip))
    ((try refine QT ?_); refine qU (.inl ⟨rfl,rfl⟩) ?_; intro args ha; simp [go_sem] at ha; subst ha; refine ⟨_, hSh, ?_⟩; rintro _ rfl; refine ⟨rfl, ?_⟩; simp [go_sem]; ((repeat' (first|(refine qf ?_;simp [go_sem])|refine qC ?_|((first|refine qJ fun Y Yh=>?_|refine qR fun Y Yh=>?_);simp [go_sem])|intro _|apply And.intro|(apply Yh;clear Yh Y)));all_goals first|apply QS|omega|with_reducible assumption|skip))
    ((try refine QT ?_); refine qU (.inl ⟨rfl,rfl⟩) ?_; intro args ha; simp [go_sem] at ha; subst ha; refine ⟨_, hPd, ?_⟩; rintro _ rfl; refine ⟨rfl, ?_⟩; simp [go_sem]; ((repeat' (first|(refine qf ?_;simp [go_sem])|refine qC ?_|((first|refine qJ fun Y Yh=>?_|refine qR fun Y Yh=>?_);simp [go_sem])|intro _|apply And.intro|(apply Yh;clear Yh Y)));all_goals first|apply QS|omega|with_reducible assumption|skip))
    (refine qj ?_; simp [go_sem, eV])
  ·rw [if_pos (by simpa using hoe)] at eV
   (refine qc fun Y Yh => ?_; simp [go_sem]; ((repeat' (first|(refine qf ?_;simp [go_sem])|intro _|apply And.intro|(apply Yh;clear Yh Y)));all_goals first|apply QS|omega|with_reducible assumption|skip))
   (refine qg fun T F hT hF => ?_; simp [go_sem, hoe]; refine hT ?_; clear hT hF T F)
   (refine qc fun Y Yh => ?_; simp [go_sem]; ((repeat' (first|(refine qf ?_;simp [go_sem])|intro _|apply And.intro|(apply Yh;clear Yh Y)));all_goals first|apply QS|omega|with_reducible assumption|skip))
   (refine qj ?_; simp [go_sem, eV])
 ·rw [if_pos (by simpa using he)] at eV
  (refine qc fun Y Yh => ?_; simp [go_sem]; ((repeat' (first|(refine qf ?_;simp [go_sem])|intro _|apply And.intro|(apply Yh;clear Yh Y)));all_goals first|apply QS|omega|with_reducible assumption|skip))
  refine zf 3 900003 rfl rfl (by decide) fun gf => ?_
  simp only [go_sem]
  refine qh fun K1 hK1 => ?_
  (refine qc fun Y Yh => ?_; simp [go_sem]; ((repeat' (first|(refine qf ?_;simp [go_sem])|intro _|apply And.intro|(apply Yh;clear Yh Y)));all_goals first|apply QS|omega|with_reducible assumption|skip))
  (refine qN [900004, 900003] (.inl ⟨rfl,rfl⟩) (by simp [go_sem]) ?_; intro args ha; simp [go_sem] at ha; subst ha; refine ⟨_, _, (hS gf), (by simp [go_sem]), ?_⟩; rintro ps r hps ⟨rfl, rfl⟩; simp [go_sem]; ((repeat' (first|(refine qf ?_;simp [go_sem])|intro _|apply And.intro|(apply Yh;clear Yh Y)));all_goals first|apply QS|omega|with_reducible assumption|skip))
  (refine qc fun Y Yh => ?_; simp [go_sem]; ((repeat' (first|(refine qf ?_;simp [go_sem])|intro _|apply And.intro|(apply Yh;clear Yh Y)));all_goals first|apply QS|omega|with_reducible assumption|skip))
  (refine qg fun T F hT hF => ?_; simp [go_sem, he]; refine hT ?_; clear hT hF T F)
  (refine qc fun Y Yh => ?_; simp [go_sem]; ((repeat' (first|(refine qf ?_;simp [go_sem])|intro _|apply And.intro|(apply Yh;clear Yh Y)));all_goals first|apply QS|omega|with_reducible assumption|skip))
  (refine qj ?_; simp [go_sem, eV])
theorem fillC_all {args : List Ag} (hA : AgsOk args) {form : Bs} : ∀ L, readV form = some L → ∀ f ∈ L, f.lt ≠ 0 → FillC args f := fun L hL f hf h0 u g hu => by
 obtain ⟨h1, h2, _⟩ := jJ hL f hf
 by_cases hp : f.lt = 112
 ·exact fill_p args u g f hA hu h1 hp
 ·exact fill_np args u g f hA hu h1 h0 (h2.resolve_left h0) hp
theorem zS (form : Bs) (args : List Ag) (hA : AgsOk args) (hfl : form.length ≤ 9223372036854775807) : PCall Tryz.prog 13 [dS form, dAs args] fun r => r = .tup [dS (runV form args).1, dI (runV form args).2.2] :=
 jC form args hA hfl (fillC_all hA)
theorem wB (form : Bs) (args : List Ag) (hA : AgsOk args) (hfl : form.length ≤ 9223372036854775807) : PCall Tryz.prog 32 [dS form, dAs args] fun r => r = .tup [dS (runV form args).1, dI (runV form args).2.1, dI (runV form args).2.2] :=
 ku form args hA hfl (fillC_all hA)
theorem vG (f : Fld) : PCall Tryz.prog 48 [dF f] fun r => r = dB (!f.nm.isEmpty) := by 
 refine qB Tryz.func48 rfl rfl Tryz.ntmps48 (rs := [.tmp 2]) (tys := [4]) rfl rfl (by simp) ?_
 (refine qc fun Y Yh => ?_; simp [go_sem]; ((repeat' (first|(refine qf ?_;simp [go_sem])|intro _|apply And.intro|(apply Yh;clear Yh Y)));all_goals first|apply QS|omega|with_reducible assumption|skip))
 (refine qc fun Y Yh => ?_; simp [go_sem]; ((repeat' (first|(refine qf ?_;simp [go_sem])|intro _|apply And.intro|(apply Yh;clear Yh Y)));all_goals first|apply QS|omega|with_reducible assumption|skip))
 (refine qj ?_; simp [go_sem])
theorem kK (l : List Fld) (hl : l.length ≤ 1000000) : PCall Tryz.prog 70 [dFs l, .v (.func (.func 48) #[] #[])] fun r => r = dI (fIx (fun f : Fld => !f.nm.isEmpty) l) := by
 refine qB Tryz.func70 rfl rfl Tryz.ntmps70 (rs := [.tmp 4]) (tys := [3]) rfl rfl (by simp) ?_
 (refine qc fun Y Yh => ?_; simp [go_sem]; ((repeat' (first|(refine qf ?_;simp [go_sem])|intro _|apply And.intro|(apply Yh;clear Yh Y)));all_goals first|apply QS|omega|with_reducible assumption|skip))
 refine qh fun K1 hK1 => ?_
 (refine qc fun Y Yh => ?_; simp [go_sem]; ((repeat' (first|(refine qf ?_;simp [go_sem])|intro _|apply And.intro|(apply Yh;clear Yh Y)));all_goals first|apply QS|omega|with_reducible assumption|skip))
 refine qo ?_
 refine qM (σ := Nat) (fun i => ⟨[(0, dFs l), (1, .v (.func (.func 48) #[] #[])), (7, dI l.length), (8, dI i)], []⟩) (fun i => i ≤ l.length ∧ (l.take i).any (fun f : Fld => !f.nm.isEmpty) = false) (fun i => l.length - i) 0 (by (refine ql ?_ ?_ <;> simp [go_sem])) (by simp) ?_
 rintro i ⟨hi, hany⟩
 (refine qc fun Y Yh => ?_; simp [go_sem]; ((repeat' (first|(refine qf ?_;simp [go_sem])|intro _|apply And.intro|(apply Yh;clear Yh Y)));all_goals first|apply QS|omega|with_reducible assumption|skip))
 refine qh fun K2 hK2 => ?_
 by_cases h3 : i < l.length
 ·(refine qg fun T F hT hF => ?_; simp [go_sem, h3]; refine hT ?_; clear hT hF T F)
  refine qi ?_
  refine hK2 _ ?_; clear hK2
  obtain ⟨x, hx⟩ : ∃ x, l[i]? = some x := ⟨_, List.getElem?_eq_getElem (by omega)⟩
  refine qh fun K4 hK4 => ?_
  refine qo ?_
  (refine qc fun Y Yh => ?_; simp [go_sem]; ((repeat' (first|(refine qf ?_;simp [go_sem])|intro _|apply And.intro|(apply Yh;clear Yh Y)));all_goals first|apply QS|omega|with_reducible assumption|skip))
  (refine qc fun Y Yh => ?_; simp [go_sem, hx]; ((repeat' (first|(refine qf ?_;simp [go_sem, hx])|intro _|apply And.intro|(apply Yh;clear Yh Y)));all_goals first|apply QS|omega|with_reducible assumption|skip))
  ((try refine QT ?_); refine qm (.inl ⟨rfl,rfl⟩) (by simp [go_sem]) ?_; intro args ha; simp [go_sem] at ha; subst ha; refine ⟨_, (vG x), ?_⟩; rintro _ rfl; simp [go_sem]; ((repeat' (first|(refine qf ?_;simp [go_sem])|intro _|apply And.intro|(apply Yh;clear Yh Y)));all_goals first|apply QS|omega|with_reducible assumption|skip))
  cases h5 : !x.nm.isEmpty with
  | true =>
   rw [Bool.not_eq_true'] at h5
   (refine qg fun T F hT hF => ?_; simp [go_sem, h5]; refine hT ?_; clear hT hF T F)
   (refine qc fun Y Yh => ?_; simp [go_sem]; ((repeat' (first|(refine qf ?_;simp [go_sem])|intro _|apply And.intro|(apply Yh;clear Yh Y)));all_goals first|apply QS|omega|with_reducible assumption|skip))
   (refine qj ?_; simp [go_sem])
   rw [fIx_at hany hx (by simp [h5])]
  | false =>
   have h6 := h5
   rw [Bool.not_eq_false'] at h5
   (refine qg fun T F hT hF => ?_; simp [go_sem, h5]; refine hF ?_; clear hT hF T F)
   refine qi ?_
   refine hK4 _ ?_; clear hK4
   (refine qx fun Y Yh => ?_; simp [go_sem]; ((repeat' (first|(refine qf ?_;simp [go_sem])|intro _|apply And.intro|(apply Yh;clear Yh Y)));all_goals first|apply QS|omega|with_reducible assumption|skip))
   refine ⟨i + 1, ?_, ⟨by omega, take_anyG hany hx h6⟩, by omega⟩
   (refine ql ?_ ?_ <;> simp [go_sem])
 ·(refine qg fun T F hT hF => ?_; simp [go_sem, h3]; refine hF ?_; clear hT hF T F)
  refine qH ?_
  simp only [go_sem]
  refine hK1 _ ?_; clear hK1
  (refine qc fun Y Yh => ?_; simp [go_sem]; ((repeat' (first|(refine qf ?_;simp [go_sem])|intro _|apply And.intro|(apply Yh;clear Yh Y)));all_goals first|apply QS|omega|with_reducible assumption|skip))
  (refine qj ?_; simp [go_sem])
  have : i = l.length := by omega
  subst this
  rw [List.take_length] at hany
  rw [fIx_none hany]
theorem fIx_any {α : Type} (p : α → Bool) (l : List α) : decide (0 ≤ fIx p l) = l.any p := by
 rw [Bool.eq_iff_iff, decide_eq_true_eq]
 have h := find_fIx p l
 rcases h with ⟨h1, h2⟩ | ⟨i, a, h1, h2, h3⟩
 ·rw [h2]
  constructor
  ·intro q; omega
  ·intro q
   rw [List.any_eq_true] at q
   obtain ⟨x, hx, hp⟩ := q
   exact absurd hp (List.find?_eq_none.1 h1 x hx)
 ·rw [h2]
  refine ⟨fun _ => ?_, fun _ => by omega⟩
  exact List.any_eq_true.2 ⟨a, List.mem_of_getElem? h3, List.find?_some h1⟩
theorem jO (l : List Fld) (hl : l.length ≤ 1000000) : PCall Tryz.prog 47 [dFs l, .v (.func (.func 48) #[] #[])] fun r => r = dB (l.any fun f : Fld => !f.nm.isEmpty) := by
 refine qB Tryz.func47 rfl rfl Tryz.ntmps47 (rs := [.tmp 4]) (tys := [4]) rfl rfl (by simp) ?_
 have hI := kK l hl
 have ha := fIx_any (fun f : Fld => !f.nm.isEmpty) l
 generalize fIx (fun f : Fld => !f.nm.isEmpty) l = j at *
 generalize (l.any fun f : Fld => !f.nm.isEmpty) = b at *
 (refine qc fun Y Yh => ?_; simp [go_sem]; ((repeat' (first|(refine qf ?_;simp [go_sem])|intro _|apply And.intro|(apply Yh;clear Yh Y)));all_goals first|apply QS|omega|with_reducible assumption|skip))
 (refine qc fun Y Yh => ?_; simp [go_sem]; ((repeat' (first|(refine qf ?_;simp [go_sem])|intro _|apply And.intro|(apply Yh;clear Yh Y)));all_goals first|apply QS|omega|with_reducible assumption|skip))
 ((try refine QT ?_); refine qU (.inl ⟨rfl,rfl⟩) ?_; intro args ha; simp [go_sem] at ha; subst ha; refine ⟨_, hI, ?_⟩; rintro _ rfl; refine ⟨rfl, ?_⟩; simp [go_sem]; ((repeat' (first|(refine qf ?_;simp [go_sem])|intro _|apply And.intro|(apply Yh;clear Yh Y)));all_goals first|apply QS|omega|with_reducible assumption|skip))
 (refine qj ?_; simp [go_sem, ha])
def leftV (form : Bs) (args : List Ag) : Int × Nat := match readV form with
 | none => (0, 4)
 | some L => if (fillsV args L 0 []).2.2 ≠ 0 ∨ (L.any fun f : Fld => !f.nm.isEmpty) = true then (0, (fillsV args L 0 []).2.2) else ((args.length : Int) - (fillsV args L 0 []).2.1, 0)
theorem fills_used {args : List Ag} : ∀ (L : List Fld) (u : Nat) (out : Bs), u ≤ args.length → (fillsV args L u out).2.1 ≤ args.length
 | [], u, out, h => h
 | f :: L, u, out, h => by
  have := fill_le h f
  unfold fillsV
  simp only
  split
  ·simp
  ·split
   ·simp
   ·exact fills_used L _ _ this
set_option maxHeartbeats 8000000 in
theorem wM (form : Bs) (args : List Ag) (hA : AgsOk args) (hfl : form.length ≤ 9223372036854775807) : PCall Tryz.prog 28 [dS form, dAs args] fun r => r = .tup [dI (leftV form args).1, dI (leftV form args).2] := by 
 refine qB Tryz.func28 rfl rfl Tryz.ntmps28 (rs := [.tmp 4, .tmp 5]) (tys := [3, 34]) rfl rfl (by simp) ?_
 have hR := wB form args hA hfl
 have hD := zL form hfl
 have hal := hA.1
 unfold leftV
 unfold runV at hR
 cases hr : readV form with
 | none =>
  rw [hr] at hR hD
  simp only at hR ⊢
  (refine qc fun Y Yh => ?_; simp [go_sem]; ((repeat' (first|(refine qf ?_;simp [go_sem])|intro _|apply And.intro|(apply Yh;clear Yh Y)));all_goals first|apply QS|omega|with_reducible assumption|skip))
  (refine qc fun Y Yh => ?_; simp [go_sem]; ((repeat' (first|(refine qf ?_;simp [go_sem])|intro _|apply And.intro|(apply Yh;clear Yh Y)));all_goals first|apply QS|omega|with_reducible assumption|skip))
  ((try refine QT ?_); refine qm (.inl ⟨rfl,rfl⟩) (by simp [go_sem]) ?_; intro args ha; simp [go_sem] at ha; subst ha; refine ⟨_, hR, ?_⟩; rintro _ rfl; simp [go_sem]; ((repeat' (first|(refine qf ?_;simp [go_sem])|intro _|apply And.intro|(apply Yh;clear Yh Y)));all_goals first|apply QS|omega|with_reducible assumption|skip))
  (refine qc fun Y Yh => ?_; simp [go_sem]; ((repeat' (first|(refine qf ?_;simp [go_sem])|intro _|apply And.intro|(apply Yh;clear Yh Y)));all_goals first|apply QS|omega|with_reducible assumption|skip))
  ((try refine QT ?_); refine qm (.inl ⟨rfl,rfl⟩) (by simp [go_sem]) ?_; intro args ha; simp [go_sem] at ha; subst ha; refine ⟨_, hD, ?_⟩; rintro _ ⟨L', rfl⟩; simp [go_sem]; ((repeat' (first|(refine qf ?_;simp [go_sem])|intro _|apply And.intro|(apply Yh;clear Yh Y)));all_goals first|apply QS|omega|with_reducible assumption|skip))
  refine qh fun K1 hK1 => ?_
  (refine qc fun Y Yh => ?_; simp [go_sem]; ((repeat' (first|(refine qw ?_ ?_ ?_;(focus (simp [go_sem, undef];done));(focus (simp [go_sem];done));simp [go_sem])|(refine qp ?_ ?_;(focus (simp [go_sem, undef];done));simp [go_sem])|(refine qf ?_;simp [go_sem, undef])|intro _|apply And.intro|(apply Yh;clear Yh Y)));all_goals first|apply QS|omega|with_reducible assumption|skip))
  (refine qg fun T F hT hF => ?_; simp [go_sem]; refine hT ?_; clear hT hF T F)
  (refine qc fun Y Yh => ?_; simp [go_sem]; ((repeat' (first|(refine qf ?_;simp [go_sem])|intro _|apply And.intro|(apply Yh;clear Yh Y)));all_goals first|apply QS|omega|with_reducible assumption|skip))
  (refine qj ?_; simp [go_sem])
 | some L =>
  rw [hr] at hR hD
  have hlen : L.length ≤ 100000 := jm hr
  have hu := fills_used (args := args) L 0 [] (by omega)
  have hC := jO L (by omega)
  simp only at hR ⊢
  generalize fillsV args L 0 [] = q at *
  generalize (L.any fun f : Fld => !f.nm.isEmpty) = b at *
  obtain ⟨t, u, e⟩ := q
  simp only at hR hu ⊢
  (refine qc fun Y Yh => ?_; simp [go_sem]; ((repeat' (first|(refine qf ?_;simp [go_sem])|intro _|apply And.intro|(apply Yh;clear Yh Y)));all_goals first|apply QS|omega|with_reducible assumption|skip))
  (refine qc fun Y Yh => ?_; simp [go_sem]; ((repeat' (first|(refine qf ?_;simp [go_sem])|intro _|apply And.intro|(apply Yh;clear Yh Y)));all_goals first|apply QS|omega|with_reducible assumption|skip))
  ((try refine QT ?_); refine qm (.inl ⟨rfl,rfl⟩) (by simp [go_sem]) ?_; intro args ha; simp [go_sem] at ha; subst ha; refine ⟨_, hR, ?_⟩; rintro _ rfl; simp [go_sem]; ((repeat' (first|(refine qf ?_;simp [go_sem])|intro _|apply And.intro|(apply Yh;clear Yh Y)));all_goals first|apply QS|omega|with_reducible assumption|skip))
  (refine qc fun Y Yh => ?_; simp [go_sem]; ((repeat' (first|(refine qf ?_;simp [go_sem])|intro _|apply And.intro|(apply Yh;clear Yh Y)));all_goals first|apply QS|omega|with_reducible assumption|skip))
  ((try refine QT ?_); refine qm (.inl ⟨rfl,rfl⟩) (by simp [go_sem]) ?_; intro args ha; simp [go_sem] at ha; subst ha; refine ⟨_, hD, ?_⟩; rintro _ rfl; simp [go_sem]; ((repeat' (first|(refine qf ?_;simp [go_sem])|intro _|apply And.intro|(apply Yh;clear Yh Y)));all_goals first|apply QS|omega|with_reducible assumption|skip))
  refine qh fun K1 hK1 => ?_
  by_cases he : e = 0
  ·subst he
   (refine qc fun Y Yh => ?_; simp [go_sem]; ((repeat' (first|(refine qw ?_ ?_ ?_;(focus (simp [go_sem, undef];done));(focus (simp [go_sem];done));simp [go_sem])|(refine qp ?_ ?_;(focus (simp [go_sem, undef];done));simp [go_sem])|(refine qf ?_;simp [go_sem, undef])|intro _|apply And.intro|(apply Yh;clear Yh Y)));all_goals first|apply QS|omega|with_reducible assumption|skip))
   ((try refine QT ?_); refine qm (.inl ⟨rfl,rfl⟩) (by simp [go_sem]) ?_; intro args ha; simp [go_sem] at ha; subst ha; refine ⟨_, hC, ?_⟩; rintro _ rfl; simp [go_sem]; ((repeat' (first|(refine qw ?_ ?_ ?_;(focus (simp [go_sem, undef];done));(focus (simp [go_sem];done));simp [go_sem])|(refine qp ?_ ?_;(focus (simp [go_sem, undef];done));simp [go_sem])|(refine qf ?_;simp [go_sem, undef])|intro _|apply And.intro|(apply Yh;clear Yh Y)));all_goals first|apply QS|omega|with_reducible assumption|skip))
   cases b with
   | true =>
    (refine qg fun T F hT hF => ?_; simp [go_sem]; refine hT ?_; clear hT hF T F)
    (refine qc fun Y Yh => ?_; simp [go_sem]; ((repeat' (first|(refine qf ?_;simp [go_sem])|intro _|apply And.intro|(apply Yh;clear Yh Y)));all_goals first|apply QS|omega|with_reducible assumption|skip))
    (refine qj ?_; simp [go_sem])
   | false =>
    (refine qg fun T F hT hF => ?_; simp [go_sem]; refine hF ?_; clear hT hF T F)
    refine qi ?_
    refine hK1 _ ?_; clear hK1
    (refine qc fun Y Yh => ?_; simp [go_sem]; ((repeat' (first|(refine qf ?_;simp [go_sem])|intro _|apply And.intro|(apply Yh;clear Yh Y)));all_goals first|apply QS|omega|with_reducible assumption|skip))
    (refine qj ?_; simp [go_sem])
  ·have hz : ((e : Int) = 0) = False := by simp; omega
   (refine qc fun Y Yh => ?_; simp [go_sem, he, hz]; ((repeat' (first|(refine qw ?_ ?_ ?_;(focus (simp [go_sem, undef, he, hz];done));(focus (simp [go_sem];done));simp [go_sem, he, hz])|(refine qp ?_ ?_;(focus (simp [go_sem, undef, he, hz];done));simp [go_sem, he, hz])|(refine qf ?_;simp [go_sem, undef, he, hz])|intro _|apply And.intro|(apply Yh;clear Yh Y)));all_goals first|apply QS|omega|with_reducible assumption|skip))
   (refine qg fun T F hT hF => ?_; simp [go_sem]; refine hT ?_; clear hT hF T F)
   (refine qc fun Y Yh => ?_; simp [go_sem]; ((repeat' (first|(refine qf ?_;simp [go_sem])|intro _|apply And.intro|(apply Yh;clear Yh Y)));all_goals first|apply QS|omega|with_reducible assumption|skip))
   (refine qj ?_; simp [go_sem, he])
theorem vO (form : Bs) (hfl : form.length ≤ 9223372036854775807) : PCall Tryz.prog 30 [dS form] fun r => r = dI (if (readV form).isSome then 0 else 4) := by 
 refine qB Tryz.func30 rfl rfl Tryz.ntmps30 (rs := [.tmp 2]) (tys := [34]) rfl rfl (by simp) ?_
 have hD := zL form hfl
 cases hr : readV form with
 | none =>
  rw [hr] at hD
  (refine qc fun Y Yh => ?_; simp [go_sem]; ((repeat' (first|(refine qf ?_;simp [go_sem])|intro _|apply And.intro|(apply Yh;clear Yh Y)));all_goals first|apply QS|omega|with_reducible assumption|skip))
  refine qh fun K1 hK1 => ?_
  (refine qc fun Y Yh => ?_; simp [go_sem]; ((repeat' (first|(refine qf ?_;simp [go_sem])|intro _|apply And.intro|(apply Yh;clear Yh Y)));all_goals first|apply QS|omega|with_reducible assumption|skip))
  ((try refine QT ?_); refine qm (.inl ⟨rfl,rfl⟩) (by simp [go_sem]) ?_; intro args ha; simp [go_sem] at ha; subst ha; refine ⟨_, hD, ?_⟩; rintro _ ⟨L', rfl⟩; simp [go_sem]; ((repeat' (first|(refine qf ?_;simp [go_sem])|intro _|apply And.intro|(apply Yh;clear Yh Y)));all_goals first|apply QS|omega|with_reducible assumption|skip))
  (refine qc fun Y Yh => ?_; simp [go_sem]; ((repeat' (first|(refine qf ?_;simp [go_sem])|intro _|apply And.intro|(apply Yh;clear Yh Y)));all_goals first|apply QS|omega|with_reducible assumption|skip))
  (refine qg fun T F hT hF => ?_; simp [go_sem]; refine hT ?_; clear hT hF T F)
  (refine qc fun Y Yh => ?_; simp [go_sem]; ((repeat' (first|(refine qf ?_;simp [go_sem])|intro _|apply And.intro|(apply Yh;clear Yh Y)));all_goals first|apply QS|omega|with_reducible assumption|skip))
  (refine qj ?_; simp [go_sem])
 | some L =>
  rw [hr] at hD
  (refine qc fun Y Yh => ?_; simp [go_sem]; ((repeat' (first|(refine qf ?_;simp [go_sem])|intro _|apply And.intro|(apply Yh;clear Yh Y)));all_goals first|apply QS|omega|with_reducible assumption|skip))
  refine qh fun K1 hK1 => ?_
  (refine qc fun Y Yh => ?_; simp [go_sem]; ((repeat' (first|(refine qf ?_;simp [go_sem])|intro _|apply And.intro|(apply Yh;clear Yh Y)));all_goals first|apply QS|omega|with_reducible assumption|skip))
  ((try refine QT ?_); refine qm (.inl ⟨rfl,rfl⟩) (by simp [go_sem]) ?_; intro args ha; simp [go_sem] at ha; subst ha; refine ⟨_, hD, ?_⟩; rintro _ rfl; simp [go_sem]; ((repeat' (first|(refine qf ?_;simp [go_sem])|intro _|apply And.intro|(apply Yh;clear Yh Y)));all_goals first|apply QS|omega|with_reducible assumption|skip))
  (refine qc fun Y Yh => ?_; simp [go_sem]; ((repeat' (first|(refine qf ?_;simp [go_sem])|intro _|apply And.intro|(apply Yh;clear Yh Y)));all_goals first|apply QS|omega|with_reducible assumption|skip))
  (refine qg fun T F hT hF => ?_; simp [go_sem]; refine hF ?_; clear hT hF T F)
  refine qi ?_
  refine hK1 _ ?_; clear hK1
  (refine qc fun Y Yh => ?_; simp [go_sem]; ((repeat' (first|(refine qf ?_;simp [go_sem])|intro _|apply And.intro|(apply Yh;clear Yh Y)));all_goals first|apply QS|omega|with_reducible assumption|skip))
  (refine qj ?_; simp [go_sem])
theorem xG (form : Bs) (args : List Ag) (hA : AgsOk args) (hfl : form.length ≤ 9223372036854775807) : PCall Tryz.prog 23 [dS form, dAs args] fun r => r = .tup [dS (runV form args).1, dI (runV form args).2.2] := by 
 refine qB Tryz.func23 rfl rfl Tryz.ntmps23 (rs := [.tmp 4, .tmp 5]) (tys := [9, 34]) rfl rfl (by simp) ?_
 have hR := jh form args hA hfl
 generalize runV form args = q at *
 obtain ⟨t, u, e⟩ := q
 (refine qc fun Y Yh => ?_; simp [go_sem]; ((repeat' (first|(refine qf ?_;simp [go_sem])|intro _|apply And.intro|(apply Yh;clear Yh Y)));all_goals first|apply QS|omega|with_reducible assumption|skip))
 (refine qc fun Y Yh => ?_; simp [go_sem]; ((repeat' (first|(refine qf ?_;simp [go_sem])|intro _|apply And.intro|(apply Yh;clear Yh Y)));all_goals first|apply QS|omega|with_reducible assumption|skip))
 ((try refine QT ?_); refine qm (.inl ⟨rfl,rfl⟩) (by simp [go_sem]) ?_; intro args ha; simp [go_sem] at ha; subst ha; refine ⟨_, hR, ?_⟩; rintro _ rfl; simp [go_sem]; ((repeat' (first|(refine qf ?_;simp [go_sem])|intro _|apply And.intro|(apply Yh;clear Yh Y)));all_goals first|apply QS|omega|with_reducible assumption|skip))
 (refine qc fun Y Yh => ?_; simp [go_sem]; ((repeat' (first|(refine qf ?_;simp [go_sem])|intro _|apply And.intro|(apply Yh;clear Yh Y)));all_goals first|apply QS|omega|with_reducible assumption|skip))
 (refine qj ?_; simp [go_sem])
theorem any_named (form : Bs) {L : List Rf} {a b : Nat} (hr : rReadV form = some (L, a, b)) : ((convL L).any fun f : Fld => !f.nm.isEmpty) = decide (0 < a) := by
 have hc : a = cntN L := by
  unfold rReadV at hr
  split at hr
  ·cases hr
  ·exact (read_cnt _ _ _ _ _ _ _ _ hr rfl rfl).1
 have hnm : ∀ f ∈ L, f.lt = 0 → f.nm = [] := by
  unfold rReadV at hr
  split at hr
  ·cases hr
  ·exact read_nm _ _ _ _ _ _ _ _ hr (by simp)
 rw [hc]
 clear hc hr
 rw [Bool.eq_iff_iff, List.any_eq_true, decide_eq_true_eq]
 unfold cntN
 rw [List.countP_pos_iff]
 constructor
 ·rintro ⟨g, hg, hq⟩
  unfold convL at hg
  obtain ⟨f, hf, hg⟩ := List.mem_flatMap.1 hg
  unfold conv1 at hg
  split at hg
  ·split at hg
   ·simp at hg
   ·rw [List.mem_singleton] at hg; subst hg; simp [fdT] at hq
  ·rename_i h0
   rw [List.mem_singleton] at hg
   subst hg
   refine ⟨f, hf, ?_⟩
   simp only [Bool.and_eq_true, bne_iff_ne]
   refine ⟨h0, fun q => ?_⟩
   simp [toFd, q] at hq
 ·rintro ⟨f, hf, hq⟩
  simp only [Bool.and_eq_true, bne_iff_ne] at hq
  refine ⟨toFd f, List.mem_flatMap.2 ⟨f, hf, ?_⟩, ?_⟩
  ·unfold conv1; rw [if_neg hq.1]; simp
  ·cases h : f.nm with
   | nil => exact absurd h hq.2
   | cons x y => simp [toFd, h]
theorem QC (form : Bs) (args : List Ag) : leftV form args = match rReadV form with
  | none => (0, 4)
  | some (L, a, b) => if 0 < a ∧ 0 < b then (0, 4) else if (runV form args).2.2 ≠ 0 then (0, (runV form args).2.2) else if 0 < a then (0, 0) else ((args.length : Int) - (runV form args).2.1, 0) := by
 unfold leftV
 have hrun : ∀ L, readV form = some L → fillsV args L 0 [] = runV form args := fun L h => by unfold runV; rw [h]
 cases hr : rReadV form with
 | none =>
  have : readV form = none := by rw [zu, hr]; rfl
  rw [this]
 | some q =>
  obtain ⟨L, a, b⟩ := q
  simp only
  by_cases h : 0 < a ∧ 0 < b
  ·have : readV form = none := by rw [zu, hr]; simp only [endV, if_pos h]
   rw [this, if_pos h]
  ·have e : readV form = some (convL L) := by rw [zu, hr]; simp only [endV, if_neg h]
   rw [if_neg h, e]
   simp only
   rw [hrun _ e, any_named form hr]
   by_cases he : (runV form args).2.2 ≠ 0
   ·rw [if_pos (.inl he), if_pos he]
   ·rw [if_neg he]
    by_cases ha : 0 < a
    ·rw [if_pos (.inr (by simpa using ha)), if_pos ha, Classical.not_not.1 he]
    ·rw [if_neg (by rintro (q | q); exact he q; exact ha (by simpa using q)), if_neg ha]
theorem Qh {form : Bs} {args : List Ag} : (runV form args).2.1 ≤ args.length := by
 unfold runV
 split
 ·simp
 ·exact fills_used _ _ _ (by omega)
theorem left_cases (form : Bs) (args : List Ag) : ((runV form args).2.2 ≠ 0 ∧ leftV form args = (0, (runV form args).2.2)) ∨ ((runV form args).2.2 = 0 ∧ ∃ L a b, rReadV form = some (L, a, b) ∧ ¬ (0 < a ∧ 0 < b) ∧ leftV form args = if 0 < a then (0, 0) else ((args.length : Int) - (runV form args).2.1, 0)) := by
 rw [QC]
 cases hr : rReadV form with
 | none =>
  have h : (runV form args).2.2 = 4 := by rw [kX, hr]
  left
  rw [h]
  exact ⟨by decide, rfl⟩
 | some q =>
  obtain ⟨L, a, b⟩ := q
  simp only
  by_cases hab : 0 < a ∧ 0 < b
  ·have h : (runV form args).2.2 = 4 := by rw [kX, hr]; simp only; rw [if_pos hab]
   left
   rw [h, if_pos hab]
   exact ⟨by decide, rfl⟩
  ·rw [if_neg hab]
   by_cases he : (runV form args).2.2 = 0
   ·right
    refine ⟨he, L, a, b, rfl, hab, ?_⟩
    rw [if_neg (by rw [he]; simp)]
   ·left
    exact ⟨he, by rw [if_pos he]⟩
set_option maxHeartbeats 8000000 in
theorem kZ (form : Bs) (args : List Ag) (hA : AgsOk args) (hfl : form.length ≤ 9223372036854775807) : PCall Tryz.prog 29 [dS form, dAs args] fun r => r = .tup [dI (leftV form args).1, dI (leftV form args).2] := by 
 refine qB Tryz.func29 rfl rfl Tryz.ntmps29 (rs := [.tmp 4, .tmp 5]) (tys := [3, 34]) rfl rfl (by simp) ?_
 have hR := jh form args hA hfl
 have hD := zI form hfl
 have hal := hA.1
 have hu := Qh (form := form) (args := args)
 rcases left_cases form args with ⟨he, hV⟩ | ⟨he, L, a, b, hr, hab, hV⟩
 ·rw [hV]
  generalize runV form args = q at *
  obtain ⟨t, u, e⟩ := q
  simp only at hR he ⊢
  (refine qc fun Y Yh => ?_; simp [go_sem]; ((repeat' (first|(refine qf ?_;simp [go_sem])|intro _|apply And.intro|(apply Yh;clear Yh Y)));all_goals first|apply QS|omega|with_reducible assumption|skip))
  (refine qc fun Y Yh => ?_; simp [go_sem]; ((repeat' (first|(refine qf ?_;simp [go_sem])|intro _|apply And.intro|(apply Yh;clear Yh Y)));all_goals first|apply QS|omega|with_reducible assumption|skip))
  ((try refine QT ?_); refine qm (.inl ⟨rfl,rfl⟩) (by simp [go_sem]) ?_; intro args ha; simp [go_sem] at ha; subst ha; refine ⟨_, hR, ?_⟩; rintro _ rfl; simp [go_sem]; ((repeat' (first|(refine qf ?_;simp [go_sem])|intro _|apply And.intro|(apply Yh;clear Yh Y)));all_goals first|apply QS|omega|with_reducible assumption|skip))
  refine qh fun K1 hK1 => ?_
  (refine qc fun Y Yh => ?_; simp [go_sem]; ((repeat' (first|(refine qf ?_;simp [go_sem])|intro _|apply And.intro|(apply Yh;clear Yh Y)));all_goals first|apply QS|omega|with_reducible assumption|skip))
  (refine qg fun T F hT hF => ?_; simp [go_sem, he]; refine hT ?_; clear hT hF T F)
  (refine qc fun Y Yh => ?_; simp [go_sem]; ((repeat' (first|(refine qf ?_;simp [go_sem])|intro _|apply And.intro|(apply Yh;clear Yh Y)));all_goals first|apply QS|omega|with_reducible assumption|skip))
  (refine qj ?_; simp [go_sem])
 ·rw [hV]
  rw [hr] at hD
  generalize runV form args = q at *
  obtain ⟨t, u, e⟩ := q
  simp only at hR he hu ⊢
  subst he
  simp only [rrR] at hD
  generalize hlo : (decide (a = 0) || decide (b = 0)) = lo at *
  (refine qc fun Y Yh => ?_; simp [go_sem]; ((repeat' (first|(refine qf ?_;simp [go_sem])|intro _|apply And.intro|(apply Yh;clear Yh Y)));all_goals first|apply QS|omega|with_reducible assumption|skip))
  (refine qc fun Y Yh => ?_; simp [go_sem]; ((repeat' (first|(refine qf ?_;simp [go_sem])|intro _|apply And.intro|(apply Yh;clear Yh Y)));all_goals first|apply QS|omega|with_reducible assumption|skip))
  ((try refine QT ?_); refine qm (.inl ⟨rfl,rfl⟩) (by simp [go_sem]) ?_; intro args ha; simp [go_sem] at ha; subst ha; refine ⟨_, hR, ?_⟩; rintro _ rfl; simp [go_sem]; ((repeat' (first|(refine qf ?_;simp [go_sem])|intro _|apply And.intro|(apply Yh;clear Yh Y)));all_goals first|apply QS|omega|with_reducible assumption|skip))
  refine qh fun K1 hK1 => ?_
  (refine qc fun Y Yh => ?_; simp [go_sem]; ((repeat' (first|(refine qf ?_;simp [go_sem])|intro _|apply And.intro|(apply Yh;clear Yh Y)));all_goals first|apply QS|omega|with_reducible assumption|skip))
  (refine qg fun T F hT hF => ?_; simp [go_sem]; refine hF ?_; clear hT hF T F)
  refine qi ?_
  refine hK1 _ ?_; clear hK1
  refine qh fun K3 hK3 => ?_
  (refine qc fun Y Yh => ?_; simp [go_sem]; ((repeat' (first|(refine qf ?_;simp [go_sem])|intro _|apply And.intro|(apply Yh;clear Yh Y)));all_goals first|apply QS|omega|with_reducible assumption|skip))
  ((try refine QT ?_); refine qm (.inl ⟨rfl,rfl⟩) (by simp [go_sem]) ?_; intro args ha; simp [go_sem] at ha; subst ha; refine ⟨_, hD, ?_⟩; rintro _ rfl; simp [go_sem]; ((repeat' (first|(refine qf ?_;simp [go_sem])|intro _|apply And.intro|(apply Yh;clear Yh Y)));all_goals first|apply QS|omega|with_reducible assumption|skip))
  (refine qc fun Y Yh => ?_; simp [go_sem]; ((repeat' (first|(refine qf ?_;simp [go_sem])|intro _|apply And.intro|(apply Yh;clear Yh Y)));all_goals first|apply QS|omega|with_reducible assumption|skip))
  by_cases ha : 0 < a
  ·(refine qg fun T F hT hF => ?_; simp [go_sem, ha]; refine hT ?_; clear hT hF T F)
   (refine qc fun Y Yh => ?_; simp [go_sem]; ((repeat' (first|(refine qf ?_;simp [go_sem])|intro _|apply And.intro|(apply Yh;clear Yh Y)));all_goals first|apply QS|omega|with_reducible assumption|skip))
   (refine qj ?_; simp [go_sem, ha])
  ·(refine qg fun T F hT hF => ?_; simp [go_sem, ha]; refine hF ?_; clear hT hF T F)
   refine qi ?_
   refine hK3 _ ?_; clear hK3
   (refine qc fun Y Yh => ?_; simp [go_sem]; ((repeat' (first|(refine qf ?_;simp [go_sem])|intro _|apply And.intro|(apply Yh;clear Yh Y)));all_goals first|apply QS|omega|with_reducible assumption|skip))
   (refine qj ?_; simp [go_sem, ha])
theorem kC (form : Bs) (hfl : form.length ≤ 9223372036854775807) : PCall Tryz.prog 31 [dS form] fun r => r = dI (if (readV form).isSome then 0 else 4) := by 
 refine qB Tryz.func31 rfl rfl Tryz.ntmps31 (rs := [.tmp 2]) (tys := [34]) rfl rfl (by simp) ?_
 have hD := zI form hfl
 rw [zu]
 cases hr : rReadV form with
 | none =>
  rw [hr] at hD
  simp only [rrR] at hD
  (refine qc fun Y Yh => ?_; simp [go_sem]; ((repeat' (first|(refine qf ?_;simp [go_sem])|intro _|apply And.intro|(apply Yh;clear Yh Y)));all_goals first|apply QS|omega|with_reducible assumption|skip))
  refine qh fun K1 hK1 => ?_
  (refine qc fun Y Yh => ?_; simp [go_sem]; ((repeat' (first|(refine qf ?_;simp [go_sem])|intro _|apply And.intro|(apply Yh;clear Yh Y)));all_goals first|apply QS|omega|with_reducible assumption|skip))
  ((try refine QT ?_); refine qm (.inl ⟨rfl,rfl⟩) (by simp [go_sem]) ?_; intro args ha; simp [go_sem] at ha; subst ha; refine ⟨_, hD, ?_⟩; rintro _ rfl; simp [go_sem]; ((repeat' (first|(refine qf ?_;simp [go_sem])|intro _|apply And.intro|(apply Yh;clear Yh Y)));all_goals first|apply QS|omega|with_reducible assumption|skip))
  (refine qc fun Y Yh => ?_; simp [go_sem]; ((repeat' (first|(refine qf ?_;simp [go_sem])|intro _|apply And.intro|(apply Yh;clear Yh Y)));all_goals first|apply QS|omega|with_reducible assumption|skip))
  (refine qg fun T F hT hF => ?_; simp [go_sem]; refine hT ?_; clear hT hF T F)
  (refine qc fun Y Yh => ?_; simp [go_sem]; ((repeat' (first|(refine qf ?_;simp [go_sem])|intro _|apply And.intro|(apply Yh;clear Yh Y)));all_goals first|apply QS|omega|with_reducible assumption|skip))
  (refine qj ?_; simp [go_sem, endV])
 | some q =>
  obtain ⟨L, a, b⟩ := q
  rw [hr] at hD
  simp only [rrR] at hD
  by_cases hab : 0 < a ∧ 0 < b
  ·have hb : (decide (a = 0) || decide (b = 0)) = false := by
    rw [Bool.or_eq_false_iff, decide_eq_false_iff_not, decide_eq_false_iff_not]; omega
   rw [hb] at hD
   simp only [endV, if_pos hab]
   (refine qc fun Y Yh => ?_; simp [go_sem]; ((repeat' (first|(refine qf ?_;simp [go_sem])|intro _|apply And.intro|(apply Yh;clear Yh Y)));all_goals first|apply QS|omega|with_reducible assumption|skip))
   refine qh fun K1 hK1 => ?_
   (refine qc fun Y Yh => ?_; simp [go_sem]; ((repeat' (first|(refine qf ?_;simp [go_sem])|intro _|apply And.intro|(apply Yh;clear Yh Y)));all_goals first|apply QS|omega|with_reducible assumption|skip))
   ((try refine QT ?_); refine qm (.inl ⟨rfl,rfl⟩) (by simp [go_sem]) ?_; intro args ha; simp [go_sem] at ha; subst ha; refine ⟨_, hD, ?_⟩; rintro _ rfl; simp [go_sem]; ((repeat' (first|(refine qf ?_;simp [go_sem])|intro _|apply And.intro|(apply Yh;clear Yh Y)));all_goals first|apply QS|omega|with_reducible assumption|skip))
   (refine qc fun Y Yh => ?_; simp [go_sem]; ((repeat' (first|(refine qf ?_;simp [go_sem])|intro _|apply And.intro|(apply Yh;clear Yh Y)));all_goals first|apply QS|omega|with_reducible assumption|skip))
   (refine qg fun T F hT hF => ?_; simp [go_sem]; refine hT ?_; clear hT hF T F)
   (refine qc fun Y Yh => ?_; simp [go_sem]; ((repeat' (first|(refine qf ?_;simp [go_sem])|intro _|apply And.intro|(apply Yh;clear Yh Y)));all_goals first|apply QS|omega|with_reducible assumption|skip))
   (refine qj ?_; simp [go_sem])
  ·have hb : (decide (a = 0) || decide (b = 0)) = true := by
    rw [Bool.or_eq_true, decide_eq_true_eq, decide_eq_true_eq]; omega
   rw [hb] at hD
   simp only [endV, if_neg hab]
   (refine qc fun Y Yh => ?_; simp [go_sem]; ((repeat' (first|(refine qf ?_;simp [go_sem])|intro _|apply And.intro|(apply Yh;clear Yh Y)));all_goals first|apply QS|omega|with_reducible assumption|skip))
   refine qh fun K1 hK1 => ?_
   (refine qc fun Y Yh => ?_; simp [go_sem]; ((repeat' (first|(refine qf ?_;simp [go_sem])|intro _|apply And.intro|(apply Yh;clear Yh Y)));all_goals first|apply QS|omega|with_reducible assumption|skip))
   ((try refine QT ?_); refine qm (.inl ⟨rfl,rfl⟩) (by simp [go_sem]) ?_; intro args ha; simp [go_sem] at ha; subst ha; refine ⟨_, hD, ?_⟩; rintro _ rfl; simp [go_sem]; ((repeat' (first|(refine qf ?_;simp [go_sem])|intro _|apply And.intro|(apply Yh;clear Yh Y)));all_goals first|apply QS|omega|with_reducible assumption|skip))
   (refine qc fun Y Yh => ?_; simp [go_sem]; ((repeat' (first|(refine qf ?_;simp [go_sem])|intro _|apply And.intro|(apply Yh;clear Yh Y)));all_goals first|apply QS|omega|with_reducible assumption|skip))
   (refine qg fun T F hT hF => ?_; simp [go_sem]; refine hF ?_; clear hT hF T F)
   refine qi ?_
   refine hK1 _ ?_; clear hK1
   (refine qc fun Y Yh => ?_; simp [go_sem]; ((repeat' (first|(refine qf ?_;simp [go_sem])|intro _|apply And.intro|(apply Yh;clear Yh Y)));all_goals first|apply QS|omega|with_reducible assumption|skip))
   (refine qj ?_; simp [go_sem])
theorem rflds_step {L : List Rf} {i : Nat} {f : Rf} (h : L[i]? = some f) : rfldsV (L.take (i + 1)) = rfldsV (L.take i) + rfld1 f := by
 rw [List.take_add_one, h]
 simp [rfldsV]
theorem rfld1_le (f : Rf) : rfld1 f ≤ 3 := by
 unfold rfld1
 (repeat' split) <;> omega
theorem rflds_le (L : List Rf) : rfldsV L ≤ 3 * L.length := by
 induction L with
 | nil => simp [rfldsV]
 | cons f L ih =>
  have e : rfldsV (f :: L) = rfld1 f + rfldsV L := by simp [rfldsV]
  have := rfld1_le f
  rw [e, List.length_cons]; omega
set_option maxHeartbeats 16000000 in
theorem xH (form : Bs) (hfl : form.length ≤ 9223372036854775807) : PCall Tryz.prog 25 [dS form] fun r => r = .tup [dI (rfldN form).1, dI (rfldN form).2] := by 
 refine qB Tryz.func25 rfl rfl Tryz.ntmps25 (rs := [.tmp 2, .tmp 3]) (tys := [3, 34]) rfl rfl (by simp) ?_
 have hD := zI form hfl
 unfold rfldN
 cases hr : rReadV form with
 | none =>
  rw [hr] at hD
  simp only [rrR] at hD
  simp only
  (refine qc fun Y Yh => ?_; simp [go_sem]; ((repeat' (first|(refine qf ?_;simp [go_sem])|intro _|apply And.intro|(apply Yh;clear Yh Y)));all_goals first|apply QS|omega|with_reducible assumption|skip))
  (refine qc fun Y Yh => ?_; simp [go_sem]; ((repeat' (first|(refine qf ?_;simp [go_sem])|intro _|apply And.intro|(apply Yh;clear Yh Y)));all_goals first|apply QS|omega|with_reducible assumption|skip))
  ((try refine QT ?_); refine qm (.inl ⟨rfl,rfl⟩) (by simp [go_sem]) ?_; intro args ha; simp [go_sem] at ha; subst ha; refine ⟨_, hD, ?_⟩; rintro _ rfl; simp [go_sem]; ((repeat' (first|(refine qf ?_;simp [go_sem])|intro _|apply And.intro|(apply Yh;clear Yh Y)));all_goals first|apply QS|omega|with_reducible assumption|skip))
  refine qh fun K1 hK1 => ?_
  (refine qc fun Y Yh => ?_; simp [go_sem]; ((repeat' (first|(refine qf ?_;simp [go_sem])|intro _|apply And.intro|(apply Yh;clear Yh Y)));all_goals first|apply QS|omega|with_reducible assumption|skip))
  (refine qg fun T F hT hF => ?_; simp [go_sem]; refine hT ?_; clear hT hF T F)
  (refine qc fun Y Yh => ?_; simp [go_sem]; ((repeat' (first|(refine qf ?_;simp [go_sem])|intro _|apply And.intro|(apply Yh;clear Yh Y)));all_goals first|apply QS|omega|with_reducible assumption|skip))
  (refine qj ?_; simp [go_sem])
 | some q =>
  obtain ⟨L, a, b⟩ := q
  have hlen := (zV hr).2
  rw [hr] at hD
  simp only [rrR] at hD
  simp only
  by_cases hab : 0 < a ∧ 0 < b
  ·have hb : (decide (a = 0) || decide (b = 0)) = false := by
    rw [Bool.or_eq_false_iff, decide_eq_false_iff_not, decide_eq_false_iff_not]; omega
   rw [hb] at hD
   rw [if_pos hab]
   (refine qc fun Y Yh => ?_; simp [go_sem]; ((repeat' (first|(refine qf ?_;simp [go_sem])|intro _|apply And.intro|(apply Yh;clear Yh Y)));all_goals first|apply QS|omega|with_reducible assumption|skip))
   (refine qc fun Y Yh => ?_; simp [go_sem]; ((repeat' (first|(refine qf ?_;simp [go_sem])|intro _|apply And.intro|(apply Yh;clear Yh Y)));all_goals first|apply QS|omega|with_reducible assumption|skip))
   ((try refine QT ?_); refine qm (.inl ⟨rfl,rfl⟩) (by simp [go_sem]) ?_; intro args ha; simp [go_sem] at ha; subst ha; refine ⟨_, hD, ?_⟩; rintro _ rfl; simp [go_sem]; ((repeat' (first|(refine qf ?_;simp [go_sem])|intro _|apply And.intro|(apply Yh;clear Yh Y)));all_goals first|apply QS|omega|with_reducible assumption|skip))
   refine qh fun K1 hK1 => ?_
   (refine qc fun Y Yh => ?_; simp [go_sem]; ((repeat' (first|(refine qf ?_;simp [go_sem])|intro _|apply And.intro|(apply Yh;clear Yh Y)));all_goals first|apply QS|omega|with_reducible assumption|skip))
   (refine qg fun T F hT hF => ?_; simp [go_sem]; refine hT ?_; clear hT hF T F)
   (refine qc fun Y Yh => ?_; simp [go_sem]; ((repeat' (first|(refine qf ?_;simp [go_sem])|intro _|apply And.intro|(apply Yh;clear Yh Y)));all_goals first|apply QS|omega|with_reducible assumption|skip))
   (refine qj ?_; simp [go_sem])
  ·have hb : (decide (a = 0) || decide (b = 0)) = true := by
    rw [Bool.or_eq_true, decide_eq_true_eq, decide_eq_true_eq]; omega
   rw [hb] at hD
   rw [if_neg hab]
   (refine qc fun Y Yh => ?_; simp [go_sem]; ((repeat' (first|(refine qf ?_;simp [go_sem])|intro _|apply And.intro|(apply Yh;clear Yh Y)));all_goals first|apply QS|omega|with_reducible assumption|skip))
   (refine qc fun Y Yh => ?_; simp [go_sem]; ((repeat' (first|(refine qf ?_;simp [go_sem])|intro _|apply And.intro|(apply Yh;clear Yh Y)));all_goals first|apply QS|omega|with_reducible assumption|skip))
   ((try refine QT ?_); refine qm (.inl ⟨rfl,rfl⟩) (by simp [go_sem]) ?_; intro args ha; simp [go_sem] at ha; subst ha; refine ⟨_, hD, ?_⟩; rintro _ rfl; simp [go_sem]; ((repeat' (first|(refine qf ?_;simp [go_sem])|intro _|apply And.intro|(apply Yh;clear Yh Y)));all_goals first|apply QS|omega|with_reducible assumption|skip))
   refine qh fun K1 hK1 => ?_
   (refine qc fun Y Yh => ?_; simp [go_sem]; ((repeat' (first|(refine qf ?_;simp [go_sem])|intro _|apply And.intro|(apply Yh;clear Yh Y)));all_goals first|apply QS|omega|with_reducible assumption|skip))
   (refine qg fun T F hT hF => ?_; simp [go_sem]; refine hF ?_; clear hT hF T F)
   refine qi ?_
   refine hK1 _ ?_; clear hK1
   (refine qc fun Y Yh => ?_; simp [go_sem]; ((repeat' (first|(refine qf ?_;simp [go_sem])|intro _|apply And.intro|(apply Yh;clear Yh Y)));all_goals first|apply QS|omega|with_reducible assumption|skip))
   refine qh fun K3 hK3 => ?_
   (refine qc fun Y Yh => ?_; simp [go_sem]; ((repeat' (first|(refine qf ?_;simp [go_sem])|intro _|apply And.intro|(apply Yh;clear Yh Y)));all_goals first|apply QS|omega|with_reducible assumption|skip))
   refine qo ?_
   refine qM (σ := Nat) (fun i => ⟨[(4, dRfs L), (5, dB (decide (0 < a))), (7, dI (rfldsV (L.take i))), (8, dI i)], []⟩) (fun i => i ≤ L.length ∧ (0 < a → i = 0)) (fun i => L.length - i) 0 ?_ ?_ ?_
   ·(refine ql ?_ ?_ <;> simp [go_sem])
    rfl
   ·simp
   rintro i ⟨hi, hia⟩
   have hfi := rflds_le (L.take i)
   have htl : (L.take i).length ≤ L.length := by rw [List.length_take]; omega
   refine qh fun K4 hK4 => ?_
   have fin : rfldsV (L.take i) = (if 0 < a then 0 else rfldsV L) → ∀ S', Cov S' ⟨[(7, dI (rfldsV (L.take i)))], []⟩ → K3 S' := fun e S' hS => by
    refine hK3 _ ?_; clear hK3
    refine qG hS ?_; clear hS
    rw [e]
    (refine qc fun Y Yh => ?_; simp [go_sem]; ((repeat' (first|(refine qf ?_;simp [go_sem])|intro _|apply And.intro|(apply Yh;clear Yh Y)));all_goals first|apply QS|omega|with_reducible assumption|skip))
    (refine qj ?_; simp [go_sem])
   by_cases ha : 0 < a
   ·have h0 := hia ha
    subst h0
    (refine qc fun Y Yh => ?_; simp [go_sem, ha]; ((repeat' (first|(refine qf ?_;simp [go_sem, ha])|intro _|apply And.intro|(apply Yh;clear Yh Y)));all_goals first|apply QS|omega|with_reducible assumption|skip))
    (refine qg fun T F hT hF => ?_; simp [go_sem, ha]; refine hF ?_; clear hT hF T F)
    refine qH ?_
    simp only [go_sem]
    refine fin (by rw [if_pos ha]; rfl) _ ?_
    (refine ql ?_ ?_ <;> simp [go_sem])
   ·by_cases hend : i < L.length
    ·obtain ⟨f, hf⟩ : ∃ f, L[i]? = some f := ⟨_, List.getElem?_eq_getElem hend⟩
     have hst := rflds_step hf
     generalize rfldsV (L.take i) = N at *
     have b0 : (f.lt.toNat = 0) = (f.lt = 0) := propext ⟨fun q => UInt8.toNat_inj.1 q, fun q => by rw [q]; rfl⟩
     (refine qc fun Y Yh => ?_; simp [go_sem, ha]; ((repeat' (first|(refine qf ?_;simp [go_sem, ha])|intro _|apply And.intro|(apply Yh;clear Yh Y)));all_goals first|apply QS|omega|with_reducible assumption|skip))
     (refine qg fun T F hT hF => ?_; simp [go_sem, ha, hend]; refine hT ?_; clear hT hF T F)
     refine qi ?_
     refine hK4 _ ?_; clear hK4
     refine qh fun K6 hK6 => ?_
     have tl6 : ∀ S', Cov S' ⟨[(4, dRfs L), (5, dB (decide (0 < a))), (7, dI (N + rfld1 f : Nat)), (8, dI i)], []⟩ → K6 S' := fun S' hS => by
      refine hK6 _ ?_; clear hK6
      refine qG hS ?_; clear hS
      (refine qx fun Y Yh => ?_; simp [go_sem]; ((repeat' (first|(refine qf ?_;simp [go_sem])|intro _|apply And.intro|(apply Yh;clear Yh Y)));all_goals first|apply QS|omega|with_reducible assumption|skip))
      refine ⟨i + 1, ?_, ⟨by omega, fun q => absurd q ha⟩, by omega⟩
      rw [hst]
      (refine ql ?_ ?_ <;> simp [go_sem])
     clear hK6
     refine qo ?_
     refine qh fun K7 hK7 => ?_
     (refine qc fun Y Yh => ?_; simp [go_sem, hf]; ((repeat' (first|(refine qf ?_;simp [go_sem, hf])|intro _|apply And.intro|(apply Yh;clear Yh Y)));all_goals first|apply QS|omega|with_reducible assumption|skip))
     by_cases hz : f.lt = 0
     ·have e1 : rfld1 f = 0 := by unfold rfld1; rw [if_pos hz]
      rw [e1] at tl6
      (refine qg fun T F hT hF => ?_; simp [go_sem, b0, hz]; refine hT ?_; clear hT hF T F)
      refine qH ?_
      simp only [go_sem]
      refine tl6 _ ?_
      (refine ql ?_ ?_ <;> simp [go_sem])
      omega
     ·have e1 : rfld1 f = 1 + (if f.wd = -2 then 1 else 0) + (if f.pr = -2 then 1 else 0) := by unfold rfld1; rw [if_neg hz]
      rw [e1] at tl6
      have hW : (if f.wd = -2 then 1 else 0) ≤ 1 := by split <;> omega
      have hP : (if f.pr = -2 then 1 else 0) ≤ 1 := by split <;> omega
      (refine qg fun T F hT hF => ?_; simp [go_sem, b0, hz]; refine hF ?_; clear hT hF T F)
      refine qi ?_
      refine hK7 _ ?_; clear hK7
      (refine qc fun Y Yh => ?_; simp [go_sem]; ((repeat' (first|(refine qf ?_;simp [go_sem])|intro _|apply And.intro|(apply Yh;clear Yh Y)));all_goals first|apply QS|omega|with_reducible assumption|skip))
      refine qh fun K9 hK9 => ?_
      have tl9 : ∀ S', Cov S' ⟨[(4, dRfs L), (5, dB (decide (0 < a))), (7, dI (N + (1 + (if f.wd = -2 then 1 else 0)) : Nat)), (8, dI i)], []⟩ → K9 S' := fun S' hS => by
       refine hK9 _ ?_; clear hK9
       refine qG hS ?_; clear hS
       generalize (if f.wd = -2 then 1 else 0) = W at *
       (refine qc fun Y Yh => ?_; simp [go_sem, hf]; ((repeat' (first|(refine qf ?_;simp [go_sem, hf])|intro _|apply And.intro|(apply Yh;clear Yh Y)));all_goals first|apply QS|omega|with_reducible assumption|skip))
       by_cases hp : f.pr = -2
       ·rw [if_pos hp] at tl6
        (refine qg fun T F hT hF => ?_; simp [go_sem, hp]; refine hT ?_; clear hT hF T F)
        (refine qx fun Y Yh => ?_; simp [go_sem]; ((repeat' (first|(refine qf ?_;simp [go_sem])|intro _|apply And.intro|(apply Yh;clear Yh Y)));all_goals first|apply QS|omega|with_reducible assumption|skip))
        refine tl6 _ ?_
        (refine ql ?_ ?_ <;> simp [go_sem])
        omega
       ·rw [if_neg hp] at tl6
        (refine qg fun T F hT hF => ?_; simp [go_sem, hp]; refine hF ?_; clear hT hF T F)
        refine qi ?_
        refine tl6 _ ?_
        (refine ql ?_ ?_ <;> simp [go_sem])
        all_goals omega
      clear hK9
      (refine qc fun Y Yh => ?_; simp [go_sem, hf]; ((repeat' (first|(refine qf ?_;simp [go_sem, hf])|intro _|apply And.intro|(apply Yh;clear Yh Y)));all_goals first|apply QS|omega|with_reducible assumption|skip))
      by_cases hw : f.wd = -2
      ·rw [if_pos hw] at tl9
       (refine qg fun T F hT hF => ?_; simp [go_sem, hw]; refine hT ?_; clear hT hF T F)
       (refine qx fun Y Yh => ?_; simp [go_sem]; ((repeat' (first|(refine qf ?_;simp [go_sem])|intro _|apply And.intro|(apply Yh;clear Yh Y)));all_goals first|apply QS|omega|with_reducible assumption|skip))
       refine tl9 _ ?_
       (refine ql ?_ ?_ <;> simp [go_sem])
       omega
      ·rw [if_neg hw] at tl9
       (refine qg fun T F hT hF => ?_; simp [go_sem, hw]; refine hF ?_; clear hT hF T F)
       refine qi ?_
       refine tl9 _ ?_
       (refine ql ?_ ?_ <;> simp [go_sem])
       omega
    ·have : i = L.length := by omega
     subst this
     (refine qc fun Y Yh => ?_; simp [go_sem, ha]; ((repeat' (first|(refine qf ?_;simp [go_sem, ha])|intro _|apply And.intro|(apply Yh;clear Yh Y)));all_goals first|apply QS|omega|with_reducible assumption|skip))
     (refine qg fun T F hT hF => ?_; simp [go_sem, ha, hend]; refine hF ?_; clear hT hF T F)
     refine qH ?_
     simp only [go_sem]
     refine fin (by rw [if_neg ha, List.take_length]) _ ?_
     (refine ql ?_ ?_ <;> simp [go_sem])
def nmsV (L : List Rf) : List Bs := (L.map (·.nm)).foldl withV []
theorem nms_step {L : List Rf} {i : Nat} {f : Rf} (h : L[i]? = some f) : nmsV (L.take (i + 1)) = withV (nmsV (L.take i)) f.nm := by
 unfold nmsV
 rw [List.take_add_one, h]
 simp
theorem insS_len (s : Bs) : ∀ l : List Bs, (insS s l).length ≤ l.length + 1
 | [] => by simp [insS]
 | x :: r => by
  unfold insS
  have := insS_len s r
  (repeat' split) <;> simp <;> omega
theorem nms_len (L : List Rf) : (nmsV L).length ≤ L.length := by
 have : ∀ (ns ks : List Bs), (ns.foldl withV ks).length ≤ ks.length + ns.length := by
  intro ns
  induction ns with
  | nil => intro ks; simp
  | cons s r ih =>
   intro ks
   have h1 := ih (withV ks s)
   have h2 : (withV ks s).length ≤ ks.length + 1 := by
    unfold withV
    have := insS_len s ks
    split <;> omega
   simp only [List.foldl_cons, List.length_cons]; omega
 have := this (L.map (·.nm)) []
 simpa [nmsV] using this
set_option maxHeartbeats 16000000 in
theorem kw (form : Bs) (hfl : form.length ≤ 9223372036854775807) : PCall Tryz.prog 27 [dS form] fun r => r = .tup [dSs (rnamesV form).1, dI (rnamesV form).2] := by 
 refine qB Tryz.func27 rfl rfl Tryz.ntmps27 (rs := [.tmp 2, .tmp 3]) (tys := [23, 34]) rfl rfl (by simp) ?_
 have hD := zI form hfl
 unfold rnamesV
 cases hr : rReadV form with
 | none =>
  rw [hr] at hD
  simp only [rrR] at hD
  simp only
  (refine qc fun Y Yh => ?_; simp [go_sem]; ((repeat' (first|(refine qf ?_;simp [go_sem])|intro _|apply And.intro|(apply Yh;clear Yh Y)));all_goals first|apply QS|omega|with_reducible assumption|skip))
  (refine qc fun Y Yh => ?_; simp [go_sem]; ((repeat' (first|(refine qf ?_;simp [go_sem])|intro _|apply And.intro|(apply Yh;clear Yh Y)));all_goals first|apply QS|omega|with_reducible assumption|skip))
  ((try refine QT ?_); refine qm (.inl ⟨rfl,rfl⟩) (by simp [go_sem]) ?_; intro args ha; simp [go_sem] at ha; subst ha; refine ⟨_, hD, ?_⟩; rintro _ rfl; simp [go_sem]; ((repeat' (first|(refine qf ?_;simp [go_sem])|intro _|apply And.intro|(apply Yh;clear Yh Y)));all_goals first|apply QS|omega|with_reducible assumption|skip))
  refine qh fun K1 hK1 => ?_
  (refine qc fun Y Yh => ?_; simp [go_sem]; ((repeat' (first|(refine qf ?_;simp [go_sem])|intro _|apply And.intro|(apply Yh;clear Yh Y)));all_goals first|apply QS|omega|with_reducible assumption|skip))
  (refine qg fun T F hT hF => ?_; simp [go_sem]; refine hT ?_; clear hT hF T F)
  (refine qc fun Y Yh => ?_; simp [go_sem]; ((repeat' (first|(refine qf ?_;simp [go_sem])|intro _|apply And.intro|(apply Yh;clear Yh Y)));all_goals first|apply QS|omega|with_reducible assumption|skip))
  (refine qj ?_; simp [go_sem])
 | some q =>
  obtain ⟨L, a, b⟩ := q
  have hlen := (zV hr).2
  rw [hr] at hD
  simp only [rrR] at hD
  simp only
  have hVe : (List.map (fun x => x.nm) L).foldl withV [] = nmsV L := rfl
  rw [hVe]
  by_cases hab : 0 < a ∧ 0 < b
  ·have hb : (decide (a = 0) || decide (b = 0)) = false := by
    rw [Bool.or_eq_false_iff, decide_eq_false_iff_not, decide_eq_false_iff_not]; omega
   rw [hb] at hD
   rw [if_pos hab]
   (refine qc fun Y Yh => ?_; simp [go_sem]; ((repeat' (first|(refine qf ?_;simp [go_sem])|intro _|apply And.intro|(apply Yh;clear Yh Y)));all_goals first|apply QS|omega|with_reducible assumption|skip))
   (refine qc fun Y Yh => ?_; simp [go_sem]; ((repeat' (first|(refine qf ?_;simp [go_sem])|intro _|apply And.intro|(apply Yh;clear Yh Y)));all_goals first|apply QS|omega|with_reducible assumption|skip))
   ((try refine QT ?_); refine qm (.inl ⟨rfl,rfl⟩) (by simp [go_sem]) ?_; intro args ha; simp [go_sem] at ha; subst ha; refine ⟨_, hD, ?_⟩; rintro _ rfl; simp [go_sem]; ((repeat' (first|(refine qf ?_;simp [go_sem])|intro _|apply And.intro|(apply Yh;clear Yh Y)));all_goals first|apply QS|omega|with_reducible assumption|skip))
   refine qh fun K1 hK1 => ?_
   (refine qc fun Y Yh => ?_; simp [go_sem]; ((repeat' (first|(refine qf ?_;simp [go_sem])|intro _|apply And.intro|(apply Yh;clear Yh Y)));all_goals first|apply QS|omega|with_reducible assumption|skip))
   (refine qg fun T F hT hF => ?_; simp [go_sem]; refine hT ?_; clear hT hF T F)
   (refine qc fun Y Yh => ?_; simp [go_sem]; ((repeat' (first|(refine qf ?_;simp [go_sem])|intro _|apply And.intro|(apply Yh;clear Yh Y)));all_goals first|apply QS|omega|with_reducible assumption|skip))
   (refine qj ?_; simp [go_sem])
  ·have hb : (decide (a = 0) || decide (b = 0)) = true := by
    rw [Bool.or_eq_true, decide_eq_true_eq, decide_eq_true_eq]; omega
   rw [hb] at hD
   rw [if_neg hab]
   (refine qc fun Y Yh => ?_; simp [go_sem]; ((repeat' (first|(refine qf ?_;simp [go_sem])|intro _|apply And.intro|(apply Yh;clear Yh Y)));all_goals first|apply QS|omega|with_reducible assumption|skip))
   (refine qc fun Y Yh => ?_; simp [go_sem]; ((repeat' (first|(refine qf ?_;simp [go_sem])|intro _|apply And.intro|(apply Yh;clear Yh Y)));all_goals first|apply QS|omega|with_reducible assumption|skip))
   ((try refine QT ?_); refine qm (.inl ⟨rfl,rfl⟩) (by simp [go_sem]) ?_; intro args ha; simp [go_sem] at ha; subst ha; refine ⟨_, hD, ?_⟩; rintro _ rfl; simp [go_sem]; ((repeat' (first|(refine qf ?_;simp [go_sem])|intro _|apply And.intro|(apply Yh;clear Yh Y)));all_goals first|apply QS|omega|with_reducible assumption|skip))
   refine qh fun K1 hK1 => ?_
   (refine qc fun Y Yh => ?_; simp [go_sem]; ((repeat' (first|(refine qf ?_;simp [go_sem])|intro _|apply And.intro|(apply Yh;clear Yh Y)));all_goals first|apply QS|omega|with_reducible assumption|skip))
   (refine qg fun T F hT hF => ?_; simp [go_sem]; refine hF ?_; clear hT hF T F)
   refine qi ?_
   refine hK1 _ ?_; clear hK1
   (refine qc fun Y Yh => ?_; simp [go_sem]; ((repeat' (first|(refine qf ?_;simp [go_sem])|intro _|apply And.intro|(apply Yh;clear Yh Y)));all_goals first|apply QS|omega|with_reducible assumption|skip))
   refine wY 7 1 rfl ?_
   simp only [go_sem]
   refine qh fun K3 hK3 => ?_
   (refine qc fun Y Yh => ?_; simp [go_sem]; ((repeat' (first|(refine qf ?_;simp [go_sem])|intro _|apply And.intro|(apply Yh;clear Yh Y)));all_goals first|apply QS|omega|with_reducible assumption|skip))
   refine qo ?_
   refine qM (σ := Nat) (fun i => ⟨[(4, dRfs L), (7, dSs (nmsV (L.take i))), (8, dI i)], []⟩) (fun i => i ≤ L.length) (fun i => L.length - i) 0 ?_ ?_ ?_
   ·(refine ql ?_ ?_ <;> simp [go_sem])
    rfl
   ·simp
   intro i hi
   have hfi := nms_len (L.take i)
   have htl : (L.take i).length ≤ L.length := by rw [List.length_take]; omega
   refine qh fun K4 hK4 => ?_
   (refine qc fun Y Yh => ?_; simp [go_sem]; ((repeat' (first|(refine qf ?_;simp [go_sem])|intro _|apply And.intro|(apply Yh;clear Yh Y)));all_goals first|apply QS|omega|with_reducible assumption|skip))
   by_cases hend : i < L.length
   ·obtain ⟨f, hf⟩ : ∃ f, L[i]? = some f := ⟨_, List.getElem?_eq_getElem hend⟩
    have hst := nms_step hf
    have hW := wu (nmsV (L.take i)) f.nm (by omega)
    generalize nmsV (L.take i) = N at *
    (refine qg fun T F hT hF => ?_; simp [go_sem, hend]; refine hT ?_; clear hT hF T F)
    refine qi ?_
    refine hK4 _ ?_; clear hK4
    refine qh fun K6 hK6 => ?_
    refine qo ?_
    (refine qx fun Y Yh => ?_; simp [go_sem, hf]; ((repeat' (first|(refine qf ?_;simp [go_sem, hf])|intro _|apply And.intro|(apply Yh;clear Yh Y)));all_goals first|apply QS|omega|with_reducible assumption|skip))
    ((try refine QT ?_); refine qm (.inl ⟨rfl,rfl⟩) (by simp [go_sem]) ?_; intro args ha; simp [go_sem] at ha; subst ha; refine ⟨_, hW, ?_⟩; rintro _ rfl; simp [go_sem]; ((repeat' (first|(refine qf ?_;simp [go_sem])|intro _|apply And.intro|(apply Yh;clear Yh Y)));all_goals first|apply QS|omega|with_reducible assumption|skip))
    refine hK6 _ ?_; clear hK6
    (refine qx fun Y Yh => ?_; simp [go_sem]; ((repeat' (first|(refine qf ?_;simp [go_sem])|intro _|apply And.intro|(apply Yh;clear Yh Y)));all_goals first|apply QS|omega|with_reducible assumption|skip))
    refine ⟨i + 1, ?_, by omega, by omega⟩
    rw [hst]
    (refine ql ?_ ?_ <;> simp [go_sem])
   ·have : i = L.length := by omega
    subst this
    rw [List.take_length] at *
    (refine qg fun T F hT hF => ?_; simp [go_sem, hend]; refine hF ?_; clear hT hF T F)
    refine qH ?_
    simp only [go_sem]
    refine hK3 _ ?_; clear hK3
    (refine qc fun Y Yh => ?_; simp [go_sem]; ((repeat' (first|(refine qf ?_;simp [go_sem])|intro _|apply And.intro|(apply Yh;clear Yh Y)));all_goals first|apply QS|omega|with_reducible assumption|skip))
    (refine qj ?_; simp [go_sem])
set_option maxHeartbeats 16000000 in
theorem QI (l : List Ag) (hl : l.length ≤ 1000000) : PCall Tryz.prog 24 [dAs l] fun r => r = dAs l := by 
 refine qB Tryz.func24 rfl rfl Tryz.ntmps24 (rs := [.tmp 2]) (tys := [57]) rfl rfl (by simp) ?_
 (refine qc fun Y Yh => ?_; simp [go_sem]; ((repeat' (first|(refine qf ?_;simp [go_sem])|intro _|apply And.intro|(apply Yh;clear Yh Y)));all_goals first|apply QS|omega|with_reducible assumption|skip))
 (refine qc fun Y Yh => ?_; simp [go_sem]; ((repeat' (first|(refine qf ?_;simp [go_sem])|intro _|apply And.intro|(apply Yh;clear Yh Y)));all_goals first|apply QS|omega|with_reducible assumption|skip))
 refine zA 3 3 83 4 rfl fun go => ?_
 simp only [go_sem]
 refine qh fun K1 hK1 => ?_
 (refine qc fun Y Yh => ?_; simp [go_sem]; ((repeat' (first|(refine qf ?_;simp [go_sem])|intro _|apply And.intro|(apply Yh;clear Yh Y)));all_goals first|apply QS|omega|with_reducible assumption|skip))
 refine qo ?_
 refine qM (σ := Nat × Nat) (fun x => ⟨[(0, dAs l), (3, .own 3 x.2), (4, dI x.1)], [(3, (x.2, .row 83 4 ((l.take x.1).map cA)))]⟩) (fun x => x.1 ≤ l.length) (fun x => l.length - x.1) (0, go) ?_ ?_ ?_
 ·(refine ql ?_ ?_ <;> simp [go_sem])
 ·simp
 rintro ⟨i, go⟩ hi
 simp only at hi ⊢
 refine qh fun K2 hK2 => ?_
 (refine qc fun Y Yh => ?_; simp [go_sem]; ((repeat' (first|(refine qf ?_;simp [go_sem])|intro _|apply And.intro|(apply Yh;clear Yh Y)));all_goals first|apply QS|omega|with_reducible assumption|skip))
 by_cases h3 : i < l.length
 ·obtain ⟨a, ha⟩ : ∃ a, l[i]? = some a := ⟨_, List.getElem?_eq_getElem h3⟩
  have hta : l.take (i + 1) = l.take i ++ [a] := by rw [List.take_add_one, ha]; rfl
  have htl : (l.take i).length = i := by rw [List.length_take]; omega
  have hmap : (l.take (i + 1)).map cA = (l.take i).map cA ++ [cA a] := by rw [hta]; simp
  generalize hT : l.take i = T at *
  (refine qg fun T F hT hF => ?_; simp [go_sem, h3]; refine hT ?_; clear hT hF T F)
  refine qi ?_
  refine hK2 _ ?_; clear hK2
  refine qh fun K4 hK4 => ?_
  refine qo ?_
  ((refine QK (.qs [0, 1, 2, 3, 4, 6, 7, 8, 9, 11, 12, 13, 14, 16, 17, 18, 19, 5, 10, 15, 20, 21] (.one 22 (.one 23 (.qs [24] (.nil))))) (by kernel_rfl) ?_ ?_ ?_ ?_); (kernel_rfl); (exact (by decide +kernel)); (kernel_rfl); intro Y Yh; ((repeat' (first|(refine qf ?_;simp [go_sem, ha])|refine qC ?_|((first|refine qJ fun Y Yh=>?_|refine qR fun Y Yh=>?_);simp [go_sem, ha])|intro _|apply And.intro|(apply Yh;clear Yh Y)));all_goals first|apply QS|omega|with_reducible assumption|skip))
  refine hK4 _ ?_; clear hK4
  (refine qx fun Y Yh => ?_; simp [go_sem]; ((repeat' (first|(refine qf ?_;simp [go_sem])|intro _|apply And.intro|(apply Yh;clear Yh Y)));all_goals first|apply QS|omega|with_reducible assumption|skip))
  rename_i gq
  refine ⟨(i + 1, gq), ?_, by simp only; omega, by simp only; omega⟩
  rw [hmap]
  (refine ql ?_ ?_ <;> simp [go_sem])
  rw [← hT, List.map_take]
 ·have : i = l.length := by omega
  subst this
  (refine qg fun T F hT hF => ?_; simp [go_sem, h3]; refine hF ?_; clear hT hF T F)
  refine qH ?_
  simp only [go_sem]
  refine hK1 _ ?_; clear hK1
  (refine qc fun Y Yh => ?_; simp [go_sem]; ((repeat' (first|(refine qf ?_;simp [go_sem])|intro _|apply And.intro|(apply Yh;clear Yh Y)));all_goals first|apply QS|omega|with_reducible assumption|skip))
  (refine qj ?_; simp [go_sem])
  rw [List.take_of_length_le (by simp)]
set_option maxHeartbeats 16000000 in
theorem xU (form : Bs) (args : List Ag) (hA : AgsOk args) (hfl : form.length ≤ 9223372036854775807) : PCall Tryz.prog 11 [dS form, dAs args] fun r => r = dB true := by 
 refine qB Tryz.func11 rfl rfl Tryz.ntmps11 (rs := [.tmp 4]) (tys := [4]) rfl rfl (by simp) ?_
 have c1 := zS form args hA hfl
 have c2 := xG form args hA hfl
 have c3 := kN form hfl
 have e3 : fieldsN form = rfldN form := fields_same form
 rw [e3] at c3
 have c4 := xH form hfl
 have c5 := vF form hfl
 rw [names_same] at c5
 have c6 := kw form hfl
 have c7 := wM form args hA hfl
 have c8 := kZ form args hA hfl
 have c9 := vO form hfl
 have c10 := kC form hfl
 have cA := QI args hA.1
 have hnl : (rnamesV form).1.length ≤ 1000000 := by
  unfold rnamesV
  cases hr : rReadV form with
  | none => simp
  | some q =>
   obtain ⟨L, a, b⟩ := q
   simp only
   split
   ·simp
   ·have h1 := nms_len L
    have h2 := (zV hr).2
    unfold nmsV at h1
    simp only; omega
 have cT := kV (rnamesV form).1 (by omega)
 clear e3
 generalize runV form args = q1 at *
 generalize rfldN form = q2 at *
 generalize rnamesV form = q3 at *
 generalize leftV form args = q4 at *
 generalize (if (readV form).isSome then (0 : Int) else 4) = q5 at *
 obtain ⟨t, u, e⟩ := q1
 obtain ⟨n, g⟩ := q2
 obtain ⟨nl, ne⟩ := q3
 obtain ⟨x, o⟩ := q4
 simp only at c1 c2 c3 c4 c5 c6 c7 c8 cT
 (refine qc fun Y Yh => ?_; simp [go_sem]; ((repeat' (first|(refine qf ?_;simp [go_sem])|intro _|apply And.intro|(apply Yh;clear Yh Y)));all_goals first|apply QS|omega|with_reducible assumption|skip))
 (refine qc fun Y Yh => ?_; simp [go_sem]; ((repeat' (first|(refine qf ?_;simp [go_sem])|intro _|apply And.intro|(apply Yh;clear Yh Y)));all_goals first|apply QS|omega|with_reducible assumption|skip))
 ((try refine QT ?_); refine qm (.inl ⟨rfl,rfl⟩) (by simp [go_sem]) ?_; intro args ha; simp [go_sem] at ha; subst ha; refine ⟨_, c1, ?_⟩; rintro _ rfl; simp [go_sem]; ((repeat' (first|(refine qf ?_;simp [go_sem])|intro _|apply And.intro|(apply Yh;clear Yh Y)));all_goals first|apply QS|omega|with_reducible assumption|skip))
 (refine qc fun Y Yh => ?_; simp [go_sem]; ((repeat' (first|(refine qf ?_;simp [go_sem])|intro _|apply And.intro|(apply Yh;clear Yh Y)));all_goals first|apply QS|omega|with_reducible assumption|skip))
 ((try refine QT ?_); refine qm (.inl ⟨rfl,rfl⟩) (by simp [go_sem]) ?_; intro args ha; simp [go_sem] at ha; subst ha; refine ⟨_, cA, ?_⟩; rintro _ rfl; simp [go_sem]; ((repeat' (first|(refine qf ?_;simp [go_sem])|intro _|apply And.intro|(apply Yh;clear Yh Y)));all_goals first|apply QS|omega|with_reducible assumption|skip))
 ((try refine QT ?_); refine qm (.inl ⟨rfl,rfl⟩) (by simp [go_sem]) ?_; intro args ha; simp [go_sem] at ha; subst ha; refine ⟨_, c2, ?_⟩; rintro _ rfl; simp [go_sem]; ((repeat' (first|(refine qf ?_;simp [go_sem])|intro _|apply And.intro|(apply Yh;clear Yh Y)));all_goals first|apply QS|omega|with_reducible assumption|skip))
 (refine qc fun Y Yh => ?_; simp [go_sem]; ((repeat' (first|(refine qf ?_;simp [go_sem])|intro _|apply And.intro|(apply Yh;clear Yh Y)));all_goals first|apply QS|omega|with_reducible assumption|skip))
 ((try refine QT ?_); refine qm (.inl ⟨rfl,rfl⟩) (by simp [go_sem]) ?_; intro args ha; simp [go_sem] at ha; subst ha; refine ⟨_, c3, ?_⟩; rintro _ rfl; simp [go_sem]; ((repeat' (first|(refine qf ?_;simp [go_sem])|intro _|apply And.intro|(apply Yh;clear Yh Y)));all_goals first|apply QS|omega|with_reducible assumption|skip))
 (refine qc fun Y Yh => ?_; simp [go_sem]; ((repeat' (first|(refine qf ?_;simp [go_sem])|intro _|apply And.intro|(apply Yh;clear Yh Y)));all_goals first|apply QS|omega|with_reducible assumption|skip))
 ((try refine QT ?_); refine qm (.inl ⟨rfl,rfl⟩) (by simp [go_sem]) ?_; intro args ha; simp [go_sem] at ha; subst ha; refine ⟨_, c4, ?_⟩; rintro _ rfl; simp [go_sem]; ((repeat' (first|(refine qf ?_;simp [go_sem])|intro _|apply And.intro|(apply Yh;clear Yh Y)));all_goals first|apply QS|omega|with_reducible assumption|skip))
 (refine qc fun Y Yh => ?_; simp [go_sem]; ((repeat' (first|(refine qf ?_;simp [go_sem])|intro _|apply And.intro|(apply Yh;clear Yh Y)));all_goals first|apply QS|omega|with_reducible assumption|skip))
 ((try refine QT ?_); refine qm (.inl ⟨rfl,rfl⟩) (by simp [go_sem]) ?_; intro args ha; simp [go_sem] at ha; subst ha; refine ⟨_, c5, ?_⟩; rintro _ rfl; simp [go_sem]; ((repeat' (first|(refine qf ?_;simp [go_sem])|intro _|apply And.intro|(apply Yh;clear Yh Y)));all_goals first|apply QS|omega|with_reducible assumption|skip))
 (refine qc fun Y Yh => ?_; simp [go_sem]; ((repeat' (first|(refine qf ?_;simp [go_sem])|intro _|apply And.intro|(apply Yh;clear Yh Y)));all_goals first|apply QS|omega|with_reducible assumption|skip))
 ((try refine QT ?_); refine qm (.inl ⟨rfl,rfl⟩) (by simp [go_sem]) ?_; intro args ha; simp [go_sem] at ha; subst ha; refine ⟨_, c6, ?_⟩; rintro _ rfl; simp [go_sem]; ((repeat' (first|(refine qf ?_;simp [go_sem])|intro _|apply And.intro|(apply Yh;clear Yh Y)));all_goals first|apply QS|omega|with_reducible assumption|skip))
 (refine qc fun Y Yh => ?_; simp [go_sem]; ((repeat' (first|(refine qf ?_;simp [go_sem])|intro _|apply And.intro|(apply Yh;clear Yh Y)));all_goals first|apply QS|omega|with_reducible assumption|skip))
 ((try refine QT ?_); refine qm (.inl ⟨rfl,rfl⟩) (by simp [go_sem]) ?_; intro args ha; simp [go_sem] at ha; subst ha; refine ⟨_, c7, ?_⟩; rintro _ rfl; simp [go_sem]; ((repeat' (first|(refine qf ?_;simp [go_sem])|intro _|apply And.intro|(apply Yh;clear Yh Y)));all_goals first|apply QS|omega|with_reducible assumption|skip))
 (refine qc fun Y Yh => ?_; simp [go_sem]; ((repeat' (first|(refine qf ?_;simp [go_sem])|intro _|apply And.intro|(apply Yh;clear Yh Y)));all_goals first|apply QS|omega|with_reducible assumption|skip))
 ((try refine QT ?_); refine qm (.inl ⟨rfl,rfl⟩) (by simp [go_sem]) ?_; intro args ha; simp [go_sem] at ha; subst ha; refine ⟨_, cA, ?_⟩; rintro _ rfl; simp [go_sem]; ((repeat' (first|(refine qf ?_;simp [go_sem])|intro _|apply And.intro|(apply Yh;clear Yh Y)));all_goals first|apply QS|omega|with_reducible assumption|skip))
 ((try refine QT ?_); refine qm (.inl ⟨rfl,rfl⟩) (by simp [go_sem]) ?_; intro args ha; simp [go_sem] at ha; subst ha; refine ⟨_, c8, ?_⟩; rintro _ rfl; simp [go_sem]; ((repeat' (first|(refine qf ?_;simp [go_sem])|intro _|apply And.intro|(apply Yh;clear Yh Y)));all_goals first|apply QS|omega|with_reducible assumption|skip))
 (refine qc fun Y Yh => ?_; simp [go_sem]; ((repeat' (first|(refine qw ?_ ?_ ?_;(focus (simp [go_sem, undef];done));(focus (simp [go_sem];done));simp [go_sem])|(refine qp ?_ ?_;(focus (simp [go_sem, undef];done));simp [go_sem])|(refine qf ?_;simp [go_sem, undef])|intro _|apply And.intro|(apply Yh;clear Yh Y)));all_goals first|apply QS|omega|with_reducible assumption|skip))
 ((try refine QT ?_); refine qm (.inl ⟨rfl,rfl⟩) (by simp [go_sem]) ?_; intro args ha; simp [go_sem] at ha; subst ha; refine ⟨_, cT, ?_⟩; rintro _ rfl; simp [go_sem]; ((repeat' (first|(refine qw ?_ ?_ ?_;(focus (simp [go_sem, undef];done));(focus (simp [go_sem];done));simp [go_sem])|(refine qp ?_ ?_;(focus (simp [go_sem, undef];done));simp [go_sem])|(refine qf ?_;simp [go_sem, undef])|intro _|apply And.intro|(apply Yh;clear Yh Y)));all_goals first|apply QS|omega|with_reducible assumption|skip))
 ((try refine QT ?_); refine qm (.inl ⟨rfl,rfl⟩) (by simp [go_sem]) ?_; intro args ha; simp [go_sem] at ha; subst ha; refine ⟨_, c9, ?_⟩; rintro _ rfl; simp [go_sem]; ((repeat' (first|(refine qw ?_ ?_ ?_;(focus (simp [go_sem, undef];done));(focus (simp [go_sem];done));simp [go_sem])|(refine qp ?_ ?_;(focus (simp [go_sem, undef];done));simp [go_sem])|(refine qf ?_;simp [go_sem, undef])|intro _|apply And.intro|(apply Yh;clear Yh Y)));all_goals first|apply QS|omega|with_reducible assumption|skip))
 ((try refine QT ?_); refine qm (.inl ⟨rfl,rfl⟩) (by simp [go_sem]) ?_; intro args ha; simp [go_sem] at ha; subst ha; refine ⟨_, c10, ?_⟩; rintro _ rfl; simp [go_sem]; ((repeat' (first|(refine qw ?_ ?_ ?_;(focus (simp [go_sem, undef];done));(focus (simp [go_sem];done));simp [go_sem])|(refine qp ?_ ?_;(focus (simp [go_sem, undef];done));simp [go_sem])|(refine qf ?_;simp [go_sem, undef])|intro _|apply And.intro|(apply Yh;clear Yh Y)));all_goals first|apply QS|omega|with_reducible assumption|skip))
 (refine qj ?_; simp [go_sem])
end Go.Proofs.YtelhdhofnohkcaaGreatDoor
namespace Go.Fm
structure Pk where
 fl : Int
 wd : Int
 pr : Int
 lt : Int
 n : Int
 kd : Int
 tx : List UInt8
end Go.Fm
namespace Go.Proofs.YtelhdhofnohkcaaGreatDoor
open Go.Eng Go.Fm
set_option maxRecDepth 20000
attribute [local irreducible] AG CallA CallT AWp PCall ACall AgC
abbrev PkOk (p : Pk) : Prop := InR p.fl ∧ InR p.wd ∧ InR p.pr ∧ InR p.lt ∧ InR p.n ∧ InR p.kd
@[go_sem] abbrev cPk (p : Pk) : List D := [dI p.fl, dI p.wd, dI p.pr, dI p.lt, dI p.n, dI p.kd, dS p.tx]
@[go_sem] abbrev dPk (p : Pk) : D := .agg [dI p.fl, dI p.wd, dI p.pr, dI p.lt, dI p.n, dI p.kd, dS p.tx]
def flagQ (fl : Int) (i : Nat) : Bool := decide (andI IntKind.i64 (shrI IntKind.i64 fl (IntKind.u64.wrap i)) 3 = 1)
def flagC (i : Nat) : Bs := (([45, 48, 43, 32, 35] : Bs).drop i).take 1
def flagsV (fl : Int) : Nat → Bs
 | 0 => []
 | i + 1 => flagsV fl i ++ if flagQ fl i then flagC i else []
def mdU (x : Int) (m : Nat) : Nat := (IntKind.u64.wrap x % m).toNat
theorem mdU_lt (x : Int) {m : Nat} (h : 0 < m) : mdU x m < m := by
 unfold mdU
 have h1 := Int.emod_nonneg (IntKind.u64.wrap x) (b := (m : Int)) (by omega)
 have h2 := Int.emod_lt_of_pos (IntKind.u64.wrap x) (b := (m : Int)) (by omega)
 omega
theorem wrap64_nn (x : Int) : 0 ≤ IntKind.u64.wrap x := by
 simp [IntKind.wrap, IntKind.signed, IntKind.bits]
 try omega
theorem mdU_eq (x : Int) (m : Nat) (h : 0 < m) : Int.tmod (IntKind.u64.wrap x) m = (mdU x m : Nat) := by
 rw [Int.tmod_eq_emod_of_nonneg (wrap64_nn x)]
 unfold mdU
 have h1 := Int.emod_nonneg (IntKind.u64.wrap x) (b := (m : Int)) (by omega)
 omega
def nameK (kd : Int) : Bs := if mdU kd 3 = 0 then [97] else if mdU kd 3 = 1 then [98, 95, 99] else [100]
def widT (named : Bool) (w : Nat) : Bs := if w < 6 then [] else if w < 14 ∨ named = true then showB 10 (w - 3 : Int) else [42]
def preT (named : Bool) (q : Nat) : Bs := if q < 7 then [] else if q = 7 then [46] else if q < 14 ∨ named = true then 46 :: showB 10 (q - 8 : Int) else [46, 42]
def widA (named : Bool) (p : Pk) : List Ag := if mdU p.wd 16 < 14 ∨ named = true then [] else [⟨[], false, p.wd.tmod 20, []⟩]
def preA (named : Bool) (p : Pk) : List Ag := if mdU p.pr 16 < 14 ∨ named = true then [] else [⟨[], false, p.pr.tmod 9, []⟩]
def lastN (p : Pk) : Int := if mdU p.lt 16 < 12 then p.n.tmod 1000 else p.n
def lastX (p : Pk) : Bs := if mdU p.kd 8 = 0 ∧ mdU p.lt 8 < 5 ∧ mdU p.kd 16 = 0 then showB 10 p.n else p.tx.take 40
def lastA (p : Pk) : Ag := ⟨[], decide (mdU p.kd 8 = 0), lastN p, lastX p⟩
def madeA (p : Pk) (named : Bool) : List Ag := widA named p ++ preA named p ++ [lastA p]
def letT (p : Pk) : Bs := (([100, 120, 88, 111, 98, 115, 99, 112] : Bs).drop (mdU p.lt 8)).take 1
def headT (p : Pk) (named : Bool) : Bs := if named then [37, 60] ++ nameK p.kd ++ [62] else [37]
def madeT (p : Pk) (named : Bool) : Bs := headT p named ++ flagsV p.fl 5 ++ widT named (mdU p.wd 16) ++ preT named (mdU p.pr 16) ++ letT p
theorem flags_len (fl : Int) (i : Nat) : (flagsV fl i).length ≤ i := by
 induction i with
 | zero => simp [flagsV]
 | succ i ih =>
  simp only [flagsV, List.length_append]
  have : (if flagQ fl i then flagC i else []).length ≤ 1 := by
   split
   ·simp [flagC]; omega
   ·simp
  omega
theorem head_len (p : Pk) (named : Bool) : (headT p named).length ≤ 6 := by
 unfold headT nameK
 repeat' split
 all_goals simp
theorem show_all : ((List.range 13).all fun k => decide ((showB 10 (k : Nat)).length ≤ 2)) = true := by decide +kernel
theorem show_small {n : Int} (h0 : 0 ≤ n) (h : n < 13) : (showB 10 n).length ≤ 2 := by
 obtain ⟨k, rfl⟩ := Int.eq_ofNat_of_zero_le h0
 exact of_decide_eq_true (List.all_eq_true.1 show_all k (List.mem_range.2 (by omega)))
theorem w3 (x : Int) : Int.tmod (IntKind.u64.wrap x) 3 = (mdU x 3 : Nat) := mdU_eq x 3 (by decide)
theorem w8 (x : Int) : Int.tmod (IntKind.u64.wrap x) 8 = (mdU x 8 : Nat) := mdU_eq x 8 (by decide)
theorem w16 (x : Int) : Int.tmod (IntKind.u64.wrap x) 16 = (mdU x 16 : Nat) := mdU_eq x 16 (by decide)
set_option maxHeartbeats 16000000 in
theorem wK (p : Pk) (named : Bool) (hp : PkOk p) : ACall Tryz.prog 10 [dPk p, dB named] [] [900030] fun ps r => ∃ g, ps = [(g, .row 25 4 ((madeA p named).map cA))] ∧ r = .tup [dS (madeT p named), .own 900030 g] := by 
 refine qY Tryz.func10 rfl rfl Tryz.ntmps10 (rs := [.tmp 4, .tmp 5]) (tys := [9, 26]) rfl rfl (by simp) (by simp) ?_
 obtain ⟨p1, p2, p3, p4, p5, p6⟩ := hp
 (refine qc fun Y Yh => ?_; simp [go_sem]; ((repeat' (first|(refine qf ?_;simp [go_sem])|intro _|apply And.intro|(apply Yh;clear Yh Y)));all_goals first|apply QS|omega|with_reducible assumption|skip))
 refine zQ 2 rfl rfl ?_
 simp only [go_sem]
 (refine qc fun Y Yh => ?_; simp [go_sem]; ((repeat' (first|(refine qf ?_;simp [go_sem])|intro _|apply And.intro|(apply Yh;clear Yh Y)));all_goals first|apply QS|omega|with_reducible assumption|skip))
 (refine qc fun Y Yh => ?_; simp [go_sem]; ((repeat' (first|(refine qf ?_;simp [go_sem])|intro _|apply And.intro|(apply Yh;clear Yh Y)));all_goals first|apply QS|omega|with_reducible assumption|skip))
 refine qh fun K1 hK1 => ?_
 have tl1 : ∀ S' (s0 : Bs), s0 = headT p named → Cov S' ⟨[(1, dB named), (2, .rd (cPk p)), (6, dS s0), (7, .v (.slice none 0 0))], []⟩ → K1 S' := fun S' s0 hs0 hS => by
  refine hK1 _ ?_; clear hK1
  refine qG hS ?_; clear hS
  refine zA 7 7 25 4 rfl fun go => ?_
  simp only [go_sem]
  refine qh fun K2 hK2 => ?_
  (refine qc fun Y Yh => ?_; simp [go_sem]; ((repeat' (first|(refine qf ?_;simp [go_sem])|intro _|apply And.intro|(apply Yh;clear Yh Y)));all_goals first|apply QS|omega|with_reducible assumption|skip))
  refine qo ?_
  refine qM (σ := Nat) (fun x => ⟨[(1, dB named), (2, .rd (cPk p)), (6, dS (s0 ++ flagsV p.fl x)), (7, .own 7 go), (8, dI x)], [(7, (go, .row 25 4 []))]⟩) (fun x => x ≤ 5) (fun x => 5 - x) 0 ?_ ?_ ?_
  ·(refine ql ?_ ?_ <;> simp [go_sem])
   simp [flagsV]
  ·simp
  intro i hi
  have hsl : (s0 ++ flagsV p.fl i).length ≤ 11 := by
   have h1 := flags_len p.fl i
   have h2 := head_len p named
   rw [List.length_append, hs0]; omega
  generalize hs : s0 ++ flagsV p.fl i = s
  rw [hs] at hsl
  have hs1 : s0 ++ flagsV p.fl (i + 1) = s ++ if flagQ p.fl i then flagC i else [] := by rw [← hs]; simp [flagsV]
  refine qh fun K3 hK3 => ?_
  (refine qc fun Y Yh => ?_; simp [go_sem]; ((repeat' (first|(refine qf ?_;simp [go_sem])|intro _|apply And.intro|(apply Yh;clear Yh Y)));all_goals first|apply QS|omega|with_reducible assumption|skip))
  by_cases h4 : (i : Int) < 5
  ·(refine qg fun T F hT hF => ?_; simp [go_sem, h4]; refine hT ?_; clear hT hF T F)
   refine qi ?_
   refine hK3 _ ?_; clear hK3
   refine qh fun K5 hK5 => ?_
   have tl5 : ∀ S' (s : Bs), s = s0 ++ flagsV p.fl (i + 1) → Cov S' ⟨[(1, dB named), (2, .rd (cPk p)), (6, dS s), (7, .own 7 go), (8, dI i)], [(7, (go, .row 25 4 []))]⟩ → K5 S' := fun S' s hs hS => by
    refine hK5 _ ?_; clear hK5
    refine qG hS ?_; clear hS
    (refine qx fun Y Yh => ?_; simp [go_sem]; ((repeat' (first|(refine qf ?_;simp [go_sem])|intro _|apply And.intro|(apply Yh;clear Yh Y)));all_goals first|apply QS|omega|with_reducible assumption|skip))
    refine ⟨i + 1, ?_, by omega, by omega⟩
    rw [← hs]
    (refine ql ?_ ?_ <;> simp [go_sem])
   clear hK5
   refine qo ?_
   (refine qc fun Y Yh => ?_; simp [go_sem]; ((repeat' (first|(refine qf ?_;simp [go_sem])|intro _|apply And.intro|(apply Yh;clear Yh Y)));all_goals first|apply QS|omega|with_reducible assumption|skip))
   by_cases hf : flagQ p.fl i = true
   ·have hf' : andI IntKind.i64 (shrI IntKind.i64 p.fl (IntKind.u64.wrap i)) 3 = 1 := of_decide_eq_true hf
    (refine qg fun T F hT hF => ?_; simp [go_sem, hf']; refine hT ?_; clear hT hF T F)
    (refine qx fun Y Yh => ?_; simp [go_sem]; ((repeat' (first|(refine qf ?_;simp [go_sem])|intro _|apply And.intro|(apply Yh;clear Yh Y)));all_goals first|apply QS|omega|with_reducible assumption|skip))
    refine tl5 _ (s ++ flagC i) ?_ ?_
    ·rw [hs1, if_pos hf]
    (refine ql ?_ ?_ <;> simp [go_sem])
    have : i = 0 ∨ i = 1 ∨ i = 2 ∨ i = 3 ∨ i = 4 := by omega
    rcases this with rfl | rfl | rfl | rfl | rfl <;> rfl
   ·have hf' : ¬ andI IntKind.i64 (shrI IntKind.i64 p.fl (IntKind.u64.wrap i)) 3 = 1 := fun h => hf (decide_eq_true h)
    (refine qg fun T F hT hF => ?_; simp [go_sem, hf']; refine hF ?_; clear hT hF T F)
    refine qi ?_
    refine tl5 _ s ?_ ?_
    ·rw [hs1, if_neg hf]; simp
    (refine ql ?_ ?_ <;> simp [go_sem])
  ·have : i = 5 := by omega
   subst this
   (refine qg fun T F hT hF => ?_; simp [go_sem, h4]; refine hF ?_; clear hT hF T F)
   refine qH ?_
   simp only [go_sem]
   refine hK2 _ ?_; clear hK2
   have hw := mdU_lt p.wd (m := 16) (by decide)
   have hs2 : s = headT p named ++ flagsV p.fl 5 := by rw [← hs, hs0]
   clear hs hs1
   (refine qc fun Y Yh => ?_; simp [go_sem, w16]; ((repeat' (first|(refine qf ?_;simp [go_sem, w16])|intro _|apply And.intro|(apply Yh;clear Yh Y)));all_goals first|apply QS|omega|with_reducible assumption|skip))
   refine qh fun K7 hK7 => ?_
   have tl7 : ∀ S' (s1 : Bs) gx, s1 = s ++ widT named (mdU p.wd 16) → s1.length ≤ 20 → Cov S' ⟨[(1, dB named), (2, .rd (cPk p)), (6, dS s1), (7, .own 7 gx)], [(7, (gx, .row 25 4 ((widA named p).map cA)))]⟩ → K7 S' := fun S' s1 gx hs1 hl1 hS => by
    refine hK7 _ ?_; clear hK7
    refine qG hS ?_; clear hS
    have hq := mdU_lt p.pr (m := 16) (by decide)
    have hs3 : s1 = headT p named ++ flagsV p.fl 5 ++ widT named (mdU p.wd 16) := by rw [hs1, hs2]
    clear hs1 hs2 hsl
    have hla : (widA named p).length ≤ 1 := by unfold widA; split <;> simp
    (refine qc fun Y Yh => ?_; simp [go_sem, w16]; ((repeat' (first|(refine qf ?_;simp [go_sem, w16])|intro _|apply And.intro|(apply Yh;clear Yh Y)));all_goals first|apply QS|omega|with_reducible assumption|skip))
    refine qh fun K8 hK8 => ?_
    have tl8 : ∀ S' (s2 : Bs) gx, s2 = s1 ++ preT named (mdU p.pr 16) → s2.length ≤ 30 → Cov S' ⟨[(2, .rd (cPk p)), (6, dS s2), (7, .own 7 gx)], [(7, (gx, .row 25 4 ((widA named p ++ preA named p).map cA)))]⟩ → K8 S' := fun S' s2 gx hs2 hl2 hS => by
     refine hK8 _ ?_; clear hK8
     refine qG hS ?_; clear hS
     have hk := mdU_lt p.lt (m := 8) (by decide)
     have hs4 : s2 = headT p named ++ flagsV p.fl 5 ++ widT named (mdU p.wd 16) ++ preT named (mdU p.pr 16) := by rw [hs2, hs3]
     clear hs2 hs3 hl1
     have hlb : (widA named p ++ preA named p).length ≤ 2 := by
      rw [List.length_append]; unfold widA preA; split <;> split <;> simp
     have hmade : madeT p named = s2 ++ letT p := by unfold madeT; rw [hs4]
     have hmadA : madeA p named = (widA named p ++ preA named p) ++ [lastA p] := rfl
     generalize hL : widA named p ++ preA named p = L at *
     clear hs4
     have hcut : ({ data := #[100, 120, 88, 111, 98, 115, 99, 112] } : ByteArray).extract (mdU p.lt 8) (mdU p.lt 8 + 1) = { data := (letT p).toArray } := by
      unfold letT
      have : mdU p.lt 8 = 0 ∨ mdU p.lt 8 = 1 ∨ mdU p.lt 8 = 2 ∨ mdU p.lt 8 = 3 ∨ mdU p.lt 8 = 4 ∨ mdU p.lt 8 = 5 ∨ mdU p.lt 8 = 6 ∨ mdU p.lt 8 = 7 := by omega
      rcases this with h | h | h | h | h | h | h | h <;> rw [h] <;> rfl
     (refine qc fun Y Yh => ?_; simp [go_sem, w8]; ((repeat' (first|(refine qf ?_;simp [go_sem, w8])|intro _|apply And.intro|(apply Yh;clear Yh Y)));all_goals first|apply QS|omega|with_reducible assumption|skip))
     have hll : (letT p).length ≤ 1 := by unfold letT; simp; omega
     (refine qc fun Y Yh => ?_; simp [go_sem, hcut, ba_app]; ((repeat' (first|(refine qf ?_;simp [go_sem, hcut, ba_app])|intro _|apply And.intro|(apply Yh;clear Yh Y)));all_goals first|apply QS|omega|with_reducible assumption|skip))
     rw [← hmade]
     (refine qc fun Y Yh => ?_; simp [go_sem]; ((repeat' (first|(refine qf ?_;simp [go_sem])|intro _|apply And.intro|(apply Yh;clear Yh Y)));all_goals first|apply QS|omega|with_reducible assumption|skip))
     refine qh fun K9 hK9 => ?_
     have tl9 : ∀ S', Cov S' ⟨[(2, .rd (cPk p)), (6, dS (madeT p named)), (7, .own 7 gx), (11, dI (mdU p.lt 8)), (12, dI (lastN p))], [(7, (gx, .row 25 4 (L.map cA)))]⟩ → K9 S' := fun S' hS => by
      refine hK9 _ ?_; clear hK9
      refine qG hS ?_; clear hS
      (refine qc fun Y Yh => ?_; simp [go_sem, w8]; ((repeat' (first|(refine qf ?_;simp [go_sem, w8])|intro _|apply And.intro|(apply Yh;clear Yh Y)));all_goals first|apply QS|omega|with_reducible assumption|skip))
      rename_i ga
      refine qh fun K10 hK10 => ?_
      have tl10 : ∀ S' (x : Bs), x = p.tx.take 40 → Cov S' ⟨[(2, .rd (cPk p)), (6, dS (madeT p named)), (7, .own 7 gx), (11, dI (mdU p.lt 8)), (13, .ptr 13 ga 0)], [(7, (gx, .row 25 4 (L.map cA))), (13, (ga, .box [dS [], dB (decide (mdU p.kd 8 = 0)), dI (lastN p), dS x]))]⟩ → K10 S' := fun S' x hx hS => by
       refine hK10 _ ?_; clear hK10
       refine qG hS ?_; clear hS
       refine qh fun K11 hK11 => ?_
       have tl11 : ∀ S' (y : Bs), y = lastX p → Cov S' ⟨[(6, dS (madeT p named)), (7, .own 7 gx), (13, .ptr 13 ga 0)], [(7, (gx, .row 25 4 (L.map cA))), (13, (ga, .box [dS [], dB (decide (mdU p.kd 8 = 0)), dI (lastN p), dS y]))]⟩ → K11 S' := fun S' y hy hS => by
        refine hK11 _ ?_; clear hK11
        refine qG hS ?_; clear hS
        have hfin : madeA p named = L ++ [⟨[], decide (mdU p.kd 8 = 0), lastN p, y⟩] := by rw [hmadA, hy]; rfl
        rw [hfin]
        generalize madeT p named = T at *
        (refine qc fun Y Yh => ?_; simp [go_sem]; ((repeat' (first|(refine qf ?_;simp [go_sem])|intro _|apply And.intro|(apply Yh;clear Yh Y)));all_goals first|apply QS|omega|with_reducible assumption|skip))
        refine vW 5 900030 rfl rfl (by decide) fun g => ?_
        simp only [go_sem]
        refine qj ?_
        simp [go_sem]
       clear hK11
       have hk16 := mdU_lt p.kd (m := 16) (by decide)
       by_cases hT : mdU p.kd 8 = 0
       ·by_cases h5 : (mdU p.lt 8 : Int) < 5
        ·by_cases hz : mdU p.kd 16 = 0
         ·(refine qc fun Y Yh => ?_; simp [go_sem, w16, hT, h5, hz]; ((repeat' (first|(refine qw ?_ ?_ ?_;(focus (simp [go_sem, undef, w16, hT, h5, hz];done));(focus (simp [go_sem];done));simp [go_sem, w16, hT, h5, hz])|(refine qp ?_ ?_;(focus (simp [go_sem, undef, w16, hT, h5, hz];done));simp [go_sem, w16, hT, h5, hz])|(refine qf ?_;simp [go_sem, undef, w16, hT, h5, hz])|intro _|apply And.intro|(apply Yh;clear Yh Y)));all_goals first|apply QS|omega|with_reducible assumption|skip))
          (refine qg fun T F hT hF => ?_; simp [go_sem]; refine hT ?_; clear hT hF T F)
          (refine qx fun Y Yh => ?_; simp [go_sem]; ((repeat' (first|(refine qf ?_;simp [go_sem])|intro _|apply And.intro|(apply Yh;clear Yh Y)));all_goals first|apply QS|omega|with_reducible assumption|skip))
          ((try refine QT ?_); refine qm (.inl ⟨rfl,rfl⟩) (by simp [go_sem]) ?_; intro args ha; simp [go_sem] at ha; subst ha; refine ⟨_, (zC p.n p5), ?_⟩; rintro _ rfl; simp [go_sem]; ((repeat' (first|(refine qf ?_;simp [go_sem])|intro _|apply And.intro|(apply Yh;clear Yh Y)));all_goals first|apply QS|omega|with_reducible assumption|skip))
          refine tl11 _ (showB 10 p.n) ?_ ?_
          ·rw [lastX, if_pos ⟨hT, by omega, by omega⟩]
          (refine ql ?_ ?_ <;> simp [go_sem])
          simp [hT]
         ·(refine qc fun Y Yh => ?_; simp [go_sem, w16, hT, h5, hz]; ((repeat' (first|(refine qw ?_ ?_ ?_;(focus (simp [go_sem, undef, w16, hT, h5, hz];done));(focus (simp [go_sem];done));simp [go_sem, w16, hT, h5, hz])|(refine qp ?_ ?_;(focus (simp [go_sem, undef, w16, hT, h5, hz];done));simp [go_sem, w16, hT, h5, hz])|(refine qf ?_;simp [go_sem, undef, w16, hT, h5, hz])|intro _|apply And.intro|(apply Yh;clear Yh Y)));all_goals first|apply QS|omega|with_reducible assumption|skip))
          (refine qg fun T F hT hF => ?_; simp [go_sem, hz]; refine hF ?_; clear hT hF T F)
          refine qi ?_
          refine tl11 _ x ?_ ?_
          ·rw [lastX, if_neg (by omega), hx]
          (refine ql ?_ ?_ <;> simp [go_sem])
          simp [hT]
        ·(refine qc fun Y Yh => ?_; simp [go_sem, w16, hT, h5]; ((repeat' (first|(refine qw ?_ ?_ ?_;(focus (simp [go_sem, undef, w16, hT, h5];done));(focus (simp [go_sem];done));simp [go_sem, w16, hT, h5])|(refine qp ?_ ?_;(focus (simp [go_sem, undef, w16, hT, h5];done));simp [go_sem, w16, hT, h5])|(refine qf ?_;simp [go_sem, undef, w16, hT, h5])|intro _|apply And.intro|(apply Yh;clear Yh Y)));all_goals first|apply QS|omega|with_reducible assumption|skip))
         (refine qg fun T F hT hF => ?_; simp [go_sem, h5]; refine hF ?_; clear hT hF T F)
         refine qi ?_
         refine tl11 _ x ?_ ?_
         ·rw [lastX, if_neg (by omega), hx]
         (refine ql ?_ ?_ <;> simp [go_sem])
         simp [hT]
       ·(refine qc fun Y Yh => ?_; simp [go_sem, w16, hT]; ((repeat' (first|(refine qw ?_ ?_ ?_;(focus (simp [go_sem, undef, w16, hT];done));(focus (simp [go_sem];done));simp [go_sem, w16, hT])|(refine qp ?_ ?_;(focus (simp [go_sem, undef, w16, hT];done));simp [go_sem, w16, hT])|(refine qf ?_;simp [go_sem, undef, w16, hT])|intro _|apply And.intro|(apply Yh;clear Yh Y)));all_goals first|apply QS|omega|with_reducible assumption|skip))
        (refine qg fun T F hT hF => ?_; simp [go_sem, hT]; refine hF ?_; clear hT hF T F)
        refine qi ?_
        refine tl11 _ x ?_ ?_
        ·rw [lastX, if_neg (by omega), hx]
        (refine ql ?_ ?_ <;> simp [go_sem])
        simp [hT]
      clear hK10
      (refine qc fun Y Yh => ?_; simp [go_sem]; ((repeat' (first|(refine qf ?_;simp [go_sem])|intro _|apply And.intro|(apply Yh;clear Yh Y)));all_goals first|apply QS|omega|with_reducible assumption|skip))
      by_cases h40 : (40 : Int) < p.tx.length
      ·(refine qg fun T F hT hF => ?_; simp [go_sem, h40]; refine hT ?_; clear hT hF T F)
       (refine qx fun Y Yh => ?_; simp [go_sem]; ((repeat' (first|(refine qf ?_;simp [go_sem])|intro _|apply And.intro|(apply Yh;clear Yh Y)));all_goals first|apply QS|omega|with_reducible assumption|skip))
       refine tl10 _ (p.tx.take 40) rfl ?_
       (refine ql ?_ ?_ <;> simp [go_sem])
       rw [ba_cut]; simp
      ·(refine qg fun T F hT hF => ?_; simp [go_sem, h40]; refine hF ?_; clear hT hF T F)
       refine qi ?_
       refine tl10 _ p.tx ?_ ?_
       ·rw [List.take_of_length_le (by omega)]
       (refine ql ?_ ?_ <;> simp [go_sem])
     clear hK9
     have h16 := mdU_lt p.lt (m := 16) (by decide)
     (refine qc fun Y Yh => ?_; simp [go_sem, w16]; ((repeat' (first|(refine qf ?_;simp [go_sem, w16])|intro _|apply And.intro|(apply Yh;clear Yh Y)));all_goals first|apply QS|omega|with_reducible assumption|skip))
     by_cases h12 : (mdU p.lt 16 : Int) < 12
     ·(refine qg fun T F hT hF => ?_; simp [go_sem, h12]; refine hT ?_; clear hT hF T F)
      (refine qx fun Y Yh => ?_; simp [go_sem]; ((repeat' (first|(refine qf ?_;simp [go_sem])|intro _|apply And.intro|(apply Yh;clear Yh Y)));all_goals first|apply QS|omega|with_reducible assumption|skip))
      refine tl9 _ ?_
      rw [lastN, if_pos (by omega)]
      (refine ql ?_ ?_ <;> simp [go_sem])
     ·(refine qg fun T F hT hF => ?_; simp [go_sem, h12]; refine hF ?_; clear hT hF T F)
      refine qi ?_
      refine tl9 _ ?_
      rw [lastN, if_neg (by omega)]
      (refine ql ?_ ?_ <;> simp [go_sem])
    clear hK8
    generalize hqe : mdU p.pr 16 = q at *
    refine qo ?_
    (refine qc fun Y Yh => ?_; simp [go_sem]; ((repeat' (first|(refine qf ?_;simp [go_sem])|intro _|apply And.intro|(apply Yh;clear Yh Y)));all_goals first|apply QS|omega|with_reducible assumption|skip))
    by_cases h7 : (q : Int) < 7
    ·(refine qg fun T F hT hF => ?_; simp [go_sem, h7]; refine hT ?_; clear hT hF T F)
     refine qi ?_
     refine tl8 _ s1 gx ?_ (by omega) ?_
     ·rw [preT, if_pos (by omega)]; simp
     rw [preA, hqe, if_pos (by omega), List.append_nil]
     (refine ql ?_ ?_ <;> simp [go_sem])
    ·(refine qg fun T F hT hF => ?_; simp [go_sem, h7]; refine hF ?_; clear hT hF T F)
     (refine qc fun Y Yh => ?_; simp [go_sem]; ((repeat' (first|(refine qf ?_;simp [go_sem])|intro _|apply And.intro|(apply Yh;clear Yh Y)));all_goals first|apply QS|omega|with_reducible assumption|skip))
     by_cases h77 : (q : Int) = 7
     ·(refine qg fun T F hT hF => ?_; simp [go_sem, h77]; refine hT ?_; clear hT hF T F)
      (refine qx fun Y Yh => ?_; simp [go_sem]; ((repeat' (first|(refine qf ?_;simp [go_sem])|intro _|apply And.intro|(apply Yh;clear Yh Y)));all_goals first|apply QS|omega|with_reducible assumption|skip))
      refine tl8 _ (s1 ++ [46]) gx ?_ ?_ ?_
      ·rw [preT, if_neg (by omega), if_pos (by omega)]
      ·rw [List.length_append]; simp; omega
      rw [preA, hqe, if_pos (by omega), List.append_nil]
      (refine ql ?_ ?_ <;> simp [go_sem])
      exact ba_app s1 [46]
     ·(refine qg fun T F hT hF => ?_; simp [go_sem, h77]; refine hF ?_; clear hT hF T F)
      have hsq : (showB 10 (q - 8 : Int)).length ≤ 2 := show_small (by omega) (by omega)
      by_cases h14 : (q : Int) < 14
      ·(refine qc fun Y Yh => ?_; simp [go_sem, h14]; ((repeat' (first|(refine qw ?_ ?_ ?_;(focus (simp [go_sem, undef, h14];done));(focus (simp [go_sem];done));simp [go_sem, h14])|(refine qp ?_ ?_;(focus (simp [go_sem, undef, h14];done));simp [go_sem, h14])|(refine qf ?_;simp [go_sem, undef, h14])|intro _|apply And.intro|(apply Yh;clear Yh Y)));all_goals first|apply QS|omega|with_reducible assumption|skip))
       (refine qg fun T F hT hF => ?_; simp [go_sem, h14]; refine hT ?_; clear hT hF T F)
       (refine qx fun Y Yh => ?_; simp [go_sem]; ((repeat' (first|(refine qf ?_;simp [go_sem])|intro _|apply And.intro|(apply Yh;clear Yh Y)));all_goals first|apply QS|omega|with_reducible assumption|skip))
       ((try refine QT ?_); refine qm (.inl ⟨rfl,rfl⟩) (by simp [go_sem]) ?_; intro args ha; simp [go_sem] at ha; subst ha; refine ⟨_, (zC (q - 8 : Int) (by unfold InR; omega)), ?_⟩; rintro _ rfl; simp [go_sem]; ((repeat' (first|(refine qf ?_;simp [go_sem])|intro _|apply And.intro|(apply Yh;clear Yh Y)));all_goals first|apply QS|omega|with_reducible assumption|skip))
       refine tl8 _ (s1 ++ 46 :: showB 10 (q - 8 : Int)) gx ?_ ?_ ?_
       ·rw [preT, if_neg (by omega), if_neg (by omega), if_pos (Or.inl (by omega))]
       ·rw [List.length_append, List.length_cons]; omega
       rw [preA, hqe, if_pos (Or.inl (by omega)), List.append_nil]
       (refine ql ?_ ?_ <;> simp [go_sem])
       rw [ba_app s1 [46], ba_app]
       simp
      ·cases named with
       | true =>
        (refine qc fun Y Yh => ?_; simp [go_sem, h14]; ((repeat' (first|(refine qw ?_ ?_ ?_;(focus (simp [go_sem, undef, h14];done));(focus (simp [go_sem];done));simp [go_sem, h14])|(refine qp ?_ ?_;(focus (simp [go_sem, undef, h14];done));simp [go_sem, h14])|(refine qf ?_;simp [go_sem, undef, h14])|intro _|apply And.intro|(apply Yh;clear Yh Y)));all_goals first|apply QS|omega|with_reducible assumption|skip))
        (refine qg fun T F hT hF => ?_; simp [go_sem]; refine hT ?_; clear hT hF T F)
        (refine qx fun Y Yh => ?_; simp [go_sem]; ((repeat' (first|(refine qf ?_;simp [go_sem])|intro _|apply And.intro|(apply Yh;clear Yh Y)));all_goals first|apply QS|omega|with_reducible assumption|skip))
        ((try refine QT ?_); refine qm (.inl ⟨rfl,rfl⟩) (by simp [go_sem]) ?_; intro args ha; simp [go_sem] at ha; subst ha; refine ⟨_, (zC (q - 8 : Int) (by unfold InR; omega)), ?_⟩; rintro _ rfl; simp [go_sem]; ((repeat' (first|(refine qf ?_;simp [go_sem])|intro _|apply And.intro|(apply Yh;clear Yh Y)));all_goals first|apply QS|omega|with_reducible assumption|skip))
        refine tl8 _ (s1 ++ 46 :: showB 10 (q - 8 : Int)) gx ?_ ?_ ?_
        ·rw [preT, if_neg (by omega), if_neg (by omega), if_pos (Or.inr rfl)]
        ·rw [List.length_append, List.length_cons]; omega
        rw [preA, hqe, if_pos (Or.inr rfl), List.append_nil]
        (refine ql ?_ ?_ <;> simp [go_sem])
        rw [ba_app s1 [46], ba_app]
        simp
       | false =>
        (refine qc fun Y Yh => ?_; simp [go_sem, h14]; ((repeat' (first|(refine qw ?_ ?_ ?_;(focus (simp [go_sem, undef, h14];done));(focus (simp [go_sem];done));simp [go_sem, h14])|(refine qp ?_ ?_;(focus (simp [go_sem, undef, h14];done));simp [go_sem, h14])|(refine qf ?_;simp [go_sem, undef, h14])|intro _|apply And.intro|(apply Yh;clear Yh Y)));all_goals first|apply QS|omega|with_reducible assumption|skip))
        (refine qg fun T F hT hF => ?_; simp [go_sem]; refine hF ?_; clear hT hF T F)
        (refine qc fun Y Yh => ?_; simp [go_sem]; ((repeat' (first|(refine qf ?_;simp [go_sem])|intro _|apply And.intro|(apply Yh;clear Yh Y)));all_goals first|apply QS|omega|with_reducible assumption|skip))
        (refine qx fun Y Yh => ?_; simp [go_sem]; ((repeat' (first|(refine qf ?_;simp [go_sem])|intro _|apply And.intro|(apply Yh;clear Yh Y)));all_goals first|apply QS|omega|with_reducible assumption|skip))
        rename_i gq
        refine tl8 _ (s1 ++ [46, 42]) gq ?_ ?_ ?_
        ·rw [preT, if_neg (by omega), if_neg (by omega), if_neg (by simp; omega)]
        ·rw [List.length_append]; simp; omega
        rw [preA, hqe, if_neg (by simp; omega), List.map_append]
        (refine ql ?_ ?_ <;> simp [go_sem])
        exact ba_app s1 [46, 42]
   clear hK7
   generalize hwe : mdU p.wd 16 = w at *
   refine qo ?_
   (refine qc fun Y Yh => ?_; simp [go_sem]; ((repeat' (first|(refine qf ?_;simp [go_sem])|intro _|apply And.intro|(apply Yh;clear Yh Y)));all_goals first|apply QS|omega|with_reducible assumption|skip))
   by_cases h6 : (w : Int) < 6
   ·(refine qg fun T F hT hF => ?_; simp [go_sem, h6]; refine hT ?_; clear hT hF T F)
    refine qi ?_
    refine tl7 _ s go ?_ (by omega) ?_
    ·rw [widT, if_pos (by omega)]; simp
    rw [widA, hwe, if_pos (by omega)]
    (refine ql ?_ ?_ <;> simp [go_sem])
   ·(refine qg fun T F hT hF => ?_; simp [go_sem, h6]; refine hF ?_; clear hT hF T F)
    have hsw : w < 14 ∨ named = true → (showB 10 (w - 3 : Int)).length ≤ 2 := fun _ => show_small (by omega) (by omega)
    by_cases h14 : (w : Int) < 14
    ·(refine qc fun Y Yh => ?_; simp [go_sem, h14]; ((repeat' (first|(refine qw ?_ ?_ ?_;(focus (simp [go_sem, undef, h14];done));(focus (simp [go_sem];done));simp [go_sem, h14])|(refine qp ?_ ?_;(focus (simp [go_sem, undef, h14];done));simp [go_sem, h14])|(refine qf ?_;simp [go_sem, undef, h14])|intro _|apply And.intro|(apply Yh;clear Yh Y)));all_goals first|apply QS|omega|with_reducible assumption|skip))
     (refine qg fun T F hT hF => ?_; simp [go_sem, h14]; refine hT ?_; clear hT hF T F)
     (refine qx fun Y Yh => ?_; simp [go_sem]; ((repeat' (first|(refine qf ?_;simp [go_sem])|intro _|apply And.intro|(apply Yh;clear Yh Y)));all_goals first|apply QS|omega|with_reducible assumption|skip))
     ((try refine QT ?_); refine qm (.inl ⟨rfl,rfl⟩) (by simp [go_sem]) ?_; intro args ha; simp [go_sem] at ha; subst ha; refine ⟨_, (zC (w - 3 : Int) (by unfold InR; omega)), ?_⟩; rintro _ rfl; simp [go_sem]; ((repeat' (first|(refine qf ?_;simp [go_sem])|intro _|apply And.intro|(apply Yh;clear Yh Y)));all_goals first|apply QS|omega|with_reducible assumption|skip))
     refine tl7 _ (s ++ showB 10 (w - 3 : Int)) go ?_ ?_ ?_
     ·rw [widT, if_neg (by omega), if_pos (Or.inl (by omega))]
     ·rw [List.length_append]; have := hsw (Or.inl (by omega)); omega
     rw [widA, hwe, if_pos (Or.inl (by omega))]
     (refine ql ?_ ?_ <;> simp [go_sem])
     exact ba_app _ _
    ·cases named with
     | true =>
      (refine qc fun Y Yh => ?_; simp [go_sem, h14]; ((repeat' (first|(refine qw ?_ ?_ ?_;(focus (simp [go_sem, undef, h14];done));(focus (simp [go_sem];done));simp [go_sem, h14])|(refine qp ?_ ?_;(focus (simp [go_sem, undef, h14];done));simp [go_sem, h14])|(refine qf ?_;simp [go_sem, undef, h14])|intro _|apply And.intro|(apply Yh;clear Yh Y)));all_goals first|apply QS|omega|with_reducible assumption|skip))
      (refine qg fun T F hT hF => ?_; simp [go_sem]; refine hT ?_; clear hT hF T F)
      (refine qx fun Y Yh => ?_; simp [go_sem]; ((repeat' (first|(refine qf ?_;simp [go_sem])|intro _|apply And.intro|(apply Yh;clear Yh Y)));all_goals first|apply QS|omega|with_reducible assumption|skip))
      ((try refine QT ?_); refine qm (.inl ⟨rfl,rfl⟩) (by simp [go_sem]) ?_; intro args ha; simp [go_sem] at ha; subst ha; refine ⟨_, (zC (w - 3 : Int) (by unfold InR; omega)), ?_⟩; rintro _ rfl; simp [go_sem]; ((repeat' (first|(refine qf ?_;simp [go_sem])|intro _|apply And.intro|(apply Yh;clear Yh Y)));all_goals first|apply QS|omega|with_reducible assumption|skip))
      ·have := hsw (Or.inr rfl); omega
      refine tl7 _ (s ++ showB 10 (w - 3 : Int)) go ?_ ?_ ?_
      ·rw [widT, if_neg (by omega), if_pos (Or.inr rfl)]
      ·rw [List.length_append]; have := hsw (Or.inr rfl); omega
      rw [widA, hwe, if_pos (Or.inr rfl)]
      (refine ql ?_ ?_ <;> simp [go_sem])
      exact ba_app _ _
     | false =>
      (refine qc fun Y Yh => ?_; simp [go_sem, h14]; ((repeat' (first|(refine qw ?_ ?_ ?_;(focus (simp [go_sem, undef, h14];done));(focus (simp [go_sem];done));simp [go_sem, h14])|(refine qp ?_ ?_;(focus (simp [go_sem, undef, h14];done));simp [go_sem, h14])|(refine qf ?_;simp [go_sem, undef, h14])|intro _|apply And.intro|(apply Yh;clear Yh Y)));all_goals first|apply QS|omega|with_reducible assumption|skip))
      (refine qg fun T F hT hF => ?_; simp [go_sem]; refine hF ?_; clear hT hF T F)
      (refine qc fun Y Yh => ?_; simp [go_sem]; ((repeat' (first|(refine qf ?_;simp [go_sem])|intro _|apply And.intro|(apply Yh;clear Yh Y)));all_goals first|apply QS|omega|with_reducible assumption|skip))
      (refine qx fun Y Yh => ?_; simp [go_sem]; ((repeat' (first|(refine qf ?_;simp [go_sem])|intro _|apply And.intro|(apply Yh;clear Yh Y)));all_goals first|apply QS|omega|with_reducible assumption|skip))
      rename_i gq
      refine tl7 _ (s ++ [42]) gq ?_ ?_ ?_
      ·rw [widT, if_neg (by omega), if_neg (by simp; omega)]
      ·rw [List.length_append]; simp; omega
      rw [widA, hwe, if_neg (by simp; omega)]
      (refine ql ?_ ?_ <;> simp [go_sem])
      exact ba_app s [42]
 clear hK1
 (refine qc fun Y Yh => ?_; simp [go_sem]; ((repeat' (first|(refine qf ?_;simp [go_sem])|intro _|apply And.intro|(apply Yh;clear Yh Y)));all_goals first|apply QS|omega|with_reducible assumption|skip))
 cases named with
 | true =>
  (refine qg fun T F hT hF => ?_; simp [go_sem]; refine hT ?_; clear hT hF T F)
  have h3 := w3 p.kd
  have h3' : mdU p.kd 3 = 0 ∨ mdU p.kd 3 = 1 ∨ mdU p.kd 3 = 2 := by have := mdU_lt p.kd (m := 3) (by decide); omega
  rcases h3' with hk | hk | hk <;> rw [hk] at h3
  ·(refine qx fun Y Yh => ?_; simp [go_sem, h3]; ((repeat' (first|(refine qf ?_;simp [go_sem, h3])|intro _|apply And.intro|(apply Yh;clear Yh Y)));all_goals first|apply QS|omega|with_reducible assumption|skip))
   refine tl1 _ [37, 60, 97, 62] ?_ ?_
   ·simp [headT, nameK, hk]
   (refine ql ?_ ?_ <;> simp [go_sem])
   rfl
  ·(refine qx fun Y Yh => ?_; simp [go_sem, h3]; ((repeat' (first|(refine qf ?_;simp [go_sem, h3])|intro _|apply And.intro|(apply Yh;clear Yh Y)));all_goals first|apply QS|omega|with_reducible assumption|skip))
   refine tl1 _ [37, 60, 98, 95, 99, 62] ?_ ?_
   ·simp [headT, nameK, hk]
   (refine ql ?_ ?_ <;> simp [go_sem])
   rfl
  ·(refine qx fun Y Yh => ?_; simp [go_sem, h3]; ((repeat' (first|(refine qf ?_;simp [go_sem, h3])|intro _|apply And.intro|(apply Yh;clear Yh Y)));all_goals first|apply QS|omega|with_reducible assumption|skip))
   refine tl1 _ [37, 60, 100, 62] ?_ ?_
   ·simp [headT, nameK, hk]
   (refine ql ?_ ?_ <;> simp [go_sem])
   rfl
 | false =>
  (refine qg fun T F hT hF => ?_; simp [go_sem]; refine hF ?_; clear hT hF T F)
  refine qi ?_
  refine tl1 _ [37] ?_ ?_
  ·simp [headT]
  (refine ql ?_ ?_ <;> simp [go_sem])
end Go.Proofs.YtelhdhofnohkcaaGreatDoor
