/- Part of a proof: see the last text. -/
import Derived.Test.YtelhdhofnohkcaaGreatDoorG11
import Derived.Test.YtelhdhofnohkcaaGreatDoorG08
set_option linter.unusedVariables false
set_option linter.unusedSimpArgs false
namespace Go.Proofs.YtelhdhofnohkcaaGreatDoor
open Go.Eng Go.Fm
set_option maxRecDepth 20000
attribute [local irreducible] AG CallA CallT AWp PCall ACall AgC
set_option maxHeartbeats 16000000 in
theorem as_spec (l : List Ag) (hl : l.length ≤ 1000000) : PCall Tryz.prog 24 [dAs l] fun r => r = dAs l := by 
 refine pcall_of Tryz.func24 rfl rfl Tryz.ntmps24 (rs := [.tmp 2]) (tys := [57]) rfl rfl (by simp) ?_
 (refine awp_sr fun Y Yh => ?_; simp [go_sem]; ((repeat' (first|(refine ag_x ?_;simp [go_sem])|intro _|apply And.intro|(apply Yh;clear Yh Y)));all_goals first|apply Hold.mk|omega|with_reducible assumption|skip))
 (refine awp_sr fun Y Yh => ?_; simp [go_sem]; ((repeat' (first|(refine ag_x ?_;simp [go_sem])|intro _|apply And.intro|(apply Yh;clear Yh Y)));all_goals first|apply Hold.mk|omega|with_reducible assumption|skip))
 refine awp_nilslot 3 3 83 4 rfl fun go => ?_
 simp only [go_sem]
 refine awp_seq_k fun K1 hK1 => ?_
 (refine awp_sr fun Y Yh => ?_; simp [go_sem]; ((repeat' (first|(refine ag_x ?_;simp [go_sem])|intro _|apply And.intro|(apply Yh;clear Yh Y)));all_goals first|apply Hold.mk|omega|with_reducible assumption|skip))
 refine awp_block ?_
 refine awp_loop (σ := Nat × Nat) (fun x => ⟨[(0, dAs l), (3, .own 3 x.2), (4, dI x.1)], [(3, (x.2, .row 83 4 ((l.take x.1).map cA)))]⟩) (fun x => x.1 ≤ l.length) (fun x => l.length - x.1) (0, go) ?_ ?_ ?_
 ·(refine cov_of ?_ ?_ <;> simp [go_sem])
 ·simp
 rintro ⟨i, go⟩ hi
 simp only at hi ⊢
 refine awp_seq_k fun K2 hK2 => ?_
 (refine awp_sr fun Y Yh => ?_; simp [go_sem]; ((repeat' (first|(refine ag_x ?_;simp [go_sem])|intro _|apply And.intro|(apply Yh;clear Yh Y)));all_goals first|apply Hold.mk|omega|with_reducible assumption|skip))
 by_cases h3 : i < l.length
 ·obtain ⟨a, ha⟩ : ∃ a, l[i]? = some a := ⟨_, List.getElem?_eq_getElem h3⟩
  have hta : l.take (i + 1) = l.take i ++ [a] := by rw [List.take_add_one, ha]; rfl
  have htl : (l.take i).length = i := by rw [List.length_take]; omega
  have hmap : (l.take (i + 1)).map cA = (l.take i).map cA ++ [cA a] := by rw [hta]; simp
  generalize hT : l.take i = T at *
  (refine awp_if fun T F hT hF => ?_; simp [go_sem, h3]; refine hT ?_; clear hT hF T F)
  refine awp_skip ?_
  refine hK2 _ ?_; clear hK2
  refine awp_seq_k fun K4 hK4 => ?_
  refine awp_block ?_
  ((refine awp_d (.qs [0, 1, 2, 3, 4, 6, 7, 8, 9, 11, 12, 13, 14, 16, 17, 18, 19, 5, 10, 15, 20, 21] (.one 22 (.one 23 (.qs [24] (.nil))))) (by kernel_rfl) ?_ ?_ ?_ ?_); (kernel_rfl); (exact (by decide +kernel)); (kernel_rfl); intro Y Yh; ((repeat' (first|(refine ag_x ?_;simp [go_sem, ha])|refine adr_nil ?_|((first|refine adr_qs fun Y Yh=>?_|refine adr_y fun Y Yh=>?_);simp [go_sem, ha])|intro _|apply And.intro|(apply Yh;clear Yh Y)));all_goals first|apply Hold.mk|omega|with_reducible assumption|skip))
  refine hK4 _ ?_; clear hK4
  (refine awp_r fun Y Yh => ?_; simp [go_sem]; ((repeat' (first|(refine ag_x ?_;simp [go_sem])|intro _|apply And.intro|(apply Yh;clear Yh Y)));all_goals first|apply Hold.mk|omega|with_reducible assumption|skip))
  rename_i gq
  refine ⟨(i + 1, gq), ?_, by simp only; omega, by simp only; omega⟩
  rw [hmap]
  (refine cov_of ?_ ?_ <;> simp [go_sem])
  rw [← hT, List.map_take]
 ·have : i = l.length := by omega
  subst this
  (refine awp_if fun T F hT hF => ?_; simp [go_sem, h3]; refine hF ?_; clear hT hF T F)
  refine awp_exit ?_
  simp only [go_sem]
  refine hK1 _ ?_; clear hK1
  (refine awp_sr fun Y Yh => ?_; simp [go_sem]; ((repeat' (first|(refine ag_x ?_;simp [go_sem])|intro _|apply And.intro|(apply Yh;clear Yh Y)));all_goals first|apply Hold.mk|omega|with_reducible assumption|skip))
  (refine awp_ret ?_; simp [go_sem])
  rw [List.take_of_length_le (by simp)]
def sumV (l : List Ag) : Nat := (l.map fun a => min a.tx.length 200000 + min a.nm.length 200000).sum
def largeV (form : Bs) (args : List Ag) : Bool := decide (4000 < form.length) || decide (500 < args.length) || decide (200000 < sumV args)
theorem sumV_step {l : List Ag} {i : Nat} {a : Ag} (h : l[i]? = some a) : sumV (l.take (i + 1)) = sumV (l.take i) + (min a.tx.length 200000 + min a.nm.length 200000) := by
 rw [List.take_add_one, h]
 simp [sumV]
theorem sumV_le (l : List Ag) : sumV l ≤ 400000 * l.length := by
 induction l with
 | nil => simp [sumV]
 | cons a l ih =>
  have e : sumV (a :: l) = (min a.tx.length 200000 + min a.nm.length 200000) + sumV l := by simp [sumV]
  rw [e, List.length_cons]; omega
theorem large_ok {form : Bs} {args : List Ag} (h : largeV form args = false) (hI : ∀ a ∈ args, InR a.int) (hT : ∀ a ∈ args, a.tx.length ≤ 1100000) : AgsOk args ∧ form.length ≤ 4000 := by
 unfold largeV at h
 simp only [Bool.or_eq_false_iff, decide_eq_false_iff_not] at h
 refine ⟨⟨by omega, fun a ha => ⟨hI a ha, ?_⟩⟩, by omega⟩
 exact hT a ha
set_option maxHeartbeats 16000000 in
theorem large_spec (form : Bs) (args : List Ag) : PCall Tryz.prog 22 [dS form, dAs args] fun r => r = dB (largeV form args) := by 
 refine pcall_of Tryz.func22 rfl rfl Tryz.ntmps22 (rs := [.tmp 4]) (tys := [4]) rfl rfl (by simp) ?_
 have h4000 : decide ((4000 : Int) < form.length) = decide (4000 < form.length) := by rw [decide_eq_decide]; omega
 have h500 : decide ((500 : Int) < args.length) = decide (500 < args.length) := by rw [decide_eq_decide]; omega
 unfold largeV
 (refine awp_sr fun Y Yh => ?_; simp [go_sem]; ((repeat' (first|(refine ag_x ?_;simp [go_sem])|intro _|apply And.intro|(apply Yh;clear Yh Y)));all_goals first|apply Hold.mk|omega|with_reducible assumption|skip))
 refine awp_len 1 rfl fun hLl => ?_
 simp [lensD] at hLl
 refine awp_seq_k fun K1 hK1 => ?_
 by_cases h1 : 4000 < form.length
 ·have h1' : (4000 : Int) < form.length := by omega
  (refine awp_sr fun Y Yh => ?_; simp [go_sem, ba_size, h1']; ((repeat' (first|(refine ag_false ?_ ?_ ?_;(focus (simp [go_sem, undef, ba_size, h1'];done));(focus (simp [go_sem];done));simp [go_sem, ba_size, h1'])|(refine ag_true ?_ ?_;(focus (simp [go_sem, undef, ba_size, h1'];done));simp [go_sem, ba_size, h1'])|(refine ag_x ?_;simp [go_sem, undef, ba_size, h1'])|intro _|apply And.intro|(apply Yh;clear Yh Y)));all_goals first|apply Hold.mk|omega|with_reducible assumption|skip))
  (refine awp_if fun T F hT hF => ?_; simp [go_sem, h1']; refine hT ?_; clear hT hF T F)
  (refine awp_sr fun Y Yh => ?_; simp [go_sem]; ((repeat' (first|(refine ag_x ?_;simp [go_sem])|intro _|apply And.intro|(apply Yh;clear Yh Y)));all_goals first|apply Hold.mk|omega|with_reducible assumption|skip))
  (refine awp_ret ?_; simp [go_sem, h1])
 ·have h1' : ¬ (4000 : Int) < form.length := by omega
  by_cases h2 : 500 < args.length
  ·have h2' : (500 : Int) < args.length := by omega
   (refine awp_sr fun Y Yh => ?_; simp [go_sem, ba_size, h1', h2']; ((repeat' (first|(refine ag_false ?_ ?_ ?_;(focus (simp [go_sem, undef, ba_size, h1', h2'];done));(focus (simp [go_sem];done));simp [go_sem, ba_size, h1', h2'])|(refine ag_true ?_ ?_;(focus (simp [go_sem, undef, ba_size, h1', h2'];done));simp [go_sem, ba_size, h1', h2'])|(refine ag_x ?_;simp [go_sem, undef, ba_size, h1', h2'])|intro _|apply And.intro|(apply Yh;clear Yh Y)));all_goals first|apply Hold.mk|omega|with_reducible assumption|skip))
   (refine awp_if fun T F hT hF => ?_; simp [go_sem, h2']; refine hT ?_; clear hT hF T F)
   (refine awp_sr fun Y Yh => ?_; simp [go_sem]; ((repeat' (first|(refine ag_x ?_;simp [go_sem])|intro _|apply And.intro|(apply Yh;clear Yh Y)));all_goals first|apply Hold.mk|omega|with_reducible assumption|skip))
   (refine awp_ret ?_; simp [go_sem, h2])
  ·have h2' : ¬ (500 : Int) < args.length := by omega
   (refine awp_sr fun Y Yh => ?_; simp [go_sem, ba_size, h1', h2']; ((repeat' (first|(refine ag_false ?_ ?_ ?_;(focus (simp [go_sem, undef, ba_size, h1', h2'];done));(focus (simp [go_sem];done));simp [go_sem, ba_size, h1', h2'])|(refine ag_true ?_ ?_;(focus (simp [go_sem, undef, ba_size, h1', h2'];done));simp [go_sem, ba_size, h1', h2'])|(refine ag_x ?_;simp [go_sem, undef, ba_size, h1', h2'])|intro _|apply And.intro|(apply Yh;clear Yh Y)));all_goals first|apply Hold.mk|omega|with_reducible assumption|skip))
   (refine awp_if fun T F hT hF => ?_; simp [go_sem, h2']; refine hF ?_; clear hT hF T F)
   refine awp_skip ?_
   refine hK1 _ ?_; clear hK1
   (refine awp_sr fun Y Yh => ?_; simp [go_sem]; ((repeat' (first|(refine ag_x ?_;simp [go_sem])|intro _|apply And.intro|(apply Yh;clear Yh Y)));all_goals first|apply Hold.mk|omega|with_reducible assumption|skip))
   refine awp_seq_k fun K3 hK3 => ?_
   (refine awp_sr fun Y Yh => ?_; simp [go_sem]; ((repeat' (first|(refine ag_x ?_;simp [go_sem])|intro _|apply And.intro|(apply Yh;clear Yh Y)));all_goals first|apply Hold.mk|omega|with_reducible assumption|skip))
   refine awp_block ?_
   refine awp_loop (σ := Nat) (fun i => ⟨[(1, dAs args), (5, dI (sumV (args.take i))), (6, dI i)], []⟩) (fun i => i ≤ args.length) (fun i => args.length - i) 0 ?_ ?_ ?_
   ·(refine cov_of ?_ ?_ <;> simp [go_sem])
    rfl
   ·simp
   intro i hi
   have hfi := sumV_le (args.take i)
   have htl : (args.take i).length ≤ args.length := by rw [List.length_take]; omega
   refine awp_seq_k fun K4 hK4 => ?_
   (refine awp_sr fun Y Yh => ?_; simp [go_sem]; ((repeat' (first|(refine ag_x ?_;simp [go_sem])|intro _|apply And.intro|(apply Yh;clear Yh Y)));all_goals first|apply Hold.mk|omega|with_reducible assumption|skip))
   by_cases hend : i < args.length
   ·obtain ⟨a, ha⟩ : ∃ a, args[i]? = some a := ⟨_, List.getElem?_eq_getElem hend⟩
    have hst := sumV_step ha
    generalize sumV (args.take i) = N at *
    (refine awp_if fun T F hT hF => ?_; simp [go_sem, hend]; refine hT ?_; clear hT hF T F)
    refine awp_skip ?_
    refine hK4 _ ?_; clear hK4
    refine awp_seq_k fun K6 hK6 => ?_
    refine awp_block ?_
    ((refine awp_d (.qs [0, 1, 2, 3, 4, 9, 10, 11, 12, 5, 6, 7, 8, 13, 14, 15, 16, 17] (.nil)) (by kernel_rfl) ?_ ?_ ?_ ?_); (kernel_rfl); (exact (by decide +kernel)); (kernel_rfl); intro Y Yh; ((repeat' (first|(refine ag_x ?_;simp [go_sem, ha, ba_size])|refine adr_nil ?_|((first|refine adr_qs fun Y Yh=>?_|refine adr_y fun Y Yh=>?_);simp [go_sem, ha, ba_size])|intro _|apply And.intro|(apply Yh;clear Yh Y)));all_goals first|apply Hold.mk|omega|with_reducible assumption|skip))
    refine hK6 _ ?_; clear hK6
    (refine awp_r fun Y Yh => ?_; simp [go_sem]; ((repeat' (first|(refine ag_x ?_;simp [go_sem])|intro _|apply And.intro|(apply Yh;clear Yh Y)));all_goals first|apply Hold.mk|omega|with_reducible assumption|skip))
    refine ⟨i + 1, ?_, by omega, by omega⟩
    rw [hst]
    (refine cov_of ?_ ?_ <;> simp [go_sem])
    omega
   ·have : i = args.length := by omega
    subst this
    rw [List.take_length] at *
    (refine awp_if fun T F hT hF => ?_; simp [go_sem, hend]; refine hF ?_; clear hT hF T F)
    refine awp_exit ?_
    simp only [go_sem]
    refine hK3 _ ?_; clear hK3
    generalize sumV args = N at *
    (refine awp_sr fun Y Yh => ?_; simp [go_sem]; ((repeat' (first|(refine ag_x ?_;simp [go_sem])|intro _|apply And.intro|(apply Yh;clear Yh Y)));all_goals first|apply Hold.mk|omega|with_reducible assumption|skip))
    (refine awp_ret ?_; simp [go_sem, h1, h2])
    omega
set_option maxHeartbeats 16000000 in
theorem formats_spec (form : Bs) (args : List Ag) (hA : AgsOk args) (hfl : form.length ≤ 9223372036854775807) : PCall Tryz.prog 11 [dS form, dAs args] fun r => r = dB true := by 
 refine pcall_of Tryz.func11 rfl rfl Tryz.ntmps11 (rs := [.tmp 4]) (tys := [4]) rfl rfl (by simp) ?_
 have c1 := format_spec form args hA hfl
 have c2 := rformat_spec form args hA hfl
 have c3 := fields_spec form hfl
 have e3 : fieldsN form = rfldN form := fields_same form
 rw [e3] at c3
 have c4 := rfields_spec form hfl
 have c5 := names_spec form hfl
 rw [names_same] at c5
 have c6 := rnames_spec form hfl
 have c7 := left_spec form args hA hfl
 have c8 := rleft_spec form args hA hfl
 have c9 := check_spec form hfl
 have c10 := rcheck_spec form hfl
 have cA := as_spec args hA.1
 have hnl : (rnamesV form).1.length ≤ 1000000 := by
  unfold rnamesV
  cases hr : rReadV form with
  | none => simp
  | some q =>
   obtain ⟨L, a, b⟩ := q
   simp only
   split
   ·simp
   ·have h1 := nms_len L
    have h2 := (rReadV_ok hr).2
    unfold nmsV at h1
    simp only; omega
 have cT := texts_spec (rnamesV form).1 (by omega)
 clear e3
 generalize runV form args = q1 at *
 generalize rfldN form = q2 at *
 generalize rnamesV form = q3 at *
 generalize leftV form args = q4 at *
 generalize (if (readV form).isSome then (0 : Int) else 4) = q5 at *
 obtain ⟨t, u, e⟩ := q1
 obtain ⟨n, g⟩ := q2
 obtain ⟨nl, ne⟩ := q3
 obtain ⟨x, o⟩ := q4
 simp only at c1 c2 c3 c4 c5 c6 c7 c8 cT
 (refine awp_sr fun Y Yh => ?_; simp [go_sem]; ((repeat' (first|(refine ag_x ?_;simp [go_sem])|intro _|apply And.intro|(apply Yh;clear Yh Y)));all_goals first|apply Hold.mk|omega|with_reducible assumption|skip))
 (refine awp_sr fun Y Yh => ?_; simp [go_sem]; ((repeat' (first|(refine ag_x ?_;simp [go_sem])|intro _|apply And.intro|(apply Yh;clear Yh Y)));all_goals first|apply Hold.mk|omega|with_reducible assumption|skip))
 ((try refine CallT.toA ?_); refine callT_m (.inl ⟨rfl,rfl⟩) (by simp [go_sem]) ?_; intro args ha; simp [go_sem] at ha; subst ha; refine ⟨_, c1, ?_⟩; rintro _ rfl; simp [go_sem]; ((repeat' (first|(refine ag_x ?_;simp [go_sem])|intro _|apply And.intro|(apply Yh;clear Yh Y)));all_goals first|apply Hold.mk|omega|with_reducible assumption|skip))
 (refine awp_sr fun Y Yh => ?_; simp [go_sem]; ((repeat' (first|(refine ag_x ?_;simp [go_sem])|intro _|apply And.intro|(apply Yh;clear Yh Y)));all_goals first|apply Hold.mk|omega|with_reducible assumption|skip))
 ((try refine CallT.toA ?_); refine callT_m (.inl ⟨rfl,rfl⟩) (by simp [go_sem]) ?_; intro args ha; simp [go_sem] at ha; subst ha; refine ⟨_, cA, ?_⟩; rintro _ rfl; simp [go_sem]; ((repeat' (first|(refine ag_x ?_;simp [go_sem])|intro _|apply And.intro|(apply Yh;clear Yh Y)));all_goals first|apply Hold.mk|omega|with_reducible assumption|skip))
 ((try refine CallT.toA ?_); refine callT_m (.inl ⟨rfl,rfl⟩) (by simp [go_sem]) ?_; intro args ha; simp [go_sem] at ha; subst ha; refine ⟨_, c2, ?_⟩; rintro _ rfl; simp [go_sem]; ((repeat' (first|(refine ag_x ?_;simp [go_sem])|intro _|apply And.intro|(apply Yh;clear Yh Y)));all_goals first|apply Hold.mk|omega|with_reducible assumption|skip))
 (refine awp_sr fun Y Yh => ?_; simp [go_sem]; ((repeat' (first|(refine ag_x ?_;simp [go_sem])|intro _|apply And.intro|(apply Yh;clear Yh Y)));all_goals first|apply Hold.mk|omega|with_reducible assumption|skip))
 ((try refine CallT.toA ?_); refine callT_m (.inl ⟨rfl,rfl⟩) (by simp [go_sem]) ?_; intro args ha; simp [go_sem] at ha; subst ha; refine ⟨_, c3, ?_⟩; rintro _ rfl; simp [go_sem]; ((repeat' (first|(refine ag_x ?_;simp [go_sem])|intro _|apply And.intro|(apply Yh;clear Yh Y)));all_goals first|apply Hold.mk|omega|with_reducible assumption|skip))
 (refine awp_sr fun Y Yh => ?_; simp [go_sem]; ((repeat' (first|(refine ag_x ?_;simp [go_sem])|intro _|apply And.intro|(apply Yh;clear Yh Y)));all_goals first|apply Hold.mk|omega|with_reducible assumption|skip))
 ((try refine CallT.toA ?_); refine callT_m (.inl ⟨rfl,rfl⟩) (by simp [go_sem]) ?_; intro args ha; simp [go_sem] at ha; subst ha; refine ⟨_, c4, ?_⟩; rintro _ rfl; simp [go_sem]; ((repeat' (first|(refine ag_x ?_;simp [go_sem])|intro _|apply And.intro|(apply Yh;clear Yh Y)));all_goals first|apply Hold.mk|omega|with_reducible assumption|skip))
 (refine awp_sr fun Y Yh => ?_; simp [go_sem]; ((repeat' (first|(refine ag_x ?_;simp [go_sem])|intro _|apply And.intro|(apply Yh;clear Yh Y)));all_goals first|apply Hold.mk|omega|with_reducible assumption|skip))
 ((try refine CallT.toA ?_); refine callT_m (.inl ⟨rfl,rfl⟩) (by simp [go_sem]) ?_; intro args ha; simp [go_sem] at ha; subst ha; refine ⟨_, c5, ?_⟩; rintro _ rfl; simp [go_sem]; ((repeat' (first|(refine ag_x ?_;simp [go_sem])|intro _|apply And.intro|(apply Yh;clear Yh Y)));all_goals first|apply Hold.mk|omega|with_reducible assumption|skip))
 (refine awp_sr fun Y Yh => ?_; simp [go_sem]; ((repeat' (first|(refine ag_x ?_;simp [go_sem])|intro _|apply And.intro|(apply Yh;clear Yh Y)));all_goals first|apply Hold.mk|omega|with_reducible assumption|skip))
 ((try refine CallT.toA ?_); refine callT_m (.inl ⟨rfl,rfl⟩) (by simp [go_sem]) ?_; intro args ha; simp [go_sem] at ha; subst ha; refine ⟨_, c6, ?_⟩; rintro _ rfl; simp [go_sem]; ((repeat' (first|(refine ag_x ?_;simp [go_sem])|intro _|apply And.intro|(apply Yh;clear Yh Y)));all_goals first|apply Hold.mk|omega|with_reducible assumption|skip))
 (refine awp_sr fun Y Yh => ?_; simp [go_sem]; ((repeat' (first|(refine ag_x ?_;simp [go_sem])|intro _|apply And.intro|(apply Yh;clear Yh Y)));all_goals first|apply Hold.mk|omega|with_reducible assumption|skip))
 ((try refine CallT.toA ?_); refine callT_m (.inl ⟨rfl,rfl⟩) (by simp [go_sem]) ?_; intro args ha; simp [go_sem] at ha; subst ha; refine ⟨_, c7, ?_⟩; rintro _ rfl; simp [go_sem]; ((repeat' (first|(refine ag_x ?_;simp [go_sem])|intro _|apply And.intro|(apply Yh;clear Yh Y)));all_goals first|apply Hold.mk|omega|with_reducible assumption|skip))
 (refine awp_sr fun Y Yh => ?_; simp [go_sem]; ((repeat' (first|(refine ag_x ?_;simp [go_sem])|intro _|apply And.intro|(apply Yh;clear Yh Y)));all_goals first|apply Hold.mk|omega|with_reducible assumption|skip))
 ((try refine CallT.toA ?_); refine callT_m (.inl ⟨rfl,rfl⟩) (by simp [go_sem]) ?_; intro args ha; simp [go_sem] at ha; subst ha; refine ⟨_, cA, ?_⟩; rintro _ rfl; simp [go_sem]; ((repeat' (first|(refine ag_x ?_;simp [go_sem])|intro _|apply And.intro|(apply Yh;clear Yh Y)));all_goals first|apply Hold.mk|omega|with_reducible assumption|skip))
 ((try refine CallT.toA ?_); refine callT_m (.inl ⟨rfl,rfl⟩) (by simp [go_sem]) ?_; intro args ha; simp [go_sem] at ha; subst ha; refine ⟨_, c8, ?_⟩; rintro _ rfl; simp [go_sem]; ((repeat' (first|(refine ag_x ?_;simp [go_sem])|intro _|apply And.intro|(apply Yh;clear Yh Y)));all_goals first|apply Hold.mk|omega|with_reducible assumption|skip))
 (refine awp_sr fun Y Yh => ?_; simp [go_sem]; ((repeat' (first|(refine ag_false ?_ ?_ ?_;(focus (simp [go_sem, undef];done));(focus (simp [go_sem];done));simp [go_sem])|(refine ag_true ?_ ?_;(focus (simp [go_sem, undef];done));simp [go_sem])|(refine ag_x ?_;simp [go_sem, undef])|intro _|apply And.intro|(apply Yh;clear Yh Y)));all_goals first|apply Hold.mk|omega|with_reducible assumption|skip))
 ((try refine CallT.toA ?_); refine callT_m (.inl ⟨rfl,rfl⟩) (by simp [go_sem]) ?_; intro args ha; simp [go_sem] at ha; subst ha; refine ⟨_, cT, ?_⟩; rintro _ rfl; simp [go_sem]; ((repeat' (first|(refine ag_false ?_ ?_ ?_;(focus (simp [go_sem, undef];done));(focus (simp [go_sem];done));simp [go_sem])|(refine ag_true ?_ ?_;(focus (simp [go_sem, undef];done));simp [go_sem])|(refine ag_x ?_;simp [go_sem, undef])|intro _|apply And.intro|(apply Yh;clear Yh Y)));all_goals first|apply Hold.mk|omega|with_reducible assumption|skip))
 ((try refine CallT.toA ?_); refine callT_m (.inl ⟨rfl,rfl⟩) (by simp [go_sem]) ?_; intro args ha; simp [go_sem] at ha; subst ha; refine ⟨_, c9, ?_⟩; rintro _ rfl; simp [go_sem]; ((repeat' (first|(refine ag_false ?_ ?_ ?_;(focus (simp [go_sem, undef];done));(focus (simp [go_sem];done));simp [go_sem])|(refine ag_true ?_ ?_;(focus (simp [go_sem, undef];done));simp [go_sem])|(refine ag_x ?_;simp [go_sem, undef])|intro _|apply And.intro|(apply Yh;clear Yh Y)));all_goals first|apply Hold.mk|omega|with_reducible assumption|skip))
 ((try refine CallT.toA ?_); refine callT_m (.inl ⟨rfl,rfl⟩) (by simp [go_sem]) ?_; intro args ha; simp [go_sem] at ha; subst ha; refine ⟨_, c10, ?_⟩; rintro _ rfl; simp [go_sem]; ((repeat' (first|(refine ag_false ?_ ?_ ?_;(focus (simp [go_sem, undef];done));(focus (simp [go_sem];done));simp [go_sem])|(refine ag_true ?_ ?_;(focus (simp [go_sem, undef];done));simp [go_sem])|(refine ag_x ?_;simp [go_sem, undef])|intro _|apply And.intro|(apply Yh;clear Yh Y)));all_goals first|apply Hold.mk|omega|with_reducible assumption|skip))
 (refine awp_ret ?_; simp [go_sem])
set_option maxHeartbeats 8000000 in
theorem formatFills_spec (form : Bs) (args : List Ag) (hI : ∀ a ∈ args, InR a.int) (hT : ∀ a ∈ args, a.tx.length ≤ 1100000) : PCall Tryz.prog 9 [dS form, dAs args] fun r => r = dB true := by 
 refine pcall_of Tryz.func9 rfl rfl Tryz.ntmps9 (rs := [.tmp 4]) (tys := [4]) rfl rfl (by simp) ?_
 have hL := large_spec form args
 cases hl : largeV form args with
 | true =>
  rw [hl] at hL
  (refine awp_sr fun Y Yh => ?_; simp [go_sem]; ((repeat' (first|(refine ag_x ?_;simp [go_sem])|intro _|apply And.intro|(apply Yh;clear Yh Y)));all_goals first|apply Hold.mk|omega|with_reducible assumption|skip))
  (refine awp_sr fun Y Yh => ?_; simp [go_sem]; ((repeat' (first|(refine ag_false ?_ ?_ ?_;(focus (simp [go_sem, undef];done));(focus (simp [go_sem];done));simp [go_sem])|(refine ag_true ?_ ?_;(focus (simp [go_sem, undef];done));simp [go_sem])|(refine ag_x ?_;simp [go_sem, undef])|intro _|apply And.intro|(apply Yh;clear Yh Y)));all_goals first|apply Hold.mk|omega|with_reducible assumption|skip))
  ((try refine CallT.toA ?_); refine callT_m (.inl ⟨rfl,rfl⟩) (by simp [go_sem]) ?_; intro args ha; simp [go_sem] at ha; subst ha; refine ⟨_, hL, ?_⟩; rintro _ rfl; simp [go_sem]; ((repeat' (first|(refine ag_false ?_ ?_ ?_;(focus (simp [go_sem, undef];done));(focus (simp [go_sem];done));simp [go_sem])|(refine ag_true ?_ ?_;(focus (simp [go_sem, undef];done));simp [go_sem])|(refine ag_x ?_;simp [go_sem, undef])|intro _|apply And.intro|(apply Yh;clear Yh Y)));all_goals first|apply Hold.mk|omega|with_reducible assumption|skip))
  ((try refine CallT.toA ?_); refine callT_m (.inl ⟨rfl,rfl⟩) (by simp [go_sem]) ?_; intro args ha; simp [go_sem] at ha; subst ha; refine ⟨_, sane_spec, ?_⟩; rintro _ rfl; simp [go_sem]; ((repeat' (first|(refine ag_false ?_ ?_ ?_;(focus (simp [go_sem, undef];done));(focus (simp [go_sem];done));simp [go_sem])|(refine ag_true ?_ ?_;(focus (simp [go_sem, undef];done));simp [go_sem])|(refine ag_x ?_;simp [go_sem, undef])|intro _|apply And.intro|(apply Yh;clear Yh Y)));all_goals first|apply Hold.mk|omega|with_reducible assumption|skip))
  (refine awp_ret ?_; simp [go_sem])
 | false =>
  rw [hl] at hL
  obtain ⟨hA, hf⟩ := large_ok hl hI hT
  have hF := formats_spec form args hA (by omega)
  (refine awp_sr fun Y Yh => ?_; simp [go_sem]; ((repeat' (first|(refine ag_x ?_;simp [go_sem])|intro _|apply And.intro|(apply Yh;clear Yh Y)));all_goals first|apply Hold.mk|omega|with_reducible assumption|skip))
  (refine awp_sr fun Y Yh => ?_; simp [go_sem]; ((repeat' (first|(refine ag_false ?_ ?_ ?_;(focus (simp [go_sem, undef];done));(focus (simp [go_sem];done));simp [go_sem])|(refine ag_true ?_ ?_;(focus (simp [go_sem, undef];done));simp [go_sem])|(refine ag_x ?_;simp [go_sem, undef])|intro _|apply And.intro|(apply Yh;clear Yh Y)));all_goals first|apply Hold.mk|omega|with_reducible assumption|skip))
  ((try refine CallT.toA ?_); refine callT_m (.inl ⟨rfl,rfl⟩) (by simp [go_sem]) ?_; intro args ha; simp [go_sem] at ha; subst ha; refine ⟨_, hL, ?_⟩; rintro _ rfl; simp [go_sem]; ((repeat' (first|(refine ag_false ?_ ?_ ?_;(focus (simp [go_sem, undef];done));(focus (simp [go_sem];done));simp [go_sem])|(refine ag_true ?_ ?_;(focus (simp [go_sem, undef];done));simp [go_sem])|(refine ag_x ?_;simp [go_sem, undef])|intro _|apply And.intro|(apply Yh;clear Yh Y)));all_goals first|apply Hold.mk|omega|with_reducible assumption|skip))
  ((try refine CallT.toA ?_); refine callT_m (.inl ⟨rfl,rfl⟩) (by simp [go_sem]) ?_; intro args ha; simp [go_sem] at ha; subst ha; refine ⟨_, hF, ?_⟩; rintro _ rfl; simp [go_sem]; ((repeat' (first|(refine ag_false ?_ ?_ ?_;(focus (simp [go_sem, undef];done));(focus (simp [go_sem];done));simp [go_sem])|(refine ag_true ?_ ?_;(focus (simp [go_sem, undef];done));simp [go_sem])|(refine ag_x ?_;simp [go_sem, undef])|intro _|apply And.intro|(apply Yh;clear Yh Y)));all_goals first|apply Hold.mk|omega|with_reducible assumption|skip))
  ((try refine CallT.toA ?_); refine callT_m (.inl ⟨rfl,rfl⟩) (by simp [go_sem]) ?_; intro args ha; simp [go_sem] at ha; subst ha; refine ⟨_, sane_spec, ?_⟩; rintro _ rfl; simp [go_sem]; ((repeat' (first|(refine ag_false ?_ ?_ ?_;(focus (simp [go_sem, undef];done));(focus (simp [go_sem];done));simp [go_sem])|(refine ag_true ?_ ?_;(focus (simp [go_sem, undef];done));simp [go_sem])|(refine ag_x ?_;simp [go_sem, undef])|intro _|apply And.intro|(apply Yh;clear Yh Y)));all_goals first|apply Hold.mk|omega|with_reducible assumption|skip))
  (refine awp_ret ?_; simp [go_sem])
end Go.Proofs.YtelhdhofnohkcaaGreatDoor
namespace Go.Proofs.YtelhdhofnohkcaaGreatDoor
open Go.Eng Go.WideShapes Go.Fm
set_option maxRecDepth 100000
/-! arguments whose bulk is bounded -/
structure OpensU {α : Type} (P : Program) (t : TypeId) (f : α → List D) (Q : α → Prop) : Prop where
 run : OpensUD P t f Q
structure OpensUS {α : Type} (P : Program) (fs : List Field) (o e : Nat) (f : α → List D) (Q : α → Prop) : Prop where
 run : OpensUSD P fs o e f Q
theorem opensUS_nil {P : Program} [HasGlob P] {e : Nat} : OpensUS P [] e e (fun _ : Unit => []) (fun _ => True) := ⟨opensUSD_nil⟩
theorem opensUS_cons {P : Program} [HasGlob P] {α β : Type} {g : Field} {fs : List Field} {o n e : Nat} {f : α → List D} {Q : α → Prop} {f' : β → List D} {Q' : β → Prop} (ho : g.offset = o) (hn : P.cellsOf g.type = n) (h : OpensU P g.type f Q)
  (h' : OpensUS P fs (o + n) e f' Q') : OpensUS P (g :: fs) o e (fun x : α × β => f x.1 ++ f' x.2) (fun x => Q x.1 ∧ Q' x.2) := ⟨opensUSD_cons ho hn (@OpensU.run _ _ _ _ _ h) (@OpensUS.run _ _ _ _ _ _ _ h')⟩
theorem opensU_struct {P : Program} [HasGlob P] {α : Type} {t : TypeId} {fs : Array Field} {fl : List Field} {e : Nat} {f : α → List D} {Q : α → Prop} (ht : P.underlying t = some (.struct fs)) (hfl : fs.toList = fl) (he : P.cellsOf t = e) (h : OpensUS P fl 0 e f Q) : OpensU P t f Q :=
 ⟨opensUD_struct ht hfl he (@OpensUS.run _ _ _ _ _ _ _ h)⟩
theorem OpensU.iso {P : Program} [HasGlob P] {α β : Type} {t : TypeId} {f : α → List D} {Q : α → Prop} {f' : β → List D} {Q' : β → Prop} (h : OpensU P t f Q) (g : α → β) (hf : ∀ a, f' (g a) = f a) (hq : ∀ a, Q a → Q' (g a)) : OpensU P t f' Q' :=
 ⟨OpensUD.iso (@OpensU.run _ _ _ _ _ h) g hf hq⟩
theorem opensU_slice {P : Program} [HasGlob P] {α : Type} {t e : TypeId} (k : Nat) {f : α → List D} {Q : α → Prop} (ht : P.underlying t = some (.slice e)) (hk : P.cellsOf e = k) (hpos : 0 < k) (hf : ∀ a, (f a).length = k) (h : OpensU P e f Q) :
  OpensU P t (fun l : List α => [.sl k (l.map f)]) (fun l => ∀ a ∈ l, Q a) := ⟨OpensUD.iso (opensUD_slice (k := k) ht hk hpos hf (@OpensU.run _ _ _ _ _ h)) (fun l => l) (fun _ => rfl) (fun _ h => by first | exact h | exact h.2 | exact h.2.2)⟩
theorem ou_int : OpensU Tryz.prog 3 (fun n : Int => [dI n]) InR := ⟨opensUD_int Tryz.underlying3⟩
theorem ou_bool : OpensU Tryz.prog 4 (fun n : Bool => [dB n]) (fun _ => True) := ⟨opensUD_bool Tryz.underlying4⟩
theorem ou_str : OpensU Tryz.prog 9 (fun s : List UInt8 => [dS s]) (fun s => s.length ≤ 1048576) :=
 ⟨OpensUD.iso (opensUD_str Tryz.underlying9) (fun s => s.data.toList) (fun s => by cases s; simp) (fun s h => by
  have h : s.data.size ≤ 1048576 := h
  rw [Array.length_toList]
  exact h)⟩
theorem ou_ag : OpensU Tryz.prog 25 cA (fun a => InR a.int ∧ a.tx.length ≤ 1048576) := by
 have h := opensU_struct (e := 4) Tryz.underlying25 rfl (by kernel_rfl) (opensUS_cons (n := 1) rfl (by kernel_rfl) ou_str (opensUS_cons (n := 1) rfl (by kernel_rfl) ou_bool (opensUS_cons (n := 1) rfl (by kernel_rfl) ou_int (opensUS_cons (n := 1) rfl (by kernel_rfl) ou_str opensUS_nil))))
 exact h.iso (fun x => ⟨x.1, x.2.1, x.2.2.1, x.2.2.2.1⟩) (fun _ => rfl) (fun _ q => ⟨q.2.2.1, q.2.2.2.1⟩)
theorem ou_ags : OpensU Tryz.prog 26 (fun l : List Ag => [dAs l]) (fun l => ∀ a ∈ l, InR a.int ∧ a.tx.length ≤ 1048576) :=
 (opensU_slice 4 Tryz.underlying26 (by kernel_rfl) (by decide) (fun _ => rfl) ou_ag).iso (fun l => l) (fun _ => rfl) (fun l h => h)
theorem ouv_str : OpensUVD Tryz.prog 9 (fun s : List UInt8 => dS s) (fun s => s.length ≤ 1048576) := opensUVD_cell (by rw [Tryz.underlying9]; rfl) (@OpensU.run _ _ _ _ _ ou_str)
theorem ouv_ags : OpensUVD Tryz.prog 26 (fun l : List Ag => dAs l) (fun l => ∀ a ∈ l, InR a.int ∧ a.tx.length ≤ 1048576) := opensUVD_cell (by rw [Tryz.underlying26]; rfl) (@OpensU.run _ _ _ _ _ ou_ags)
end Go.Proofs.YtelhdhofnohkcaaGreatDoor
